/- A verified evaluator of the program's form and its use for this seat: S1PSum. -/
import Derived.Test.YtjbokjpbiobjpaaGreatTG
import Derived.Test.YtjbokjpbiobjpaaGreatTE
set_option linter.unusedVariables false
set_option linter.unusedSimpArgs false
namespace Go.Proofs.S1
open Go Go.Den Go.Rnd Go.Proofs
open EqSum
theorem Aq2 (q : Nat) : q ||| 1 = 2 * (q / 2) + 1 := by
  have e : q % 2 ||| (q / 2 * 2 ^ 1) = q / 2 * 2 ^ 1 + q % 2 := Mf (Nat.mod_lt _ (by decide))
  have e1 : 1 ||| (q / 2 * 2 ^ 1) = q / 2 * 2 ^ 1 + 1 := Mf (k := 1) (by decide)
  have hq : q / 2 * 2 ^ 1 + q % 2 = q := by omega
  rw [hq] at e
  rcases Nat.mod_two_eq_zero_or_one q with h | h
  · rw [h, Nat.zero_or] at e
    rw [e, Nat.or_comm] at e1
    omega
  · rw [h] at e
    have : q ||| 1 = q := by
      conv => lhs; rw [← e]
      rw [Nat.or_comm 1, Nat.or_assoc, Nat.or_self, Nat.or_comm, e]
    omega
theorem Wx {n s : Nat} (hn : n < 2 ^ 64) (hs : s ≤ 63) :
    (bif ((B2 .u64 (C8 .u64 (n : Int) (s : Int)) (s : Int)) != (n : Int)) then
      some (DV.int .u64 (Hn .u64 (C8 .u64 (n : Int) (s : Int)) (1 : Int)))
    else some (.int .u64 (C8 .u64 (n : Int) (s : Int)))) = some (.int .u64 ((Fa n s : Nat) : Int)) := by
  have hq : n / 2 ^ s ≤ n := Nat.div_le_self _ _
  have hm : n / 2 ^ s * 2 ^ s ≤ n := Nat.div_mul_le_self _ _
  have hd := Nat.div_add_mod n (2 ^ s)
  rw [Nat.mul_comm] at hd
  rw [Hb .u64 n s (by show s ≤ 64; omega), E0 _ s (by omega), Atf (by omega)]
  have h1 : Hn .u64 ((n / 2 ^ s : Nat) : Int) (1 : Int) = ((n / 2 ^ s ||| 1 : Nat) : Int) := T7 (by omega) (by decide)
  rw [h1, Aq2]
  unfold Fa
  by_cases h : n % 2 ^ s = 0
  · have : ((((n / 2 ^ s * 2 ^ s : Nat) : Int)) != (n : Int)) = false := by
      simp only [bne_eq_false_iff_eq]; omega
    rw [this, if_pos h, As6]
  · have : ((((n / 2 ^ s * 2 ^ s : Nat) : Int)) != (n : Int)) = true := by
      simp only [bne_iff_ne, ne_eq]; omega
    rw [this, if_neg h, As2]
theorem sum.right.known : sum.right.Kn := sum.right.Ac .nil fun m d hp => by
  obtain ⟨h1, h2⟩ := Ad.1 hp
  obtain ⟨n, rfl, hn⟩ := Bj h1
  have h2 := Av.1 h2
  obtain ⟨d, rfl⟩ : ∃ k : Nat, d = k := ⟨d.toNat, by omega⟩
  refine ⟨0, sum.right.out [.i n, .i d], [], ?_, .int⟩
  rw [sum.right.ev, Ar]
  show _ = some (DV.int .u64 (Ew n d))
  unfold Ew
  rw [As4, As4]
  by_cases h : 63 < d
  · have : decide ((63 : Int) < (d : Int)) = true := by simp; omega
    rw [this, As2, Nat.min_eq_right (by omega)]
    exact Wx hn (Nat.le_refl 63)
  · have : decide ((63 : Int) < (d : Int)) = false := by simp; omega
    have h0 : decide ((0 : Int) ≤ (d : Int)) = true := by simp
    rw [this, As6, h0, As2, As2, Nat.min_eq_left (by omega)]
    exact Wx hn (by omega)
theorem Agp : ((Ph : Nat) : Int) = 9221120237041090560 := rfl
theorem sum.Ed.known : sum.Ed.Kn := sum.Ed.Ac (.cons soft.Finite.known (.cons soft.Kind.known .nil)) fun a b hp => by
  obtain ⟨h1, h2⟩ := Ad.1 hp
  obtain ⟨ha, hb⟩ := Ad.1 h1
  obtain ⟨a, rfl, hn⟩ := Bj ha
  obtain ⟨b, rfl, hm⟩ := Bj hb
  refine ⟨0, sum.Ed.out [.i a, .i b], [], ?_, Wk.Gm (.cons .int (.cons .int .nil))⟩
  rw [sum.Ed.ev, ha, hb]
  show _ = some (DV.tup [.int .u64 (Jf a b), .int .u8 (Vp a b)])
  unfold Jf Vp Kj Bd Cv
  simp only [As4, As2]
  unfold Cv at h2
  simp only [As4] at h2
  by_cases a4 : Aj a = 4
  · simp [a4, Agp]
  · have e4 : ((Aj a : Int) == 4) = false := by simp; omega
    rw [e4, As6]
    by_cases b4 : Aj b = 4
    · simp [b4, Agp]
    · have f4 : ((Aj b : Int) == 4) = false := by simp; omega
      rw [f4, As6]
      have ka := Xu a
      have kb := Xu b
      by_cases a3 : Aj a = 3
      · have fa : Jy a = false := by rw [ka]; simp [a3]
        rw [fa, As6]
        by_cases b3 : Aj b = 3
        · have fb : Jy b = false := by rw [kb]; simp [b3]
          rw [fb]
          by_cases hab : a = b
          · subst hab; simp [a3]
          · have hab' : ((a : Int) == (b : Int)) = false := by simp; omega
            rw [hab']
            simp [a3, b3, hab, Agp]
        · have fb : Jy b = true := by rw [kb]; simp [b3, b4]
          rw [fb]
          simp [a3, b3, b4]
      · have fa : Jy a = true := by rw [ka]; simp [a3, a4]
        have b3 : Aj b = 3 := by
          rw [fa, kb] at h2
          simp [b4] at h2
          exact h2
        rw [fa, As2]
        simp [a3, b3, a4]
def Ag0 (na nb : Bool) (X r : Nat) (e : Int) : Nat × Nat :=
  if na = nb then Fz na (X + r) e false else if r < X then Fz na (X - r) e false else if X < r then Fz nb (r - X) e false else (0, 0)
theorem Us {na : Bool} {m : Int} {n : Nat} {e e' : Int} (h : m = n) (he : e' = e) (hn : n < 2 ^ 64) (h1 : -1100 ≤ e) (h2 : e ≤ 1000) :
    (bif D1 m e' false then some (DV.tup [.int .u64 (En na m e' false), .int .u8 (Em na m e' false)]) else none)
      = some (.tup [.int .u64 (((Fz na n e false).1 : Nat) : Int), .int .u8 (((Fz na n e false).2 : Nat) : Int)]) := by
  subst h; subst he
  have hp : D1 (n : Int) e' false = true := Av.2 ⟨by omega, by omega, by omega, .inl (by omega), fun h => by cases h⟩
  rw [hp, As2]
  unfold En Em
  rw [As4]
theorem Aey (na nb : Bool) {X r : Nat} {e e' : Int} (hX : X < 2 ^ 62) (hr : r ≤ 2 ^ 62) (h : e' = e) (h1 : -1100 ≤ e) (h2 : e ≤ 1000) :
    (bif (na == nb) then
      bif D1 (Bh ((X : Int) + (r : Int))) e' false then some (DV.tup [.int .u64 (En na (Bh ((X : Int) + (r : Int))) e' false), .int .u8 (Em na (Bh ((X : Int) + (r : Int))) e' false)]) else none
    else bif A4 (r : Int) (X : Int) then
      bif D1 (Bh ((X : Int) - (r : Int))) e' false then some (DV.tup [.int .u64 (En na (Bh ((X : Int) - (r : Int))) e' false), .int .u8 (Em na (Bh ((X : Int) - (r : Int))) e' false)]) else none
    else bif A4 (X : Int) (r : Int) then
      bif D1 (Bh ((r : Int) - (X : Int))) e' false then some (DV.tup [.int .u64 (En nb (Bh ((r : Int) - (X : Int))) e' false), .int .u8 (Em nb (Bh ((r : Int) - (X : Int))) e' false)]) else none
    else some (.tup [.int .u64 (0 : Int), .int .u8 (0 : Int)])) =
      some (.tup [.int .u64 (((Ag0 na nb X r e).1 : Nat) : Int), .int .u8 (((Ag0 na nb X r e).2 : Nat) : Int)]) := by
  unfold Ag0
  rw [Ar, Ar]
  by_cases hs : na = nb
  · have : (na == nb) = true := by simp [hs]
    rw [this, As2, if_pos hs]
    exact Us (by rw [Dc (by omega) (by omega)]; omega) h (by omega) h1 h2
  · have : (na == nb) = false := by simp [hs]
    rw [this, As6, if_neg hs]
    by_cases hl : r < X
    · have : decide ((r : Int) < (X : Int)) = true := by simp; omega
      rw [this, As2, if_pos hl]
      exact Us (by rw [Dc (by omega) (by omega)]; omega) h (by omega) h1 h2
    · have : decide ((r : Int) < (X : Int)) = false := by simp; omega
      rw [this, As6, if_neg hl]
      by_cases hg : X < r
      · have : decide ((X : Int) < (r : Int)) = true := by simp; omega
        rw [this, As2, if_pos hg]
        exact Us (by rw [Dc (by omega) (by omega)]; omega) h (by omega) h1 h2
      · have : decide ((X : Int) < (r : Int)) = false := by simp; omega
        rw [this, As6, if_neg hg]
        rfl
theorem Ah2 {a b : Nat} (ha : Jy a = true) (hb : Jy b = true) (hle : A0 b ≤ A0 a) :
    ∃ X r : Nat, X < 2 ^ 62 ∧ r ≤ 2 ^ 62 ∧ B2 .u64 (Br a) (9 : Int) = (X : Int) ∧ Ew (B2 .u64 (Br b) (9 : Int)) (Ab (Bf a - Bf b)) = (r : Int)
      ∧ Ab (Bf a - 9) = A0 a - 9
      ∧ (Ag (B2 .u64 (Br b) (9 : Int)) && C3 (0 ≤ (Ab ((Bf a) - (Bf b))) ∧ (Ab ((Bf a) - (Bf b))) < 1000000)) = true
      ∧ Ag0 (Dh a) (Dh b) X r (A0 a - 9) = Kj a b := by
  obtain ⟨d, hd⟩ : ∃ d : Nat, A0 a = A0 b + d := ⟨(A0 a - A0 b).toNat, by omega⟩
  have hx := Ev a
  have hy := Ev b
  have ea := D8 a
  have eb := D8 b
  have C := Aex (Mx := Au a) (My := Au b) hd hx hy (fun h => Zp (by omega))
  have sh : ∀ m : Nat, m < 2 ^ 53 → B2 .u64 (m : Int) (9 : Int) = ((m * 2 ^ 9 : Nat) : Int) := fun m hm => by
    have := E0 m 9 (by decide)
    rw [Atf (by omega)] at this
    exact this
  have h2 : Ab (Bf a - Bf b) = (d : Int) := by
    unfold Bf
    rw [As4, As4, Am (by omega) (by omega)]; omega
  have s1 : B2 .u64 (Br a) (9 : Int) = ((Au a * 2 ^ 9 : Nat) : Int) := by
    unfold Br; rw [As4]; exact sh _ hx
  have s2 : B2 .u64 (Br b) (9 : Int) = ((Au b * 2 ^ 9 : Nat) : Int) := by
    unfold Br; rw [As4]; exact sh _ hy
  refine ⟨Au a * 2 ^ 9, Fa (Au b * 2 ^ 9) (min d 63), by omega, C.small, s1, ?_, ?_, ?_, ?_⟩
  · rw [s2, h2]; unfold Ew; rw [As4, As4]
  · unfold Bf; rw [As4, Am (by omega) (by omega)]
  · rw [s2, h2, B7 (by omega), Bool.true_and]
    exact Av.2 ⟨by omega, by omega⟩
  · unfold Dh
    rw [As4, As4, Aew ha hb hd]
    rfl
theorem sum.Add.known : sum.Add.Kn := sum.Add.Ac (.cons soft.Finite.known (.cons soft.C6.known (.cons soft.Fp.known (.cons soft.Sign.known (.cons sum.right.known (.cons sum.Ed.known .nil)))))) fun a b hp => by
  obtain ⟨ha, hb⟩ := Ad.1 hp
  obtain ⟨a, rfl, hn⟩ := Bj ha
  obtain ⟨b, rfl, hm⟩ := Bj hb
  refine ⟨0, sum.Add.out [.i a, .i b], [], ?_, Wk.Gm (.cons .int (.cons .int .nil))⟩
  rw [sum.Add.ev, ha, hb]
  show _ = some (DV.tup [.int .u64 (Jf a b), .int .u8 (Vp a b)])
  rw [Bool.or_true, As2, As2]
  by_cases hf : (!(Cv a) || !(Cv b)) = true
  · rw [hf]; rfl
  · have hf : (!(Cv a) || !(Cv b)) = false := by simpa using hf
    rw [hf, As6, As2, As2, As2, As2]
    have fa : Jy a = true := by
      have := (Bool.or_eq_false_iff.1 hf).1
      unfold Cv at this
      simpa using this
    have fb : Jy b = true := by
      have := (Bool.or_eq_false_iff.1 hf).2
      unfold Cv at this
      simpa using this
    have xa := D8 a
    have xb := D8 b
    rw [Ar]
    by_cases hl : A0 a < A0 b
    · obtain ⟨X, r, hX, hr, e1, e2, e3, e4, e5⟩ := Ah2 fb fa (by omega)
      have : decide (Bf a < Bf b) = true := by unfold Bf; simpa using hl
      rw [this, As2, e4, As2, e1, e2, Aey _ _ hX hr e3 (by omega) (by omega), e5, Aj8]
      rfl
    · obtain ⟨X, r, hX, hr, e1, e2, e3, e4, e5⟩ := Ah2 fa fb (by omega)
      have : decide (Bf a < Bf b) = false := by unfold Bf; simpa using hl
      rw [this, As6, e4, As2, e1, e2, Aey _ _ hX hr e3 (by omega) (by omega), e5]
      rfl
theorem sum.Sub.known : sum.Sub.Kn := sum.Sub.Ac (.cons soft.De.known (.cons sum.Add.known .nil)) fun a b hp => by
  obtain ⟨ha, hb⟩ := Ad.1 hp
  obtain ⟨b, rfl, hm⟩ := Bj hb
  refine ⟨0, sum.Sub.out [.i a, .i b], [], ?_, Wk.Gm (.cons .int (.cons .int .nil))⟩
  have : Ag (Cz (b : Int)) = true := by unfold Cz; rw [As4]; exact B7 (Uu hm)
  rw [sum.Sub.ev, ha, hb, this]
  unfold Jf Vp Cz
  rw [As4]
  rfl
end Go.Proofs.S1
