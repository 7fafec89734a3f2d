/- A verified evaluator of the program's form and its use for this seat: RootL, ScaleL, SolW, TriL, HouW, S1Specs, S1EqSoft, S1PSoft, S1EqRefD, S1PRefD. -/
import Derived.Test.YtjbokjpbiobjpaaGreatTE
set_option linter.unusedVariables false
set_option linter.unusedSimpArgs false
noncomputable section
namespace Go.Rnd
def Sc (n : Nat) : Nat := Ieee.Datum.rootFrom n (n.log2 / 2 + 1) 0
theorem Aob (k : Nat) : 1 <<< k = 2 ^ k := by rw [Nat.shiftLeft_eq, Nat.one_mul]
theorem Ui {n : Nat} : ∀ (todo root : Nat), root * root ≤ n → n < (root + 2 ^ todo) * (root + 2 ^ todo) →
    Ieee.Datum.rootFrom n todo root * Ieee.Datum.rootFrom n todo root ≤ n ∧ n < (Ieee.Datum.rootFrom n todo root + 1) * (Ieee.Datum.rootFrom n todo root + 1)
  | 0, root, h1, h2 => ⟨h1, h2⟩
  | todo + 1, root, h1, h2 => by
    unfold Ieee.Datum.rootFrom
    simp only [Aob]
    have hp : 2 ^ (todo + 1) = 2 ^ todo + 2 ^ todo := by rw [Nat.pow_succ]; omega
    rw [hp] at h2
    by_cases h : (root + 2 ^ todo) * (root + 2 ^ todo) ≤ n
    · rw [if_pos h]
      exact Ui todo _ h (by rw [Nat.add_assoc]; exact h2)
    · rw [if_neg h]
      exact Ui todo _ h1 (by omega)
theorem P3 (n : Nat) : Sc n * Sc n ≤ n ∧ n < (Sc n + 1) * (Sc n + 1) := by
  refine Ui _ _ (by simp) ?_
  rw [Nat.zero_add, ← Nat.pow_add]
  rcases Nat.eq_zero_or_pos n with rfl | hn
  · decide
  · refine (Nat.log2_lt (by omega)).1 ?_
    omega
theorem Acz {a b : Nat} (h : a * a < b * b) : a < b := by
  rcases Nat.lt_or_ge a b with h1 | h1
  · exact h1
  · have := Nat.mul_le_mul h1 h1; omega
theorem Xw {n w : Nat} (h1 : w * w ≤ n) (h2 : n < (w + 1) * (w + 1)) : w = Sc n := by
  obtain ⟨a, b⟩ := P3 n
  have c1 := Acz (Nat.lt_of_le_of_lt h1 b)
  have c2 := Acz (Nat.lt_of_le_of_lt a h2)
  omega
theorem Amg {n w : Nat} (h : w * w ≤ n) : w ≤ Sc n := by
  have := Acz (Nat.lt_of_le_of_lt h (P3 n).2)
  omega
def F0 (n : Nat) : Nat := 2 * Sc n + (if Sc n * Sc n = n then 0 else 1)
theorem Uf (a c : Nat) : a * c * (a * c) = a * a * (c * c) := by
  rw [Nat.mul_assoc, Nat.mul_left_comm c, ← Nat.mul_assoc a a]
theorem Zj {n : Nat} (d : Nat) (E : Int) (h : 2 ^ 53 ≤ Sc n) :
    Cg (F0 (n * (2 ^ d * 2 ^ d))) (E - d) = Cg (F0 n) E ∧ flagsOf (F0 (n * (2 ^ d * 2 ^ d))) (E - d) = flagsOf (F0 n) E := by
  have hA := Ch d
  obtain ⟨h1, h2⟩ := P3 n
  unfold F0
  generalize hw : Sc n = w at *
  generalize hc : 2 ^ d = c at *
  have hcc : 0 < c * c := Nat.mul_pos hA hA
  by_cases h0 : w * w = n
  · have e1 : Sc (n * (c * c)) = w * c := by
      refine (Xw ?_ ?_).symm
      · rw [Uf, h0]; exact Nat.le_refl _
      · have := Uf w c
        rw [h0] at this
        rw [Nat.add_mul, Nat.mul_add, this]; omega
    rw [e1, Uf, h0, if_pos rfl, if_pos rfl]
    have := Dy (2 * w + 0) d E
    rw [hc, show (2 * w + 0) * c = 2 * (w * c) + 0 by rw [Nat.add_zero, Nat.add_zero, Nat.mul_assoc]] at this
    exact this
  · rw [if_neg h0]
    obtain ⟨g1, g2⟩ := P3 (n * (c * c))
    have q1 : w * c ≤ Sc (n * (c * c)) := Amg (by rw [Uf]; exact Ate _ h1)
    have q2 : Sc (n * (c * c)) < (w + 1) * c := by
      refine Acz (Nat.lt_of_le_of_lt g1 ?_)
      rw [Uf]
      exact (Nat.mul_lt_mul_right hcc).2 h2
    have q3 : Sc (n * (c * c)) = w * c → Sc (n * (c * c)) * Sc (n * (c * c)) ≠ n * (c * c) := fun h5 h6 => by
      rw [h5, Uf] at h6
      exact h0 (Nat.eq_of_mul_eq_mul_right hcc h6)
    generalize hQ : Sc (n * (c * c)) = Q at *
    have p1 : (2 * w + 1 - 1) * c = 2 * (w * c) := by rw [Nat.add_sub_cancel, Nat.mul_assoc]
    have p2 : (2 * w + 1 + 1) * c = 2 * ((w + 1) * c) := by rw [show 2 * w + 1 + 1 = 2 * (w + 1) by omega, Nat.mul_assoc]
    have od : (2 * w + 1) % 2 = 1 := by omega
    generalize hV : 2 * Q + (if Q * Q = n * (c * c) then 0 else 1) = V
    have v1 : (2 * w + 1 - 1) * 2 ^ d < V := by
      rw [hc, p1, ← hV]
      by_cases h5 : Q = w * c
      · rw [if_neg (q3 h5)]; omega
      · split <;> omega
    have v2 : V < (2 * w + 1 + 1) * 2 ^ d := by
      rw [hc, p2, ← hV]
      split <;> omega
    have lV := Py od (by omega) v1 v2
    have hs : 54 ≤ (2 * w + 1).log2 := by rw [Nat.le_log2 (by omega)]; omega
    have ee : E - (d : Int) + d = E := by omega
    have := Pq (E := E - d) od v1 v2 (by unfold Cf; rw [lV]; omega) (by unfold Cf; omega)
    rw [ee] at this
    exact this
theorem Abo {n t : Nat} (h : 2 ^ (t + t) ≤ n) : 2 ^ t ≤ Sc n := Amg (by rw [← Nat.pow_add]; exact h)
theorem pow_two (k d : Nat) : 2 ^ (k + 2 * d) = 2 ^ k * (2 ^ d * 2 ^ d) := by rw [Nat.pow_add, Nat.two_mul, Nat.pow_add]
theorem Zk {m k l : Nat} {E F : Int} (h1 : 2 ^ 106 ≤ m * 2 ^ k) (h2 : 2 ^ 106 ≤ m * 2 ^ l) (he : 2 * E + k = 2 * F + l) :
    Cg (F0 (m * 2 ^ k)) E = Cg (F0 (m * 2 ^ l)) F ∧ flagsOf (F0 (m * 2 ^ k)) E = flagsOf (F0 (m * 2 ^ l)) F := by
  rcases Nat.le_total k l with h | h
  · obtain ⟨d, rfl⟩ : ∃ d, l = k + 2 * d := ⟨(l - k) / 2, by omega⟩
    have := Zj (n := m * 2 ^ k) d E (Abo (t := 53) h1)
    rw [Nat.mul_assoc, ← pow_two, show E - (d : Int) = F by omega] at this
    exact ⟨this.1.symm, this.2.symm⟩
  · obtain ⟨d, rfl⟩ : ∃ d, k = l + 2 * d := ⟨(k - l) / 2, by omega⟩
    have := Zj (n := m * 2 ^ l) d F (Abo (t := 53) h2)
    rw [Nat.mul_assoc, ← pow_two, show F - (d : Int) = E by omega] at this
    exact this
def Lf (b : Nat) : Nat := 128 + (A0 b % 2).toNat
def Ns (b : Nat) : Nat × Nat :=
  if Aj b = 4 then (Ph, 0)
  else if Aj b = 0 ∨ b = Dv then (b, 0)
  else if Bq b = true then (Ph, 16)
  else (Cg (F0 (Au b * 2 ^ Lf b)) ((A0 b - Lf b) / 2 - 1), flagsOf (F0 (Au b * 2 ^ Lf b)) ((A0 b - Lf b) / 2 - 1))
theorem Gv {b : Nat} (h3 : Aj b ≠ 3) (h4 : Aj b ≠ 4) : Au b = 0 ↔ Aj b = 0 := by
  have := Jw b
  have := Ix b
  unfold Au
  unfold Aj at *
  split at h3 <;> split <;> (try split) <;> (try split) <;> simp_all <;> omega
theorem Wp {b : Nat} (h : Aj b = 4) : Ns b = (Ph, 0) := if_pos h
theorem Nr {b : Nat} (h4 : Aj b ≠ 4) (h : Aj b = 0 ∨ b = Dv) : Ns b = (b, 0) := by unfold Ns; rw [if_neg h4, if_pos h]
theorem Sw {b : Nat} (h4 : Aj b ≠ 4) (h : ¬ (Aj b = 0 ∨ b = Dv)) (hn : Bq b = true) : Ns b = (Ph, 16) := by unfold Ns; rw [if_neg h4, if_neg h, if_pos hn]
theorem Acy {b : Nat} (h4 : Aj b ≠ 4) (h : ¬ (Aj b = 0 ∨ b = Dv)) (hn : Bq b = false) :
    Ns b = (Cg (F0 (Au b * 2 ^ Lf b)) ((A0 b - Lf b) / 2 - 1), flagsOf (F0 (Au b * 2 ^ Lf b)) ((A0 b - Lf b) / 2 - 1)) := by
  unfold Ns; rw [if_neg h4, if_neg h, if_neg (by rw [hn]; decide)]
theorem Ao8 : Bq Dv = false := by decide
theorem Amj : Aj Dv = 3 := by decide
theorem Ki : Dm Dv = Dv := by decide
theorem Aj0 {d : Nat} (h : Aj d = 4) : Dm d = Ph := if_pos h
theorem Acx (b d : Nat) (x : Ieee.Datum) (h : Ieee.double.read b = x) : (Ieee.double.sqrt b).getD d = ((x.root 54).map Ieee.double.write).getD d := by
  rw [← h]; rfl
theorem Sx (r : Nat) : Bi false r = r := rfl
def N3 (m : Nat) (i : Int) : Nat := 2 * 54 - m.log2 + ((i - ((2 * 54 - m.log2 : Nat) : Int)) % 2).toNat
theorem Ak7 {m : Nat} {i : Int} (h : m ≠ 0) : (Ieee.Datum.number false m i).root 54 = some (.number false (2 * Ieee.Datum.rootFrom (m <<< N3 m i) ((m <<< N3 m i).log2 / 2 + 1) 0 + (Ieee.Datum.rootFrom (m <<< N3 m i) ((m <<< N3 m i).log2 / 2 + 1) 0 * Ieee.Datum.rootFrom (m <<< N3 m i) ((m <<< N3 m i).log2 / 2 + 1) 0 != m <<< N3 m i).toNat) ((i - N3 m i) / 2 - 1)) := by
  unfold Ieee.Datum.root N3
  dsimp only
  rw [if_neg h, if_neg (by decide)]
theorem Aq0 {m : Nat} {i : Int} {d : Nat} (h : m ≠ 0) (hlog : m.log2 ≤ 52) (r : Int) (k : Nat) (hk : 2 ^ 106 ≤ m * 2 ^ k) (hr : 2 * r + k = i - 2) :
    Dm ((((Ieee.Datum.number false m i).root 54).map Ieee.double.write).getD d) = Cg (F0 (m * 2 ^ k)) r := by
  have hpow : 2 ^ m.log2 ≤ m := Nat.log2_self_le h
  have hmo : 108 ≤ m.log2 + N3 m i ∧ (i - N3 m i) % 2 = 0 := by unfold N3; omega
  rw [Ak7 h, Option.map_some, Option.getD_some, Lw, F8 _ (Kl _ _), Sx]
  generalize N3 m i = more at *
  have g1 : 2 ^ 106 ≤ m * 2 ^ more := by
    have : 2 ^ 108 ≤ 2 ^ (m.log2 + more) := Ath (by decide) hmo.1
    rw [Nat.pow_add] at this
    have h5 := Ate (2 ^ more) hpow
    omega
  have pe2 : 2 * ((i - (more : Int)) / 2 - 1) + more = i - 2 := by omega
  rw [← (Zk g1 hk (E := (i - (more : Int)) / 2 - 1) (F := r) (by omega)).1, Nat.shiftLeft_eq]
  have e : ∀ w : Nat, 2 * w + (w * w != m * 2 ^ more).toNat = 2 * w + (if w * w = m * 2 ^ more then 0 else 1) := fun w => by
    by_cases hww : w * w = m * 2 ^ more
    · rw [if_pos hww, hww]; simp
    · rw [if_neg hww]
      have : (w * w != m * 2 ^ more) = true := by simpa using hww
      rw [this]; rfl
  rw [e]
  unfold F0 Sc
  rfl
theorem Ac7 {b : Nat} (hm : Au b ≠ 0) : 2 ^ 106 ≤ Au b * 2 ^ Lf b ∧ 2 * ((A0 b - (Lf b : Int)) / 2 - 1) + Lf b = A0 b - 2 := by
  refine ⟨?_, by unfold Lf; omega⟩
  have : 2 ^ 128 ≤ 2 ^ Lf b := Ath (by decide) (by unfold Lf; omega)
  have h5 := Nat.mul_le_mul (show 1 ≤ Au b by omega) this
  omega
theorem Adr {b : Nat} (hm : Au b ≠ 0) : (Au b).log2 ≤ 52 := by
  have := (Nat.log2_lt hm).2 (show Au b < 2 ^ 53 from Ev b)
  omega
theorem Ak8 (s : Bool) (f : Nat) : (Ieee.Datum.nan s f).root 54 = none := rfl
theorem Aik : (Ieee.Datum.infinity true).root 54 = none := rfl
theorem Ail : (Ieee.Datum.infinity false).root 54 = some (.infinity false) := rfl
theorem Aij (s : Bool) (i : Int) : (Ieee.Datum.number s 0 i).root 54 = some (.number s 0 i) := rfl
theorem Afj {m : Nat} (i : Int) (h : m ≠ 0) : (Ieee.Datum.number true m i).root 54 = none := by
  unfold Ieee.Datum.root
  dsimp only
  rw [if_neg h, if_pos rfl]
theorem Si {d : Nat} (hd : Aj d = 4) : Dm ((Option.map Ieee.double.write none).getD d) = Ph := Aj0 hd
theorem Aim {b : Nat} (hb : b < 2 ^ 64) {d : Nat} (hd : Aj d = 4) : Dm ((Ieee.double.sqrt b).getD d) = (Ns b).1 := by
  rw [Acx b d _ (Ib hb)]
  by_cases h4 : Aj b = 4
  · rw [Wp h4, Gg h4, Ak8, Si hd]
  by_cases h3 : Aj b = 3
  · rw [D4 h3]
    have hw := Mv hb h3
    cases hn : Bq b with
    | true =>
      have hne : ¬ (Aj b = 0 ∨ b = Dv) := by
        intro h
        rcases h with h | h
        · omega
        · rw [h, Ao8] at hn; cases hn
      rw [Sw h4 hne hn, Aik, Si hd]
    | false =>
      rw [hn, Sx] at hw
      rw [Nr h4 (.inr hw.symm), Ail, Option.map_some, Option.getD_some, Ah4, Sx, Ki]
      exact hw
  rw [D3 h3 h4]
  have hz := Gv h3 h4
  by_cases h0 : Aj b = 0
  · have hm := hz.2 h0
    have := Aeb hb h4
    rw [hm] at this
    rw [Nr h4 (.inl h0), hm, Aij, Option.map_some, Option.getD_some, Lw, F8 _ (Kl _ _), this]
  have hi : ¬ (Aj b = 0 ∨ b = Dv) := by
    intro h
    rcases h with h | h
    · exact h0 h
    · rw [h, Amj] at h3; exact h3 rfl
  have hm : Au b ≠ 0 := fun h => h0 (hz.1 h)
  cases hn : Bq b with
  | true => rw [Sw h4 hi hn, Afj _ hm, Si hd]
  | false =>
    obtain ⟨k1, k2⟩ := Ac7 hm
    rw [Acy h4 hi hn, Aq0 hm (Adr hm) _ _ k1 k2]
end Go.Rnd
namespace Go.Rnd
def F1 (b : Nat) (n : Int) : Nat × Nat :=
  if Aj b = 4 then (Ph, 0)
  else if Aj b = 3 ∨ Aj b = 0 then (b, 0)
  else (Bi (Bq b) (Cg (Au b) (A0 b + n)), flagsOf (Au b) (A0 b + n))
theorem Ah9 {V : Nat} {E : Int} (h0 : V ≠ 0) (h : E + V.log2 + 1 ≤ -1075) : Cg V E = 0 ∧ flagsOf V E = 3 := by
  have hl : Cf V E = -1074 := by unfold Cf; omega
  obtain ⟨k, hk⟩ : ∃ k : Nat, (-1074 : Int) - E = ((k : Nat) : Int) := ⟨(-1074 - E).toNat, by omega⟩
  have hV : V < 2 ^ (V.log2 + 1) := (Nat.log2_lt h0).1 (by omega)
  have hp : 2 ^ (V.log2 + 1) * 2 ≤ 2 ^ k := by rw [← Nat.pow_succ]; exact Ath (by decide) (by omega)
  have e1 : V * 2 ^ (-((-1074 : Int) - E)).toNat = V := by rw [hk]; simp
  have e2 : ((-1074 : Int) - E).toNat = k := by rw [hk]; rfl
  have hk2 : kept V E = 0 := by
    unfold kept Jr
    rw [hl, e1, e2]
    unfold Md
    rw [Nat.div_eq_of_lt (by omega), Atf (by omega), if_neg (by omega)]
  have hx : exact V E = false := by
    unfold exact L9
    rw [hl, e1, e2, Atf (by omega)]
    exact As7 h0
  have hr : Cg V E = 0 := by
    unfold Cg
    rw [if_neg h0, hl, hk2]
    rfl
  refine ⟨hr, ?_⟩
  unfold flagsOf
  rw [if_neg h0, hr, hx]
  rfl
theorem Ai2 (n : Bool) {m : Nat} {e : Int} {more : Bool} (hm : m < 2 ^ 53) (h0 : m ≠ 0 ∨ more = true) (he : e ≤ -1130) :
    Fz n m e more = (Bi n 0, 3) := by
  have h1 : more.toNat ≤ 1 := by cases more <;> decide
  have hV : 4 * m + more.toNat ≠ 0 := by
    rcases h0 with h | h
    · omega
    · rw [h]; simp
  have hl : (4 * m + more.toNat).log2 ≤ 54 := by
    have := (Nat.log2_lt hV).2 (show 4 * m + more.toNat < 2 ^ 55 by omega); omega
  have := Ah9 hV (E := e - 2) (by omega)
  unfold Fz
  rw [this.1, this.2]
theorem Als (n : Bool) : Fz n 0 (-1074) true = (Bi n 0, 3) := by
  cases n <;> decide +kernel
theorem Afe {b : Nat} {n : Int} (h4 : Aj b ≠ 4) (h : ¬ (Aj b = 3 ∨ Aj b = 0)) (hn : A0 b + n ≤ -1130) : F1 b n = (Bi (Bq b) 0, 3) := by
  have hm : Au b ≠ 0 := fun h5 => h (.inr ((Gv (by omega) h4).1 h5))
  have := Ah9 hm (E := A0 b + n) (by have := Adr hm; omega)
  unfold F1
  rw [if_neg h4, if_neg h, this.1, this.2]
theorem Aid {b : Nat} {n : Int} (h4 : Aj b ≠ 4) (h : ¬ (Aj b = 3 ∨ Aj b = 0)) : F1 b n = (Bi (Bq b) (Cg (Au b) (A0 b + n)), flagsOf (Au b) (A0 b + n)) := by
  unfold F1; rw [if_neg h4, if_neg h]
def Ajs (b : Nat) : Int := if Jy b = true ∧ Aj b ≠ 0 then ((Au b).log2 : Int) + A0 b else 0
def Gl (b : Nat) : Nat := b % 2 ^ 63
def Adi (a b : Nat) : Int := if Aj a = 4 ∨ Aj b = 4 then 0 else if He a < He b then -1 else if He b < He a then 1 else 0
def Yz (a b : Nat) : Bool := !(decide (Aj a = 4 ∨ Aj b = 4))
def Afx (a b : Nat) : Nat := if Yz a b = true then (if Adi a b < 0 then b else a) else Ph
end Go.Rnd
namespace Go.Rnd
open Go.Den
def Zm (b : Int) : Int := He b.toNat
def R4 (a b : Int) : Int := Adi a.toNat b.toNat
def Zr (a b : Int) : Bool := Yz a.toNat b.toNat
def Ir (x : Int) : Int := Gl x.toNat
def N4 (a b : Int) : Int := Afx a.toNat b.toNat
def Bu (x n : Int) : Int := (F1 x.toNat n).1
def Aod (x n : Int) : Int := (F1 x.toNat n).2
def C4 (x n : Int) : Bool := Ag x && C3 (-2300 ≤ n ∧ n ≤ 2300)
def Bo (x : Int) : Int := Ajs x.toNat
def Ym : List Int → Nat → Nat
  | [], m => m
  | x :: l, m => if Aj x.toNat = 4 then Ph else Ym l (max m (Gl x.toNat))
def Be (l : List Int) : Int := Ym l 0
def Dl (l : List Int) : Bool := l.all Cv
def C5 (r c : Int) (l : List Int) : Int := if A9 r c l = true then (if Dl l = true then 0 else 4) else 1
def Aoq (c : Int) (l : List Int) (n : Nat) : Bool := (List.range n).any fun i : Nat => decide (Bd (D0 c l (i : Int) (i : Int)) = 0)
def Qf (r c : Int) (l : List Int) (p q : Int) (m : List Int) : Int :=
  if C5 r c l ≠ 0 then C5 r c l else if C5 p q m ≠ 0 then C5 p q m
  else if r ≠ c ∨ r ≠ p then 3 else if Aoq c l r.toNat = true then 5 else 0
def Rr (c : Int) (l : List Int) (i : Int) : Int → Int → List Int → Int
  | s, _, [] => s
  | s, j, x :: xs => Rr c l i (Ei s (Ea (D0 c l i j) x)) (j + 1) xs
def Y8 (c : Int) (l : List Int) (b : Nat → Int) (n : Nat) : Nat → List Int
  | 0 => []
  | k + 1 => Ex (Rr c l ((n - 1 - k : Nat) : Int) (b (n - 1 - k)) ((n - k : Nat) : Int) (Y8 c l b n k)) (D0 c l ((n - 1 - k : Nat) : Int) ((n - 1 - k : Nat) : Int)) :: Y8 c l b n k
def upG (c : Int) (l : List Int) (q : Int) (m : List Int) (n w : Nat) : List Int := Cd n w fun i j => (Y8 c l (fun i => D0 q m (i : Int) (j : Int)) n n).getD i 0
def Lt (r c : Int) (l : List Int) : MX := if Dl l = true then (r, c, l, 0) else Nh 2
def Wh (r c : Int) (l : List Int) (p q : Int) (m : List Int) : MX :=
  if Qf r c l p q m ≠ 0 then Nh (Qf r c l p q m) else Lt r q (upG c l q m r.toNat q.toNat)
def J8 (c : Int) (l : List Int) (n : Nat) : List Int := (List.range n).map fun i : Nat => Ir (D0 c l (i : Int) (i : Int))
def Amq (d : List Int) : Bool := d.any fun x => !(decide (R4 (Bu (Be d) (-40)) x < 0))
def P8 (r c : Int) (l : List Int) : Bool := Amq (J8 c l (min r.toNat c.toNat))
def P7 (r c : Int) (l : List Int) : Bool × Int := if C5 r c l ≠ 0 then (false, C5 r c l) else (P8 r c l, 0)
def Aat (r c : Int) (l : List Int) (p q : Int) (m : List Int) : Bool := (A9 r c l && A9 p q m) && ((Al l && Al m) && C3 (r = c ∧ r = p))
def Ih (n : Nat) : List Int := Cd n n fun i k => Mt (i : Int) (k : Int)
def Dj (r c : Int) (l : List Int) (p q : Int) (m : List Int) : MX :=
  if (Ft r c l).2.2.2 ≠ 0 then Nh (Ft r c l).2.2.2 else Tm (Ft r c l).1 (Ft r c l).2.1 (Ft r c l).2.2.1 p q m
end Go.Rnd
namespace Go.Rnd
open Go.Den
theorem Api {a b : Nat} : (Aby a b).1 < 2 ^ 64 := by
  have h1 : Dv < 2 ^ 63 := by decide
  have hs : ∀ (s : Bool) {r : Nat}, r < 2 ^ 63 → Bi s r < 2 ^ 64 := by
    intro s r h
    unfold Bi
    cases s
    · rw [if_neg (by decide)]; omega
    · rw [if_pos rfl]; omega
  have hN : Ph < 2 ^ 64 := by decide
  unfold Aby
  by_cases c1 : Aj a = 4 ∨ Aj b = 4
  · rw [if_pos c1]; exact hN
  rw [if_neg c1]
  by_cases c2 : Aj a = Aj b ∧ (Aj a = 3 ∨ Aj a = 0)
  · rw [if_pos c2]; exact hN
  rw [if_neg c2]
  by_cases c3 : Aj a = 3
  · rw [if_pos c3]; exact hs _ h1
  rw [if_neg c3]
  by_cases c4 : Aj b = 3 ∨ Aj a = 0
  · rw [if_pos c4]; exact hs _ (by decide)
  rw [if_neg c4]
  by_cases c5 : Aj b = 0
  · rw [if_pos c5]; exact hs _ h1
  rw [if_neg c5]
  exact hs _ (V0 _ _)
theorem Agb (a b : Int) : Ag (Ex a b) = true := B7 Api
theorem Ok {a b : Int} (ha : Ag a = true) (hb : Ag b = true) : Ag (Ei a b) = true := by
  obtain ⟨x, rfl, hx⟩ := Bj ha
  obtain ⟨y, rfl, hy⟩ := Bj hb
  exact B7 (Ua (by rw [As4]; exact hx) (Uu (by rw [As4]; exact hy))).1
theorem Jv {r c : Nat} {f : Nat → Nat → Int} (h : ∀ i k, Ag (f i k) = true) : Al (Cd r c f) = true := Av.2 fun x hx => by
  obtain ⟨j, _, rfl⟩ := List.mem_map.1 hx
  exact h _ _
theorem Ju (a b : Int) : Ag (Ea a b) = true := B7 Q1
theorem Ma (c : Int) (l : List Int) (b : Nat → Int) (n : Nat) : ∀ k, (Y8 c l b n k).length = k
  | 0 => rfl
  | k + 1 => by rw [Y8, List.length_cons, Ma c l b n k]
theorem Akm (c : Int) (l : List Int) (b : Nat → Int) (n : Nat) : ∀ k, ∀ x ∈ Y8 c l b n k, Ag x = true
  | 0, x, h => by cases h
  | k + 1, x, h => by
    rw [Y8] at h
    rcases List.mem_cons.1 h with rfl | h
    · exact Agb _ _
    · exact Akm c l b n k x h
theorem Acm (c : Int) (l : List Int) (b : Nat → Int) (n k : Nat) : ∀ d, (Y8 c l b n (k + d)).drop d = Y8 c l b n k
  | 0 => rfl
  | d + 1 => by
    rw [← Nat.add_assoc, Y8, List.drop_succ_cons]
    exact Acm c l b n k d
theorem Acl {c : Int} {l : List Int} {b : Nat → Int} {n k : Nat} (h : k ≤ n) : (Y8 c l b n n).drop (n - k) = Y8 c l b n k := by
  have := Acm c l b n k (n - k)
  rw [Nat.add_sub_cancel' h] at this
  exact this
theorem Agw {c : Int} {l : List Int} {b : Nat → Int} {n i : Nat} (h : i < n) :
    (Y8 c l b n n).getD i 0 = Ex (Rr c l (i : Int) (b i) ((i + 1 : Nat) : Int) ((Y8 c l b n n).drop (i + 1))) (D0 c l (i : Int) (i : Int)) := by
  have e1 := Acl (c := c) (l := l) (b := b) (n := n) (k := n - i) (by omega)
  have e2 := Acl (c := c) (l := l) (b := b) (n := n) (k := n - i - 1) (by omega)
  rw [show n - (n - i) = i by omega] at e1
  rw [show n - (n - i - 1) = i + 1 by omega] at e2
  rw [e2]
  have e3 : (Y8 c l b n n).getD i 0 = ((Y8 c l b n n).drop i).getD 0 0 := by
    rw [Atc, Atc, List.getElem?_drop, Nat.add_zero]
  rw [e3, e1, show n - i = (n - i - 1) + 1 by omega, Y8]
  have e4 : n - 1 - (n - i - 1) = i := by omega
  have e5 : n - (n - i - 1) = i + 1 := by omega
  rw [e4, e5]
  rfl
theorem Ahn {l : List Int} (h : ∀ x ∈ l, Ag x = true) (i : Nat) : Ag (l.getD i 0) = true := by
  rw [Atc]
  cases hi : l[i]? with
  | none => exact B7 (n := 0) (by decide)
  | some x => exact h x (List.mem_of_getElem? hi)
theorem Zz {c : Int} {l : List Int} {i s j : Int} {xs : List Int} {t : Nat} (h : t < xs.length) : Rr c l i s j (xs.drop t) = Rr c l i (Ei s (Ea (D0 c l i j) (xs.getD t 0))) (j + 1) (xs.drop (t + 1)) := by
  rw [List.drop_eq_getElem_cons h, Rr, Atc, Atj h]; rfl
end Go.Rnd
namespace Go.Rnd
open Go.Den
def Aq4 : Int := 4607182418800017408
def E9 (x : Int) : Int := (Ns x.toNat).1
def Pp (x : Int) : Int := (Ns x.toNat).2
def Acw (k : Int) : Int → List Int → Int
  | s, [] => s
  | s, x :: l => Acw k (Jf s (Ea (Bu x k) (Bu x k))) l
def C9 (x : List Int) : Int :=
  if Be x = 0 ∨ Cv (Be x) = false then Be x else Bu (E9 (Acw (-Bo (Be x)) 0 x)) (Bo (Be x))
def Dx (l : List Int) : Bool := l.all fun x => decide (Bd x = 0)
def N6 : List Int → Int
  | [] => 0
  | x :: l => if Bd x = 0 then N6 l else x
def Bl (l : List Int) (k : Int) : List Int := l.map fun x => Bu x k
def Ip (n : Nat) (f : Nat → Int) : List Int := Aq4 :: (List.range (n - 1)).map fun j => f (j + 1)
def muI (x : List Int) : Int := if Dh (N6 x) = true then C9 (Bl x (-Bo (Be x))) else Cz (C9 (Bl x (-Bo (Be x))))
def Er (x : List Int) : Int := Bu (muI x) (Bo (Be x))
def Ams (x : List Int) : Int := Bu (x.getD 0 0) (-Bo (Be x))
def Ri (x : List Int) : List Int := Ip x.length fun j => Ex (Bu (x.getD j 0) (-Bo (Be x))) (Ei (Ams x) (muI x))
def R7 (x : List Int) : Int := Ex (Ei (muI x) (Ams x)) (muI x)
def I4 (x : List Int) : List Int × Int × Int × Int :=
  if Dx (x.drop 1) = true then (Ip x.length fun _ => 0, 0, x.getD 0 0, 0)
  else if Cv (Er x) = true then (Ri x, R7 x, Er x, 0) else ([], 0, 0, 2)
def Ce (x : List Int) : List Int × Int × Int × Int :=
  if x.length = 0 ∨ 64 < x.length then ([], 0, 0, 3) else if Dl x = true then I4 x else ([], 0, 0, 4)
def Cn (c : Int) (l : List Int) (b i : Int) (n : Nat) : List Int := (List.range n).map fun j : Nat => D0 c l (i + (j : Int)) b
def Sl (c : Int) (l : List Int) (i : Int) (v : List Int) (t b : Int) : Int := Ea t (It v (Cn c l b i v.length))
def O9 (c : Int) (l : List Int) (i k : Int) (v : List Int) (t a b : Int) : Int :=
  if k ≤ b ∧ i ≤ a ∧ a < i + v.length then Ei (D0 c l a b) (Ea (Sl c l i v t b) (v.getD (a - i).toNat 0)) else D0 c l a b
def Et (r c : Nat) (l : List Int) (i k : Int) (v : List Int) (t : Int) : List Int := Cd r c fun a b => O9 (c : Int) l i k v t (a : Int) (b : Int)
def G2 (r c i k : Int) (v : List Int) : Bool := decide (0 ≤ i ∧ (v.length : Int) ≤ r ∧ i ≤ r - v.length ∧ 0 ≤ k ∧ k ≤ c)
def Mk (r c : Nat) (l : List Int) (j : Nat) (x : Int) : List Int := Cd r c fun a b => if b = j ∧ j ≤ a then (if a = j then x else 0) else D0 (c : Int) l (a : Int) (b : Int)
def Ep (r c : Nat) (l : List Int) (j : Nat) : List Int := Cn (c : Int) l (j : Int) (j : Int) (r - j)
def Xh (r c : Nat) (l : List Int) (j : Nat) : List Int := Mk r c (Et r c l (j : Int) (j : Int) (Ce (Ep r c l j)).1 (Ce (Ep r c l j)).2.1) j (Ce (Ep r c l j)).2.2.1
def Mj (r c : Nat) : Nat → Nat → List Int → Option (List Int × List (List Int × Int))
  | 0, _, l => some (l, [])
  | n + 1, j, l => if (Ce (Ep r c l j)).2.2.2 = 0 then
      (Mj r c n (j + 1) (Xh r c l j)).map fun x => (x.1, ((Ce (Ep r c l j)).1, (Ce (Ep r c l j)).2.1) :: x.2) else none
def Hm (r c : Nat) : Nat := min c (r - 1)
def Gu (n : Nat) : Nat → List (List Int × Int) → List Int → List Int
  | _, [], q => q
  | j, m :: ms, q => Et n n (Gu n (j + 1) ms q) (j : Int) 0 m.1 m.2
def J0 (r c : Nat) (l : List Int) : Option (List Int × List (List Int × Int)) := Mj r c (Hm r c) 0 l
def Lu (r c : Nat) (l : List Int) : List Int := match J0 r c l with
  | some x => Gu r 0 x.2 (Ih r)
  | none => []
def Jz (r c : Nat) (l : List Int) : List Int := match J0 r c l with
  | some x => x.1
  | none => []
def Fo (r c : Int) (l : List Int) : MX := if (J0 r.toNat c.toNat l).isSome = true then (r, c, Jz r.toNat c.toNat l, 0) else Nh 2
def Xg (ms : List (List Int × Int)) : List (List DV) := ms.map fun m => [.ints .arg .u64 m.1, .int .u64 m.2]
def Kf (r c : Int) (l : List Int) : List (List DV) := match J0 r.toNat c.toNat l with
  | some x => Xg x.2
  | none => []
def Tq (m : Int) : Int := Sc (m.toNat * 2 ^ 64)
def Tr (m : Int) : Bool := decide (Sc (m.toNat * 2 ^ 64) * Sc (m.toNat * 2 ^ 64) = m.toNat * 2 ^ 64)
def Pe : List Int → Int → Int
  | [], _ => 0
  | x :: l, i => if Bd x = 0 then Pe l (i + 1) else i
def Lg (r c : Nat) (l : List Int) : Bool := (J0 r c l).isSome && (Dl (Lu r c l) && Dl (Jz r c l))
def Ez (r c : Int) (l : List Int) : Int := if C5 r c l ≠ 0 then C5 r c l else if Lg r.toNat c.toNat l = true then 0 else 2
def qX (r c : Int) (l : List Int) : MX := if Ez r c l ≠ 0 then Nh (Ez r c l) else (r, r, Lu r.toNat c.toNat l, 0)
def rX (r c : Int) (l : List Int) : MX := if Ez r c l ≠ 0 then Nh (Ez r c l) else (r, c, Jz r.toNat c.toNat l, 0)
def Du (r c : Int) (l : List Int) : MX := if Ez r c l ≠ 0 then Nh (Ez r c l) else (r, min r c, (Jb r r (Lu r.toNat c.toNat l) 0 0 r (min r c)).2.2.1, 0)
def Hv (r c : Int) (l : List Int) : MX := if Ez r c l ≠ 0 then Nh (Ez r c l) else (min r c, c, (Jb r c (Jz r.toNat c.toNat l) 0 0 (min r c) c).2.2.1, 0)
def Akk (a b : MX) (p q : Int) (m : List Int) : MX :=
  if (Dj a.1 a.2.1 a.2.2.1 p q m).2.2.2 ≠ 0 then Nh (Dj a.1 a.2.1 a.2.2.1 p q m).2.2.2
  else Wh b.1 b.2.1 b.2.2.1 (Dj a.1 a.2.1 a.2.2.1 p q m).1 (Dj a.1 a.2.1 a.2.2.1 p q m).2.1 (Dj a.1 a.2.1 a.2.2.1 p q m).2.2.1
def B6 (r c : Int) (l : List Int) (p q : Int) (m : List Int) : MX :=
  if C5 r c l ≠ 0 then Nh (C5 r c l) else if C5 p q m ≠ 0 then Nh (C5 p q m) else if r < c ∨ r ≠ p then Nh 3
  else if Ez r c l ≠ 0 then Nh (Ez r c l)
  else if (P7 (Hv r c l).1 (Hv r c l).2.1 (Hv r c l).2.2.1).1 = true then Nh 5
  else Akk (Du r c l) (Hv r c l) p q m
def Sm (x : Nat) : Bool := C3 (x < 2 ^ 64)
def Aec (x : Nat) : Bool := C3 (x < 2 ^ 64 ∧ Aj x ≠ 3 ∧ Aj x ≠ 4)
def H3 (x : Nat) (k : Int) : Nat := if Aj x = 4 then x else (F1 x k).1
def Ln (x : Nat) : Nat := if Gl x < 4503599627370496 then (Ms x 4841369599423283200).1 else x
def Ig (x : Nat) : Int := if Gl x < 4503599627370496 then -52 else 0
def Qa (b : Int) : Int := if Cv b = true then 0 else if Dh b = true then -1 else 1
end Go.Rnd
namespace Go.Proofs.S1
open Go Go.Den Go.Rnd
def soft.Split.pre : List Atom → Bool
  | [.i x] => Ag x
  | _ => false
def soft.Split.out : List Atom → DV
  | [.i x] => .agg [.bool (Dh x), .int .i64 (K9 x), .int .u64 (Cr x)]
  | _ => .undef
def soft.Split.spec : Entry := entry [.i .u64] soft.Split.pre soft.Split.out
def soft.Kind.pre : List Atom → Bool
  | [.i x] => Ag x
  | _ => false
def soft.Kind.out : List Atom → DV
  | [.i x] => .int .i64 (Bd x)
  | _ => .undef
def soft.Kind.spec : Entry := entry [.i .u64] soft.Kind.pre soft.Kind.out
def soft.Sign.pre : List Atom → Bool
  | [.i x] => Ag x
  | _ => false
def soft.Sign.out : List Atom → DV
  | [.i x] => .bool (Dh x)
  | _ => .undef
def soft.Sign.spec : Entry := entry [.i .u64] soft.Sign.pre soft.Sign.out
def soft.Finite.pre : List Atom → Bool
  | [.i x] => Ag x
  | _ => false
def soft.Finite.out : List Atom → DV
  | [.i x] => .bool (Cv x)
  | _ => .undef
def soft.Finite.spec : Entry := entry [.i .u64] soft.Finite.pre soft.Finite.out
def soft.De.pre : List Atom → Bool
  | [.i x] => Ag x
  | _ => false
def soft.De.out : List Atom → DV
  | [.i x] => .int .u64 (Cz x)
  | _ => .undef
def soft.De.spec : Entry := entry [.i .u64] soft.De.pre soft.De.out
def soft.Fp.pre : List Atom → Bool
  | [.i x] => Ag x
  | _ => false
def soft.Fp.out : List Atom → DV
  | [.i x] => .tup [.int .u64 (Br x), .int .i64 (Bf x)]
  | _ => .undef
def soft.Fp.spec : Entry := entry [.i .u64] soft.Fp.pre soft.Fp.out
def soft.Pack.mu : List Atom → Nat
  | [.b _n, .i m, .i e] => Ou m e
  | _ => 0
def soft.Pack.pre : List Atom → Bool
  | [.b _n, .i m, .i e] => Km m e
  | _ => false
def soft.Pack.out : List Atom → DV
  | [.b n, .i m, .i e] => .int .u64 (Tc n m e)
  | _ => .undef
def soft.Pack.spec : Entry := entry [.b, .i .u64, .i .i64] soft.Pack.pre soft.Pack.out
def soft.C6.pre : List Atom → Bool
  | [.b _n, .i m, .i e, .b r] => D1 m e r
  | _ => false
def soft.C6.out : List Atom → DV
  | [.b n, .i m, .i e, .b r] => .tup [.int .u64 (En n m e r), .int .u8 (Em n m e r)]
  | _ => .undef
def soft.C6.spec : Entry := entry [.b, .i .u64, .i .i64, .b] soft.C6.pre soft.C6.out
def sum.right.pre : List Atom → Bool
  | [.i m, .i d] => Ag m && C3 (0 ≤ d ∧ d < 1000000)
  | _ => false
def sum.right.out : List Atom → DV
  | [.i m, .i d] => .int .u64 (Ew m d)
  | _ => .undef
def sum.right.spec : Entry := entry [.i .u64, .i .i64] sum.right.pre sum.right.out
def sum.Ed.pre : List Atom → Bool
  | [.i a, .i b] => (Ag a && Ag b) && (!(Cv a) || !(Cv b))
  | _ => false
def sum.Ed.out : List Atom → DV
  | [.i a, .i b] => .tup [.int .u64 (Jf a b), .int .u8 (Vp a b)]
  | _ => .undef
def sum.Ed.spec : Entry := entry [.i .u64, .i .u64] sum.Ed.pre sum.Ed.out
def sum.Add.pre : List Atom → Bool
  | [.i a, .i b] => Ag a && Ag b
  | _ => false
def sum.Add.out : List Atom → DV
  | [.i a, .i b] => .tup [.int .u64 (Jf a b), .int .u8 (Vp a b)]
  | _ => .undef
def sum.Add.spec : Entry := entry [.i .u64, .i .u64] sum.Add.pre sum.Add.out
def sum.Sub.pre : List Atom → Bool
  | [.i a, .i b] => Ag a && Ag b
  | _ => false
def sum.Sub.out : List Atom → DV
  | [.i a, .i b] => .tup [.int .u64 (Ei a b), .int .u8 (Asm a b)]
  | _ => .undef
def sum.Sub.spec : Entry := entry [.i .u64, .i .u64] sum.Sub.pre sum.Sub.out
def A1.Neg.pre : List Atom → Bool
  | [.i x] => Ag x
  | _ => false
def A1.Neg.out : List Atom → DV
  | [.i x] => .bool (Dh x)
  | _ => .undef
def A1.Neg.spec : Entry := entry [.i .u64] A1.Neg.pre A1.Neg.out
def A1.Power.pre : List Atom → Bool
  | [.i x] => Kd x
  | _ => false
def A1.Power.out : List Atom → DV
  | [.i x] => .int .i64 (K9 x)
  | _ => .undef
def A1.Power.spec : Entry := entry [.i .u64] A1.Power.pre A1.Power.out
def A1.K7.pre : List Atom → Bool
  | [.i x] => Kd x
  | _ => false
def A1.K7.out : List Atom → DV
  | [.i x] => .int .u64 (Cr x)
  | _ => .undef
def A1.K7.spec : Entry := entry [.i .u64] A1.K7.pre A1.K7.out
def A1.Kind.pre : List Atom → Bool
  | [.i x] => Kd x
  | _ => false
def A1.Kind.out : List Atom → DV
  | [.i x] => .int .i64 (Bd x)
  | _ => .undef
def A1.Kind.spec : Entry := entry [.i .u64] A1.Kind.pre A1.Kind.out
def A1.Finite.pre : List Atom → Bool
  | [.i x] => Ag x
  | _ => false
def A1.Finite.out : List Atom → DV
  | [.i x] => .bool (Cv x)
  | _ => .undef
def A1.Finite.spec : Entry := entry [.i .u64] A1.Finite.pre A1.Finite.out
def A1.De.pre : List Atom → Bool
  | [.i x] => Ag x
  | _ => false
def A1.De.out : List Atom → DV
  | [.i x] => .int .u64 (Cz x)
  | _ => .undef
def A1.De.spec : Entry := entry [.i .u64] A1.De.pre A1.De.out
def Ek.Canon.pre : List Atom → Bool
  | [.i x] => Kd x
  | _ => false
def Ek.Canon.out : List Atom → DV
  | [.i x] => .int .u64 (Yj x)
  | _ => .undef
def Ek.Canon.spec : Entry := entry [.i .u64] Ek.Canon.pre Ek.Canon.out
def Cq.B3.pre : List Atom → Bool
  | [.i x] => Ag x
  | _ => false
def Cq.B3.out : List Atom → DV
  | [.i x] => .int .i64 (64 - Eo x)
  | _ => .undef
def Cq.B3.spec : Entry := entry [.i .u64] Cq.B3.pre Cq.B3.out
def Cq.Hr.pre : List Atom → Bool
  | [.i x, .i y] => Ag x && Ag y
  | _ => false
def Cq.Hr.out : List Atom → DV
  | [.i x, .i y] => .tup [.int .u64 (Ro x y), .int .u64 (M4 x y)]
  | _ => .undef
def Cq.Hr.spec : Entry := entry [.i .u64, .i .u64] Cq.Hr.pre Cq.Hr.out
def times.signed.pre : List Atom → Bool
  | [.i b, .b _n] => Ag b
  | _ => false
def times.signed.out : List Atom → DV
  | [.i b, .b n] => .int .u64 (Rl n b)
  | _ => .undef
def times.signed.spec : Entry := entry [.i .u64, .b] times.signed.pre times.signed.out
def times.nan.pre : List Atom → Bool
  | [.i a, .i b] => Ag a && Ag b
  | _ => false
def times.nan.out : List Atom → DV
  | [.i a, .i b] => .bool (Alw a b)
  | _ => .undef
def times.nan.spec : Entry := entry [.i .u64, .i .u64] times.nan.pre times.nan.out
def times.norm.pre : List Atom → Bool
  | [.i b] => Ag b && Lo b
  | _ => false
def times.norm.out : List Atom → DV
  | [.i b] => .tup [.int .u64 (Ct b), .int .i64 (Gs b)]
  | _ => .undef
def times.norm.spec : Entry := entry [.i .u64] times.norm.pre times.norm.out
def times.wide.pre : List Atom → Bool
  | [.b _n, .i m, .i e, .b _r] => Oh m e
  | _ => false
def times.wide.out : List Atom → DV
  | [.b n, .i m, .i e, .b r] => .tup [.int .u64 (En n m e r), .int .u8 (Em n m e r)]
  | _ => .undef
def times.wide.spec : Entry := entry [.b, .i .u64, .i .i64, .b] times.wide.pre times.wide.out
def times.Mul.pre : List Atom → Bool
  | [.i a, .i b] => Ag a && Ag b
  | _ => false
def times.Mul.out : List Atom → DV
  | [.i a, .i b] => .tup [.int .u64 (Ea a b), .int .u8 (Ass a b)]
  | _ => .undef
def times.Mul.spec : Entry := entry [.i .u64, .i .u64] times.Mul.pre times.Mul.out
def times.Div.pre : List Atom → Bool
  | [.i a, .i b] => Ag a && Ag b
  | _ => false
def times.Div.out : List Atom → DV
  | [.i a, .i b] => .tup [.int .u64 (Ex a b), .int .u8 (Asx a b)]
  | _ => .undef
def times.Div.spec : Entry := entry [.i .u64, .i .u64] times.Div.pre times.Div.out
def Ae.Add.pre : List Atom → Bool
  | [.i a, .i b] => Ag a && Ag b
  | _ => false
def Ae.Add.out : List Atom → DV
  | [.i a, .i b] => .int .u64 (Jf a b)
  | _ => .undef
def Ae.Add.spec : Entry := entry [.i .u64, .i .u64] Ae.Add.pre Ae.Add.out
def Ae.Sub.pre : List Atom → Bool
  | [.i a, .i b] => Ag a && Ag b
  | _ => false
def Ae.Sub.out : List Atom → DV
  | [.i a, .i b] => .int .u64 (Ei a b)
  | _ => .undef
def Ae.Sub.spec : Entry := entry [.i .u64, .i .u64] Ae.Sub.pre Ae.Sub.out
def Ae.Mul.pre : List Atom → Bool
  | [.i a, .i b] => Ag a && Ag b
  | _ => false
def Ae.Mul.out : List Atom → DV
  | [.i a, .i b] => .int .u64 (Ea a b)
  | _ => .undef
def Ae.Mul.spec : Entry := entry [.i .u64, .i .u64] Ae.Mul.pre Ae.Mul.out
def Ae.fit.pre : List Atom → Bool
  | [.l _x, .l _y] => true
  | _ => false
def Ae.fit.out : List Atom → DV
  | [.l x, .l y] => .bool (Oc x y)
  | _ => .undef
def Ae.fit.spec : Entry := entry [.s .u64, .s .u64] Ae.fit.pre Ae.fit.out
def Ae.Hg.pre : List Atom → Bool
  | [.l x, .l y] => (Oc x y && Al x) && Al y
  | _ => false
def Ae.Hg.out : List Atom → DV
  | [.l x, .l y] => .tup [.int .u64 (It x y), .int .i64 (0 : Int)]
  | _ => .undef
def Ae.Hg.spec : Entry := entry [.s .u64, .s .u64] Ae.Hg.pre Ae.Hg.out
def Ai.F.pre : List Atom → Bool
  | [.i x] => Ag x
  | _ => false
def Ai.F.out : List Atom → DV
  | [.i x] => .fl (Int.toNat x)
  | _ => .undef
def Ai.F.spec : Entry := entry [.i .u64] Ai.F.pre Ai.F.out
def Ai.B.pre : List Atom → Bool
  | [.f _x] => true
  | _ => false
def Ai.B.out : List Atom → DV
  | [.f x] => .int .u64 (Fb x)
  | _ => .undef
def Ai.B.spec : Entry := entry [.fl] Ai.B.pre Ai.B.out
def Ai.Add.pre : List Atom → Bool
  | [.i a, .i b] => Ag a && Ag b
  | _ => false
def Ai.Add.out : List Atom → DV
  | [.i a, .i b] => .int .u64 (Jf a b)
  | _ => .undef
def Ai.Add.spec : Entry := entry [.i .u64, .i .u64] Ai.Add.pre Ai.Add.out
def Ai.Sub.pre : List Atom → Bool
  | [.i a, .i b] => Ag a && Ag b
  | _ => false
def Ai.Sub.out : List Atom → DV
  | [.i a, .i b] => .int .u64 (Ei a b)
  | _ => .undef
def Ai.Sub.spec : Entry := entry [.i .u64, .i .u64] Ai.Sub.pre Ai.Sub.out
def Ai.Mul.pre : List Atom → Bool
  | [.i a, .i b] => Ag a && Ag b
  | _ => false
def Ai.Mul.out : List Atom → DV
  | [.i a, .i b] => .int .u64 (Ea a b)
  | _ => .undef
def Ai.Mul.spec : Entry := entry [.i .u64, .i .u64] Ai.Mul.pre Ai.Mul.out
def Ai.Hg.pre : List Atom → Bool
  | [.l x, .l y] => (Oc x y && Al x) && Al y
  | _ => false
def Ai.Hg.out : List Atom → DV
  | [.l x, .l y] => .int .u64 (It x y)
  | _ => .undef
def Ai.Hg.spec : Entry := entry [.s .u64, .s .u64] Ai.Hg.pre Ai.Hg.out
def Ai.Eb.pre : List Atom → Bool
  | [.l x, .l _y] => Gr x
  | _ => false
def Ai.Eb.out : List Atom → DV
  | [.l x, .l y] => .bool (S7 x y)
  | _ => .undef
def Ai.Eb.spec : Entry := entry [.s .u64, .s .u64] Ai.Eb.pre Ai.Eb.out
def Aa.size.pre : List Atom → Bool
  | [.i _n] => true
  | _ => false
def Aa.size.out : List Atom → DV
  | [.i n] => .bool (Bw n)
  | _ => .undef
def Aa.size.spec : Entry := entry [.i .i64] Aa.size.pre Aa.size.out
def Aa.Check.pre : List Atom → Bool
  | [.i _r, .i _c, .l _l] => true
  | _ => false
def Aa.Check.out : List Atom → DV
  | [.i r, .i c, .l l] => .int .i64 (Kh r c l)
  | _ => .undef
def Aa.Check.spec : Entry := entry [.st [.i .i64, .i .i64, .s .u64]] Aa.Check.pre Aa.Check.out
def Aa.get.pre : List Atom → Bool
  | [.i r, .i c, .l l, .i i, .i k] => Cy r c l i k
  | _ => false
def Aa.get.out : List Atom → DV
  | [.i _r, .i c, .l l, .i i, .i k] => .int .u64 (D0 c l i k)
  | _ => .undef
def Aa.get.spec : Entry := entry [.st [.i .i64, .i .i64, .s .u64], .i .i64, .i .i64] Aa.get.pre Aa.get.out
def Aa.two.pre : List Atom → Bool
  | [.i _r, .i _c, .l _l, .i _p, .i _q, .l _m] => true
  | _ => false
def Aa.two.out : List Atom → DV
  | [.i r, .i c, .l l, .i p, .i q, .l m] => .int .i64 (Aas r c l p q m)
  | _ => .undef
def Aa.two.spec : Entry := entry [.st [.i .i64, .i .i64, .s .u64], .st [.i .i64, .i .i64, .s .u64]] Aa.two.pre Aa.two.out
def Aa.Row.pre : List Atom → Bool
  | [.i r, .i c, .l l, .i i, .i f] => Oq r c l i && decide (f = 0)
  | _ => false
def Aa.Row.out : List Atom → DV
  | [.i _r, .i c, .l l, .i i, .i _f] => .ints .fresh .u64 (Gn c l i)
  | _ => .undef
def Aa.Row.spec : Entry := entry [.st [.i .i64, .i .i64, .s .u64], .i .i64, .i .i64] Aa.Row.pre Aa.Row.out
def Aa.Dr.pre : List Atom → Bool
  | [.i r, .i c, .l l, .i k, .i f] => Gk r c l k && C3 (0 ≤ f ∧ f ≤ r)
  | _ => false
def Aa.Dr.out : List Atom → DV
  | [.i r, .i c, .l l, .i k, .i f] => .ints .fresh .u64 (Cn c l k f (Int.toNat (r - f)))
  | _ => .undef
def Aa.Dr.spec : Entry := entry [.st [.i .i64, .i .i64, .s .u64], .i .i64, .i .i64] Aa.Dr.pre Aa.Dr.out
def Aa.D7.pre : List Atom → Bool
  | [.i _i, .i _k] => true
  | _ => false
def Aa.D7.out : List Atom → DV
  | [.i _i, .i _k] => .int .u64 (0 : Int)
  | _ => .undef
def Aa.D7.spec : Entry := entry [.i .i64, .i .i64] Aa.D7.pre Aa.D7.out
def Aa.Hu.pre : List Atom → Bool
  | [.i _i, .i _k] => true
  | _ => false
def Aa.Hu.out : List Atom → DV
  | [.i i, .i k] => .int .u64 (Mt i k)
  | _ => .undef
def Aa.Hu.spec : Entry := entry [.i .i64, .i .i64] Aa.Hu.pre Aa.Hu.out
def Aa.Fe.pre : List Atom → Bool
  | [.i i, .i k, .i r, .i c, .l l] => Cy r c l k i
  | _ => false
def Aa.Fe.out : List Atom → DV
  | [.i i, .i k, .i _r, .i c, .l l] => .int .u64 (D0 c l k i)
  | _ => .undef
def Aa.Fe.spec : Entry := entry [.i .i64, .i .i64, .cp [.i .i64, .i .i64, .s .u64]] Aa.Fe.pre Aa.Fe.out
def Aa.Fg.pre : List Atom → Bool
  | [.i i, .i k, .i r, .i c, .l l, .i x, .i y] => Cy r c l (x + i) (y + k) && Ug x y i k
  | _ => false
def Aa.Fg.out : List Atom → DV
  | [.i i, .i k, .i _r, .i c, .l l, .i x, .i y] => .int .u64 (D0 c l (x + i) (y + k))
  | _ => .undef
def Aa.Fg.spec : Entry := entry [.i .i64, .i .i64, .cp [.i .i64, .i .i64, .s .u64], .cp [.i .i64], .cp [.i .i64]] Aa.Fg.pre Aa.Fg.out
def Aa.Sub_1.pre : List Atom → Bool
  | [.i i, .i k, .i r, .i c, .l l, .i p, .i q, .l m] => ((Cy r c l i k && Cy p q m i k) && Al l) && Al m
  | _ => false
def Aa.Hq.pre : List Atom → Bool
  | [.i i, .i k, .i r, .i c, .l l, .i p, .i q, .l m] => R6 r c l p q m i k
  | _ => false
def Aa.Hq.out : List Atom → DV
  | [.i i, .i k, .i _r, .i c, .l l, .i p, .i q, .l m] => .int .u64 (It (Gn c l i) (J7 p q m k))
  | _ => .undef
def Aa.Hq.spec : Entry := entry [.i .i64, .i .i64, .cp [.i .i64, .i .i64, .s .u64], .cp [.i .i64, .i .i64, .s .u64]] Aa.Hq.pre Aa.Hq.out
def Aa.of.Eh.pre : List Atom → Bool
  | [.i a, .i b] => (Bw a && Bw b)
  | _ => false
def Aa.of.Eh.out : List Atom → DV
  | [.i a, .i b] => .agg [.int .i64 a, .int .i64 b, .ints .fresh .u64 (Cd (Int.toNat a) (Int.toNat b) (fun j1 j2 => Mt j1 j2))]
  | _ => .undef
def Aa.of.Eh.spec : Entry := entry [.i .i64, .i .i64, .fn 246 []] Aa.of.Eh.pre Aa.of.Eh.out
def Aa.of.Cl.pre : List Atom → Bool
  | [.i a, .i b, .i r, .i c, .l l] => (Bw a && Bw b) && A9 r c l && decide (a = c ∧ b = r)
  | _ => false
def Aa.of.Cl.out : List Atom → DV
  | [.i a, .i b, .i _r, .i c, .l l] => .agg [.int .i64 a, .int .i64 b, .ints .fresh .u64 (Cd (Int.toNat a) (Int.toNat b) (fun j1 j2 => D0 c l j2 j1))]
  | _ => .undef
def Aa.of.Cl.spec : Entry := entry [.i .i64, .i .i64, .fn 220 [.cp [.i .i64, .i .i64, .s .u64]]] Aa.of.Cl.pre Aa.of.Cl.out
def Aa.of.Part.pre : List Atom → Bool
  | [.i a, .i b, .i r, .i c, .l l, .i x, .i y] => (Bw a && Bw b) && A9 r c l && Hi r c x y a b
  | _ => false
def Aa.of.Part.out : List Atom → DV
  | [.i a, .i b, .i _r, .i c, .l l, .i x, .i y] => .agg [.int .i64 a, .int .i64 b, .ints .fresh .u64 (Cd (Int.toNat a) (Int.toNat b) (fun j1 j2 => D0 c l (x + j1) (y + j2)))]
  | _ => .undef
def Aa.of.Part.spec : Entry := entry [.i .i64, .i .i64, .fn 192 [.cp [.i .i64, .i .i64, .s .u64], .cp [.i .i64], .cp [.i .i64]]] Aa.of.Part.pre Aa.of.Part.out
def Aa.of.Mul.pre : List Atom → Bool
  | [.i a, .i b, .i r, .i c, .l l, .i p, .i q, .l m] => (Bw a && Bw b) && ((A9 r c l && A9 p q m) && (Al l && Al m)) && decide (a = r ∧ b = q ∧ c = p)
  | _ => false
def Aa.of.Mul.out : List Atom → DV
  | [.i a, .i b, .i _r, .i c, .l l, .i p, .i q, .l m] => .agg [.int .i64 a, .int .i64 b, .ints .fresh .u64 (Cd (Int.toNat a) (Int.toNat b) (fun j1 j2 => It (Gn c l j1) (J7 p q m j2)))]
  | _ => .undef
def Aa.of.Mul.spec : Entry := entry [.i .i64, .i .i64, .fn 188 [.cp [.i .i64, .i .i64, .s .u64], .cp [.i .i64, .i .i64, .s .u64]]] Aa.of.Mul.pre Aa.of.Mul.out
def Aa.Eh.pre : List Atom → Bool
  | [.i _n] => true
  | _ => false
def Aa.Eh.out : List Atom → DV
  | [.i n] => .tup [.agg [.int .i64 ((Mi n).1), .int .i64 ((Mi n).2.1), .ints .fresh .u64 ((Mi n).2.2.1)], .int .i64 ((Mi n).2.2.2)]
  | _ => .undef
def Aa.Eh.spec : Entry := entry [.i .i64] Aa.Eh.pre Aa.Eh.out
def Aa.Cl.pre : List Atom → Bool
  | [.i _r, .i _c, .l _l] => true
  | _ => false
def Aa.Cl.out : List Atom → DV
  | [.i r, .i c, .l l] => .tup [.agg [.int .i64 ((Ft r c l).1), .int .i64 ((Ft r c l).2.1), .ints .fresh .u64 ((Ft r c l).2.2.1)], .int .i64 ((Ft r c l).2.2.2)]
  | _ => .undef
def Aa.Cl.spec : Entry := entry [.st [.i .i64, .i .i64, .s .u64]] Aa.Cl.pre Aa.Cl.out
def Aa.Part.pre : List Atom → Bool
  | [.i _r, .i _c, .l _l, .i _x, .i _y, .i _a, .i _b] => true
  | _ => false
def Aa.Part.out : List Atom → DV
  | [.i r, .i c, .l l, .i x, .i y, .i a, .i b] => .tup [.agg [.int .i64 ((Jb r c l x y a b).1), .int .i64 ((Jb r c l x y a b).2.1), .ints .fresh .u64 ((Jb r c l x y a b).2.2.1)], .int .i64 ((Jb r c l x y a b).2.2.2)]
  | _ => .undef
def Aa.Part.spec : Entry := entry [.st [.i .i64, .i .i64, .s .u64], .i .i64, .i .i64, .i .i64, .i .i64] Aa.Part.pre Aa.Part.out
def Aa.Mul.pre : List Atom → Bool
  | [.i _r, .i _c, .l l, .i _p, .i _q, .l m] => Al l && Al m
  | _ => false
def Aa.Mul.out : List Atom → DV
  | [.i r, .i c, .l l, .i p, .i q, .l m] => .tup [.agg [.int .i64 ((Tm r c l p q m).1), .int .i64 ((Tm r c l p q m).2.1), .ints .fresh .u64 ((Tm r c l p q m).2.2.1)], .int .i64 ((Tm r c l p q m).2.2.2)]
  | _ => .undef
def Aa.Mul.spec : Entry := entry [.st [.i .i64, .i .i64, .s .u64], .st [.i .i64, .i .i64, .s .u64]] Aa.Mul.pre Aa.Mul.out
def Ah.Hp.pre : List Atom → Bool
  | [.i _r, .i _c, .l _l] => true
  | _ => false
def Ah.Hp.out : List Atom → DV
  | [.i r, .i c, .l l] => .bool (A9 r c l)
  | _ => .undef
def Ah.Hp.spec : Entry := entry [.st [.i .i64, .i .i64, .s .u64]] Ah.Hp.pre Ah.Hp.out
def Ah.At.pre : List Atom → Bool
  | [.i r, .i c, .l l, .i i, .i k] => Cy r c l i k
  | _ => false
def Ah.At.out : List Atom → DV
  | [.i _r, .i c, .l l, .i i, .i k] => .int .u64 (D0 c l i k)
  | _ => .undef
def Ah.At.spec : Entry := entry [.st [.i .i64, .i .i64, .s .u64], .i .i64, .i .i64] Ah.At.pre Ah.At.out
def Ah.Bz.pre : List Atom → Bool
  | [.i a, .i b] => Bw a && Bw b
  | _ => false
def Ah.Bz.out : List Atom → DV
  | [.i a, .i b] => .agg [.int .i64 a, .int .i64 b, .ints .fresh .u64 (Cd (Int.toNat a) (Int.toNat b) (fun _ _ => 0))]
  | _ => .undef
def Ah.Bz.spec : Entry := entry [.i .i64, .i .i64] Ah.Bz.pre Ah.Bz.out
def Ah.Fq.pre : List Atom → Bool
  | [.i r, .i c, .l l, .i i, .i k, .i _b] => Cy r c l i k
  | _ => false
def Ah.Fq.out : List Atom → DV
  | [.i r, .i c, .l l, .i i, .i k, .i b] => .agg [.int .i64 r, .int .i64 c, .ints .fresh .u64 (List.set l (Int.toNat (i * c + k)) b)]
  | _ => .undef
def Ah.Fq.spec : Entry := entry [.st [.i .i64, .i .i64, .s .u64], .i .i64, .i .i64, .i .u64] Ah.Fq.pre Ah.Fq.out
def Ah.Eh.pre : List Atom → Bool
  | [.i n] => Bw n
  | _ => false
def Ah.Eh.out : List Atom → DV
  | [.i n] => .agg [.int .i64 n, .int .i64 n, .ints .fresh .u64 (Cd (Int.toNat n) (Int.toNat n) (fun j1 j2 => Mt j1 j2))]
  | _ => .undef
def Ah.Eh.spec : Entry := entry [.i .i64] Ah.Eh.pre Ah.Eh.out
def Ah.Eb.pre : List Atom → Bool
  | [.i _r, .i _c, .l l, .i _p, .i _q, .l _m] => Gr l
  | _ => false
def Ah.Eb.out : List Atom → DV
  | [.i r, .i c, .l l, .i p, .i q, .l m] => .bool (Im r c l p q m)
  | _ => .undef
def Ah.Eb.spec : Entry := entry [.st [.i .i64, .i .i64, .s .u64], .st [.i .i64, .i .i64, .s .u64]] Ah.Eb.pre Ah.Eb.out
def Ah.Row.pre : List Atom → Bool
  | [.i r, .i c, .l l, .i i] => Oq r c l i
  | _ => false
def Ah.Row.out : List Atom → DV
  | [.i _r, .i c, .l l, .i i] => .ints .arg .u64 (Gn c l i)
  | _ => .undef
def Ah.Row.spec : Entry := entry [.st [.i .i64, .i .i64, .s .u64], .i .i64] Ah.Row.pre Ah.Row.out
def Ah.Pg.pre : List Atom → Bool
  | [.i r, .i c, .l l, .i k, .i f] => Gk r c l k && C3 (0 ≤ f ∧ f ≤ r)
  | _ => false
def Ah.Pg.out : List Atom → DV
  | [.i r, .i c, .l l, .i k, .i f] => .ints .fresh .u64 (Cn c l k f (Int.toNat (r - f)))
  | _ => .undef
def Ah.Pg.spec : Entry := entry [.st [.i .i64, .i .i64, .s .u64], .i .i64, .i .i64] Ah.Pg.pre Ah.Pg.out
def Ah.Mul.pre : List Atom → Bool
  | [.i r, .i c, .l l, .i p, .i q, .l m] => (A9 r c l && A9 p q m) && ((Al l && Al m) && decide (c = p))
  | _ => false
def Ah.Mul.out : List Atom → DV
  | [.i r, .i c, .l l, .i p, .i q, .l m] => .agg [.int .i64 r, .int .i64 q, .ints .fresh .u64 (Cd (Int.toNat r) (Int.toNat q) (fun j1 j2 => It (Gn c l j1) (J7 p q m j2)))]
  | _ => .undef
def Ah.Mul.spec : Entry := entry [.st [.i .i64, .i .i64, .s .u64], .st [.i .i64, .i .i64, .s .u64]] Ah.Mul.pre Ah.Mul.out
def Ah.Cl.pre : List Atom → Bool
  | [.i r, .i c, .l l] => A9 r c l
  | _ => false
def Ah.Cl.out : List Atom → DV
  | [.i r, .i c, .l l] => .agg [.int .i64 c, .int .i64 r, .ints .fresh .u64 (Cd (Int.toNat c) (Int.toNat r) (fun j1 j2 => D0 c l j2 j1))]
  | _ => .undef
def Ah.Cl.spec : Entry := entry [.st [.i .i64, .i .i64, .s .u64]] Ah.Cl.pre Ah.Cl.out
def Ah.Part.pre : List Atom → Bool
  | [.i r, .i c, .l l, .i x, .i y, .i a, .i b] => A9 r c l && Hi r c x y a b
  | _ => false
def Ah.Part.out : List Atom → DV
  | [.i _r, .i c, .l l, .i x, .i y, .i a, .i b] => .agg [.int .i64 a, .int .i64 b, .ints .fresh .u64 (Cd (Int.toNat a) (Int.toNat b) (fun j1 j2 => D0 c l (x + j1) (y + j2)))]
  | _ => .undef
def Ah.Part.spec : Entry := entry [.st [.i .i64, .i .i64, .s .u64], .i .i64, .i .i64, .i .i64, .i .i64] Ah.Part.pre Ah.Part.out
def Af.Ji.pre : List Atom → Bool
  | [.l l, .i _i] => G7 l
  | _ => false
def Af.Ji.out : List Atom → DV
  | [.l l, .i i] => .int .u64 (Gi l i)
  | _ => .undef
def Af.Ji.spec : Entry := entry [.s .u32, .i .i64] Af.Ji.pre Af.Ji.out
def Af.Made.pre : List Atom → Bool
  | [.b _n, .l l] => G7 l
  | _ => false
def Af.Made.out : List Atom → DV
  | [.b n, .l l] => .agg [.bool (Bg (wv n l)), .ints .arg .u32 (Ap (wv n l))]
  | _ => .undef
def Af.Made.spec : Entry := entry [.b, .s .u32] Af.Made.pre Af.Made.out
def Af.Of.pre : List Atom → Bool
  | [.i n] => Ahm n
  | _ => false
def Af.Of.out : List Atom → DV
  | [.i n] => .agg [.bool (Bg (n)), .ints .arg .u32 (Ap (n))]
  | _ => .undef
def Af.Of.spec : Entry := entry [.i .i64] Af.Of.pre Af.Of.out
def Af.H8.pre : List Atom → Bool
  | [.l a, .l b] => G7 a && G7 b
  | _ => false
def Af.H8.out : List Atom → DV
  | [.l a, .l b] => .int .i64 (U1 (Ck a) (Ck b))
  | _ => .undef
def Af.H8.spec : Entry := entry [.s .u32, .s .u32] Af.H8.pre Af.H8.out
def Af.plus.pre : List Atom → Bool
  | [.l a, .l b] => G7 a && G7 b
  | _ => false
def Af.plus.out : List Atom → DV
  | [.l a, .l b] => .ints .arg .u32 (Js a b)
  | _ => .undef
def Af.plus.spec : Entry := entry [.s .u32, .s .u32] Af.plus.pre Af.plus.out
def Af.minus.pre : List Atom → Bool
  | [.l a, .l b] => (G7 a && G7 b) && leL b a
  | _ => false
def Af.minus.out : List Atom → DV
  | [.l a, .l b] => .ints .arg .u32 (Gx a b)
  | _ => .undef
def Af.minus.spec : Entry := entry [.s .u32, .s .u32] Af.minus.pre Af.minus.out
def Af.Add.pre : List Atom → Bool
  | [.b n, .l a, .b m, .l b] => I3 n a && I3 m b
  | _ => false
def Af.Add.out : List Atom → DV
  | [.b n, .l a, .b m, .l b] => .agg [.bool (Bg (wv n a + wv m b)), .ints .arg .u32 (Ap (wv n a + wv m b))]
  | _ => .undef
def Af.Add.spec : Entry := entry [.st [.b, .s .u32], .st [.b, .s .u32]] Af.Add.pre Af.Add.out
def Af.Neg.pre : List Atom → Bool
  | [.b n, .l a] => I3 n a
  | _ => false
def Af.Neg.out : List Atom → DV
  | [.b n, .l a] => .agg [.bool (Bg (- wv n a)), .ints .arg .u32 (Ap (- wv n a))]
  | _ => .undef
def Af.Neg.spec : Entry := entry [.st [.b, .s .u32]] Af.Neg.pre Af.Neg.out
def Af.Fj.pre : List Atom → Bool
  | [.b n, .l a] => I3 n a
  | _ => false
def Af.Fj.out : List Atom → DV
  | [.b n, .l a] => .agg [.bool (Bg (2 * wv n a)), .ints .arg .u32 (Ap (2 * wv n a))]
  | _ => .undef
def Af.Fj.spec : Entry := entry [.st [.b, .s .u32]] Af.Fj.pre Af.Fj.out
def Af.Hf.pre : List Atom → Bool
  | [.b n, .l a] => I3 n a
  | _ => false
def Af.Hf.out : List Atom → DV
  | [.b n, .l a] => .agg [.bool (Bg (Kk (wv n a) 1)), .ints .arg .u32 (Ap (Kk (wv n a) 1))]
  | _ => .undef
def Af.Hf.spec : Entry := entry [.st [.b, .s .u32]] Af.Hf.pre Af.Hf.out
def Af.Bp.pre : List Atom → Bool
  | [.b n, .l a, .i k] => V4 n a && Aq5 k
  | _ => false
def Af.Bp.out : List Atom → DV
  | [.b n, .l a, .i k] => .agg [.bool (Bg (Gc (wv n a) k)), .ints .arg .u32 (Ap (Gc (wv n a) k))]
  | _ => .undef
def Af.Bp.spec : Entry := entry [.st [.b, .s .u32], .i .i64] Af.Bp.pre Af.Bp.out
def Af.Qo.pre : List Atom → Bool
  | [.b n, .l a] => I3 n a
  | _ => false
def Af.Qo.out : List Atom → DV
  | [.b n, .l a] => .int .i64 (Xr (wv n a))
  | _ => .undef
def Af.Qo.spec : Entry := entry [.st [.b, .s .u32]] Af.Qo.pre Af.Qo.out
def Af.Wc.pre : List Atom → Bool
  | [.b n, .l a] => I3 n a
  | _ => false
def Af.Wc.out : List Atom → DV
  | [.b n, .l a] => .bool (Aix (wv n a))
  | _ => .undef
def Af.Wc.spec : Entry := entry [.st [.b, .s .u32]] Af.Wc.pre Af.Wc.out
def Aw.Of.pre : List Atom → Bool
  | [.b n, .l a, .i e] => I3 n a && Y0 e
  | _ => false
def Aw.Of.out : List Atom → DV
  | [.b n, .l a, .i e] => .agg [.bool (Bg (mD (wv n a))), .ints .arg .u32 (Ap (mD (wv n a))), .int .i64 (eD (wv n a) e)]
  | _ => .undef
def Aw.Of.spec : Entry := entry [.st [.b, .s .u32], .i .i64] Aw.Of.pre Aw.Of.out
def Aw.Neg.pre : List Atom → Bool
  | [.b n, .l a, .i _e] => I3 n a
  | _ => false
def Aw.Neg.out : List Atom → DV
  | [.b n, .l a, .i e] => .agg [.bool (Bg (- wv n a)), .ints .arg .u32 (Ap (- wv n a)), .int .i64 e]
  | _ => .undef
def Aw.Neg.spec : Entry := entry [.st [.b, .s .u32, .i .i64]] Aw.Neg.pre Aw.Neg.out
def Aw.Wd.pre : List Atom → Bool
  | [.b n, .l a, .i _e, .b m, .l b, .i _f] => I3 n a && I3 m b
  | _ => false
def Aw.Wd.out : List Atom → DV
  | [.b n, .l a, .i e, .b m, .l b, .i f] => .int .i64 (Cu (wv n a) e (wv m b) f)
  | _ => .undef
def Aw.Wd.spec : Entry := entry [.st [.b, .s .u32, .i .i64], .st [.b, .s .u32, .i .i64]] Aw.Wd.pre Aw.Wd.out
def Aw.Level.pre : List Atom → Bool
  | [.b n, .l a, .i e, .i f] => V4 n a && Adj (wv n a) e f
  | _ => false
def Aw.Level.out : List Atom → DV
  | [.b n, .l a, .i e, .i f] => .agg [.bool (Bg (Gc (wv n a) (e - f))), .ints .arg .u32 (Ap (Gc (wv n a) (e - f)))]
  | _ => .undef
def Aw.Level.spec : Entry := entry [.st [.b, .s .u32, .i .i64], .i .i64] Aw.Level.pre Aw.Level.out
def Aw.Add.pre : List Atom → Bool
  | [.b n, .l a, .i e, .b m, .l b, .i f] => ((V4 n a && V4 m b) && Vs e) && Vs f
  | _ => false
def Aw.Add.out : List Atom → DV
  | [.b n, .l a, .i e, .b m, .l b, .i f] => .agg [.bool (Bg (Ql (wv n a) e (wv m b) f)), .ints .arg .u32 (Ap (Ql (wv n a) e (wv m b) f)), .int .i64 (Ant (wv n a) e (wv m b) f)]
  | _ => .undef
def Aw.Add.spec : Entry := entry [.st [.b, .s .u32, .i .i64], .st [.b, .s .u32, .i .i64]] Aw.Add.pre Aw.Add.out
def Aw.Sub.pre : List Atom → Bool
  | [.b n, .l a, .i e, .b m, .l b, .i f] => ((V4 n a && V4 m b) && Vs e) && Vs f
  | _ => false
def Aw.Sub.out : List Atom → DV
  | [.b n, .l a, .i e, .b m, .l b, .i f] => .agg [.bool (Bg (Ql (wv n a) e (- wv m b) f)), .ints .arg .u32 (Ap (Ql (wv n a) e (- wv m b) f)), .int .i64 (Ant (wv n a) e (- wv m b) f)]
  | _ => .undef
def Aw.Sub.spec : Entry := entry [.st [.b, .s .u32, .i .i64], .st [.b, .s .u32, .i .i64]] Aw.Sub.pre Aw.Sub.out
def Aw.Vq.pre : List Atom → Bool
  | [.b n, .l a, .i e] => I3 n a && Vs e
  | _ => false
def Aw.Vq.out : List Atom → DV
  | [.b n, .l a, .i e] => .int .i64 (Hy (wv n a) e)
  | _ => .undef
def Aw.Vq.spec : Entry := entry [.st [.b, .s .u32, .i .i64]] Aw.Vq.pre Aw.Vq.out
def Aw.Sign.pre : List Atom → Bool
  | [.b n, .l a, .i _e] => I3 n a
  | _ => false
def Aw.Sign.out : List Atom → DV
  | [.b n, .l a, .i _e] => .int .i64 (Mq (wv n a))
  | _ => .undef
def Aw.Sign.spec : Entry := entry [.st [.b, .s .u32, .i .i64]] Aw.Sign.pre Aw.Sign.out
def Aw.Compare.pre : List Atom → Bool
  | [.b n, .l a, .i e, .b m, .l b, .i f] => ((V4 n a && V4 m b) && Vs e) && Vs f
  | _ => false
def Aw.Compare.out : List Atom → DV
  | [.b n, .l a, .i e, .b m, .l b, .i f] => .int .i64 (Vu (wv n a) e (wv m b) f)
  | _ => .undef
def Aw.Compare.spec : Entry := entry [.st [.b, .s .u32, .i .i64], .st [.b, .s .u32, .i .i64]] Aw.Compare.pre Aw.Compare.out
def A1.Value.pre : List Atom → Bool
  | [.i x] => Ag x
  | _ => false
def A1.Value.out : List Atom → DV
  | [.i x] => .agg [.bool (Bg (mD (Eu x))), .ints .arg .u32 (Ap (mD (Eu x))), .int .i64 (eD (Eu x) (Bf x))]
  | _ => .undef
def A1.Value.spec : Entry := entry [.i .u64] A1.Value.pre A1.Value.out
def compare.Lm.pre : List Atom → Bool
  | [.i b] => Ag b
  | _ => false
def compare.Lm.out : List Atom → DV
  | [.i b] => .int .i64 (Zm b)
  | _ => .undef
def compare.Lm.spec : Entry := entry [.i .u64] compare.Lm.pre compare.Lm.out
def compare.Order.pre : List Atom → Bool
  | [.i a, .i b] => Ag a && Ag b
  | _ => false
def compare.Order.out : List Atom → DV
  | [.i a, .i b] => .tup [.int .i64 (R4 a b), .bool (Zr a b)]
  | _ => .undef
def compare.Order.spec : Entry := entry [.i .u64, .i .u64] compare.Order.pre compare.Order.out
def compare.Lv.pre : List Atom → Bool
  | [.i a, .i b] => Ag a && Ag b
  | _ => false
def compare.Lv.out : List Atom → DV
  | [.i a, .i b] => .bool (decide (R4 a b < 0))
  | _ => .undef
def compare.Lv.spec : Entry := entry [.i .u64, .i .u64] compare.Lv.pre compare.Lv.out
def compare.G6.pre : List Atom → Bool
  | [.i a] => Ag a
  | _ => false
def compare.G6.out : List Atom → DV
  | [.i a] => .int .u64 (Ir a)
  | _ => .undef
def compare.G6.spec : Entry := entry [.i .u64] compare.G6.pre compare.G6.out
def compare.Es.pre : List Atom → Bool
  | [.i a, .i n] => C4 a n
  | _ => false
def compare.Es.out : List Atom → DV
  | [.i a, .i n] => .tup [.int .u64 (Bu a n), .int .u8 (Aod a n)]
  | _ => .undef
def compare.Es.spec : Entry := entry [.i .u64, .i .i64] compare.Es.pre compare.Es.out
def Ae.Bp.pre : List Atom → Bool
  | [.i a, .i n] => C4 a n
  | _ => false
def Ae.Bp.out : List Atom → DV
  | [.i a, .i n] => .int .u64 (Bu a n)
  | _ => .undef
def Ae.Bp.spec : Entry := entry [.i .u64, .i .i64] Ae.Bp.pre Ae.Bp.out
def Ae.Div.pre : List Atom → Bool
  | [.i a, .i b] => Ag a && Ag b
  | _ => false
def Ae.Div.out : List Atom → DV
  | [.i a, .i b] => .int .u64 (Ex a b)
  | _ => .undef
def Ae.Div.spec : Entry := entry [.i .u64, .i .u64] Ae.Div.pre Ae.Div.out
def Ae.Bm.pre : List Atom → Bool
  | [.l x] => Cp x
  | _ => false
def Ae.Bm.out : List Atom → DV
  | [.l x] => .int .u64 (Be x)
  | _ => .undef
def Ae.Bm.spec : Entry := entry [.s .u64] Ae.Bm.pre Ae.Bm.out
def Ae.Finite.pre : List Atom → Bool
  | [.l x] => Cp x
  | _ => false
def Ae.Finite.out : List Atom → DV
  | [.l x] => .bool (Dl x)
  | _ => .undef
def Ae.Finite.spec : Entry := entry [.s .u64] Ae.Finite.pre Ae.Finite.out
def Cs.Check.pre : List Atom → Bool
  | [.i _r, .i _c, .l l] => Al l
  | _ => false
def Cs.Check.out : List Atom → DV
  | [.i r, .i c, .l l] => .int .i64 (C5 r c l)
  | _ => .undef
def Cs.Check.spec : Entry := entry [.st [.i .i64, .i .i64, .s .u64]] Cs.Check.pre Cs.Check.out
def solve.check.pre : List Atom → Bool
  | [.i _r, .i _c, .l l, .i _p, .i _q, .l m] => Al l && Al m
  | _ => false
def solve.check.out : List Atom → DV
  | [.i r, .i c, .l l, .i p, .i q, .l m] => .int .i64 (Qf r c l p q m)
  | _ => .undef
def solve.check.spec : Entry := entry [.st [.i .i64, .i .i64, .s .u64], .st [.i .i64, .i .i64, .s .u64]] solve.check.pre solve.check.out
def F3.F2.up.pre : List Atom → Bool
  | [.i n, .i k] => C3 (0 ≤ k ∧ k < n ∧ n ≤ 10)
  | _ => false
def F3.F2.up.out : List Atom → DV
  | [.i n, .i k] => .int .i64 (n - 1 - k)
  | _ => .undef
def F3.F2.up.spec : Entry := entry [.i .i64, .i .i64] F3.F2.up.pre F3.F2.up.out
def solve.Ef.pre : List Atom → Bool
  | [.i _i, .i _k] => true
  | _ => false
def solve.Ef.out : List Atom → DV
  | [.i i, .i k] => .bool (decide (i < k))
  | _ => .undef
def solve.Ef.spec : Entry := entry [.i .i64, .i .i64] solve.Ef.pre solve.Ef.out
def Aa.of.Bz.own.pre : List Atom → Bool
  | [.i a, .i b] => Bw a && Bw b
  | _ => false
def Aa.of.Bz.own.out : List Atom → DV
  | [.i a, .i b] => .agg [.int .i64 a, .int .i64 b, .ints (.own 108002 37) .u64 (Cd (Int.toNat a) (Int.toNat b) (fun _ _ => 0))]
  | _ => .undef
def Aa.of.Bz.own.spec : Entry := entry [.i .i64, .i .i64, .fn 205 []] Aa.of.Bz.own.pre Aa.of.Bz.own.out
def Aa.Bz.own.pre : List Atom → Bool
  | [.i a, .i b] => Bw a && Bw b
  | _ => false
def Aa.Bz.own.out : List Atom → DV
  | [.i a, .i b] => .tup [.agg [.int .i64 a, .int .i64 b, .ints (.own 1136 37) .u64 (Cd (Int.toNat a) (Int.toNat b) (fun _ _ => 0))], .int .i64 (0 : Int)]
  | _ => .undef
def Aa.Bz.own.spec : Entry := entry [.i .i64, .i .i64] Aa.Bz.own.pre Aa.Bz.own.out
def solve.Bt.Up.pre : List Atom → Bool
  | [.i r, .i c, .l l, .i p, .i q, .l m, .i n] => Aat r c l p q m && decide (n = r)
  | _ => false
def solve.Bt.Up.out : List Atom → DV
  | [.i r, .i c, .l l, .i _p, .i q, .l m, .i _n] => .tup [.agg [.int .i64 ((Lt r q (upG c l q m (Int.toNat r) (Int.toNat q))).1), .int .i64 ((Lt r q (upG c l q m (Int.toNat r) (Int.toNat q))).2.1), .ints .fresh .u64 ((Lt r q (upG c l q m (Int.toNat r) (Int.toNat q))).2.2.1)], .int .i64 ((Lt r q (upG c l q m (Int.toNat r) (Int.toNat q))).2.2.2)]
  | _ => .undef
def solve.Bt.Up.spec : Entry := entry [.st [.i .i64, .i .i64, .s .u64], .st [.i .i64, .i .i64, .s .u64], .fm 103 [.i .i64], .fn 104 []] solve.Bt.Up.pre solve.Bt.Up.out
def solve.Cj.pre : List Atom → Bool
  | [.i _r, .i _c, .l l, .i _p, .i _q, .l m] => Al l && Al m
  | _ => false
def solve.Cj.out : List Atom → DV
  | [.i r, .i c, .l l, .i p, .i q, .l m] => .tup [.agg [.int .i64 ((Wh r c l p q m).1), .int .i64 ((Wh r c l p q m).2.1), .ints .fresh .u64 ((Wh r c l p q m).2.2.1)], .int .i64 ((Wh r c l p q m).2.2.2)]
  | _ => .undef
def solve.Cj.spec : Entry := entry [.st [.i .i64, .i .i64, .s .u64], .st [.i .i64, .i .i64, .s .u64]] solve.Cj.pre solve.Cj.out
def solve.Flat.pre : List Atom → Bool
  | [.i _r, .i _c, .l l] => Al l
  | _ => false
def solve.Flat.out : List Atom → DV
  | [.i r, .i c, .l l] => .tup [.bool ((P7 r c l).1), .int .i64 ((P7 r c l).2)]
  | _ => .undef
def solve.Flat.spec : Entry := entry [.st [.i .i64, .i .i64, .s .u64]] solve.Flat.pre solve.Flat.out
def qr.Fc.pre : List Atom → Bool
  | [.i _r, .i _c, .l l, .i _p, .i _q, .l m] => Al l && Al m
  | _ => false
def qr.Fc.out : List Atom → DV
  | [.i r, .i c, .l l, .i p, .i q, .l m] => .tup [.agg [.int .i64 ((Dj r c l p q m).1), .int .i64 ((Dj r c l p q m).2.1), .ints .fresh .u64 ((Dj r c l p q m).2.2.1)], .int .i64 ((Dj r c l p q m).2.2.2)]
  | _ => .undef
def qr.Fc.spec : Entry := entry [.st [.i .i64, .i .i64, .s .u64], .st [.i .i64, .i .i64, .s .u64]] qr.Fc.pre qr.Fc.out
def Ai.Div.pre : List Atom → Bool
  | [.i a, .i b] => Ag a && Ag b
  | _ => false
def Ai.Div.out : List Atom → DV
  | [.i a, .i b] => .int .u64 (Ex a b)
  | _ => .undef
def Ai.Div.spec : Entry := entry [.i .u64, .i .u64] Ai.Div.pre Ai.Div.out
def Ai.Finite.pre : List Atom → Bool
  | [.l x] => Cp x
  | _ => false
def Ai.Finite.out : List Atom → DV
  | [.l x] => .bool (Dl x)
  | _ => .undef
def Ai.Finite.spec : Entry := entry [.s .u64] Ai.Finite.pre Ai.Finite.out
def Gp.Check.pre : List Atom → Bool
  | [.i _r, .i _c, .l l] => Al l
  | _ => false
def Gp.Check.out : List Atom → DV
  | [.i r, .i c, .l l] => .int .i64 (C5 r c l)
  | _ => .undef
def Gp.Check.spec : Entry := entry [.st [.i .i64, .i .i64, .s .u64]] Gp.Check.pre Gp.Check.out
def A2.Check.pre : List Atom → Bool
  | [.i _r, .i _c, .l l, .i _p, .i _q, .l m] => Al l && Al m
  | _ => false
def A2.Check.out : List Atom → DV
  | [.i r, .i c, .l l, .i p, .i q, .l m] => .int .i64 (Qf r c l p q m)
  | _ => .undef
def A2.Check.spec : Entry := entry [.st [.i .i64, .i .i64, .s .u64], .st [.i .i64, .i .i64, .s .u64]] A2.Check.pre A2.Check.out
def A2.finite.pre : List Atom → Bool
  | [.i r, .i c, .l l] => Al l && A9 r c l
  | _ => false
def A2.finite.out : List Atom → DV
  | [.i r, .i c, .l l] => .tup [.agg [.int .i64 ((Lt r c l).1), .int .i64 ((Lt r c l).2.1), .ints .arg .u64 ((Lt r c l).2.2.1)], .int .i64 ((Lt r c l).2.2.2)]
  | _ => .undef
def A2.finite.spec : Entry := entry [.st [.i .i64, .i .i64, .s .u64]] A2.finite.pre A2.finite.out
def A2.Cj.pre : List Atom → Bool
  | [.i _r, .i _c, .l l, .i _p, .i _q, .l m] => Al l && Al m
  | _ => false
def A2.Cj.out : List Atom → DV
  | [.i r, .i c, .l l, .i p, .i q, .l m] => .tup [.agg [.int .i64 ((Wh r c l p q m).1), .int .i64 ((Wh r c l p q m).2.1), .ints .arg .u64 ((Wh r c l p q m).2.2.1)], .int .i64 ((Wh r c l p q m).2.2.2)]
  | _ => .undef
def A2.Cj.spec : Entry := entry [.st [.i .i64, .i .i64, .s .u64], .st [.i .i64, .i .i64, .s .u64]] A2.Cj.pre A2.Cj.out
def math.G6.pre : List Atom → Bool
  | [.f _x] => true
  | _ => false
def math.G6.out : List Atom → DV
  | [.f x] => .fl (Gl x)
  | _ => .undef
def math.G6.spec : Entry := entry [.fl] math.G6.pre math.G6.out
def math.Hs.pre : List Atom → Bool
  | [.f x] => Sm x
  | _ => false
def math.Hs.out : List Atom → DV
  | [.f x] => .bool (decide (Aj x = 4))
  | _ => .undef
def math.Hs.spec : Entry := entry [.fl] math.Hs.pre math.Hs.out
def math.Ht.pre : List Atom → Bool
  | [.f x, .i s] => Sm x && decide (s = 0)
  | _ => false
def math.Ht.out : List Atom → DV
  | [.f x, .i _s] => .bool (decide (Aj x = 3))
  | _ => .undef
def math.Ht.spec : Entry := entry [.fl, .i .i64] math.Ht.pre math.Ht.out
def math.normalize.pre : List Atom → Bool
  | [.f x] => Aec x
  | _ => false
def math.normalize.out : List Atom → DV
  | [.f x] => .tup [.fl (Ln x), .int .i64 (Ig x)]
  | _ => .undef
def math.normalize.spec : Entry := entry [.fl] math.normalize.pre math.normalize.out
def math.Dt.pre : List Atom → Bool
  | [.f x, .f y] => Aec y && decide (x = 0)
  | _ => false
def math.Dt.out : List Atom → DV
  | [.f _x, .f y] => .fl (Bi (Bq y) 0)
  | _ => .undef
def math.Dt.spec : Entry := entry [.fl, .fl] math.Dt.pre math.Dt.out
def math.We.pre : List Atom → Bool
  | [.i _s] => true
  | _ => false
def math.We.out : List Atom → DV
  | [.i s] => .fl (Bi (decide (s < 0)) Dv)
  | _ => .undef
def math.We.spec : Entry := entry [.i .i64] math.We.pre math.We.out
def math.Gt.pre : List Atom → Bool
  | [.f x, .i k] => Sm x && C3 (-2300 ≤ k ∧ k ≤ 2300)
  | _ => false
def math.Gt.out : List Atom → DV
  | [.f x, .i k] => .fl (H3 x k)
  | _ => .undef
def math.Gt.spec : Entry := entry [.fl, .i .i64] math.Gt.pre math.Gt.out
def math.H9.pre : List Atom → Bool
  | [.f x, .i k] => Sm x && C3 (-2300 ≤ k ∧ k ≤ 2300)
  | _ => false
def math.H9.out : List Atom → DV
  | [.f x, .i k] => .fl (H3 x k)
  | _ => .undef
def math.H9.spec : Entry := entry [.fl, .i .i64] math.H9.pre math.H9.out
def Ai.Bp.pre : List Atom → Bool
  | [.i a, .i k] => C4 a k
  | _ => false
def Ai.Bp.out : List Atom → DV
  | [.i a, .i k] => .int .u64 (Bu a k)
  | _ => .undef
def Ai.Bp.spec : Entry := entry [.i .u64, .i .i64] Ai.Bp.pre Ai.Bp.out
def Bn.ends.pre : List Atom → Bool
  | [.i b] => Ag b
  | _ => false
def Bn.ends.out : List Atom → DV
  | [.i b] => .int .i64 (Qa b)
  | _ => .undef
def Bn.ends.spec : Entry := entry [.i .u64] Bn.ends.pre Bn.ends.out
def Bn.Order.pre : List Atom → Bool
  | [.i a, .i b] => Ag a && Ag b
  | _ => false
def Bn.Order.out : List Atom → DV
  | [.i a, .i b] => .tup [.int .i64 (R4 a b), .bool (Zr a b)]
  | _ => .undef
def Bn.Order.spec : Entry := entry [.i .u64, .i .u64] Bn.Order.pre Bn.Order.out
def Bn.G6.pre : List Atom → Bool
  | [.i a] => Ag a
  | _ => false
def Bn.G6.out : List Atom → DV
  | [.i a] => .int .u64 (Ir a)
  | _ => .undef
def Bn.G6.spec : Entry := entry [.i .u64] Bn.G6.pre Bn.G6.out
def Bn.Max.pre : List Atom → Bool
  | [.i a, .i b] => Ag a && Ag b
  | _ => false
def Bn.Max.out : List Atom → DV
  | [.i a, .i b] => .int .u64 (N4 a b)
  | _ => .undef
def Bn.Max.spec : Entry := entry [.i .u64, .i .u64] Bn.Max.pre Bn.Max.out
def A2.Flat.pre : List Atom → Bool
  | [.i r, .i c, .l l] => (A9 r c l && Al l) && Dl l
  | _ => false
def A2.Flat.out : List Atom → DV
  | [.i r, .i c, .l l] => .bool (P8 r c l)
  | _ => .undef
def A2.Flat.spec : Entry := entry [.st [.i .i64, .i .i64, .s .u64]] A2.Flat.pre A2.Flat.out
def root.Ga.pre : List Atom → Bool
  | [.i m] => C3 (0 ≤ m ∧ m < 9223372036854775808)
  | _ => false
def root.Ga.out : List Atom → DV
  | [.i m] => .tup [.int .u64 (Tq m), .bool (Tr m)]
  | _ => .undef
def root.Ga.spec : Entry := entry [.i .u64] root.Ga.pre root.Ga.out
def root.Sqrt.pre : List Atom → Bool
  | [.i a] => Ag a
  | _ => false
def root.Sqrt.out : List Atom → DV
  | [.i a] => .tup [.int .u64 (E9 a), .int .u8 (Pp a)]
  | _ => .undef
def root.Sqrt.spec : Entry := entry [.i .u64] root.Sqrt.pre root.Sqrt.out
def Ae.Sqrt.pre : List Atom → Bool
  | [.i a] => Ag a
  | _ => false
def Ae.Sqrt.out : List Atom → DV
  | [.i a] => .int .u64 (E9 a)
  | _ => .undef
def Ae.Sqrt.spec : Entry := entry [.i .u64] Ae.Sqrt.pre Ae.Sqrt.out
def compare.K8.pre : List Atom → Bool
  | [.i a] => Ag a
  | _ => false
def compare.K8.out : List Atom → DV
  | [.i a] => .int .i64 (Bo a)
  | _ => .undef
def compare.K8.spec : Entry := entry [.i .u64] compare.K8.pre compare.K8.out
def Ae.Norm.pre : List Atom → Bool
  | [.l x] => Cp x && C3 (List.length x ≤ 64)
  | _ => false
def Ae.Norm.out : List Atom → DV
  | [.l x] => .tup [.int .u64 (C9 x), .int .i64 (0 : Int)]
  | _ => .undef
def Ae.Norm.spec : Entry := entry [.s .u64] Ae.Norm.pre Ae.Norm.out
def Aq.Bv.pre : List Atom → Bool
  | [.l x] => Cp x
  | _ => false
def Aq.Bv.out : List Atom → DV
  | [.l x] => .bool (Dx x)
  | _ => .undef
def Aq.Bv.spec : Entry := entry [.s .u64] Aq.Bv.pre Aq.Bv.out
def Aq.lead.pre : List Atom → Bool
  | [.l x] => Cp x
  | _ => false
def Aq.lead.out : List Atom → DV
  | [.l x] => .int .u64 (N6 x)
  | _ => .undef
def Aq.lead.spec : Entry := entry [.s .u64] Aq.lead.pre Aq.lead.out
def Aq.Da.pre : List Atom → Bool
  | [.l x, .i k] => Cp x && C3 (List.length x ≤ 1000 ∧ -2300 ≤ k ∧ k ≤ 2300)
  | _ => false
def Aq.Da.out : List Atom → DV
  | [.l x, .i k] => .ints .fresh .u64 (Bl x k)
  | _ => .undef
def Aq.Da.spec : Entry := entry [.s .u64, .i .i64] Aq.Da.pre Aq.Da.out
def Aq.Fi.pre : List Atom → Bool
  | [.i _i] => true
  | _ => false
def Aq.Fi.out : List Atom → DV
  | [.i _i] => .int .u64 (0 : Int)
  | _ => .undef
def Aq.Fi.spec : Entry := entry [.i .i64] Aq.Fi.pre Aq.Fi.out
def Aq.Fh.pre : List Atom → Bool
  | [.i i, .l y, .i d] => (C3 (0 ≤ i ∧ i < List.length y) && Al y) && Ag d
  | _ => false
def Aq.Fh.out : List Atom → DV
  | [.i i, .l y, .i d] => .int .u64 (Ex (List.getD y (Int.toNat i) 0) d)
  | _ => .undef
def Aq.Fh.spec : Entry := entry [.i .i64, .cp [.s .u64], .cp [.i .u64]] Aq.Fh.pre Aq.Fh.out
def Aq.row.Zero.pre : List Atom → Bool
  | [.i n] => C3 (1 ≤ n ∧ n ≤ 64)
  | _ => false
def Aq.row.Zero.out : List Atom → DV
  | [.i n] => .ints .fresh .u64 (Ip (Int.toNat n) (fun _ => 0))
  | _ => .undef
def Aq.row.Zero.spec : Entry := entry [.i .i64, .fn 254 []] Aq.row.Zero.pre Aq.row.Zero.out
def Aq.row.Div.pre : List Atom → Bool
  | [.i n, .l y, .i d] => (C3 (1 ≤ n ∧ n ≤ 64 ∧ n = List.length y) && Al y) && Ag d
  | _ => false
def Aq.row.Div.out : List Atom → DV
  | [.i n, .l y, .i d] => .ints .fresh .u64 (Ip (Int.toNat n) (fun j => Ex (List.getD y j 0) d))
  | _ => .undef
def Aq.row.Div.spec : Entry := entry [.i .i64, .fn 259 [.cp [.s .u64], .cp [.i .u64]]] Aq.row.Div.pre Aq.row.Div.out
def Aq.Df.pre : List Atom → Bool
  | [.l x] => Cp x
  | _ => false
def Aq.Df.out : List Atom → DV
  | [.l x] => .tup [.ints .fresh .u64 ((Ce x).1), .int .u64 ((Ce x).2.1), .int .u64 ((Ce x).2.2.1), .int .i64 ((Ce x).2.2.2)]
  | _ => .undef
def Aq.Df.spec : Entry := entry [.s .u64] Aq.Df.pre Aq.Df.out
def Aq.Apply.pre : List Atom → Bool
  | [.i r, .i c, .l l, .i i, .i k, .l v, .i t] => ((A9 r c l && G2 r c i k v) && (Al l && Al v)) && Ag t
  | _ => false
def Aq.Apply.out : List Atom → DV
  | [.i r, .i c, .l l, .i i, .i k, .l v, .i t] => .tup [.agg [.int .i64 r, .int .i64 c, .ints (.own 114002 37) .u64 (Et (Int.toNat r) (Int.toNat c) l i k v t)], .int .i64 (0 : Int)]
  | _ => .undef
def Aq.Apply.spec : Entry := entry [.st [.i .i64, .i .i64, .s .u64], .i .i64, .i .i64, .s .u64, .i .u64] Aq.Apply.pre Aq.Apply.out
def qr.down.pre : List Atom → Bool
  | [.i r, .i c, .l l] => (A9 r c l && Dl l) && Al l
  | _ => false
def qr.down.out : List Atom → DV
  | [.i r, .i c, .l l] => .tup [.agg [.int .i64 ((Fo r c l).1), .int .i64 ((Fo r c l).2.1), .ints .arg .u64 ((Fo r c l).2.2.1)], .recs .fresh 2 (Kf r c l), .int .i64 ((Fo r c l).2.2.2)]
  | _ => .undef
def qr.down.spec : Entry := entry [.st [.i .i64, .i .i64, .s .u64]] qr.down.pre qr.down.out
def qr.By.pre : List Atom → Bool
  | [.i _r, .i _c, .l l] => Al l
  | _ => false
def qr.By.out : List Atom → DV
  | [.i r, .i c, .l l] => .tup [.agg [.int .i64 ((qX r c l).1), .int .i64 ((qX r c l).2.1), .ints .arg .u64 ((qX r c l).2.2.1)], .agg [.int .i64 ((rX r c l).1), .int .i64 ((rX r c l).2.1), .ints .arg .u64 ((rX r c l).2.2.1)], .int .i64 (Ez r c l)]
  | _ => .undef
def qr.By.spec : Entry := entry [.st [.i .i64, .i .i64, .s .u64]] qr.By.pre qr.By.out
def qr.Fs.pre : List Atom → Bool
  | [.i _r, .i _c, .l l] => Al l
  | _ => false
def qr.Fs.out : List Atom → DV
  | [.i r, .i c, .l l] => .tup [.agg [.int .i64 ((Du r c l).1), .int .i64 ((Du r c l).2.1), .ints .fresh .u64 ((Du r c l).2.2.1)], .agg [.int .i64 ((Hv r c l).1), .int .i64 ((Hv r c l).2.1), .ints .fresh .u64 ((Hv r c l).2.2.1)], .int .i64 (Ez r c l)]
  | _ => .undef
def qr.Fs.spec : Entry := entry [.st [.i .i64, .i .i64, .s .u64]] qr.Fs.pre qr.Fs.out
def solve.Dq.pre : List Atom → Bool
  | [.i _r, .i _c, .l l, .i _p, .i _q, .l m] => Al l && Al m
  | _ => false
def solve.Dq.out : List Atom → DV
  | [.i r, .i c, .l l, .i p, .i q, .l m] => .tup [.agg [.int .i64 ((B6 r c l p q m).1), .int .i64 ((B6 r c l p q m).2.1), .ints .fresh .u64 ((B6 r c l p q m).2.2.1)], .int .i64 ((B6 r c l p q m).2.2.2)]
  | _ => .undef
def solve.Dq.spec : Entry := entry [.st [.i .i64, .i .i64, .s .u64], .st [.i .i64, .i .i64, .s .u64]] solve.Dq.pre solve.Dq.out
def Bn.K8.pre : List Atom → Bool
  | [.i a] => Ag a
  | _ => false
def Bn.K8.out : List Atom → DV
  | [.i a] => .int .i64 (Bo a)
  | _ => .undef
def Bn.K8.spec : Entry := entry [.i .u64] Bn.K8.pre Bn.K8.out
def Ai.Bm.pre : List Atom → Bool
  | [.l x] => Cp x
  | _ => false
def Ai.Bm.out : List Atom → DV
  | [.l x] => .int .u64 (Be x)
  | _ => .undef
def Ai.Bm.spec : Entry := entry [.s .u64] Ai.Bm.pre Ai.Bm.out
def math.Sqrt.pre : List Atom → Bool
  | [.f _x] => true
  | _ => false
def math.Sqrt.out : List Atom → DV
  | [.f x] => .fl (((Ieee.double.sqrt x).getD nanBits))
  | _ => .undef
def math.Sqrt.spec : Entry := entry [.fl] math.Sqrt.pre math.Sqrt.out
def Ai.Sqrt.pre : List Atom → Bool
  | [.i a] => Ag a
  | _ => false
def Ai.Sqrt.out : List Atom → DV
  | [.i a] => .int .u64 (E9 a)
  | _ => .undef
def Ai.Sqrt.spec : Entry := entry [.i .u64] Ai.Sqrt.pre Ai.Sqrt.out
def Ai.Norm.pre : List Atom → Bool
  | [.l x] => Cp x
  | _ => false
def Ai.Norm.out : List Atom → DV
  | [.l x] => .int .u64 (C9 x)
  | _ => .undef
def Ai.Norm.spec : Entry := entry [.s .u64] Ai.Norm.pre Ai.Norm.out
def A6.Bv.pre : List Atom → Bool
  | [.l x] => Cp x
  | _ => false
def A6.Bv.out : List Atom → DV
  | [.l x] => .bool (Dx (List.drop 1 x))
  | _ => .undef
def A6.Bv.spec : Entry := entry [.s .u64] A6.Bv.pre A6.Bv.out
def A6.lead.pre : List Atom → Bool
  | [.l x] => Cp x
  | _ => false
def A6.lead.out : List Atom → DV
  | [.l x] => .int .i64 (Pe x 0)
  | _ => .undef
def A6.lead.spec : Entry := entry [.s .u64] A6.lead.pre A6.lead.out
def A6.Df.pre : List Atom → Bool
  | [.l x] => Cp x && C3 (1 ≤ List.length x ∧ List.length x ≤ 64)
  | _ => false
def A6.Df.out : List Atom → DV
  | [.l x] => .tup [.agg [.ints .fresh .u64 ((I4 x).1), .int .u64 ((I4 x).2.1), .int .u64 ((I4 x).2.2.1)], .bool (decide ((I4 x).2.2.2 = 0))]
  | _ => .undef
def A6.Df.spec : Entry := entry [.s .u64] A6.Df.pre A6.Df.out
def A6.Apply.pre : List Atom → Bool
  | [.i r, .i c, .l l, .i i, .i k, .l v, .i t] => ((A9 r c l && G2 r c i k v) && (Al l && Al v)) && Ag t
  | _ => false
def A6.Apply.out : List Atom → DV
  | [.i r, .i c, .l l, .i i, .i k, .l v, .i t] => .agg [.int .i64 r, .int .i64 c, .ints .arg .u64 (Et (Int.toNat r) (Int.toNat c) l i k v t)]
  | _ => .undef
def A6.Apply.spec : Entry := entry [.st [.i .i64, .i .i64, .s .u64], .i .i64, .i .i64, .s .u64, .i .u64] A6.Apply.pre A6.Apply.out
def B4.Db.pre : List Atom → Bool
  | [.i r, .i c, .l l, .i j, .i _b] => A9 r c l && C3 (0 ≤ j ∧ j < r ∧ j < c)
  | _ => false
def B4.Db.out : List Atom → DV
  | [.i r, .i c, .l l, .i j, .i b] => .agg [.int .i64 r, .int .i64 c, .ints .arg .u64 (Mk (Int.toNat r) (Int.toNat c) l (Int.toNat j) b)]
  | _ => .undef
def B4.Db.spec : Entry := entry [.st [.i .i64, .i .i64, .s .u64], .i .i64, .i .u64] B4.Db.pre B4.Db.out
def B4.By.pre : List Atom → Bool
  | [.i r, .i c, .l l] => (A9 r c l && Dl l) && Al l
  | _ => false
def B4.By.out : List Atom → DV
  | [.i r, .i c, .l l] => .agg [.int .i64 ((qX r c l).1), .int .i64 ((qX r c l).2.1), .ints .arg .u64 ((qX r c l).2.2.1), .int .i64 ((rX r c l).1), .int .i64 ((rX r c l).2.1), .ints .arg .u64 ((rX r c l).2.2.1), .bool (decide (Ez r c l = 0))]
  | _ => .undef
def B4.By.spec : Entry := entry [.st [.i .i64, .i .i64, .s .u64]] B4.By.pre B4.By.out
def B4.Fs.pre : List Atom → Bool
  | [.i r, .i c, .l l] => (A9 r c l && Dl l) && Al l
  | _ => false
def B4.Fs.out : List Atom → DV
  | [.i r, .i c, .l l] => .agg [.int .i64 ((Du r c l).1), .int .i64 ((Du r c l).2.1), .ints .arg .u64 ((Du r c l).2.2.1), .int .i64 ((Hv r c l).1), .int .i64 ((Hv r c l).2.1), .ints .arg .u64 ((Hv r c l).2.2.1), .bool (decide (Ez r c l = 0))]
  | _ => .undef
def B4.Fs.spec : Entry := entry [.st [.i .i64, .i .i64, .s .u64]] B4.Fs.pre B4.Fs.out
def A2.Dq.pre : List Atom → Bool
  | [.i _r, .i _c, .l l, .i _p, .i _q, .l m] => Al l && Al m
  | _ => false
def A2.Dq.out : List Atom → DV
  | [.i r, .i c, .l l, .i p, .i q, .l m] => .tup [.agg [.int .i64 ((B6 r c l p q m).1), .int .i64 ((B6 r c l p q m).2.1), .ints .arg .u64 ((B6 r c l p q m).2.2.1)], .int .i64 ((B6 r c l p q m).2.2.2)]
  | _ => .undef
def A2.Dq.spec : Entry := entry [.st [.i .i64, .i .i64, .s .u64], .st [.i .i64, .i .i64, .s .u64]] A2.Dq.pre A2.Dq.out
def Ah.Mp.own.pre : List Atom → Bool
  | [.i _r, .i _c, .l l] => Gr l
  | _ => false
def Ah.Mp.own.out : List Atom → DV
  | [.i r, .i c, .l l] => .agg [.int .i64 r, .int .i64 c, .ints (.own 10 37) .u64 l]
  | _ => .undef
def Ah.Mp.own.spec : Entry := entry [.st [.i .i64, .i .i64, .s .u64]] Ah.Mp.own.pre Ah.Mp.own.out
def B9.Bk.pre : List Atom → Bool
  | [.i _r, .i _c, .l l, .i _p, .i _q, .l m] => (Al l && Al m) && (Gr l && Gr m)
  | _ => false
def B9.Bk.out : List Atom → DV
  | [.i _r, .i _c, .l _l, .i _p, .i _q, .l _m] => .bool true
  | _ => .undef
def B9.Bk.spec : Entry := entry [.st [.i .i64, .i .i64, .s .u64], .st [.i .i64, .i .i64, .s .u64]] B9.Bk.pre B9.Bk.out
def B9.same.pre : List Atom → Bool
  | [.i _r, .i _c, .l l, .i _e, .i _p, .i _q, .l _m, .i _f] => Gr l
  | _ => false
def B9.same.out : List Atom → DV
  | [.i r, .i c, .l l, .i e, .i p, .i q, .l m, .i f] => .bool (decide (e = f) && Im r c l p q m)
  | _ => .undef
def B9.same.spec : Entry := entry [.st [.i .i64, .i .i64, .s .u64], .i .i64, .st [.i .i64, .i .i64, .s .u64], .i .i64] B9.same.pre B9.same.out
def B9.Ho.pre : List Atom → Bool
  | [] => true
  | _ => false
def B9.Ho.out : List Atom → DV
  | [] => .bool true
  | _ => .undef
def B9.Ho.spec : Entry := entry [] B9.Ho.pre B9.Ho.out
def Ah.Fq.arg.pre : List Atom → Bool
  | [.i r, .i c, .l l, .i i, .i k, .i _b] => Cy r c l i k
  | _ => false
def Ah.Fq.arg.out : List Atom → DV
  | [.i r, .i c, .l l, .i i, .i k, .i b] => .agg [.int .i64 r, .int .i64 c, .ints .arg .u64 (List.set l (Int.toNat (i * c + k)) b)]
  | _ => .undef
def Ah.Fq.arg.spec : Entry := entry [.st [.i .i64, .i .i64, .s .u64], .i .i64, .i .i64, .i .u64] Ah.Fq.arg.pre Ah.Fq.arg.out
def Ah.Eh.arg.pre : List Atom → Bool
  | [.i n] => Bw n
  | _ => false
def Ah.Eh.arg.out : List Atom → DV
  | [.i n] => .agg [.int .i64 n, .int .i64 n, .ints .arg .u64 (Ih (Int.toNat n))]
  | _ => .undef
def Ah.Eh.arg.spec : Entry := entry [.i .i64] Ah.Eh.arg.pre Ah.Eh.arg.out
def Ek.Canon.nb.pre : List Atom → Bool
  | [.f _x] => true
  | _ => false
def Ek.Canon.nb.out : List Atom → DV
  | [.f x] => .int .u64 (Fb x)
  | _ => .undef
def Ek.Canon.nb.spec : Entry := entry [.nb] Ek.Canon.nb.pre Ek.Canon.nb.out
def Cq.K5.pre : List Atom → Bool
  | [.i x] => Ag x
  | _ => false
def Cq.K5.out : List Atom → DV
  | [.i x] => .int .i64 (Eo x)
  | _ => .undef
def Cq.K5.spec : Entry := entry [.i .u64] Cq.K5.pre Cq.K5.out
open Go Go.Den Go.Rnd Go.Proofs
set_option maxRecDepth 100000
namespace EqSoft
theorem E3 : ∀ a b c : Bool, ((a == a) && (b && (c && true))) = (b && c) := by decide
theorem Jn : ∀ a b : Bool, (bif a then b else false) = (a && b) := by decide
theorem Iw : ∀ a : Bool, (((!a) || (a == true)) && true) = true := by decide
theorem Ia : ∀ a : Bool, ((!(a == true)) || ((((!(a == true)) || (a == true)) && true) && true)) = true := by decide
theorem Gd : ∀ a : Bool, ((!(a == true)) || true) = true := by decide
theorem Jg : ∀ a b : Bool, (bif a then true else b) = (a || b) := by decide
theorem Ld : ∀ a : Bool, ((!(!a)) || (a == false)) = true := by decide
theorem Lx : ∀ a : Bool, ((!(a == false)) || ((((!(a == false)) || (a == false)) && true) && true)) = true := by decide
theorem Pm : ∀ a : Bool, ((!(a == false)) || ((((!(a == false)) || (a == false)) && (((!(a == false)) || (a == false)) && true)) && true)) = true := by decide
theorem Sp : ∀ a : Bool, ((!(a == false)) || true) = true := by decide
theorem Hx : ∀ a : Bool, (a && true) = a := by decide
theorem I1 : ∀ a b c d e : Bool, (bif a then (bif b then true else (bif c then (bif d then true else e) else false)) else false) = (a && (b || (c && (d || e)))) := by decide
theorem J9 : ∀ a b : Bool, ((!(a == true)) || (((!(a == true)) || (a == true)) && ((!(!b)) || ((a == true) && (b == false))))) = true := by decide
theorem Mr : ∀ a b c : Bool, ((!((a == true) && (b == false))) || (((!((a == true) && (b == false))) || ((a == true) && (b == false))) && (((!c) || (((a == true) && (b == false)) && (c == true))) && true))) = true := by decide
theorem Oi : ∀ a b c d : Bool, ((!(((a == true) && (b == false)) && (c == true))) || (((!(((a == true) && (b == false)) && (c == true))) || (((a == true) && (b == false)) && (c == true))) && ((!(!d)) || ((((a == true) && (b == false)) && (c == true)) && (d == false))))) = true := by decide
theorem Jh : ∀ a b c d : Bool, ((!((((a == true) && (b == false)) && (c == true)) && (d == false))) || ((((!((((a == true) && (b == false)) && (c == true)) && (d == false))) || ((((a == true) && (b == false)) && (c == true)) && (d == false))) && true) && true)) = true := by decide
theorem Pn : ∀ a b c d : Bool, ((!((((a == true) && (b == false)) && (c == true)) && (d == false))) || true) = true := by decide
theorem Afa : ∀ a b c : Bool, ((!(((a == true) && (b == false)) && (c == true))) || ((((!(((a == true) && (b == false)) && (c == true))) || (((a == true) && (b == false)) && (c == true))) && true) && true)) = true := by decide
theorem Ah8 : ∀ a b c : Bool, ((!(((a == true) && (b == false)) && (c == true))) || true) = true := by decide
theorem Ae9 : ∀ a b : Bool, ((!((a == true) && (b == false))) || ((((!((a == true) && (b == false))) || ((a == true) && (b == false))) && true) && true)) = true := by decide
theorem Akt : ∀ a b : Bool, ((!((a == true) && (b == false))) || ((((!((a == true) && (b == false))) || ((a == true) && (b == false))) && (((!((a == true) && (b == false))) || ((a == true) && (b == false))) && true)) && true)) = true := by decide
theorem Aks : ∀ a b : Bool, ((!((a == true) && (b == false))) || true) = true := by decide
theorem Aqq : ∀ a : Bool, ((!(a == true)) || ((((!(a == true)) || (a == true)) && (((!(a == true)) || (a == true)) && true)) && true)) = true := by decide
theorem Aqp : ∀ a b : Bool, (bif (!a) then true else b) = ((!a) || b) := by decide
theorem Aqo : ∀ a : Bool, ((!(!(!a))) || ((!a) == false)) = true := by decide
theorem An6 : ∀ a : Bool, ((!((!a) == false)) || ((((!((!a) == false)) || ((!a) == false)) && true) && true)) = true := by decide
theorem Aqn : ∀ a : Bool, ((!((!a) == false)) || true) = true := by decide
theorem Aqm : ∀ a b : Bool, (bif a then (!b) else false) = (a && (!b)) := by decide
def soft.Split.A7 : List (Nat × Entry) := []
def soft.Split.E : Env := Bb (A5 soft.Split.A7) (fun _ => false) (fun _ => none) (fun _ => none)
theorem soft.Split.ev (N : Nat) (x : Int) : Bx soft.Split.E N Tryz.f206 (An Tryz.f206) [.int .u64 x] = some (.agg [.bool ((C8 .u64 x (63 : Int)) == (1 : Int)), .int .i64 (Ab (Eg .u64 (C8 .u64 x (52 : Int)) (2047 : Int))), .int .u64 (Eg .u64 x (4503599627370495 : Int))]) := by kernel_rfl
abbrev _root_.Go.Proofs.S1.soft.Split.Kn := A3 Tryz.prog 206 soft.Split.spec
theorem soft.Split.Ac (hk : Ay Tryz.prog soft.Split.A7) (h : ∀ (x : Int), soft.Split.pre [.i x] = true → Bc soft.Split.E Tryz.f206 [.int .u64 x] (soft.Split.out [.i x])) : soft.Split.Kn :=
  Ak (Az hk _ _ _) Tryz.func206 (by kernel_rfl) (by kernel_rfl) h
def soft.Kind.A7 : List (Nat × Entry) := [(206, soft.Split.spec)]
def soft.Kind.E : Env := Bb (A5 soft.Kind.A7) (fun _ => false) (fun _ => none) (fun _ => none)
theorem soft.Kind.ev (N : Nat) (x : Int) : Bx soft.Kind.E N Tryz.f155 (An Tryz.f155) [.int .u64 x] = bif (Ag x) then bif (((K9 x) == (2047 : Int)) && ((Cr x) == (0 : Int))) then some (.int .i64 3) else bif ((K9 x) == (2047 : Int)) then some (.int .i64 4) else bif (A4 (0 : Int) (K9 x)) then some (.int .i64 2) else bif (A4 (0 : Int) (Cr x)) then some (.int .i64 1) else some (.int .i64 0) else none :=
  Eq.trans (by kernel_rfl)
  (Ee (Cx (E3 (Dh x) ((K9 x) == (2047 : Int)) ((Cr x) == (0 : Int))) rfl rfl) rfl)
abbrev _root_.Go.Proofs.S1.soft.Kind.Kn := A3 Tryz.prog 155 soft.Kind.spec
theorem soft.Kind.Ac (hk : Ay Tryz.prog soft.Kind.A7) (h : ∀ (x : Int), soft.Kind.pre [.i x] = true → Bc soft.Kind.E Tryz.f155 [.int .u64 x] (soft.Kind.out [.i x])) : soft.Kind.Kn :=
  Ak (Az hk _ _ _) Tryz.func155 (by kernel_rfl) (by kernel_rfl) h
def soft.Sign.A7 : List (Nat × Entry) := []
def soft.Sign.E : Env := Bb (A5 soft.Sign.A7) (fun _ => false) (fun _ => none) (fun _ => none)
theorem soft.Sign.ev (N : Nat) (x : Int) : Bx soft.Sign.E N Tryz.f213 (An Tryz.f213) [.int .u64 x] = some (.bool ((C8 .u64 x (63 : Int)) == (1 : Int))) := by kernel_rfl
abbrev _root_.Go.Proofs.S1.soft.Sign.Kn := A3 Tryz.prog 213 soft.Sign.spec
theorem soft.Sign.Ac (hk : Ay Tryz.prog soft.Sign.A7) (h : ∀ (x : Int), soft.Sign.pre [.i x] = true → Bc soft.Sign.E Tryz.f213 [.int .u64 x] (soft.Sign.out [.i x])) : soft.Sign.Kn :=
  Ak (Az hk _ _ _) Tryz.func213 (by kernel_rfl) (by kernel_rfl) h
def soft.Finite.A7 : List (Nat × Entry) := [(155, soft.Kind.spec)]
def soft.Finite.E : Env := Bb (A5 soft.Finite.A7) (fun _ => false) (fun _ => none) (fun _ => none)
theorem soft.Finite.ev (N : Nat) (x : Int) : Bx soft.Finite.E N Tryz.f148 (An Tryz.f148) [.int .u64 x] = bif (Ag x) then bif ((Bd x) == (3 : Int)) then some (.bool false) else bif ((Bd x) == (4 : Int)) then some (.bool false) else some (.bool true) else none := by kernel_rfl
abbrev _root_.Go.Proofs.S1.soft.Finite.Kn := A3 Tryz.prog 148 soft.Finite.spec
theorem soft.Finite.Ac (hk : Ay Tryz.prog soft.Finite.A7) (h : ∀ (x : Int), soft.Finite.pre [.i x] = true → Bc soft.Finite.E Tryz.f148 [.int .u64 x] (soft.Finite.out [.i x])) : soft.Finite.Kn :=
  Ak (Az hk _ _ _) Tryz.func148 (by kernel_rfl) (by kernel_rfl) h
def soft.De.A7 : List (Nat × Entry) := []
def soft.De.E : Env := Bb (A5 soft.De.A7) (fun _ => false) (fun _ => none) (fun _ => none)
theorem soft.De.ev (N : Nat) (x : Int) : Bx soft.De.E N Tryz.f233 (An Tryz.f233) [.int .u64 x] = some (.int .u64 (Apu .u64 x (9223372036854775808 : Int))) := by kernel_rfl
abbrev _root_.Go.Proofs.S1.soft.De.Kn := A3 Tryz.prog 233 soft.De.spec
theorem soft.De.Ac (hk : Ay Tryz.prog soft.De.A7) (h : ∀ (x : Int), soft.De.pre [.i x] = true → Bc soft.De.E Tryz.f233 [.int .u64 x] (soft.De.out [.i x])) : soft.De.Kn :=
  Ak (Az hk _ _ _) Tryz.func233 (by kernel_rfl) (by kernel_rfl) h
def soft.Fp.A7 : List (Nat × Entry) := [(206, soft.Split.spec)]
def soft.Fp.E : Env := Bb (A5 soft.Fp.A7) (fun _ => false) (fun _ => none) (fun _ => none)
theorem soft.Fp.ev (N : Nat) (x : Int) : Bx soft.Fp.E N Tryz.f211 (An Tryz.f211) [.int .u64 x] = bif (Ag x) then bif ((K9 x) == (0 : Int)) then some (.tup [.int .u64 (Cr x), .int .i64 (-1074 : Int)]) else some (.tup [.int .u64 (Hn .u64 (Cr x) (4503599627370496 : Int)), .int .i64 (Ab ((K9 x) - (1075 : Int)))]) else none := by kernel_rfl
abbrev _root_.Go.Proofs.S1.soft.Fp.Kn := A3 Tryz.prog 211 soft.Fp.spec
theorem soft.Fp.Ac (hk : Ay Tryz.prog soft.Fp.A7) (h : ∀ (x : Int), soft.Fp.pre [.i x] = true → Bc soft.Fp.E Tryz.f211 [.int .u64 x] (soft.Fp.out [.i x])) : soft.Fp.Kn :=
  Ak (Az hk _ _ _) Tryz.func211 (by kernel_rfl) (by kernel_rfl) h
def soft.Pack.A7 : List (Nat × Entry) := [(233, soft.De.spec)]
def soft.Pack.E (rk : Nat) : Env := Bb (A5 ((239, Aip [.b, .i .u64, .i .i64] soft.Pack.pre soft.Pack.out soft.Pack.mu rk) :: soft.Pack.A7)) (fun _ => false) (fun _ => none) (fun _ => none)
theorem soft.Pack.ev (N rk : Nat) (n : Bool) (m e : Int) : Bx (soft.Pack.E rk) N Tryz.f239 (An Tryz.f239) [.bool n, .int .u64 m, .int .i64 e] = bif (m == (0 : Int)) then bif n then bif (Ag (0 : Int)) then some (.int .u64 (Cz (0 : Int))) else none else some (.int .u64 0) else bif (D2 (9007199254740992 : Int) m) then bif ((Km (C8 .u64 m (1 : Int)) (Ab (e + (1 : Int)))) && (C3 ((Ou (C8 .u64 m (1 : Int)) (Ab (e + (1 : Int)))) < rk))) then some (.int .u64 (Tc n (C8 .u64 m (1 : Int)) (Ab (e + (1 : Int))))) else none else bif ((A4 m (4503599627370496 : Int)) && (A4 (-1074 : Int) e)) then bif ((Km (B2 .u64 m (1 : Int)) (Ab (e - (1 : Int)))) && (C3 ((Ou (B2 .u64 m (1 : Int)) (Ab (e - (1 : Int)))) < rk))) then some (.int .u64 (Tc n (B2 .u64 m (1 : Int)) (Ab (e - (1 : Int))))) else none else bif (A4 m (4503599627370496 : Int)) then bif n then bif (Ag m) then some (.int .u64 (Cz m)) else none else some (.int .u64 m) else bif (D2 (2047 : Int) (Ab (e + (1075 : Int)))) then bif n then bif (Ag (9218868437227405312 : Int)) then some (.int .u64 (Cz (9218868437227405312 : Int))) else none else some (.int .u64 9218868437227405312) else bif n then bif (Ag (Hn .u64 (B2 .u64 (Bh (Ab (e + (1075 : Int)))) (52 : Int)) (Eg .u64 m (4503599627370495 : Int)))) then some (.int .u64 (Cz (Hn .u64 (B2 .u64 (Bh (Ab (e + (1075 : Int)))) (52 : Int)) (Eg .u64 m (4503599627370495 : Int))))) else none else some (.int .u64 (Hn .u64 (B2 .u64 (Bh (Ab (e + (1075 : Int)))) (52 : Int)) (Eg .u64 m (4503599627370495 : Int)))) :=
  Eq.trans (by kernel_rfl)
  (Ee rfl (Ee rfl (Ax (Gd (A4 m (4503599627370496 : Int))) (Ax (Ia (A4 m (4503599627370496 : Int))) (Ax (Iw (A4 m (4503599627370496 : Int))) (Cx (Jn (A4 m (4503599627370496 : Int)) (A4 (-1074 : Int) e)) rfl rfl))))))
theorem soft.Pack.Ac (hk : Ay Tryz.prog soft.Pack.A7) (h : ∀ (rk : Nat) (n : Bool) (m e : Int), soft.Pack.pre [.b n, .i m, .i e] = true → soft.Pack.mu [.b n, .i m, .i e] < rk + 1 → ∃ N dv drops, Bx (soft.Pack.E rk) N Tryz.f239 (An Tryz.f239) [.bool n, .int .u64 m, .int .i64 e] = some dv ∧ Wk drops dv (soft.Pack.out [.b n, .i m, .i e])) : A3 Tryz.prog 239 soft.Pack.spec := by
  have call := Sj (f := 239) Tryz.func239 (by kernel_rfl) (show Tryz.f239.body = some (An Tryz.f239) by kernel_rfl)
  refine ⟨Afw (E := soft.Pack.E) Tryz.func239 (show Tryz.f239.body = some (An Tryz.f239) by kernel_rfl) soft.Pack.mu (fun rk hm => Az (.cons ⟨hm, call⟩ hk) _ _ _) fun rk ats dvs he hp hr => ?_, call⟩
  obtain ⟨n, _, _, rfl, rfl, he0⟩ := he.Asz
  obtain ⟨m, _, _, rfl, rfl, he1⟩ := he0.Aml
  obtain ⟨e, _, _, rfl, rfl, he2⟩ := he1.Aml
  obtain ⟨rfl, rfl⟩ := he2.Abj
  exact h rk n m e hp hr
abbrev _root_.Go.Proofs.S1.soft.Pack.Kn : Prop := A3 Tryz.prog 239 soft.Pack.spec
def soft.C6.hint : Nat → Option Ba
  | 0 => some { keep := [0, 1, 2, 3, 10], objs := [], boxes := [] }
  | _ => none
def soft.C6.A7 : List (Nat × Entry) := [(155, soft.Kind.spec), (239, soft.Pack.spec)]
def soft.C6.live : Nat → Option (List Nat)
  | 7 => some [0, 1, 2, 3, 10]
  | 12 => some [0, 2, 3, 10, 11, 12, 13, 14]
  | 14 => some [0, 2, 10, 11, 14]
  | 16 => some [0, 2, 10, 11, 14]
  | 18 => some [14, 15, 16]
  | _ => none
def soft.C6.E : Env := Bb (A5 soft.C6.A7) (fun _ => false) soft.C6.hint soft.C6.live
def soft.C6.L0 (N M : Nat) (n : Bool) (m e : Int) (r : Bool) (p10 : Int) : Option DV := B0 soft.C6.E N Tryz.f212 (An Tryz.f212) [1, 1, 1, 0, 0] [] M ⟨F7 111 [(0, .bool n), (1, .int .u64 m), (2, .int .i64 e), (3, .bool r), (10, .int .i64 p10)], []⟩
def soft.C6.C7 (N : Nat) (n : Bool) (m e : Int) (r : Bool) (p10_1 : Int) : Option DV := cutAt soft.C6.E N Tryz.f212 (An Tryz.f212) [1, 1, 1, 1] [] ⟨F7 111 [(0, .bool n), (1, .int .u64 m), (2, .int .i64 e), (3, .bool r), (10, .int .i64 p10_1)], []⟩
def soft.C6.C12 (N : Nat) (n : Bool) (e : Int) (r : Bool) (p10_2 p11_1 : Int) (p12 p13 : Int) (p14 : Bool) : Option DV := cutAt soft.C6.E N Tryz.f212 (An Tryz.f212) [1, 1, 1, 1, 1, 1, 1, 1, 0] [] ⟨F7 111 [(0, .bool n), (2, .int .i64 e), (3, .bool r), (10, .int .i64 p10_2), (11, .int .u64 p11_1), (12, .int .u64 p12), (13, .int .u64 p13), (14, .bool p14)], []⟩
def soft.C6.C14 (N : Nat) (n : Bool) (e p10_3 p11_2 : Int) (p14_1 : Bool) : Option DV := cutAt soft.C6.E N Tryz.f212 (An Tryz.f212) [1, 1, 1, 1, 1, 1, 1, 1, 1, 0] [] ⟨F7 111 [(0, .bool n), (2, .int .i64 e), (10, .int .i64 p10_3), (11, .int .u64 p11_2), (14, .bool p14_1)], []⟩
def soft.C6.C16 (N : Nat) (n : Bool) (e p11 p10_4 : Int) (p14_2 : Bool) : Option DV := cutAt soft.C6.E N Tryz.f212 (An Tryz.f212) [1, 1, 1, 1, 1, 1, 1, 1, 1, 1] [] ⟨F7 111 [(0, .bool n), (2, .int .i64 e), (10, .int .i64 p10_4), (11, .int .u64 p11), (14, .bool p14_2)], []⟩
def soft.C6.C18 (N : Nat) (p14_3 : Bool) (p15 : Int) : Option DV := cutAt soft.C6.E N Tryz.f212 (An Tryz.f212) [1, 1, 1, 1, 1, 1, 1, 1, 1, 1, 1, 1, 0] [] ⟨F7 111 [(14, .bool p14_3), (15, .int .u64 p15), (16, .int .u8 0)], []⟩
theorem soft.C6.As (N M : Nat) (n : Bool) (m e : Int) (r : Bool) (p10 : Int) : soft.C6.L0 N (M + 1) n m e r p10 = bif (decide (0 ≤ p10)) then bif ((D2 (9007199254740992 : Int) (C8 .u64 m p10)) || (A4 (Ab (e + p10)) (-1074 : Int))) then bif ((Ab (p10 + (1 : Int))) == (63 : Int)) then soft.C6.C7 N n m e r (Ab (p10 + (1 : Int))) else soft.C6.L0 N M n m e r (Ab (p10 + (1 : Int))) else soft.C6.C7 N n m e r p10 else none :=
  Eq.trans (by kernel_rfl)
  (Ee (Ax (Sp (D2 (9007199254740992 : Int) (C8 .u64 m p10))) (Ax (Sp (D2 (9007199254740992 : Int) (C8 .u64 m p10))) (Ax (Pm (D2 (9007199254740992 : Int) (C8 .u64 m p10))) (Ax (Lx (D2 (9007199254740992 : Int) (C8 .u64 m p10))) (Ax (Ld (D2 (9007199254740992 : Int) (C8 .u64 m p10))) (Cx (Jg (D2 (9007199254740992 : Int) (C8 .u64 m p10)) (A4 (Ab (e + p10)) (-1074 : Int))) rfl rfl)))))) rfl)
theorem soft.C6.As1 (N : Nat) (n : Bool) (m e : Int) (r : Bool) (p10_1 : Int) : soft.C6.C7 N n m e r p10_1 = bif (decide (0 ≤ p10_1)) then bif (decide (0 ≤ p10_1)) then bif (A4 (0 : Int) p10_1) then bif (decide (0 ≤ (Ab (p10_1 - (1 : Int))))) then soft.C6.C12 N n e r p10_1 (C8 .u64 m p10_1) (Eg .u64 m (Bh ((B2 .u64 1 p10_1) - (1 : Int)))) (B2 .u64 1 (Ab (p10_1 - (1 : Int)))) (bif ((Eg .u64 m (Bh ((B2 .u64 1 p10_1) - (1 : Int)))) == (0 : Int)) then (!r) else false) else none else soft.C6.C12 N n e r p10_1 (C8 .u64 m p10_1) (Eg .u64 m (Bh ((B2 .u64 1 p10_1) - (1 : Int)))) (0 : Int) (bif ((Eg .u64 m (Bh ((B2 .u64 1 p10_1) - (1 : Int)))) == (0 : Int)) then (!r) else false) else none else none :=
  Eq.trans ((Qd _ _ _ _ _ _ _).trans (by kernel_rfl))
  (Cx (Hx (decide (0 ≤ p10_1))) (Cx (Hx (decide (0 ≤ p10_1))) (Ee (Ee (Ax (Gd ((Eg .u64 m (Bh ((B2 .u64 1 p10_1) - (1 : Int)))) == (0 : Int))) (Ax (Ia ((Eg .u64 m (Bh ((B2 .u64 1 p10_1) - (1 : Int)))) == (0 : Int))) (Ax (Iw ((Eg .u64 m (Bh ((B2 .u64 1 p10_1) - (1 : Int)))) == (0 : Int))) rfl))) rfl) (Ax (Gd ((Eg .u64 m (Bh ((B2 .u64 1 p10_1) - (1 : Int)))) == (0 : Int))) (Ax (Ia ((Eg .u64 m (Bh ((B2 .u64 1 p10_1) - (1 : Int)))) == (0 : Int))) (Ax (Iw ((Eg .u64 m (Bh ((B2 .u64 1 p10_1) - (1 : Int)))) == (0 : Int))) rfl)))) rfl) rfl)
theorem soft.C6.Arw (N : Nat) (n : Bool) (e : Int) (r : Bool) (p10_2 p11_1 : Int) (p12 p13 : Int) (p14 : Bool) : soft.C6.C12 N n e r p10_2 p11_1 p12 p13 p14 = bif ((A4 (0 : Int) p10_2) && ((A4 p13 p12) || ((p12 == p13) && (r || ((Eg .u64 p11_1 (1 : Int)) == (1 : Int)))))) then soft.C6.C14 N n e p10_2 (Bh (p11_1 + (1 : Int))) p14 else soft.C6.C14 N n e p10_2 p11_1 p14 :=
  Eq.trans ((Qd _ _ _ _ _ _ _).trans (by kernel_rfl))
  (Ax (Gd (A4 (0 : Int) p10_2)) (Ax (Gd (A4 (0 : Int) p10_2)) (Ax (Aqq (A4 (0 : Int) p10_2)) (Ax (Ia (A4 (0 : Int) p10_2)) (Ax (Aks (A4 (0 : Int) p10_2) (A4 p13 p12)) (Ax (Aks (A4 (0 : Int) p10_2) (A4 p13 p12)) (Ax (Akt (A4 (0 : Int) p10_2) (A4 p13 p12)) (Ax (Ae9 (A4 (0 : Int) p10_2) (A4 p13 p12)) (Ax (Ah8 (A4 (0 : Int) p10_2) (A4 p13 p12) (p12 == p13)) (Ax (Afa (A4 (0 : Int) p10_2) (A4 p13 p12) (p12 == p13)) (Ax (Pn (A4 (0 : Int) p10_2) (A4 p13 p12) (p12 == p13) r) (Ax (Jh (A4 (0 : Int) p10_2) (A4 p13 p12) (p12 == p13) r) (Ax (Jh (A4 (0 : Int) p10_2) (A4 p13 p12) (p12 == p13) r) (Ax (Oi (A4 (0 : Int) p10_2) (A4 p13 p12) (p12 == p13) r) (Ax (Mr (A4 (0 : Int) p10_2) (A4 p13 p12) (p12 == p13)) (Ax (J9 (A4 (0 : Int) p10_2) (A4 p13 p12)) (Ax (Iw (A4 (0 : Int) p10_2)) (Cx (I1 (A4 (0 : Int) p10_2) (A4 p13 p12) (p12 == p13) r ((Eg .u64 p11_1 (1 : Int)) == (1 : Int))) rfl rfl))))))))))))))))))
theorem soft.C6.Arv (N : Nat) (n : Bool) (e p10_3 p11_2 : Int) (p14_1 : Bool) : soft.C6.C14 N n e p10_3 p11_2 p14_1 = bif (A4 (Ab (e + p10_3)) (-1074 : Int)) then soft.C6.C16 N n e (0 : Int) p10_3 p14_1 else soft.C6.C16 N n e p11_2 p10_3 p14_1 := (Qd _ _ _ _ _ _ _).trans (by kernel_rfl)
theorem soft.C6.Aru (N : Nat) (n : Bool) (e p11 p10_4 : Int) (p14_2 : Bool) : soft.C6.C16 N n e p11 p10_4 p14_2 = bif (Km p11 (max (Ab (e + p10_4)) (-1074 : Int))) then soft.C6.C18 N p14_2 (Tc n p11 (max (Ab (e + p10_4)) (-1074 : Int))) else none := (Qd _ _ _ _ _ _ _).trans (by kernel_rfl)
theorem soft.C6.Ars (N : Nat) (p14_3 : Bool) (p15 : Int) : soft.C6.C18 N p14_3 p15 = bif ((!p14_3) || ((F5 .u64 p15 (9223372036854775808 : Int)) == (9218868437227405312 : Int))) then bif (Ag p15) then bif ((Bd p15) == (3 : Int)) then some (.tup [.int .u64 p15, .int .u8 5]) else bif ((Bd p15) == (0 : Int)) then bif ((Bd p15) == (0 : Int)) then some (.tup [.int .u64 p15, .int .u8 3]) else some (.tup [.int .u64 p15, .int .u8 1]) else bif ((Bd p15) == (1 : Int)) then some (.tup [.int .u64 p15, .int .u8 3]) else some (.tup [.int .u64 p15, .int .u8 1]) else none else some (.tup [.int .u64 p15, .int .u8 0]) :=
  Eq.trans ((Qd _ _ _ _ _ _ _).trans (by kernel_rfl))
  (Ax (Aqn p14_3) (Ax (An6 p14_3) (Ax (An6 p14_3) (Ax (Aqo p14_3) (Cx (Aqp p14_3 ((F5 .u64 p15 (9223372036854775808 : Int)) == (9218868437227405312 : Int))) rfl rfl)))))
theorem soft.C6.ev (N : Nat) (n : Bool) (m e : Int) (r : Bool) : Bx soft.C6.E N Tryz.f212 (An Tryz.f212) [.bool n, .int .u64 m, .int .i64 e, .bool r] = bif ((m == (0 : Int)) && (!r)) then bif (Km (0 : Int) (-1074 : Int)) then some (.tup [.int .u64 (Tc n (0 : Int) (-1074 : Int)), .int .u8 0]) else none else soft.C6.L0 N N n m e r (0 : Int) :=
  Eq.trans (by kernel_rfl)
  (Ax (Gd (m == (0 : Int))) (Ax (Ia (m == (0 : Int))) (Ax (Iw (m == (0 : Int))) (Cx (Aqm (m == (0 : Int)) r) rfl rfl))))
abbrev _root_.Go.Proofs.S1.soft.C6.Kn := A3 Tryz.prog 212 soft.C6.spec
theorem soft.C6.Ac (hk : Ay Tryz.prog soft.C6.A7) (h : ∀ (n : Bool) (m e : Int) (r : Bool), soft.C6.pre [.b n, .i m, .i e, .b r] = true → Bc soft.C6.E Tryz.f212 [.bool n, .int .u64 m, .int .i64 e, .bool r] (soft.C6.out [.b n, .i m, .i e, .b r])) : soft.C6.Kn :=
  Ak (Az hk _ _ _) Tryz.func212 (by kernel_rfl) (by kernel_rfl) h
end EqSoft
theorem Ad {a b : Bool} : (a && b) = true ↔ a = true ∧ b = true := by simp
theorem Ahd {n : Nat} (hn : n < 2 ^ 64) : ((C8 .u64 (n : Int) (63 : Int)) == (1 : Int)) = Dh n := by
  rw [show (63 : Int) = ((63 : Nat) : Int) from rfl, Hb .u64 n 63 (by decide)]
  unfold Dh Bq
  rw [As4, Ati]
  simp only [beq_iff_eq, As9]
  omega
theorem Aoi {n : Nat} (hn : n < 2 ^ 64) : Ab (Eg .u64 (C8 .u64 (n : Int) (52 : Int)) (2047 : Int)) = K9 n := by
  rw [show (52 : Int) = ((52 : Nat) : Int) from rfl, Hb .u64 n 52 (by decide), show (2047 : Int) = ((2 ^ 11 - 1 : Nat) : Int) from rfl, Ii 11 (by omega) (by decide)]
  unfold K9 Dp
  rw [As4, Am (by omega) (by omega)]
theorem Amp {n : Nat} (hn : n < 2 ^ 64) : Eg .u64 (n : Int) (4503599627370495 : Int) = Cr n := by
  rw [show (4503599627370495 : Int) = ((2 ^ 52 - 1 : Nat) : Int) from rfl, Ii 52 hn (by decide)]
  unfold Cr Cw
  rw [As4]
theorem soft.Split.known : soft.Split.Kn := EqSoft.soft.Split.Ac .nil fun x hp => by
  obtain ⟨n, rfl, hn⟩ := Bj (x := x) hp
  refine ⟨0, soft.Split.out [.i n], [], ?_, Wk.G3 (.cons .bool (.cons .int (.cons .int .nil)))⟩
  rw [EqSoft.soft.Split.ev, Ahd hn, Aoi hn, Amp hn]
  rfl
theorem soft.Kind.known : soft.Kind.Kn := EqSoft.soft.Kind.Ac (.cons soft.Split.known .nil) fun x hp => by
  obtain ⟨n, rfl, hn⟩ := Bj (x := x) hp
  refine ⟨0, soft.Kind.out [.i n], [], ?_, .int⟩
  rw [EqSoft.soft.Kind.ev, B7 hn]
  show _ = some (DV.int .i64 (Bd n))
  unfold Bd Aj K9 Cr
  simp only [As4, As2, Ar]
  have := Ix n
  by_cases h1 : Dp n = 2047
  · by_cases h2 : Cw n = 0
    · simp [h1, h2]
    · have : ((Cw n : Int) == 0) = false := by simp; exact h2
      simp [h1, this, h2]
  · have h1' : ((Dp n : Int) == 2047) = false := by simp; omega
    rw [h1']
    by_cases h3 : 0 < Dp n
    · simp [h1, h3]
    · by_cases h4 : 0 < Cw n
      · simp [h1, h3, h4]
      · simp [h1, h3, h4]
theorem soft.Sign.known : soft.Sign.Kn := EqSoft.soft.Sign.Ac .nil fun x hp => by
  obtain ⟨n, rfl, hn⟩ := Bj (x := x) hp
  refine ⟨0, soft.Sign.out [.i n], [], ?_, .bool⟩
  rw [EqSoft.soft.Sign.ev, Ahd hn]
  rfl
theorem Xu (n : Nat) : Jy n = !(decide (Aj n = 3) || decide (Aj n = 4)) := by
  have := Ix n
  unfold Jy Aj
  by_cases h1 : Dp n = 2047
  · by_cases h2 : Cw n = 0 <;> simp [h1, h2]
  · have : Dp n < 2047 := by omega
    by_cases h3 : 0 < Dp n
    · simp [h1, h3, this]
    · by_cases h4 : 0 < Cw n <;> simp [h1, h3, h4, this]
theorem soft.Finite.known : soft.Finite.Kn := EqSoft.soft.Finite.Ac (.cons soft.Kind.known .nil) fun x hp => by
  obtain ⟨n, rfl, hn⟩ := Bj (x := x) hp
  refine ⟨0, soft.Finite.out [.i n], [], ?_, .bool⟩
  rw [EqSoft.soft.Finite.ev, B7 hn]
  show _ = some (DV.bool (Cv n))
  unfold Cv Bd
  rw [As4, Xu]
  by_cases h3 : Aj n = 3
  · simp [h3]
  · by_cases h4 : Aj n = 4
    · simp [h4]
    · have e3 : ((Aj n : Int) == 3) = false := by simp; omega
      have e4 : ((Aj n : Int) == 4) = false := by simp; omega
      simp [h3, h4, e3, e4]
theorem Aja {n : Nat} (hn : n < 2 ^ 64) : Apu .u64 (n : Int) (9223372036854775808 : Int) = Cz n := by
  rw [show (9223372036854775808 : Int) = ((2 ^ 63 : Nat) : Int) from rfl, Ani hn (by decide), Anx hn]
  unfold Cz Gw
  rw [As4]
theorem soft.De.known : soft.De.Kn := EqSoft.soft.De.Ac .nil fun x hp => by
  obtain ⟨n, rfl, hn⟩ := Bj (x := x) hp
  refine ⟨0, soft.De.out [.i n], [], ?_, .int⟩
  rw [EqSoft.soft.De.ev, Aja hn]
  rfl
theorem soft.Fp.known : soft.Fp.Kn := EqSoft.soft.Fp.Ac (.cons soft.Split.known .nil) fun x hp => by
  obtain ⟨n, rfl, hn⟩ := Bj (x := x) hp
  refine ⟨0, soft.Fp.out [.i n], [], ?_, Wk.Gm (.cons .int (.cons .int .nil))⟩
  rw [EqSoft.soft.Fp.ev, B7 hn]
  show _ = some (DV.tup [.int .u64 (Br n), .int .i64 (Bf n)])
  have hf := Jw n
  have hp := Ix n
  unfold Br Bf K9 Cr Au A0
  rw [As4]
  by_cases h : Dp n = 0
  · simp [h]
  · have e : ((Dp n : Int) == 0) = false := by simp; omega
    have e2 : Hn .u64 ((Cw n : Nat) : Int) (4503599627370496 : Int) = ((Cw n + 2 ^ 52 : Nat) : Int) := by
      rw [show (4503599627370496 : Int) = ((1 * 2 ^ 52 : Nat) : Int) from rfl, Aj3 (by omega) (by omega)]
      congr 1; omega
    rw [e, e2, Am (by omega) (by omega)]
    simp [h]
namespace EqRefD
def A1.Neg.A7 : List (Nat × Entry) := []
def A1.Neg.E : Env := Bb (A5 A1.Neg.A7) (fun _ => false) (fun _ => none) (fun _ => none)
theorem A1.Neg.ev (N : Nat) (x : Int) : Bx A1.Neg.E N Tryz.f142 (An Tryz.f142) [.int .u64 x] = some (.bool ((Bh (Int.tdiv x (9223372036854775808 : Int))) == (1 : Int))) := by kernel_rfl
abbrev _root_.Go.Proofs.S1.A1.Neg.Kn := A3 Tryz.prog 142 A1.Neg.spec
theorem A1.Neg.Ac (hk : Ay Tryz.prog A1.Neg.A7) (h : ∀ (x : Int), A1.Neg.pre [.i x] = true → Bc A1.Neg.E Tryz.f142 [.int .u64 x] (A1.Neg.out [.i x])) : A1.Neg.Kn :=
  Ak (Az hk _ _ _) Tryz.func142 (by kernel_rfl) (by kernel_rfl) h
def A1.Power.A7 : List (Nat × Entry) := []
def A1.Power.E : Env := Bb (A5 A1.Power.A7) (fun _ => false) (fun _ => none) (fun _ => none)
theorem A1.Power.ev (N : Nat) (x : Int) : Bx A1.Power.E N Tryz.f140 (An Tryz.f140) [.int .u64 x] = some (.int .i64 (Ab (Bh (Int.tdiv (Int.tmod x (9223372036854775808 : Int)) (4503599627370496 : Int))))) := by kernel_rfl
abbrev _root_.Go.Proofs.S1.A1.Power.Kn := A3 Tryz.prog 140 A1.Power.spec
theorem A1.Power.Ac (hk : Ay Tryz.prog A1.Power.A7) (h : ∀ (x : Int), A1.Power.pre [.i x] = true → Bc A1.Power.E Tryz.f140 [.int .u64 x] (A1.Power.out [.i x])) : A1.Power.Kn :=
  Ak (Az hk _ _ _) Tryz.func140 (by kernel_rfl) (by kernel_rfl) h
def A1.K7.A7 : List (Nat × Entry) := []
def A1.K7.E : Env := Bb (A5 A1.K7.A7) (fun _ => false) (fun _ => none) (fun _ => none)
theorem A1.K7.ev (N : Nat) (x : Int) : Bx A1.K7.E N Tryz.f141 (An Tryz.f141) [.int .u64 x] = some (.int .u64 (Int.tmod x (4503599627370496 : Int))) := by kernel_rfl
abbrev _root_.Go.Proofs.S1.A1.K7.Kn := A3 Tryz.prog 141 A1.K7.spec
theorem A1.K7.Ac (hk : Ay Tryz.prog A1.K7.A7) (h : ∀ (x : Int), A1.K7.pre [.i x] = true → Bc A1.K7.E Tryz.f141 [.int .u64 x] (A1.K7.out [.i x])) : A1.K7.Kn :=
  Ak (Az hk _ _ _) Tryz.func141 (by kernel_rfl) (by kernel_rfl) h
def A1.Kind.A7 : List (Nat × Entry) := [(141, A1.K7.spec), (140, A1.Power.spec)]
def A1.Kind.E : Env := Bb (A5 A1.Kind.A7) (fun _ => false) (fun _ => none) (fun _ => none)
theorem A1.Kind.ev (N : Nat) (x : Int) : Bx A1.Kind.E N Tryz.f62 (An Tryz.f62) [.int .u64 x] = bif (Kd x) then bif ((K9 x) == (2047 : Int)) then bif (Kd x) then bif ((Cr x) == (0 : Int)) then some (.int .i64 3) else some (.int .i64 4) else none else bif (Kd x) then bif (A4 (0 : Int) (K9 x)) then some (.int .i64 2) else bif (Kd x) then bif (A4 (0 : Int) (Cr x)) then some (.int .i64 1) else some (.int .i64 0) else none else none else none := by kernel_rfl
abbrev _root_.Go.Proofs.S1.A1.Kind.Kn := A3 Tryz.prog 62 A1.Kind.spec
theorem A1.Kind.Ac (hk : Ay Tryz.prog A1.Kind.A7) (h : ∀ (x : Int), A1.Kind.pre [.i x] = true → Bc A1.Kind.E Tryz.f62 [.int .u64 x] (A1.Kind.out [.i x])) : A1.Kind.Kn :=
  Ak (Az hk _ _ _) Tryz.func62 (by kernel_rfl) (by kernel_rfl) h
def A1.Finite.A7 : List (Nat × Entry) := [(140, A1.Power.spec)]
def A1.Finite.E : Env := Bb (A5 A1.Finite.A7) (fun _ => false) (fun _ => none) (fun _ => none)
theorem A1.Finite.ev (N : Nat) (x : Int) : Bx A1.Finite.E N Tryz.f131 (An Tryz.f131) [.int .u64 x] = bif (Kd x) then some (.bool (A4 (K9 x) (2047 : Int))) else none := by kernel_rfl
abbrev _root_.Go.Proofs.S1.A1.Finite.Kn := A3 Tryz.prog 131 A1.Finite.spec
theorem A1.Finite.Ac (hk : Ay Tryz.prog A1.Finite.A7) (h : ∀ (x : Int), A1.Finite.pre [.i x] = true → Bc A1.Finite.E Tryz.f131 [.int .u64 x] (A1.Finite.out [.i x])) : A1.Finite.Kn :=
  Ak (Az hk _ _ _) Tryz.func131 (by kernel_rfl) (by kernel_rfl) h
def A1.De.A7 : List (Nat × Entry) := [(142, A1.Neg.spec)]
def A1.De.E : Env := Bb (A5 A1.De.A7) (fun _ => false) (fun _ => none) (fun _ => none)
theorem A1.De.ev (N : Nat) (x : Int) : Bx A1.De.E N Tryz.f163 (An Tryz.f163) [.int .u64 x] = bif (Ag x) then bif (Dh x) then some (.int .u64 (Bh (x - (9223372036854775808 : Int)))) else some (.int .u64 (Bh (x + (9223372036854775808 : Int)))) else none := by kernel_rfl
abbrev _root_.Go.Proofs.S1.A1.De.Kn := A3 Tryz.prog 163 A1.De.spec
theorem A1.De.Ac (hk : Ay Tryz.prog A1.De.A7) (h : ∀ (x : Int), A1.De.pre [.i x] = true → Bc A1.De.E Tryz.f163 [.int .u64 x] (A1.De.out [.i x])) : A1.De.Kn :=
  Ak (Az hk _ _ _) Tryz.func163 (by kernel_rfl) (by kernel_rfl) h
def Ek.Canon.A7 : List (Nat × Entry) := [(62, A1.Kind.spec)]
def Ek.Canon.E : Env := Bb (A5 Ek.Canon.A7) (fun _ => false) (fun _ => none) (fun _ => none)
theorem Ek.Canon.ev (N : Nat) (x : Int) : Bx Ek.Canon.E N Tryz.f168 (An Tryz.f168) [.int .u64 x] = bif (Kd x) then bif ((Bd x) == (4 : Int)) then some (.int .u64 9221120237041090560) else some (.int .u64 x) else none := by kernel_rfl
abbrev _root_.Go.Proofs.S1.Ek.Canon.Kn := A3 Tryz.prog 168 Ek.Canon.spec
theorem Ek.Canon.Ac (hk : Ay Tryz.prog Ek.Canon.A7) (h : ∀ (x : Int), Ek.Canon.pre [.i x] = true → Bc Ek.Canon.E Tryz.f168 [.int .u64 x] (Ek.Canon.out [.i x])) : Ek.Canon.Kn :=
  Ak (Az hk _ _ _) Tryz.func168 (by kernel_rfl) (by kernel_rfl) h
abbrev _root_.Go.Proofs.S1.Ek.Canon.nb.Kn : Prop := A3 Tryz.prog 168 Ek.Canon.nb.spec
end EqRefD
open EqRefD
theorem Jp (n m : Nat) : Int.tdiv (n : Int) (m : Int) = ((n / m : Nat) : Int) := rfl
theorem Jo (n m : Nat) : Int.tmod (n : Int) (m : Int) = ((n % m : Nat) : Int) := rfl
theorem Ap8 : (9223372036854775808 : Int) = ((2 ^ 63 : Nat) : Int) := rfl
theorem Ap9 : (4503599627370496 : Int) = ((2 ^ 52 : Nat) : Int) := rfl
theorem A1.Neg.known : A1.Neg.Kn := A1.Neg.Ac .nil fun x hp => by
  obtain ⟨n, rfl, hn⟩ := Bj (x := x) hp
  refine ⟨0, A1.Neg.out [.i n], [], ?_, .bool⟩
  rw [A1.Neg.ev, Ap8, Jp, Dc (by omega) (by omega)]
  show _ = some (DV.bool (Dh n))
  unfold Dh Bq
  rw [As4]
  congr 2
  rw [Ati]
  simp only [beq_iff_eq, As9]
  omega
theorem A1.Power.known : A1.Power.Kn := A1.Power.Ac .nil fun x hp => by
  obtain ⟨n, rfl⟩ := Tk (x := x) hp
  refine ⟨0, A1.Power.out [.i n], [], ?_, .int⟩
  rw [A1.Power.ev, Ap8, Ap9, Jo, Jp, Dc (by omega) (by omega), Am (by omega) (by omega)]
  show _ = some (DV.int .i64 (K9 n))
  unfold K9 Dp
  rw [As4]
  congr 2
  have : n % 2 ^ 63 / 2 ^ 52 = n / 2 ^ 52 % 2048 := by omega
  rw [this]
theorem A1.K7.known : A1.K7.Kn := A1.K7.Ac .nil fun x hp => by
  obtain ⟨n, rfl⟩ := Tk (x := x) hp
  refine ⟨0, A1.K7.out [.i n], [], ?_, .int⟩
  rw [A1.K7.ev, Ap9, Jo]
  rfl
theorem A1.Kind.known : A1.Kind.Kn := A1.Kind.Ac (.cons A1.K7.known (.cons A1.Power.known .nil)) fun x hp => by
  obtain ⟨n, rfl⟩ := Tk (x := x) hp
  refine ⟨0, A1.Kind.out [.i n], [], ?_, .int⟩
  rw [A1.Kind.ev, H0]
  show _ = some (DV.int .i64 (Bd n))
  unfold Bd Aj K9 Cr
  simp only [As4, As2, Ar]
  have := Ix n
  by_cases h1 : Dp n = 2047
  · by_cases h2 : Cw n = 0
    · simp [h1, h2]
    · have : ((Cw n : Int) == 0) = false := by simp; exact h2
      simp [h1, this, h2]
  · have h1' : ((Dp n : Int) == 2047) = false := by simp; omega
    rw [h1']
    by_cases h3 : 0 < Dp n
    · simp [h1, h3]
    · by_cases h4 : 0 < Cw n
      · simp [h1, h3, h4]
      · simp [h1, h3, h4]
theorem A1.Finite.known : A1.Finite.Kn := A1.Finite.Ac (.cons A1.Power.known .nil) fun x hp => by
  obtain ⟨n, rfl, hn⟩ := Bj (x := x) hp
  refine ⟨0, A1.Finite.out [.i n], [], ?_, .bool⟩
  rw [A1.Finite.ev, H0, As2, Ar]
  show _ = some (DV.bool (Cv n))
  unfold Cv Jy K9
  rw [As4]
  have : decide ((Dp n : Int) < 2047) = decide (Dp n < 2047) := decide_eq_decide.2 (by omega)
  rw [this]
theorem A1.De.known : A1.De.Kn := A1.De.Ac (.cons A1.Neg.known .nil) fun x hp => by
  obtain ⟨n, rfl, hn⟩ := Bj (x := x) hp
  refine ⟨0, A1.De.out [.i n], [], ?_, .int⟩
  rw [A1.De.ev, B7 hn, As2]
  show _ = some (DV.int .u64 (Cz n))
  unfold Cz Gw Dh Bq
  rw [As4, Nq, Nq]
  by_cases h : 2 ^ 63 ≤ n
  · have e : ((n : Int) - 9223372036854775808) % 18446744073709551616 = ((n - 2 ^ 63 : Nat) : Int) := by omega
    rw [if_pos h, As3 h, As2, e]
  · have e : ((n : Int) + 9223372036854775808) % 18446744073709551616 = ((n + 2 ^ 63 : Nat) : Int) := by omega
    rw [if_neg h, As7 h, As6, e]
theorem Ek.Canon.known : Ek.Canon.Kn := Ek.Canon.Ac (.cons A1.Kind.known .nil) fun x hp => by
  obtain ⟨n, rfl⟩ := Tk (x := x) hp
  refine ⟨0, Ek.Canon.out [.i n], [], ?_, .int⟩
  rw [Ek.Canon.ev, H0, As2]
  show _ = some (DV.int .u64 (Yj n))
  unfold Yj Dm Bd
  rw [As4]
  by_cases h : Aj n = 4
  · have : ((Aj n : Int) == 4) = true := by simp; omega
    rw [this, if_pos h]; rfl
  · have : ((Aj n : Int) == 4) = false := by simp; omega
    rw [this, if_neg h]; rfl
theorem Ajq {n m : Nat} (h : Pj n m) : Dm n = Dm m := by
  rcases h with rfl | ⟨h1, h2⟩
  · rfl
  · unfold E5 at h1 h2
    rw [Xd n] at h1
    rw [Xd m] at h2
    unfold Dm
    rw [if_pos (of_decide_eq_true h1), if_pos (of_decide_eq_true h2)]
theorem Aoo {c : Ctx} {w : World} {d : DV} {vs : List Value} (h : A8 c w [d] vs) : ∃ v, vs = [v] ∧ Ao c w d v := by
  simp only [A8] at h
  obtain ⟨u, us, rfl, hv, rfl⟩ := h
  exact ⟨u, rfl, hv⟩
theorem Ek.Canon.Alu : Ek.Canon.nb.Kn := by
  refine ⟨fun args ha => ?_, Ek.Canon.known.call⟩
  unfold Ek.Canon.nb.spec entry at ha ⊢
  simp only at ha ⊢
  cases hd : Mu [.nb] args with
  | none => rw [hd] at ha; cases ha
  | some bs =>
    rw [hd] at ha
    obtain ⟨ds, h1, h2⟩ := Nb hd
    obtain ⟨x, _, _, rfl, rfl, he⟩ := h1.Aq7
    obtain ⟨rfl, rfl⟩ := he.Abj
    refine Nn.args (args := [.nb x]) ?_ h2
    intro w vals I hI hl
    obtain ⟨v, hv, hr⟩ := Aoo hl
    simp only [Ao] at hr
    obtain ⟨m, rfl, hm⟩ := hr
    have e : Ek.Canon.nb.out [.f x] = Ek.Canon.spec.out [.int .u64 (m : Int)] := by
      show DV.int .u64 (Fb x) = DV.int .u64 (Yj (m : Int))
      unfold Fb Yj
      rw [As4, Ajq hm]
    show Calls _ _ _ _ fun e' w' => ∃ v own, e' = .returned v ∧ Go.RowKit.Below w.heap.size w w' ∧ Ah3 own w w' ∧ Ao (Dk I own w w') w' (Ek.Canon.nb.out [.f x]) v
    rw [e]
    exact Ek.Canon.known.meets [.int .u64 (m : Int)] (H0 m) w vals I hI (by rw [hv]; exact ⟨_, _, rfl, rfl, rfl⟩)
end Go.Proofs.S1
end
