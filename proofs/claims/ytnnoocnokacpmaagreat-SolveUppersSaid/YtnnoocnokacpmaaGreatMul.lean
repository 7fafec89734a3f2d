/- Mul of the verified evaluator and its use for this seat (of my texts MulL, ExactL, MulW). -/
import Derived.Test.YtnnoocnokacpmaaGreatFlo
import Derived.Test.YtnnoocnokacpmaaGreatOrd
import Derived.Test.YtnnoocnokacpmaaGreatLim

/- Products and quotients, in plain numbers. -/
namespace Go.Rnd

def mulN (a b : Nat) : Nat × Nat :=
  if kindN a = 4 ∨ kindN b = 4 then (NaN, 0)
  else if kindN a = 3 ∨ kindN b = 3 then (if kindN a = 0 ∨ kindN b = 0 then (NaN, 16) else (signN (negN a != negN b) infR, 0))
  else (signN (negN a != negN b) (rung (partM a * partM b) (partE a + partE b)), flagsOf (partM a * partM b) (partE a + partE b))

/-- A quotient with K digits more, and one digit that says that something is left. -/
def stick (X Y K : Nat) : Nat := 2 * (X * 2 ^ K / Y) + (if X * 2 ^ K % Y = 0 then 0 else 1)

def divN (a b : Nat) : Nat × Nat :=
  if kindN a = 4 ∨ kindN b = 4 then (NaN, 0)
  else if kindN a = kindN b ∧ (kindN a = 3 ∨ kindN a = 0) then (NaN, 16)
  else if kindN a = 3 then (signN (negN a != negN b) infR, 0)
  else if kindN b = 3 ∨ kindN a = 0 then (signN (negN a != negN b) 0, 0)
  else if kindN b = 0 then (signN (negN a != negN b) infR, 8)
  else (signN (negN a != negN b) (rung (stick (partM a) (partM b) 120) (partE a - partE b - 121)), flagsOf (stick (partM a) (partM b) 120) (partE a - partE b - 121))

theorem mulN_comm (a b : Nat) : mulN a b = mulN b a := by
  have e : (negN a != negN b) = (negN b != negN a) := by cases negN a <;> cases negN b <;> rfl
  unfold mulN
  rw [e, Nat.mul_comm (partM a), Int.add_comm (partE a)]
  simp only [or_comm]

/-- Digits below those that are kept, and whether they are all 0. -/
theorem near_stick {V k : Nat} {E : Int} (hm : 1 ≤ V / 2 ^ k) (hc : 2 ^ 53 ≤ V / 2 ^ k ∨ E + k + 1 ≤ -1074) :
    rung (4 * (V / 2 ^ k) + (if V % 2 ^ k = 0 then 0 else 1)) (E + k - 2) = rung V E ∧ flagsOf (4 * (V / 2 ^ k) + (if V % 2 ^ k = 0 then 0 else 1)) (E + k - 2) = flagsOf V E := by
  have hA := pow_pos2 k
  have h1 := Nat.div_add_mod V (2 ^ k)
  have h2 := Nat.mod_lt V hA
  generalize hq : V / 2 ^ k = q at *
  generalize hr : V % 2 ^ k = r at *
  by_cases h0 : r = 0
  · rw [if_pos h0]
    obtain ⟨a1, a2⟩ := rung_shift q k (E + k)
    obtain ⟨b1, b2⟩ := rung_shift q 2 (E + k)
    have e1 : E + (k : Int) - k = E := by omega
    have e2 : V = q * 2 ^ k := by rw [Nat.mul_comm]; omega
    have e3 : q * 2 ^ 2 = 4 * q + 0 := by omega
    have e4 : E + (k : Int) - ((2 : Nat) : Int) = E + k - 2 := by omega
    rw [e1, ← e2] at a1 a2
    rw [e3, e4] at b1 b2
    rw [a1, a2, b1, b2]
    exact ⟨rfl, rfl⟩
  · rw [if_neg h0]
    obtain ⟨d, rfl⟩ : ∃ d, k = d + 1 := by
      cases k with
      | zero => simp only [Nat.pow_zero] at h2; omega
      | succ d => exact ⟨d, rfl⟩
    have hD : 2 ^ (d + 1) = 2 * 2 ^ d := by rw [Nat.pow_succ]; omega
    rw [hD] at h1 h2
    generalize hc2 : 2 ^ d = c at *
    have p1 : (2 * q + 1 - 1) * c = 2 * c * q := by rw [Nat.add_sub_cancel, Nat.mul_comm, Nat.mul_left_comm, Nat.mul_assoc]
    have p2 : (2 * q + 1 + 1) * c = 2 * c * q + 2 * c := by
      rw [show 2 * q + 1 + 1 = 2 * (q + 1) by omega, Nat.mul_assoc, Nat.add_mul, Nat.mul_add, Nat.mul_comm q c, Nat.mul_assoc]; omega
    have lt1 : (2 * q + 1 - 1) * 2 ^ d < V := by rw [hc2, p1]; omega
    have lt2 : V < (2 * q + 1 + 1) * 2 ^ d := by rw [hc2, p2]; omega
    have od : (2 * q + 1) % 2 = 1 := by omega
    have lV := log2_odd od (by omega) lt1 lt2
    have l4 : (4 * q + 1).log2 = (2 * q + 1).log2 + 1 := log2_odd (d := 1) od (by omega) (by omega) (by omega)
    have hs : (2 * q + 1).log2 ≥ 54 ∨ E + d + 2 ≤ -1074 := by
      rcases hc with h | h
      · left; rw [ge_iff_le, Nat.le_log2 (by omega)]; omega
      · right; omega
    have hk : E + d + 2 ≤ lastE (2 * q + 1) (E + d) := by unfold lastE; omega
    obtain ⟨a1, a2⟩ := rung_odd (E := E) od lt1 lt2 (by unfold lastE; rw [lV]; omega) hk
    have ee : E + ((d + 1 : Nat) : Int) - 2 + ((1 : Nat) : Int) = E + d := by omega
    obtain ⟨b1, b2⟩ := rung_odd (V := 4 * q + 1) (d := 1) (E := E + ((d + 1 : Nat) : Int) - 2) od (by omega) (by omega) (by unfold lastE; rw [l4]; omega) (by rw [ee]; unfold lastE; omega)
    rw [ee] at b1 b2
    rw [a1, a2, b1, b2]
    exact ⟨rfl, rfl⟩

theorem nearN_eq (n : Bool) {V k : Nat} {E e : Int} {s : Bool} (he : e = E + k) (hs : s = decide (V % 2 ^ k ≠ 0)) (hm : 1 ≤ V / 2 ^ k) (hc : 2 ^ 53 ≤ V / 2 ^ k ∨ E + k + 1 ≤ -1074) :
    nearN n (V / 2 ^ k) e s = (signN n (rung V E), flagsOf V E) := by
  obtain ⟨a, b⟩ := near_stick hm hc
  have e1 : s.toNat = if V % 2 ^ k = 0 then 0 else 1 := by
    rw [hs]
    by_cases h : V % 2 ^ k = 0
    · rw [decide_eq_false (by omega), if_pos h]; rfl
    · rw [decide_eq_true h, if_neg h]; rfl
  unfold nearN
  rw [he, e1, a, b]

/-- One digit more or less of what is left. -/
theorem stick_step {X Y K : Nat} (d : Nat) (E : Int) (hY : 0 < Y) (h : 2 ^ 53 ≤ X * 2 ^ K / Y) :
    rung (stick X Y (K + d)) (E - d) = rung (stick X Y K) E ∧ flagsOf (stick X Y (K + d)) (E - d) = flagsOf (stick X Y K) E := by
  have hA := pow_pos2 d
  unfold stick
  have e : X * 2 ^ (K + d) = X * 2 ^ K * 2 ^ d := by rw [Nat.pow_add, Nat.mul_assoc]
  rw [e]
  generalize X * 2 ^ K = Z at *
  have h1 := Nat.div_add_mod Z Y
  have h2 := Nat.mod_lt Z hY
  by_cases h0 : Z % Y = 0
  · obtain ⟨q, rfl⟩ := Nat.dvd_of_mod_eq_zero h0
    have e1 : Y * q * 2 ^ d = Y * (q * 2 ^ d) := Nat.mul_assoc _ _ _
    rw [e1, Nat.mul_mod_right, Nat.mul_mod_right, Nat.mul_div_cancel_left _ hY, Nat.mul_div_cancel_left _ hY, if_pos rfl]
    have := rung_shift (2 * q + 0) d E
    rw [show (2 * q + 0) * 2 ^ d = 2 * (q * 2 ^ d) + 0 by rw [Nat.add_zero, Nat.add_zero, Nat.mul_assoc]] at this
    exact this
  · have h3 := Nat.div_add_mod (Z * 2 ^ d) Y
    have h4 := Nat.mod_lt (Z * 2 ^ d) hY
    rw [if_neg h0]
    generalize hq : Z / Y = q at *
    generalize hr : Z % Y = r at *
    generalize hc : 2 ^ d = c at *
    have hz : Z * c = Y * (q * c) + r * c := by rw [← h1, Nat.add_mul, Nat.mul_assoc]
    have hrc : r * c < Y * c := (Nat.mul_lt_mul_right hA).2 h2
    have hrc0 : 0 < r * c := Nat.mul_pos (by omega) hA
    -- the longer quotient lies between
    have q1 : q * c ≤ Z * c / Y := by rw [Nat.le_div_iff_mul_le hY, Nat.mul_comm (q * c)]; omega
    have q2 : Z * c / Y < (q + 1) * c := by
      rw [Nat.div_lt_iff_lt_mul hY, Nat.add_mul, Nat.add_mul, Nat.one_mul, Nat.mul_comm (q * c), Nat.mul_comm c Y]; omega
    have q3 : Z * c / Y = q * c → Z * c % Y ≠ 0 := fun h5 h6 => by rw [h5, h6] at h3; omega
    generalize hQ : Z * c / Y = Q at *
    have p1 : (2 * q + 1 - 1) * c = 2 * (q * c) := by rw [Nat.add_sub_cancel, Nat.mul_assoc]
    have p2 : (2 * q + 1 + 1) * c = 2 * ((q + 1) * c) := by rw [show 2 * q + 1 + 1 = 2 * (q + 1) by omega, Nat.mul_assoc]
    have od : (2 * q + 1) % 2 = 1 := by omega
    generalize hV : 2 * Q + (if Z * c % Y = 0 then 0 else 1) = V
    have v1 : (2 * q + 1 - 1) * 2 ^ d < V := by
      rw [hc, p1, ← hV]
      by_cases h5 : Q = q * c
      · rw [if_neg (q3 h5)]; omega
      · split <;> omega
    have v2 : V < (2 * q + 1 + 1) * 2 ^ d := by
      rw [hc, p2, ← hV]
      split <;> omega
    have lV := log2_odd od (by omega) v1 v2
    have hs : 54 ≤ (2 * q + 1).log2 := by rw [Nat.le_log2 (by omega)]; omega
    have ee : E - (d : Int) + d = E := by omega
    have := rung_odd (E := E - d) od v1 v2 (by unfold lastE; rw [lV]; omega) (by unfold lastE; omega)
    rw [ee] at this
    exact this

theorem stick_same {X Y K L : Nat} {E F : Int} (hY : 0 < Y) (h1 : 2 ^ 53 ≤ X * 2 ^ K / Y) (h2 : 2 ^ 53 ≤ X * 2 ^ L / Y) (he : E + K = F + L) :
    rung (stick X Y K) E = rung (stick X Y L) F ∧ flagsOf (stick X Y K) E = flagsOf (stick X Y L) F := by
  rcases Nat.le_total K L with h | h
  · obtain ⟨d, rfl⟩ := Nat.exists_eq_add_of_le h
    have := stick_step d E hY h1
    rw [show E - (d : Int) = F by omega] at this
    exact ⟨this.1.symm, this.2.symm⟩
  · obtain ⟨d, rfl⟩ := Nat.exists_eq_add_of_le h
    have := stick_step d F hY h2
    rw [show F - (d : Int) = E by omega] at this
    exact this

theorem stick_left (X Y a K : Nat) : stick (X * 2 ^ a) Y K = stick X Y (K + a) := by
  unfold stick
  have : X * 2 ^ a * 2 ^ K = X * 2 ^ (K + a) := by rw [Nat.mul_assoc, ← Nat.pow_add, Nat.add_comm a K]
  rw [this]

theorem stick_right (X Y b K : Nat) : stick X (Y * 2 ^ b) (K + b) = stick X Y K := by
  have hp := pow_pos2 b
  unfold stick
  have : X * 2 ^ (K + b) = X * 2 ^ K * 2 ^ b := by rw [Nat.pow_add, Nat.mul_assoc]
  rw [this, Nat.mul_div_mul_right _ _ hp, Nat.mul_mod_mul_right]
  have : (X * 2 ^ K % Y * 2 ^ b = 0) ↔ (X * 2 ^ K % Y = 0) := by
    constructor
    · intro h
      rcases Nat.mul_eq_zero.1 h with h | h
      · exact h
      · omega
    · intro h; rw [h, Nat.zero_mul]
  simp only [this]

theorem quo_ge {X Y K t : Nat} (hX : 0 < X) (hY0 : 0 < Y) (hY : Y < 2 ^ t) (hK : 53 + t ≤ K) : 2 ^ 53 ≤ X * 2 ^ K / Y := by
  rw [Nat.le_div_iff_mul_le hY0]
  have h1 : 2 ^ 53 * Y ≤ 2 ^ 53 * 2 ^ t := Nat.mul_le_mul_left _ (by omega)
  have h2 : 2 ^ (53 + t) ≤ 2 ^ K := Nat.pow_le_pow_right (by decide) hK
  have h3 : 1 * 2 ^ K ≤ X * 2 ^ K := Nat.mul_le_mul_right _ (by omega)
  rw [Nat.pow_add] at h2
  omega

/-- What Near is asked of a quotient. -/
theorem nearN_quo (n : Bool) {X Y K : Nat} {e E : Int} {s : Bool} (hs : s = decide (X * 2 ^ K % Y ≠ 0)) (he : E = e - 1) (hq : 2 ^ 53 ≤ X * 2 ^ K / Y) :
    nearN n (X * 2 ^ K / Y) e s = (signN n (rung (stick X Y K) E), flagsOf (stick X Y K) E) := by
  have e1 : stick X Y K / 2 ^ 1 = X * 2 ^ K / Y := by
    unfold stick
    split <;> omega
  have e2 : decide (stick X Y K % 2 ^ 1 ≠ 0) = decide (X * 2 ^ K % Y ≠ 0) := by
    unfold stick
    by_cases h : X * 2 ^ K % Y = 0
    · rw [if_pos h, decide_eq_false (by omega), decide_eq_false (by omega)]
    · rw [if_neg h, decide_eq_true (by omega), decide_eq_true h]
  have := nearN_eq n (V := stick X Y K) (k := 1) (E := E) (e := e) (s := s) (by omega) (by rw [e2]; exact hs) (by omega) (.inl (by omega))
  rw [e1] at this
  exact this

end Go.Rnd

/- Numbers that need no rounding; the difference of two near ones. Plain numbers, no program. -/
namespace Go.Rnd
open Go.Den

/-- The parts of a word that was put together. -/
theorem word_parts (s : Bool) {q : Nat} {L : Int} (hq : q < 2 ^ 53) (hL : -1074 ≤ L) (h : 2 ^ 52 ≤ q ∨ L = -1074) (hr : (L + 1074).toNat * 2 ^ 52 + q < infR) :
    partM (signN s ((L + 1074).toNat * 2 ^ 52 + q)) = q ∧ partE (signN s ((L + 1074).toNat * 2 ^ 52 + q)) = L := by
  rw [infR_eq] at hr
  obtain ⟨t, ht⟩ : ∃ t : Nat, L = t - 1074 := ⟨(L + 1074).toNat, by omega⟩
  have et : (L + 1074).toNat = t := by omega
  rw [et] at hr ⊢
  have hp := powN_sign s (r := t * 2 ^ 52 + q) (by omega)
  have hf := fracN_sign s (t * 2 ^ 52 + q)
  unfold partM partE
  by_cases h52 : 2 ^ 52 ≤ q
  · have e1 : powN (signN s (t * 2 ^ 52 + q)) = t + 1 := by rw [hp]; omega
    rw [e1, hf, if_neg (by omega), if_neg (by omega)]
    omega
  · have t0 : t = 0 := by omega
    subst t0
    have e1 : powN (signN s (0 * 2 ^ 52 + q)) = 0 := by rw [hp]; omega
    rw [e1, hf, if_pos rfl, if_pos rfl]
    omega

theorem sign_neg (s : Bool) {r : Nat} (h : r < 2 ^ 63) : negN (signN s r) = s := by
  unfold negN signN
  cases s
  · simp only [Bool.false_eq_true, if_false, decide_eq_false_iff_not]; omega
  · simp only [if_true, decide_eq_true_eq]; omega

/-- Of a value with few digits, none of them below the last place, the word has that value and no flag. -/
theorem exact_word (s : Bool) {V : Nat} {E : Int} (h0 : V ≠ 0) (hE : lastE V E ≤ E) (hi : rung V E < infR) :
    flagsOf V E = 0 ∧ ∃ k : Nat, partM (signN s (rung V E)) = V * 2 ^ k ∧ partE (signN s (rung V E)) = E - k := by
  have hl2 : V.log2 = V.log2 := rfl
  have ek : kept V E = V * 2 ^ (E - lastE V E).toNat := by
    unfold kept rdivZ
    have e1 : (lastE V E - E).toNat = 0 := by omega
    have e2 : (-(lastE V E - E)).toNat = (E - lastE V E).toNat := by omega
    rw [e1, e2, rdiv_zero]
  have eex : exact V E = true := by
    unfold exact wholeZ
    have e1 : (lastE V E - E).toNat = 0 := by omega
    rw [e1, Nat.pow_zero, Nat.mod_one]; rfl
  constructor
  · unfold flagsOf flags
    rw [if_neg h0, if_neg (by omega), eex]; rfl
  · have hr : rung V E = (lastE V E + 1074).toNat * 2 ^ 52 + kept V E := by
      unfold rung at hi ⊢
      rw [if_neg h0] at hi ⊢
      omega
    have hk : kept V E < 2 ^ 53 := by
      rw [ek, ← Nat.log2_lt (mul_pow_ne h0), log2_mul V _ h0]
      unfold lastE at hE ⊢
      omega
    have hb : 2 ^ 52 ≤ kept V E ∨ lastE V E = -1074 := by
      by_cases h : lastE V E = -1074
      · exact .inr h
      · left
        refine kept_ge h0 ?_
        unfold lastE at h ⊢
        omega
    rw [hr] at hi
    obtain ⟨p1, p2⟩ := word_parts s hk (by unfold lastE; omega) hb hi
    refine ⟨(E - lastE V E).toNat, ?_, ?_⟩
    · rw [hr, p1, ek]
    · rw [hr, p2]; omega

theorem lastE_small {V : Nat} {E : Int} (h : V < 2 ^ 53) (hE : -1074 ≤ E) : lastE V E ≤ E := by
  by_cases h0 : V = 0
  · subst h0; unfold lastE; rw [Nat.log2_zero]; omega
  · have := (Nat.log2_lt h0).2 h
    unfold lastE; omega

end Go.Rnd

/- Words of products and quotients that the specs name. -/
namespace Go.Rnd
open Go.Den

def len64I (x : Int) : Int := if x = 0 then 0 else (x.toNat.log2 : Int) + 1
def mulHi (x y : Int) : Int := ((x.toNat * y.toNat / 18446744073709551616 : Nat) : Int)
def mulLo (x y : Int) : Int := ((x.toNat * y.toNat % 18446744073709551616 : Nat) : Int)
def nanI (a b : Int) : Bool := decide (kindI a = 4) || decide (kindI b = 4)
def normZ (b : Nat) : Nat := 52 - (partM b).log2
def normM (b : Int) : Int := ((partM b.toNat * 2 ^ normZ b.toNat : Nat) : Int)
def normE (b : Int) : Int := partE b.toNat - normZ b.toNat
noncomputable def normPre (b : Int) : Bool := cdec (partM b.toNat ≠ 0)
noncomputable def widePre (m e : Int) : Bool := cdec (1152921504606846976 ≤ m ∧ m < 4611686018427387904 ∧ -6000 ≤ e ∧ e ≤ 6000)
def mulBI (a b : Int) : Int := (mulN a.toNat b.toNat).1
def mulFI (a b : Int) : Int := (mulN a.toNat b.toNat).2
def divBI (a b : Int) : Int := (divN a.toNat b.toNat).1
def divFI (a b : Int) : Int := (divN a.toNat b.toNat).2
def powerI (n : Int) : Int := (723 + n % 18446744073709551616 % 601) * 4503599627370496

/-! ### Words of the document's products and quotients -/

noncomputable def inU32 (x : Int) : Bool := cdec (0 ≤ x ∧ x < 4294967296)
def singleL (l : List Int) (x : Int) : List Int := digits (l.length + 1) (valL l * x.toNat)
noncomputable def okM (n : Bool) (l : List Int) : Bool := cdec (l.length < 33554432 ∧ l = limbs (valL l) ∧ (n = true → l ≠ []))
def quoI (v w : Int) : Int := ((v.natAbs / w.natAbs : Nat) : Int)
def remI (v w : Int) : Int := ((v.natAbs % w.natAbs : Nat) : Int)
noncomputable def okQ (n : Bool) (a : List Int) (m : Bool) (b : List Int) : Bool := (okW n a && okW m b) && cdec (0 ≤ wv n a ∧ 0 < wv m b ∧ lenN (wv n a).natAbs < 10000 ∧ lenN (wv m b).natAbs < 10000)

end Go.Rnd
