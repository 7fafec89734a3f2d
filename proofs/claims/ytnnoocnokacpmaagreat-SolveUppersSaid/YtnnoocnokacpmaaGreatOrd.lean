/- Ord of the verified evaluator and its use for this seat (of my texts OrdL). -/
import Derived.Test.YtnnoocnokacpmaaGreatFlo

/- The order of words and of what they round. -/
namespace Go.Rnd
open Ieee

/-- Rounding to whole numbers keeps the order. -/
theorem rdiv_mono {V W k : Nat} (h : V ≤ W) : rdiv V k ≤ rdiv W k := by
  unfold rdiv
  have hA := pow_pos2 k
  have hq : V / 2 ^ k ≤ W / 2 ^ k := Nat.div_le_div_right h
  rcases Nat.lt_or_ge (V / 2 ^ k) (W / 2 ^ k) with h1 | h1
  · split <;> split <;> omega
  · have he : V / 2 ^ k = W / 2 ^ k := by omega
    have v := Nat.div_add_mod V (2 ^ k)
    have w := Nat.div_add_mod W (2 ^ k)
    rw [he] at v ⊢
    have hr : V % 2 ^ k ≤ W % 2 ^ k := by omega
    by_cases hc : 2 ^ k < 2 * (V % 2 ^ k) ∨ 2 * (V % 2 ^ k) = 2 ^ k ∧ W / 2 ^ k % 2 = 1
    · have hc' : 2 ^ k < 2 * (W % 2 ^ k) ∨ 2 * (W % 2 ^ k) = 2 ^ k ∧ W / 2 ^ k % 2 = 1 := by
        rcases hc with hc | ⟨hc, hd⟩
        · exact .inl (by omega)
        · rcases Nat.lt_or_ge (2 ^ k) (2 * (W % 2 ^ k)) with h2 | h2
          · exact .inl h2
          · exact .inr ⟨by omega, hd⟩
      rw [if_pos hc, if_pos hc']
      exact Nat.le_refl _
    · rw [if_neg hc]
      exact Nat.le_add_right _ _

theorem rdiv_le {V c k : Nat} (h : V ≤ c * 2 ^ k) : rdiv V k ≤ c := by
  have h1 := rdiv_mono (k := k) h
  have : rdiv (c * 2 ^ k) k = c := by
    have := rdiv_mul c k 0
    rw [Nat.add_zero, rdiv_zero] at this
    exact this
  omega

theorem le_rdiv {V c k : Nat} (h : c * 2 ^ k ≤ V) : c ≤ rdiv V k := by
  have h1 := rdiv_mono (k := k) h
  have : rdiv (c * 2 ^ k) k = c := by
    have := rdiv_mul c k 0
    rw [Nat.add_zero, rdiv_zero] at this
    exact this
  omega

theorem rdivZ_mono {V W : Nat} {s : Int} (h : V ≤ W) : rdivZ V s ≤ rdivZ W s := rdiv_mono (Nat.mul_le_mul_right _ h)

theorem lastE_mono {V W : Nat} {E : Int} (hV : V ≠ 0) (h : V ≤ W) : lastE V E ≤ lastE W E := by
  have : V.log2 ≤ W.log2 := (Nat.le_log2 (by omega)).2 (Nat.le_trans (Nat.log2_self_le hV) h)
  unfold lastE; omega

/-- What is kept has at most 53 digits and a carry. -/
theorem kept_le {V : Nat} {E : Int} : kept V E ≤ 2 ^ 53 := by
  have hV : V < 2 ^ (V.log2 + 1) := Nat.lt_log2_self
  unfold kept rdivZ
  refine rdiv_le ?_
  have hl : E + V.log2 - 52 ≤ lastE V E := by unfold lastE; omega
  rw [← Nat.pow_add]
  have h1 : V * 2 ^ (-(lastE V E - E)).toNat ≤ 2 ^ (V.log2 + 1) * 2 ^ (-(lastE V E - E)).toNat := Nat.mul_le_mul_right _ (Nat.le_of_lt hV)
  rw [← Nat.pow_add] at h1
  exact Nat.le_trans h1 (Nat.pow_le_pow_right (by decide) (by omega))

theorem kept_ge {V : Nat} {E : Int} (hV : V ≠ 0) (hl : lastE V E = E + V.log2 - 52) : 2 ^ 52 ≤ kept V E := by
  have h1 : 2 ^ V.log2 ≤ V := Nat.log2_self_le hV
  unfold kept rdivZ
  refine le_rdiv ?_
  rw [← Nat.pow_add]
  have h2 : 2 ^ V.log2 * 2 ^ (-(lastE V E - E)).toNat ≤ V * 2 ^ (-(lastE V E - E)).toNat := Nat.mul_le_mul_right _ h1
  rw [← Nat.pow_add] at h2
  exact Nat.le_trans (Nat.pow_le_pow_right (by decide) (by omega)) h2

theorem rung_mono {V W : Nat} {E : Int} (h : V ≤ W) : rung V E ≤ rung W E := by
  unfold rung
  by_cases hV : V = 0
  · rw [if_pos hV]; exact Nat.zero_le _
  · have hW : W ≠ 0 := by omega
    rw [if_neg hV, if_neg hW]
    have hl := lastE_mono (E := E) hV h
    have key : (lastE V E + 1074).toNat * 2 ^ 52 + kept V E ≤ (lastE W E + 1074).toNat * 2 ^ 52 + kept W E := by
      rcases Int.lt_or_eq_of_le hl with h1 | h1
      · have hb : -1074 ≤ lastE V E := by unfold lastE; omega
        have hn : lastE W E = E + W.log2 - 52 := by unfold lastE at h1 hb ⊢; omega
        have k1 := kept_le (V := V) (E := E)
        have k2 := kept_ge hW hn
        have h2 : (lastE V E + 1074).toNat + 1 ≤ (lastE W E + 1074).toNat := by omega
        have h3 : ((lastE V E + 1074).toNat + 1) * 2 ^ 52 ≤ (lastE W E + 1074).toNat * 2 ^ 52 := Nat.mul_le_mul_right _ h2
        rw [Nat.add_mul (lastE V E + 1074).toNat 1 (2 ^ 52), Nat.one_mul] at h3
        omega
      · unfold kept
        rw [h1]
        exact Nat.add_le_add_left (rdivZ_mono h) _
    omega

/-! ### Words -/

theorem rung_word {b : Nat} (h4 : kindN b ≠ 4) : rung (partM b) (partE b) = b % 2 ^ 63 := by
  have hf : fracN b < 2 ^ 52 := fracN_lt b
  have hr := rung_of b
  rw [hr]
  unfold partM partE
  by_cases h0 : powN b = 0
  · rw [if_pos h0, if_pos h0, rung_sub hf, h0, Nat.zero_mul, Nat.zero_add]
  · rw [if_neg h0, if_neg h0, rung_norm (by omega) (by omega) (by omega), infR_eq]
    have e : ((powN b : Int) - 1075 + 1074).toNat = powN b - 1 := by omega
    rw [e]
    have h5 : (powN b - 1) * 2 ^ 52 + (fracN b + 2 ^ 52) = powN b * 2 ^ 52 + fracN b := by omega
    rw [h5]
    rcases kind_cases b with ⟨h1, h2, _⟩ | ⟨_, _, h⟩ | ⟨h1, _, _⟩
    · rw [h1, h2]; decide
    · exact absurd h h4
    · omega

/-- A word's place among the words that are no NaN. -/
def keyN (b : Nat) : Int := sgn (negN b) (b % 2 ^ 63)

def magAt (b : Nat) (f : Int) : Nat := partM b * 2 ^ (partE b - f).toNat

theorem mag_rung {b : Nat} {f : Int} (h4 : kindN b ≠ 4) (hf : f ≤ partE b) : rung (magAt b f) f = b % 2 ^ 63 := by
  rw [← rung_word h4]
  have h := (rung_shift (partM b) (partE b - f).toNat (partE b)).1
  have e : partE b - ((partE b - f).toNat : Int) = f := by omega
  rw [e] at h
  exact h

theorem mag_same {a b : Nat} (h : a % 2 ^ 63 = b % 2 ^ 63) (f : Int) : magAt a f = magAt b f := by
  have h1 : powN a = powN b := by unfold powN; omega
  have h2 : fracN a = fracN b := by unfold fracN; omega
  unfold magAt partM partE
  rw [h1, h2]

theorem mag_lt {a b : Nat} {f : Int} (ha : kindN a ≠ 4) (hb : kindN b ≠ 4) (hfa : f ≤ partE a) (hfb : f ≤ partE b) : magAt a f < magAt b f ↔ a % 2 ^ 63 < b % 2 ^ 63 := by
  constructor
  · intro h
    have h1 := rung_mono (E := f) (Nat.le_of_lt h)
    rw [mag_rung ha hfa, mag_rung hb hfb] at h1
    rcases Nat.lt_or_eq_of_le h1 with h2 | h2
    · exact h2
    · have := mag_same h2 f; omega
  · intro h
    rcases Nat.lt_or_ge (magAt a f) (magAt b f) with h1 | h1
    · exact h1
    · have h1 := rung_mono (E := f) h1
      rw [mag_rung ha hfa, mag_rung hb hfb] at h1
      omega

theorem mag_zero (b : Nat) (f : Int) : magAt b f = 0 ↔ b % 2 ^ 63 = 0 := by
  have hp := pow_pos2 (partE b - f).toNat
  unfold magAt
  rw [Nat.mul_eq_zero, rung_of]
  have h1 : ¬ (2 ^ (partE b - f).toNat = 0) := by omega
  have h2 : partM b = 0 ↔ powN b * 2 ^ 52 + fracN b = 0 := by unfold partM; split <;> omega
  rw [h2]
  exact ⟨fun h => h.resolve_right h1, .inl⟩

theorem sgn_lt {s t : Bool} {m n m' n' : Nat} (h1 : m < n ↔ m' < n') (h2 : n < m ↔ n' < m') (h3 : m = 0 ↔ m' = 0) (h4 : n = 0 ↔ n' = 0) : sgn s m < sgn t n ↔ sgn s m' < sgn t n' := by
  unfold sgn
  cases s <;> cases t <;> simp <;> omega

theorem val_lt {a b : Nat} {f : Int} (ha : kindN a ≠ 4) (hb : kindN b ≠ 4) (hfa : f ≤ partE a) (hfb : f ≤ partE b) : valAt a f < valAt b f ↔ keyN a < keyN b :=
  sgn_lt (mag_lt ha hb hfa hfb) (mag_lt hb ha hfb hfa) (mag_zero a f) (mag_zero b f)

theorem cmp_congr {x y x' y' : Int} (h1 : x < y ↔ x' < y') (h2 : y < x ↔ y' < x') : compare x y = compare x' y' := by
  show compareOfLessAndEq x y = compareOfLessAndEq x' y'
  unfold compareOfLessAndEq
  by_cases h : x < y
  · rw [if_pos h, if_pos (h1.1 h)]
  · rw [if_neg h, if_neg (fun k => h (h1.2 k))]
    by_cases e : x = y
    · rw [if_pos e, if_pos (by omega)]
    · rw [if_neg e, if_neg (by omega)]

theorem key_le {b : Nat} (h4 : kindN b ≠ 4) : b % 2 ^ 63 ≤ infR := by
  rw [← rung_word h4]; exact rung_le _ _

theorem key_inf {b : Nat} (h : kindN b = 3) : b % 2 ^ 63 = infR := by
  rw [rung_of]
  rcases kind_cases b with ⟨h1, h2, _⟩ | ⟨_, _, h4⟩ | ⟨_, h4, _⟩
  · rw [h1, h2]; rfl
  · omega
  · omega

theorem key_fin {b : Nat} (h3 : kindN b ≠ 3) (h4 : kindN b ≠ 4) : b % 2 ^ 63 < infR := by
  have hf : fracN b < 2 ^ 52 := fracN_lt b
  rw [rung_of, infR_eq]
  rcases kind_cases b with ⟨_, _, h⟩ | ⟨_, _, h⟩ | ⟨h1, _, _⟩
  · exact absurd h h3
  · exact absurd h h4
  · omega

theorem cmp_lt {x y : Int} (h : x < y) : compare x y = .lt := by
  show compareOfLessAndEq x y = _; unfold compareOfLessAndEq; rw [if_pos h]
theorem cmp_gt {x y : Int} (h : y < x) : compare x y = .gt := by
  show compareOfLessAndEq x y = _; unfold compareOfLessAndEq; rw [if_neg (by omega), if_neg (by omega)]

/-- The model's order of two words. -/
theorem order_key {a b : Nat} (ha : a < 2 ^ 64) (hb : b < 2 ^ 64) (a4 : kindN a ≠ 4) (b4 : kindN b ≠ 4) : Ieee.double.order a b = some (compare (keyN a) (keyN b)) := by
  unfold Format.order
  rw [read_eq ha, read_eq hb]
  have hpos : 0 < infR := by decide
  by_cases a3 : kindN a = 3
  · have ka := key_inf a3
    rw [readN_inf a3]
    by_cases b3 : kindN b = 3
    · have kb := key_inf b3
      rw [readN_inf b3]
      show some (compare (negN b).toNat (negN a).toNat) = _
      unfold keyN
      rw [ka, kb]
      cases negN a <;> cases negN b <;> decide
    · have kb := key_fin b3 b4
      rw [readN_num b3 b4]
      show some (if negN a then Ordering.lt else .gt) = _
      unfold keyN sgn
      rw [ka]
      cases negN a
      · rw [cmp_gt (by simp; split <;> omega)]; rfl
      · rw [cmp_lt (by simp; split <;> omega)]; rfl
  · have ka := key_fin a3 a4
    rw [readN_num a3 a4]
    by_cases b3 : kindN b = 3
    · have kb := key_inf b3
      rw [readN_inf b3]
      show some (if negN b then Ordering.gt else .lt) = _
      unfold keyN sgn
      rw [kb]
      cases negN b
      · rw [cmp_lt (by simp; split <;> omega)]; rfl
      · rw [cmp_gt (by simp; split <;> omega)]; rfl
    · rw [readN_num b3 b4]
      show some (compare (Ieee.signed _ _ _) (Ieee.signed _ _ _)) = _
      rw [signed_eq, signed_eq]
      congr 1
      exact cmp_congr (val_lt a4 b4 (Int.min_le_left _ _) (Int.min_le_right _ _)) (val_lt b4 a4 (Int.min_le_right _ _) (Int.min_le_left _ _))

theorem order_nan {a b : Nat} (ha : a < 2 ^ 64) (hb : b < 2 ^ 64) (h : kindN a = 4 ∨ kindN b = 4) : Ieee.double.order a b = none := by
  unfold Format.order
  rw [read_eq ha, read_eq hb]
  by_cases a4 : kindN a = 4
  · rw [readN_nan a4]; cases readN b <;> rfl
  · rw [readN_nan (h.resolve_left a4)]; cases readN a <;> rfl

/-! ### A sum keeps the order -/

/-- The place of what is rounded. -/
def rkey (S : Int) (f : Int) : Int := if S < 0 then -(rung S.natAbs f : Int) else rung S.natAbs f

theorem rkey_mono {S T f : Int} (h : S ≤ T) : rkey S f ≤ rkey T f := by
  unfold rkey
  by_cases hS : S < 0
  · rw [if_pos hS]
    by_cases hT : T < 0
    · rw [if_pos hT]
      have := rung_mono (V := T.natAbs) (W := S.natAbs) (E := f) (by omega)
      omega
    · rw [if_neg hT]; omega
  · rw [if_neg hS, if_neg (by omega)]
    have := rung_mono (V := S.natAbs) (W := T.natAbs) (E := f) (by omega)
    omega

theorem rkey_shift (S : Int) (k : Nat) (f : Int) : rkey (S * ((2 ^ k : Nat) : Int)) (f - k) = rkey S f := by
  have hp := pow_pos2 k
  have h0 : S * ((2 ^ k : Nat) : Int) < 0 ↔ S < 0 := by
    constructor
    · intro h
      rcases Int.lt_or_le S 0 with h1 | h1
      · exact h1
      · have := Int.mul_nonneg h1 (Int.natCast_nonneg (2 ^ k)); omega
    · intro h
      exact Int.mul_neg_of_neg_of_pos h (by omega)
  unfold rkey
  rw [Int.natAbs_mul, Int.natAbs_natCast, (rung_shift S.natAbs k f).1]
  by_cases h : S < 0
  · rw [if_pos h, if_pos (h0.2 h)]
  · rw [if_neg h, if_neg (fun k => h (h0.1 k))]

theorem key_sign (s : Bool) {r : Nat} (h : r < 2 ^ 63) : keyN (signN s r) = sgn s r := by
  unfold keyN signN negN
  cases s
  · have h1 : ¬ 2 ^ 63 ≤ r := by omega
    have h2 : r % 2 ^ 63 = r := Nat.mod_eq_of_lt h
    simp only [Bool.false_eq_true, if_false, decide_eq_false h1, h2]
  · have h1 : 2 ^ 63 ≤ 2 ^ 63 + r := by omega
    have h2 : (2 ^ 63 + r) % 2 ^ 63 = r := by omega
    simp only [if_true, decide_eq_true h1, h2]

theorem key_round (s : Bool) (S f : Int) : keyN (roundZ (signN s 0) S f).1 = rkey S f := by
  unfold roundZ rkey
  by_cases h : S = 0
  · subst h
    have e : rung (Int.natAbs 0) f = 0 := if_pos rfl
    rw [if_pos rfl, e, key_sign s (by decide)]
    cases s <;> rfl
  · rw [if_neg h]
    show keyN (signN _ _) = _
    rw [key_sign _ (rung_lt _ _)]
    unfold sgn
    by_cases h1 : S < 0
    · rw [if_pos h1, decide_eq_true h1, if_pos rfl]
    · rw [if_neg h1, decide_eq_false h1, if_neg (by decide)]

theorem val_shift {b : Nat} {f g : Int} {k : Nat} (hk : g = f - k) (hf : f ≤ partE b) : valAt b g = valAt b f * ((2 ^ k : Nat) : Int) := by
  unfold valAt
  have e : (partE b - g).toNat = (partE b - f).toNat + k := by omega
  rw [e, Nat.pow_add, ← Nat.mul_assoc]
  generalize partM b * 2 ^ (partE b - f).toNat = m
  generalize 2 ^ k = p
  unfold sgn
  cases negN b
  · exact Int.natCast_mul m p
  · show -((m * p : Nat) : Int) = -(m : Int) * (p : Int)
    rw [Int.natCast_mul, Int.neg_mul]

theorem add_key {a c : Nat} (a3 : kindN a ≠ 3) (a4 : kindN a ≠ 4) (c3 : kindN c ≠ 3) (c4 : kindN c ≠ 4) {g : Int} (hg : g ≤ min (partE a) (partE c)) :
    keyN (addN a c).1 = rkey (valAt a g + valAt c g) g := by
  rw [addN_num (fun h => h.elim a4 c4) a3 c3, key_round]
  obtain ⟨k, hk⟩ : ∃ k : Nat, g = min (partE a) (partE c) - k := ⟨(min (partE a) (partE c) - g).toNat, by omega⟩
  rw [val_shift (b := a) hk (Int.min_le_left _ _), val_shift (b := c) hk (Int.min_le_right _ _), ← Int.add_mul, hk, rkey_shift]

theorem add_inf_r {a c : Nat} (a4 : kindN a ≠ 4) (c3 : kindN c = 3) (hu : kindN (addN a c).1 ≠ 4) : (addN a c).1 = c := by
  have h4 : ¬ (kindN a = 4 ∨ kindN c = 4) := by omega
  by_cases a3 : kindN a = 3
  · rw [addN_inf h4 a3] at hu ⊢
    by_cases h : a = c
    · rw [if_neg (fun k => k.2 h)]; exact h
    · rw [if_pos ⟨c3, h⟩] at hu
      exact absurd (by decide +kernel) hu
  · rw [addN_inf' h4 a3 c3]

theorem key_bounds {b : Nat} (h4 : kindN b ≠ 4) : -(infR : Int) ≤ keyN b ∧ keyN b ≤ infR := by
  have := key_le h4
  unfold keyN sgn
  split <;> omega

theorem add_rises {a b c : Nat} (a4 : kindN a ≠ 4) (b4 : kindN b ≠ 4) (c4 : kindN c ≠ 4) (hu : kindN (addN a c).1 ≠ 4) (hv : kindN (addN b c).1 ≠ 4) (h : keyN a ≤ keyN b) :
    keyN (addN a c).1 ≤ keyN (addN b c).1 := by
  by_cases c3 : kindN c = 3
  · rw [add_inf_r a4 c3 hu, add_inf_r b4 c3 hv]
    exact Int.le_refl _
  · have n1 : ¬ (kindN a = 4 ∨ kindN c = 4) := by omega
    have n2 : ¬ (kindN b = 4 ∨ kindN c = 4) := by omega
    have bu := key_bounds hu
    have bv := key_bounds hv
    by_cases a3 : kindN a = 3
    · have ea : (addN a c).1 = a := by rw [addN_inf n1 a3, if_neg (fun k => c3 k.1)]
      rw [ea]
      by_cases b3 : kindN b = 3
      · have eb : (addN b c).1 = b := by rw [addN_inf n2 b3, if_neg (fun k => c3 k.1)]
        rw [eb]; exact h
      · have kb := key_fin b3 b4
        have ka := key_inf a3
        have : keyN a = -(infR : Int) := by
          unfold keyN sgn at h ⊢
          rw [ka] at h ⊢
          revert h
          cases negN a <;> cases negN b <;> simp <;> omega
        omega
    · by_cases b3 : kindN b = 3
      · have eb : (addN b c).1 = b := by rw [addN_inf n2 b3, if_neg (fun k => c3 k.1)]
        rw [eb]
        have ka := key_fin a3 a4
        have kb := key_inf b3
        have : keyN b = (infR : Int) := by
          unfold keyN sgn at h ⊢
          rw [kb] at h ⊢
          revert h
          cases negN a <;> cases negN b <;> simp <;> omega
        omega
      · have hg1 : min (min (partE a) (partE c)) (min (partE b) (partE c)) ≤ min (partE a) (partE c) := Int.min_le_left _ _
        have hg2 : min (min (partE a) (partE c)) (min (partE b) (partE c)) ≤ min (partE b) (partE c) := Int.min_le_right _ _
        rw [add_key a3 a4 c3 c4 hg1, add_key b3 b4 c3 c4 hg2]
        refine rkey_mono ?_
        have hlt := val_lt (f := min (min (partE a) (partE c)) (min (partE b) (partE c))) b4 a4 (by omega) (by omega)
        have : ¬ valAt b (min (min (partE a) (partE c)) (min (partE b) (partE c))) < valAt a (min (min (partE a) (partE c)) (min (partE b) (partE c))) := fun k => by
          have := hlt.1 k; omega
        omega

end Go.Rnd
