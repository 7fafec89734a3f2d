/- Lim of the verified evaluator and its use for this seat (of my texts Limb, DyL, DyV). -/
import Derived.Test.YtnnoocnokacpmaaGreatFlo

/- Whole numbers by their limbs: plain lists, no program. -/
namespace Go.Rnd
open Go.Den

def valL : List Int → Nat
  | [] => 0
  | x :: l => x.toNat + 4294967296 * valL l
/-- The lowest k limbs. -/
def digits : Nat → Nat → List Int
  | 0, _ => []
  | k + 1, v => ((v % 4294967296 : Nat) : Int) :: digits k (v / 4294967296)
/-- How many limbs a number has. -/
def lenN (n : Nat) : Nat := if n = 0 then 0 else n.log2 / 32 + 1
def limbs (n : Nat) : List Int := digits (lenN n) n
def limbsI (v : Int) : List Int := limbs v.natAbs
def negW (v : Int) : Bool := decide (v < 0)
def wv (n : Bool) (l : List Int) : Int := sgn n (valL l)
def inL (l : List Int) : Prop := ∀ x ∈ l, 0 ≤ x ∧ x < 4294967296
noncomputable def okL (l : List Int) : Bool := cdec (l.length < 1073741824 ∧ inL l)
noncomputable def okW (n : Bool) (l : List Int) : Bool := cdec (l.length < 268435456 ∧ l = limbs (valL l) ∧ (n = true → l ≠ []))
noncomputable def okV (n : Bool) (l : List Int) : Bool := cdec (l.length < 134217728 ∧ l = limbs (valL l) ∧ (n = true → l ≠ []))
noncomputable def okSh (k : Int) : Bool := cdec (-1000000 ≤ k ∧ k ≤ 1000000)
noncomputable def inI64 (k : Int) : Bool := cdec (-9223372036854775808 ≤ k ∧ k ≤ 9223372036854775807)
def limbAt (l : List Int) (i : Int) : Int := if 0 ≤ i then l.getD i.toNat 0 else 0
def plusL (a b : List Int) : List Int := digits (max a.length b.length + 1) (valL a + valL b)
def minusL (a b : List Int) : List Int := digits a.length (valL a - valL b)
noncomputable def leL (a b : List Int) : Bool := cdec (valL a ≤ valL b)
def cmpN (a b : Nat) : Int := if a < b then -1 else if b < a then 1 else 0
def cmpZ (a b : Int) : Int := if a < b then -1 else if b < a then 1 else 0
/-- Towards 0. -/
def shR (v : Int) (j : Nat) : Int := sgn (negW v) (v.natAbs / 2 ^ j)
def shW (v k : Int) : Int := if 0 ≤ k then v * ((2 ^ k.toNat : Nat) : Int) else shR v (-k).toNat
def lenI (v : Int) : Int := if v = 0 then 0 else (v.natAbs.log2 : Int) + 1
def oddB (v : Int) : Bool := decide (v % 2 = 1)
def sameI (v w : Int) : Bool := decide (v = w)

theorem two32 : 2 ^ 32 = 4294967296 := by decide
theorem pow32 (k : Nat) : 2 ^ (32 * (k + 1)) = 4294967296 * 2 ^ (32 * k) := by
  rw [Nat.mul_add, Nat.mul_one, Nat.pow_add, Nat.mul_comm, two32]

theorem digits_length : ∀ (k v : Nat), (digits k v).length = k
  | 0, _ => rfl
  | k + 1, v => by rw [digits, List.length_cons, digits_length k]

theorem digits_in : ∀ (k v : Nat), inL (digits k v)
  | 0, _ => fun x h => by cases h
  | k + 1, v => fun x h => by
    rw [digits, List.mem_cons] at h
    rcases h with rfl | h
    · omega
    · exact digits_in k _ x h

theorem valL_digits : ∀ (k v : Nat), valL (digits k v) = v % 2 ^ (32 * k)
  | 0, v => by rw [digits, valL, Nat.mul_zero, Nat.pow_zero, Nat.mod_one]
  | k + 1, v => by
    rw [digits, valL, valL_digits k, Int.toNat_natCast, pow32, Nat.mod_mul]

theorem valL_lt : ∀ {l : List Int}, inL l → valL l < 2 ^ (32 * l.length)
  | [], _ => by decide
  | x :: l, h => by
    have h1 := h x (List.mem_cons_self ..)
    have h2 := valL_lt (l := l) (fun y hy => h y (List.mem_cons_of_mem _ hy))
    rw [valL, List.length_cons, pow32]
    omega

theorem digits_valL : ∀ {l : List Int}, inL l → digits l.length (valL l) = l
  | [], _ => rfl
  | x :: l, h => by
    have h1 := h x (List.mem_cons_self ..)
    have h2 := digits_valL (l := l) (fun y hy => h y (List.mem_cons_of_mem _ hy))
    rw [valL, List.length_cons, digits]
    have e1 : (x.toNat + 4294967296 * valL l) % 4294967296 = x.toNat := by omega
    have e2 : (x.toNat + 4294967296 * valL l) / 4294967296 = valL l := by omega
    rw [e1, e2, h2]
    congr 1
    omega

theorem lt_lenN (n : Nat) : n < 2 ^ (32 * lenN n) := by
  unfold lenN
  by_cases h : n = 0
  · rw [if_pos h, h]; decide
  · rw [if_neg h]
    exact Nat.lt_of_lt_of_le Nat.lt_log2_self (Nat.pow_le_pow_right (by decide) (by omega))

theorem lenN_le {n k : Nat} (h : n < 2 ^ (32 * k)) : lenN n ≤ k := by
  unfold lenN
  by_cases h0 : n = 0
  · rw [if_pos h0]; exact Nat.zero_le _
  · rw [if_neg h0]
    have := (Nat.log2_lt h0).2 h
    omega

theorem lenN_ge {n k : Nat} (h : 2 ^ (32 * k) ≤ n) : k + 1 ≤ lenN n := by
  have hp := pow_pos2 (32 * k)
  unfold lenN
  rw [if_neg (by omega)]
  have := (Nat.le_log2 (by omega)).2 h
  omega

theorem lenN_mono {n m : Nat} (h : n ≤ m) : lenN n ≤ lenN m := lenN_le (Nat.lt_of_le_of_lt h (lt_lenN m))

theorem valL_limbs (n : Nat) : valL (limbs n) = n := by
  unfold limbs
  rw [valL_digits, Nat.mod_eq_of_lt (lt_lenN n)]

theorem limbs_length (n : Nat) : (limbs n).length = lenN n := digits_length _ _
theorem limbs_in (n : Nat) : inL (limbs n) := digits_in _ _

theorem digits_get : ∀ (k v i : Nat), i < k → (digits k v).getD i 0 = ((v / 2 ^ (32 * i) % 4294967296 : Nat) : Int)
  | k + 1, v, 0, _ => by rw [digits, List.getD_cons_zero, Nat.mul_zero, Nat.pow_zero, Nat.div_one]
  | k + 1, v, i + 1, h => by
    rw [digits, List.getD_cons_succ, digits_get k _ i (by omega), pow32, Nat.div_div_eq_div_mul]

theorem get_val {l : List Int} (h : inL l) (i : Nat) : l.getD i 0 = ((valL l / 2 ^ (32 * i) % 4294967296 : Nat) : Int) := by
  by_cases hi : i < l.length
  · have := digits_get l.length (valL l) i hi
    rw [digits_valL h] at this
    exact this
  · have h1 := valL_lt h
    have h2 : 2 ^ (32 * l.length) ≤ 2 ^ (32 * i) := Nat.pow_le_pow_right (by decide) (by omega)
    rw [Nat.div_eq_of_lt (by omega), List.getD_eq_getElem?_getD, List.getElem?_eq_none (by omega)]
    rfl

theorem limbAt_val {l : List Int} (h : inL l) (i : Nat) : limbAt l (i : Int) = ((valL l / 2 ^ (32 * i) % 4294967296 : Nat) : Int) := by
  unfold limbAt
  rw [if_pos (by omega), Int.toNat_natCast, get_val h]

theorem digits_snoc : ∀ (k v : Nat), digits (k + 1) v = digits k v ++ [((v / 2 ^ (32 * k) % 4294967296 : Nat) : Int)]
  | 0, v => by rw [digits, digits, digits, Nat.mul_zero, Nat.pow_zero, Nat.div_one]; rfl
  | k + 1, v => by
    rw [digits, digits_snoc k, pow32, ← Nat.div_div_eq_div_mul]
    rfl

theorem digits_take : ∀ (j k v : Nat), j ≤ k → (digits k v).take j = digits j v
  | 0, _, _, _ => by rw [List.take_zero, digits]
  | j + 1, k + 1, v, h => by rw [digits, List.take_succ_cons, digits_take j k _ (by omega), digits]

theorem limbs_take {l : List Int} (h : inL l) : l.take (lenN (valL l)) = limbs (valL l) := by
  have h1 := digits_take (lenN (valL l)) l.length (valL l) (lenN_le (valL_lt h))
  rw [digits_valL h] at h1
  exact h1

theorem lenN_zero : lenN 0 = 0 := rfl
theorem lenN_pos {n : Nat} (h : n ≠ 0) : 0 < lenN n := by unfold lenN; rw [if_neg h]; omega

theorem wv_of (v : Int) : wv (negW v) (limbsI v) = v := by
  unfold wv negW limbsI sgn
  rw [valL_limbs]
  by_cases h : v < 0
  · rw [decide_eq_true h, if_pos rfl]; omega
  · rw [decide_eq_false h, if_neg (by decide)]; omega

theorem okL_of {l : List Int} (h : l.length < 1073741824) (hi : inL l) : okL l = true := cdec_eq.2 ⟨h, hi⟩
theorem okL_get {l : List Int} (h : okL l = true) : l.length < 1073741824 ∧ inL l := cdec_eq.1 h

theorem canon_of (v : Int) : limbsI v = limbs (valL (limbsI v)) ∧ (negW v = true → limbsI v ≠ []) := by
  unfold limbsI
  rw [valL_limbs]
  refine ⟨rfl, fun h e => ?_⟩
  have h1 : v < 0 := of_decide_eq_true h
  have h2 := limbs_length v.natAbs
  rw [e] at h2
  have := lenN_pos (n := v.natAbs) (by omega)
  rw [← h2] at this
  exact absurd this (by decide)

theorem okW_of {v : Int} (h : lenN v.natAbs < 268435456) : okW (negW v) (limbsI v) = true :=
  cdec_eq.2 ⟨by unfold limbsI; rw [limbs_length]; exact h, canon_of v⟩
theorem okV_of {v : Int} (h : lenN v.natAbs < 134217728) : okV (negW v) (limbsI v) = true :=
  cdec_eq.2 ⟨by unfold limbsI; rw [limbs_length]; exact h, canon_of v⟩

theorem canon_get {n : Bool} {l : List Int} (h1 : l = limbs (valL l)) (h2 : n = true → l ≠ []) : n = negW (wv n l) ∧ l = limbsI (wv n l) := by
  have e : (wv n l).natAbs = valL l := by unfold wv sgn; split <;> omega
  refine ⟨?_, by unfold limbsI; rw [e]; exact h1⟩
  unfold negW wv sgn
  cases n
  · simp
  · have h3 := h2 rfl
    have h4 : valL l ≠ 0 := fun h => by
      rw [h] at h1
      exact h3 h1
    simp; omega

theorem okW_get {n : Bool} {l : List Int} (h : okW n l = true) : ∃ v, n = negW v ∧ l = limbsI v ∧ lenN v.natAbs < 268435456 := by
  obtain ⟨h0, h1, h2⟩ := cdec_eq.1 h
  obtain ⟨e1, e2⟩ := canon_get h1 h2
  refine ⟨_, e1, e2, ?_⟩
  have := congrArg List.length e2
  unfold limbsI at this
  rw [limbs_length] at this
  omega
theorem okV_get {n : Bool} {l : List Int} (h : okV n l = true) : ∃ v, n = negW v ∧ l = limbsI v ∧ lenN v.natAbs < 134217728 := by
  obtain ⟨h0, h1, h2⟩ := cdec_eq.1 h
  obtain ⟨e1, e2⟩ := canon_get h1 h2
  refine ⟨_, e1, e2, ?_⟩
  have := congrArg List.length e2
  unfold limbsI at this
  rw [limbs_length] at this
  omega

theorem okL_limbs {v : Int} (h : lenN v.natAbs < 1073741824) : okL (limbsI v) = true :=
  okL_of (by unfold limbsI; rw [limbs_length]; exact h) (limbs_in _)

theorem valL_limbsI (v : Int) : valL (limbsI v) = v.natAbs := valL_limbs _
theorem length_limbsI (v : Int) : (limbsI v).length = lenN v.natAbs := limbs_length _

theorem wv_neg (n : Bool) (l : List Int) : wv (!n) l = - wv n l := by
  unfold wv sgn
  cases n <;> simp

theorem plusL_val {a b : List Int} (ha : inL a) (hb : inL b) : valL (plusL a b) = valL a + valL b := by
  unfold plusL
  rw [valL_digits, Nat.mod_eq_of_lt]
  have h1 := valL_lt ha
  have h2 := valL_lt hb
  have h3 : 2 ^ (32 * a.length) ≤ 2 ^ (32 * max a.length b.length) := Nat.pow_le_pow_right (by decide) (by omega)
  have h4 : 2 ^ (32 * b.length) ≤ 2 ^ (32 * max a.length b.length) := Nat.pow_le_pow_right (by decide) (by omega)
  rw [pow32]
  omega
theorem plusL_length (a b : List Int) : (plusL a b).length = max a.length b.length + 1 := digits_length _ _
theorem plusL_in (a b : List Int) : inL (plusL a b) := digits_in _ _
theorem minusL_val {a : List Int} (b : List Int) (ha : inL a) : valL (minusL a b) = valL a - valL b := by
  unfold minusL
  rw [valL_digits, Nat.mod_eq_of_lt]
  have h1 := valL_lt ha
  omega
theorem minusL_length (a b : List Int) : (minusL a b).length = a.length := digits_length _ _
theorem minusL_in (a b : List Int) : inL (minusL a b) := digits_in _ _

theorem shR_abs (v : Int) (j : Nat) : (shR v j).natAbs = v.natAbs / 2 ^ j := by
  unfold shR
  generalize v.natAbs / 2 ^ j = m
  unfold sgn; split <;> omega

theorem sgn_neg {v : Int} (h : v < 0) (m : Nat) : sgn (negW v) m = -(m : Int) := by
  unfold sgn negW; rw [decide_eq_true h, if_pos rfl]
theorem sgn_pos {v : Int} (h : ¬ v < 0) (m : Nat) : sgn (negW v) m = (m : Int) := by
  unfold sgn negW; rw [decide_eq_false h, if_neg (by decide)]

theorem shR_add (v : Int) (i j : Nat) : shR (shR v i) j = shR v (i + j) := by
  have e : v.natAbs / 2 ^ (i + j) = v.natAbs / 2 ^ i / 2 ^ j := by rw [Nat.pow_add, Nat.div_div_eq_div_mul]
  have h1 := shR_abs v i
  by_cases hv : v < 0
  · have h2 : shR v i = -((v.natAbs / 2 ^ i : Nat) : Int) := sgn_neg hv _
    rw [show shR v (i + j) = -((v.natAbs / 2 ^ (i + j) : Nat) : Int) from sgn_neg hv _, e]
    by_cases h0 : v.natAbs / 2 ^ i = 0
    · rw [h2, h0]
      show shR 0 j = _
      rw [Nat.zero_div]
      show sgn (negW 0) (0 / 2 ^ j) = _
      rw [Nat.zero_div]; rfl
    · have h3 : shR v i < 0 := by omega
      rw [show shR (shR v i) j = -(((shR v i).natAbs / 2 ^ j : Nat) : Int) from sgn_neg h3 _, h1]
  · have h2 : shR v i = ((v.natAbs / 2 ^ i : Nat) : Int) := sgn_pos hv _
    have h3 : ¬ shR v i < 0 := by omega
    rw [show shR (shR v i) j = (((shR v i).natAbs / 2 ^ j : Nat) : Int) from sgn_pos h3 _, h1, show shR v (i + j) = ((v.natAbs / 2 ^ (i + j) : Nat) : Int) from sgn_pos hv _, e]

theorem shR_zero (v : Int) : shR v 0 = v := by
  unfold shR sgn negW
  rw [Nat.pow_zero, Nat.div_one]
  by_cases h : v < 0
  · rw [decide_eq_true h, if_pos rfl]; omega
  · rw [decide_eq_false h, if_neg (by decide)]; omega

theorem shR_nil (j : Nat) : shR 0 j = 0 := by
  unfold shR
  rw [show (Int.natAbs 0) = 0 from rfl, Nat.zero_div]
  rfl

theorem valL_tail {l : List Int} (h : inL l) : valL (l.drop 1) = valL l / 4294967296 := by
  cases l with
  | nil => rfl
  | cons x l =>
    have := h x (List.mem_cons_self ..)
    show valL l = _
    rw [valL]; omega
theorem inL_tail {l : List Int} (h : inL l) : inL (l.drop 1) := fun x hx => h x (List.mem_of_mem_drop hx)
theorem inL_zero {l : List Int} (h : inL l) : inL ([(0 : Int)] ++ l) := fun x hx => by
  rcases List.mem_cons.1 hx with rfl | hx
  · omega
  · exact h x hx

theorem lenN_two (n : Nat) : lenN (2 * n) ≤ lenN n + 1 := by
  refine lenN_le ?_
  have h := lt_lenN n
  rw [pow32]
  omega
theorem lenN_up (n : Nat) : lenN (n * 4294967296) ≤ lenN n + 1 := by
  refine lenN_le ?_
  have h := lt_lenN n
  rw [pow32]
  omega

theorem log2_div {n m : Nat} (h : 2 ^ m ≤ n) : (n / 2 ^ m).log2 + m = n.log2 := by
  have hp := pow_pos2 m
  have h0 : n ≠ 0 := by omega
  have hm : m ≤ n.log2 := (Nat.le_log2 h0).2 h
  have e : (n / 2 ^ m).log2 = n.log2 - m := by
    refine log2_eq ?_ ?_
    · rw [Nat.le_div_iff_mul_le hp, ← Nat.pow_add]
      exact Nat.le_trans (Nat.pow_le_pow_right (by decide) (by omega)) (Nat.log2_self_le h0)
    · rw [Nat.div_lt_iff_lt_mul hp, ← Nat.pow_add]
      exact Nat.lt_of_lt_of_le Nat.lt_log2_self (Nat.pow_le_pow_right (by decide) (by omega))
  omega

end Go.Rnd

/- Dyadic numbers: a whole number times a power of two, without what is even in it. Plain numbers, no program. -/
namespace Go.Rnd
open Go.Den

/-- How often 2 divides a number. -/
def tzN (n : Nat) : Nat := if h : n = 0 ∨ n % 2 = 1 then 0 else tzN (n / 2) + 1
termination_by n
decreasing_by omega

def mD (v : Int) : Int := shR v (tzN v.natAbs)
def eD (v e : Int) : Int := if v = 0 then 0 else e + tzN v.natAbs
def lowI (v e w f : Int) : Int := if v = 0 then f else if w = 0 then e else min e f
def addS (v e w f : Int) : Int := shW v (e - lowI v e w f) + shW w (f - lowI v e w f)
def addM (v e w f : Int) : Int := mD (addS v e w f)
def addE (v e w f : Int) : Int := eD (addS v e w f) (lowI v e w f)
def topI (v e : Int) : Int := if v = 0 then 0 else lenI v + e
def sgI (v : Int) : Int := if v < 0 then -1 else if v = 0 then 0 else 1
def cmpD (v e w f : Int) : Int := cmpZ (shW v (e - lowI v e w f)) (shW w (f - lowI v e w f))
noncomputable def okE2 (e : Int) : Bool := cdec (-2000000 ≤ e ∧ e ≤ 2000000)
noncomputable def okE (e : Int) : Bool := cdec (-400000 ≤ e ∧ e ≤ 400000)
noncomputable def okLv (v e f : Int) : Bool := cdec (v = 0 ∨ (-1000000 ≤ e - f ∧ e - f ≤ 1000000)) && cdec (-400000 ≤ e ∧ e ≤ 400000 ∧ -1000000 ≤ f ∧ f ≤ 1000000)

theorem tz_odd {n : Nat} (h : n = 0 ∨ n % 2 = 1) : tzN n = 0 := by rw [tzN, dif_pos h]
theorem tz_even {n : Nat} (h0 : n ≠ 0) (h : n % 2 = 0) : tzN n = tzN (n / 2) + 1 := by rw [tzN, dif_neg (by omega)]

theorem tz_mul {n : Nat} (h : n ≠ 0) : ∀ k, tzN (n * 2 ^ k) = k + tzN n
  | 0 => by rw [Nat.pow_zero, Nat.mul_one, Nat.zero_add]
  | k + 1 => by
    have hp := pow_pos2 k
    have h1 : n * 2 ^ k ≠ 0 := by
      intro e
      rcases Nat.mul_eq_zero.1 e with e | e <;> omega
    have e : n * 2 ^ (k + 1) = n * 2 ^ k * 2 := by rw [Nat.pow_succ, Nat.mul_assoc]
    rw [e, tz_even (by omega) (by omega), Nat.mul_div_cancel _ (by decide), tz_mul h k]
    omega

theorem tz_spec (n : Nat) (h : n ≠ 0) : ∃ m, n = m * 2 ^ tzN n ∧ m % 2 = 1 := by
  induction n using Nat.strongRecOn with
  | _ n ih =>
    by_cases h2 : n % 2 = 1
    · refine ⟨n, ?_, h2⟩
      rw [tz_odd (.inr h2), Nat.pow_zero, Nat.mul_one]
    · obtain ⟨m, h3, h4⟩ := ih (n / 2) (by omega) (by omega)
      refine ⟨m, ?_, h4⟩
      rw [tz_even h (by omega), Nat.pow_succ, ← Nat.mul_assoc, ← h3]
      omega

theorem tz_lt {n : Nat} (h : n ≠ 0) : tzN n ≤ n.log2 := by
  obtain ⟨m, h1, h2⟩ := tz_spec n h
  refine (Nat.le_log2 h).2 ?_
  have : 1 * 2 ^ tzN n ≤ m * 2 ^ tzN n := Nat.mul_le_mul_right _ (by omega)
  omega

theorem log2_lenN {n : Nat} : n.log2 < 32 * lenN n + 1 := by
  unfold lenN
  by_cases h : n = 0
  · rw [h]; decide
  · rw [if_neg h]; omega

/-- Without a power of two that divides it, at a higher place, a number is the same. -/
theorem mD_shR {v : Int} {k : Nat} (h : v.natAbs % 2 ^ k = 0) : mD (shR v k) = mD v := by
  unfold mD
  by_cases h0 : v = 0
  · rw [h0, shR_nil]
  · have hp := pow_pos2 k
    have hv := Nat.div_add_mod v.natAbs (2 ^ k)
    rw [h, Nat.add_zero, Nat.mul_comm] at hv
    have hq : v.natAbs / 2 ^ k ≠ 0 := by
      intro e; rw [e] at hv; omega
    have := tz_mul hq k
    rw [hv] at this
    rw [shR_abs, shR_add, this]

theorem eD_shR {v e : Int} {k : Nat} (h : v.natAbs % 2 ^ k = 0) (h0 : v ≠ 0) : eD (shR v k) (e + k) = eD v e := by
  unfold eD
  have hp := pow_pos2 k
  have hv := Nat.div_add_mod v.natAbs (2 ^ k)
  rw [h, Nat.add_zero, Nat.mul_comm] at hv
  have hq : v.natAbs / 2 ^ k ≠ 0 := by
    intro e; rw [e] at hv; omega
  have ht := tz_mul hq k
  rw [hv] at ht
  have ha := shR_abs v k
  rw [if_neg h0, if_neg (by omega), ha, ht]
  omega

theorem mD_odd {v : Int} (h : v % 2 = 1) : mD v = v := by
  unfold mD
  rw [tz_odd (.inr (by omega)), shR_zero]
theorem eD_odd {v : Int} (h : v % 2 = 1) (e : Int) : eD v e = e := by
  unfold eD
  rw [tz_odd (.inr (by omega)), if_neg (by omega)]
  omega

theorem shR_mul (v : Int) (k : Nat) : shR (v * ((2 ^ k : Nat) : Int)) k = v := by
  have hp := pow_pos2 k
  unfold shR
  rw [Int.natAbs_mul, Int.natAbs_natCast, Nat.mul_div_cancel _ hp]
  by_cases h : v < 0
  · have h1 : v * ((2 ^ k : Nat) : Int) < 0 := Int.mul_neg_of_neg_of_pos h (by omega)
    rw [sgn_neg h1]; omega
  · have h1 : ¬ v * ((2 ^ k : Nat) : Int) < 0 := by
      have := Int.mul_nonneg (show (0 : Int) ≤ v by omega) (Int.natCast_nonneg (2 ^ k))
      omega
    rw [sgn_pos h1]; omega

theorem mul_mod_zero (v : Int) (k : Nat) : (v * ((2 ^ k : Nat) : Int)).natAbs % 2 ^ k = 0 := by
  rw [Int.natAbs_mul, Int.natAbs_natCast, Nat.mul_mod_left]

theorem mD_mul (v : Int) (k : Nat) : mD (v * ((2 ^ k : Nat) : Int)) = mD v := by
  rw [← mD_shR (mul_mod_zero v k), shR_mul]

theorem mul_ne {v : Int} (h : v ≠ 0) (k : Nat) : v * ((2 ^ k : Nat) : Int) ≠ 0 := by
  have hp := pow_pos2 k
  intro e
  rcases Int.mul_eq_zero.1 e with e | e
  · exact h e
  · omega

theorem eD_mul (v e : Int) (k : Nat) : eD (v * ((2 ^ k : Nat) : Int)) (e - k) = eD v e := by
  by_cases h : v = 0
  · rw [h, Int.zero_mul]; rfl
  · rw [← eD_shR (mul_mod_zero v k) (mul_ne h k), shR_mul]
    congr 1
    omega

/-- A number by its odd part. -/
theorem mD_spec (v : Int) : v = mD v * ((2 ^ tzN v.natAbs : Nat) : Int) := by
  by_cases h : v = 0
  · rw [h]
    show (0 : Int) = shR 0 _ * _
    rw [shR_nil, Int.zero_mul]
  · obtain ⟨m, h1, h2⟩ := tz_spec v.natAbs (by omega)
    have hp := pow_pos2 (tzN v.natAbs)
    have hq : v.natAbs / 2 ^ tzN v.natAbs = m := Nat.div_eq_of_eq_mul_left hp h1
    unfold mD shR
    rw [hq]
    by_cases hv : v < 0
    · rw [sgn_neg hv, Int.neg_mul, ← Int.natCast_mul, ← h1]; omega
    · rw [sgn_pos hv, ← Int.natCast_mul, ← h1]; omega

theorem mD_zero {v : Int} : mD v = 0 ↔ v = 0 := by
  constructor
  · intro h
    have := mD_spec v
    rw [h, Int.zero_mul] at this
    exact this
  · intro h
    rw [h]
    exact shR_nil _

theorem mD_abs_le (v : Int) : (mD v).natAbs ≤ v.natAbs := by
  unfold mD
  rw [shR_abs]
  exact Nat.div_le_self _ _

end Go.Rnd

/- The values of dyadic numbers, at one place. Plain numbers, no program. -/
namespace Go.Rnd
open Go.Den

def vAt (v e g : Int) : Int := v * ((2 ^ (e - g).toNat : Nat) : Int)

theorem vAt_zero (e g : Int) : vAt 0 e g = 0 := Int.zero_mul _
theorem vAt_same (v e : Int) : vAt v e e = v := by
  unfold vAt
  rw [Int.sub_self, Int.toNat_zero, Nat.pow_zero]
  exact Int.mul_one v

theorem vAt_split {v e g h : Int} (h1 : h ≤ e) (h2 : g ≤ h) : vAt v e g = vAt v e h * ((2 ^ (h - g).toNat : Nat) : Int) := by
  unfold vAt
  rw [Int.mul_assoc, ← Int.natCast_mul, ← Nat.pow_add]
  have : (e - h).toNat + (h - g).toNat = (e - g).toNat := by omega
  rw [this]

theorem vAt_neg (v e g : Int) : vAt (-v) e g = -(vAt v e g) := Int.neg_mul _ _

/-- The odd part, at its place, is the number. -/
theorem vAt_odd {S l g : Int} (h : g ≤ l) : vAt (mD S) (eD S l) g = vAt S l g := by
  by_cases h0 : S = 0
  · rw [h0, mD_zero.2 rfl, vAt_zero, vAt_zero]
  · have e : eD S l = l + tzN S.natAbs := by unfold eD; rw [if_neg h0]
    rw [e]
    unfold vAt
    have e1 : (l + (tzN S.natAbs : Int) - g).toNat = tzN S.natAbs + (l - g).toNat := by omega
    rw [e1, Nat.pow_add, Int.natCast_mul, ← Int.mul_assoc, ← mD_spec]

theorem shW_vAt {v e l : Int} (h : v ≠ 0 → l ≤ e) : shW v (e - l) = vAt v e l := by
  by_cases h0 : v = 0
  · rw [h0, vAt_zero]
    unfold shW
    split
    · exact Int.zero_mul _
    · exact shR_nil _
  · unfold shW vAt
    rw [if_pos (by have := h h0; omega)]

theorem low_le {v e w f : Int} : (v ≠ 0 → lowI v e w f ≤ e) ∧ (w ≠ 0 → lowI v e w f ≤ f) := by
  unfold lowI
  constructor
  · intro h
    rw [if_neg h]
    split <;> omega
  · intro h
    split
    · omega
    · omega

theorem le_low {v e w f g : Int} (h1 : g ≤ e) (h2 : g ≤ f) : g ≤ lowI v e w f := by
  unfold lowI
  split
  · exact h2
  · split <;> omega

theorem addS_vAt {v e w f g : Int} (h1 : g ≤ e) (h2 : g ≤ f) : vAt (addS v e w f) (lowI v e w f) g = vAt v e g + vAt w f g := by
  obtain ⟨l1, l2⟩ := low_le (v := v) (e := e) (w := w) (f := f)
  have hg := le_low (v := v) (w := w) h1 h2
  unfold addS
  rw [shW_vAt l1, shW_vAt l2]
  have e1 : vAt v e g = vAt v e (lowI v e w f) * ((2 ^ (lowI v e w f - g).toNat : Nat) : Int) := by
    by_cases h0 : v = 0
    · rw [h0, vAt_zero, vAt_zero, Int.zero_mul]
    · exact vAt_split (l1 h0) hg
  have e2 : vAt w f g = vAt w f (lowI v e w f) * ((2 ^ (lowI v e w f - g).toNat : Nat) : Int) := by
    by_cases h0 : w = 0
    · rw [h0, vAt_zero, vAt_zero, Int.zero_mul]
    · exact vAt_split (l2 h0) hg
  rw [e1, e2, ← Int.add_mul]
  rfl

theorem add_vAt {v e w f g : Int} (h1 : g ≤ e) (h2 : g ≤ f) : vAt (addM v e w f) (addE v e w f) g = vAt v e g + vAt w f g := by
  unfold addM addE
  rw [vAt_odd (le_low h1 h2), addS_vAt h1 h2]

theorem addE_ge {v e w f g : Int} (h1 : g ≤ e) (h2 : g ≤ f) (h0 : addM v e w f ≠ 0) : g ≤ addE v e w f := by
  have := le_low (v := v) (w := w) h1 h2
  have hs : addS v e w f ≠ 0 := fun h => h0 (mD_zero.2 h)
  unfold addE eD
  rw [if_neg hs]
  omega

theorem eD_ge {v e g : Int} (h : g ≤ e) (h0 : v ≠ 0) : g ≤ eD v e := by
  unfold eD
  rw [if_neg h0]
  omega

theorem cmpZ_mul (x y : Int) (k : Nat) : cmpZ (x * ((2 ^ k : Nat) : Int)) (y * ((2 ^ k : Nat) : Int)) = cmpZ x y := by
  have hp := pow_pos2 k
  have h1 : x * ((2 ^ k : Nat) : Int) < y * ((2 ^ k : Nat) : Int) ↔ x < y := Int.mul_lt_mul_right (by omega)
  have h2 : y * ((2 ^ k : Nat) : Int) < x * ((2 ^ k : Nat) : Int) ↔ y < x := Int.mul_lt_mul_right (by omega)
  unfold cmpZ
  simp only [h1, h2]

/-- The order is that of the values, at any place that is low enough. -/
theorem cmp_vAt {v e w f g : Int} (h1 : v ≠ 0 → g ≤ e) (h2 : w ≠ 0 → g ≤ f) : cmpD v e w f = cmpZ (vAt v e g) (vAt w f g) := by
  obtain ⟨l1, l2⟩ := low_le (v := v) (e := e) (w := w) (f := f)
  unfold cmpD
  rw [shW_vAt l1, shW_vAt l2]
  by_cases h0 : v = 0 ∧ w = 0
  · rw [h0.1, h0.2, vAt_zero, vAt_zero, vAt_zero, vAt_zero]
  · have hg : g ≤ lowI v e w f := by
      unfold lowI
      split
      · rename_i hv
        exact h2 (fun k => h0 ⟨hv, k⟩)
      · split
        · exact h1 (by assumption)
        · have := h1 (by assumption); have := h2 (by assumption); omega
    have e1 : vAt v e g = vAt v e (lowI v e w f) * ((2 ^ (lowI v e w f - g).toNat : Nat) : Int) := by
      by_cases h0 : v = 0
      · rw [h0, vAt_zero, vAt_zero, Int.zero_mul]
      · exact vAt_split (l1 h0) hg
    have e2 : vAt w f g = vAt w f (lowI v e w f) * ((2 ^ (lowI v e w f - g).toNat : Nat) : Int) := by
      by_cases h0 : w = 0
      · rw [h0, vAt_zero, vAt_zero, Int.zero_mul]
      · exact vAt_split (l2 h0) hg
    rw [e1, e2, cmpZ_mul]

theorem rung_vAt {v e g : Int} (h : g ≤ e) : rung (vAt v e g).natAbs g = rung v.natAbs e ∧ flagsOf (vAt v e g).natAbs g = flagsOf v.natAbs e := by
  have := rung_shift v.natAbs (e - g).toNat e
  have e1 : e - ((e - g).toNat : Int) = g := by omega
  unfold vAt
  rw [Int.natAbs_mul, Int.natAbs_natCast]
  rw [e1] at this
  exact this

theorem le_low' {v e w f g : Int} (h1 : v ≠ 0 → g ≤ e) (h2 : w ≠ 0 → g ≤ f) (h0 : ¬ (v = 0 ∧ w = 0)) : g ≤ lowI v e w f := by
  unfold lowI
  split
  · rename_i hv
    exact h2 (fun k => h0 ⟨hv, k⟩)
  · split
    · exact h1 (by assumption)
    · have := h1 (by assumption); have := h2 (by assumption); omega

theorem addM_zero (e f : Int) : addM 0 e 0 f = 0 := by
  unfold addM addS
  rw [mD_zero, shW_vAt (fun h => absurd rfl h), shW_vAt (fun h => absurd rfl h), vAt_zero, vAt_zero]
  rfl

theorem add_vAt' {v e w f g : Int} (h1 : v ≠ 0 → g ≤ e) (h2 : w ≠ 0 → g ≤ f) : vAt (addM v e w f) (addE v e w f) g = vAt v e g + vAt w f g := by
  by_cases h0 : v = 0 ∧ w = 0
  · rw [h0.1, h0.2, addM_zero, vAt_zero, vAt_zero, vAt_zero]; rfl
  · obtain ⟨l1, l2⟩ := low_le (v := v) (e := e) (w := w) (f := f)
    have hg := le_low' h1 h2 h0
    unfold addM addE
    rw [vAt_odd hg]
    unfold addS
    rw [shW_vAt l1, shW_vAt l2]
    have e1 : vAt v e g = vAt v e (lowI v e w f) * ((2 ^ (lowI v e w f - g).toNat : Nat) : Int) := by
      by_cases h0 : v = 0
      · rw [h0, vAt_zero, vAt_zero, Int.zero_mul]
      · exact vAt_split (l1 h0) hg
    have e2 : vAt w f g = vAt w f (lowI v e w f) * ((2 ^ (lowI v e w f - g).toNat : Nat) : Int) := by
      by_cases h0 : w = 0
      · rw [h0, vAt_zero, vAt_zero, Int.zero_mul]
      · exact vAt_split (l2 h0) hg
    rw [e1, e2, ← Int.add_mul]
    rfl

theorem addE_ge' {v e w f g : Int} (h1 : v ≠ 0 → g ≤ e) (h2 : w ≠ 0 → g ≤ f) (h0 : addM v e w f ≠ 0) : g ≤ addE v e w f := by
  have hz : ¬ (v = 0 ∧ w = 0) := fun k => h0 (by rw [k.1, k.2]; exact addM_zero e f)
  have := le_low' h1 h2 hz
  have hs : addS v e w f ≠ 0 := fun h => h0 (mD_zero.2 h)
  unfold addE eD
  rw [if_neg hs]
  omega

/-- A number that is not 0, and small, lies not high. -/
theorem place_lt {m E g : Int} {t : Nat} (h0 : m ≠ 0) (h : (vAt m E g).natAbs < 2 ^ t) : E - g < t := by
  unfold vAt at h
  rw [Int.natAbs_mul, Int.natAbs_natCast] at h
  rcases Int.lt_or_le (E - g) t with k | k
  · exact k
  · exfalso
    have h1 : 2 ^ t ≤ 2 ^ (E - g).toNat := Nat.pow_le_pow_right (by decide) (by omega)
    have h2 : 1 * 2 ^ (E - g).toNat ≤ m.natAbs * 2 ^ (E - g).toNat := Nat.mul_le_mul_right _ (by omega)
    omega

theorem abs_le_vAt (m E g : Int) : m.natAbs ≤ (vAt m E g).natAbs := by
  have hp := pow_pos2 (E - g).toNat
  unfold vAt
  rw [Int.natAbs_mul, Int.natAbs_natCast]
  exact Nat.le_mul_of_pos_right _ hp

theorem vAt_zero_iff {m E g : Int} : vAt m E g = 0 ↔ m = 0 := by
  constructor
  · intro h
    have := abs_le_vAt m E g
    rw [h] at this
    omega
  · intro h; rw [h]; exact vAt_zero _ _

/-- What is left of a number, where its part above a place is taken away. -/
theorem rest_plain {v : Int} (hv : 0 < v) (e : Int) (j : Nat) :
    let R := addM v e (-(mD (shR v j))) (eD (shR v j) (e + j))
    let E := addE v e (-(mD (shR v j))) (eD (shR v j) (e + j))
    vAt R E e = ((v.natAbs % 2 ^ j : Nat) : Int) ∧ (R ≠ 0 → e ≤ E) := by
  intro R E
  have hq : shR v j = ((v.natAbs / 2 ^ j : Nat) : Int) := sgn_pos (by omega) _
  have h2 : -(mD (shR v j)) ≠ 0 → e ≤ eD (shR v j) (e + j) := fun h => by
    have h3 : shR v j ≠ 0 := fun k => h (by rw [mD_zero.2 k]; rfl)
    exact eD_ge (by omega) h3
  refine ⟨?_, fun h => addE_ge' (fun _ => Int.le_refl e) h2 h⟩
  show vAt (addM _ _ _ _) (addE _ _ _ _) e = _
  rw [add_vAt' (fun _ => Int.le_refl e) h2, vAt_same, vAt_neg, vAt_odd (by omega), hq]
  unfold vAt
  have e1 : (e + (j : Int) - e).toNat = j := by omega
  have hd := Nat.div_add_mod v.natAbs (2 ^ j)
  rw [e1, ← Int.natCast_mul, Nat.mul_comm]
  omega

/-! ### The words that the specs of layers 4 and 5 name -/

noncomputable def allU64 (l : List Int) : Bool := cdec (∀ x ∈ l, inU64 x = true)
def valI (x : Int) : Int := sgn (negN x.toNat) (partM x.toNat)
def absI (v : Int) : Int := v.natAbs
def bitsI (m e : Int) : Int := if m < 4503599627370496 then m else (min ((e + 1074).toNat * 2 ^ 52 + m.toNat) infR : Nat)
def nearRI (v s : Int) : Int := rdivZ v.natAbs s
def nearXI (v s : Int) : Bool := wholeZ v.natAbs s
def roundBI (v e : Int) : Int := (roundZ 0 v e).1
def roundFI (v e : Int) : Int := (roundZ 0 v e).2
def signI (n : Bool) (b : Int) : Int := if n then minusI b else b
def flagI (b : Int) (x : Bool) : Int := if kindI b = 3 then 5 else if x then 0 else if kindI b = 2 then 1 else 3
noncomputable def okBits (m e : Int) : Bool := cdec (0 ≤ m ∧ m < 9007199254740992 ∧ -1074 ≤ e ∧ e ≤ 100000)
noncomputable def small64 (v : Int) : Bool := cdec (v.natAbs < 18446744073709551616)
noncomputable def okNear (v e k : Int) : Bool := cdec (0 < v ∧ lenN v.natAbs < 100000000 ∧ -300000 ≤ e ∧ e ≤ 300000 ∧ -300000 ≤ k ∧ k ≤ 300000 ∧ nearRI v (k - e) < 9007199254740993)
noncomputable def okRnd (v e : Int) : Bool := cdec (lenN v.natAbs < 100000000 ∧ -300000 ≤ e ∧ e ≤ 300000)

end Go.Rnd
