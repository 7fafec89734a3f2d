/- Pow of the verified evaluator and its use for this seat (of my texts PowL, RootL, ScaleL). -/
import Derived.Test.YtnnoocnokacpmaaGreatMul
import Derived.Test.YtnnoocnokacpmaaGreatFlo

/- Products with powers of two and quotients by them; a number divided by itself. Plain numbers. -/
namespace Go.Rnd

theorem sign_join {b : Nat} (h : b < 2 ^ 64) : signN (negN b) (b % 2 ^ 63) = b := by
  unfold signN negN
  by_cases hb : 2 ^ 63 ≤ b
  · simp only [hb, decide_true, if_true]; omega
  · simp only [hb, decide_false, Bool.false_eq_true, if_false]; omega

theorem fin_word {b : Nat} (h : b < 2 ^ 64) (h4 : kindN b ≠ 4) : signN (negN b) (rung (partM b) (partE b)) = b := by
  rw [rung_word h4, sign_join h]

theorem fin_flags {b : Nat} (h3 : kindN b ≠ 3) (h4 : kindN b ≠ 4) : flagsOf (partM b) (partE b) = 0 := by
  by_cases h0 : partM b = 0
  · rw [h0]; exact flagsOf_zero _
  · have h1 := partM_lt b
    have h2 := partE_le b
    have h5 := key_fin h3 h4
    exact (exact_word false h0 (lastE_small (by omega) h2.1) (by rw [rung_word h4]; exact h5)).1

theorem mul_pow {a p : Nat} (a3 : kindN a ≠ 3) (a4 : kindN a ≠ 4) (p3 : kindN p ≠ 3) (p4 : kindN p ≠ 4) (hp : partM p = 2 ^ 52) (hn : negN p = false) :
    mulN a p = (signN (negN a) (rung (partM a) (partE a + partE p + 52)), flagsOf (partM a) (partE a + partE p + 52)) := by
  obtain ⟨s1, s2⟩ := rung_shift (partM a) 52 (partE a + partE p + 52)
  have e : partE a + partE p + 52 - ((52 : Nat) : Int) = partE a + partE p := by omega
  rw [e] at s1 s2
  have e2 : (negN a != false) = negN a := by cases negN a <;> rfl
  unfold mulN
  rw [if_neg (by omega), if_neg (by omega), hp, hn, s1, s2, e2]

theorem stick_pow (M : Nat) : stick M (2 ^ 52) 120 = M * 2 ^ 69 := by
  unfold stick
  have e : M * 2 ^ 120 = M * 2 ^ 68 * 2 ^ 52 := by rw [Nat.mul_assoc, ← Nat.pow_add]
  rw [e, Nat.mul_div_cancel _ (pow_pos2 52), Nat.mul_mod_left, if_pos rfl, Nat.add_zero, Nat.mul_left_comm]

theorem div_pow {a p : Nat} (a0 : kindN a ≠ 0) (a3 : kindN a ≠ 3) (a4 : kindN a ≠ 4) (p0 : kindN p ≠ 0) (p3 : kindN p ≠ 3) (p4 : kindN p ≠ 4) (hp : partM p = 2 ^ 52) (hn : negN p = false) :
    divN a p = (signN (negN a) (rung (partM a) (partE a - partE p - 52)), flagsOf (partM a) (partE a - partE p - 52)) := by
  obtain ⟨s1, s2⟩ := rung_shift (partM a) 69 (partE a - partE p - 52)
  have e : partE a - partE p - 52 - ((69 : Nat) : Int) = partE a - partE p - 121 := by omega
  rw [e] at s1 s2
  have e2 : (negN a != false) = negN a := by cases negN a <;> rfl
  unfold divN
  rw [if_neg (by omega), if_neg (by omega), if_neg a3, if_neg (by omega), if_neg p0, hp, hn, stick_pow, s1, s2, e2]

theorem one_word : partM 4607182418800017408 = 2 ^ 52 ∧ partE 4607182418800017408 = -52 ∧ kindN 4607182418800017408 = 2 ∧ negN 4607182418800017408 = false := by decide +kernel

theorem mul_one {a : Nat} (h : a < 2 ^ 64) (a3 : kindN a ≠ 3) (a4 : kindN a ≠ 4) : mulN a 4607182418800017408 = (a, 0) := by
  obtain ⟨o1, o2, o3, o4⟩ := one_word
  have e : partE a + -52 + 52 = partE a := by omega
  rw [mul_pow a3 a4 (by omega) (by omega) o1 o4, o2, e, fin_word h a4, fin_flags a3 a4]

theorem div_one {a : Nat} (h : a < 2 ^ 64) (a0 : kindN a ≠ 0) (a3 : kindN a ≠ 3) (a4 : kindN a ≠ 4) : divN a 4607182418800017408 = (a, 0) := by
  obtain ⟨o1, o2, o3, o4⟩ := one_word
  have e : partE a - -52 - 52 = partE a := by omega
  rw [div_pow a0 a3 a4 (by omega) (by omega) (by omega) o1 o4, o2, e, fin_word h a4, fin_flags a3 a4]

theorem one_rung : rung (2 * 2 ^ 120) (-121) = 4607182418800017408 ∧ flagsOf (2 * 2 ^ 120) (-121) = 0 := by decide +kernel

theorem div_self {a : Nat} (hM : partM a ≠ 0) (a0 : kindN a ≠ 0) (a3 : kindN a ≠ 3) (a4 : kindN a ≠ 4) : divN a a = (4607182418800017408, 0) := by
  have e1 : stick (partM a) (partM a) 120 = 2 * 2 ^ 120 := by
    unfold stick
    rw [Nat.mul_div_cancel_left _ (by omega), Nat.mul_mod_right, if_pos rfl]
  have e2 : (negN a != negN a) = false := by cases negN a <;> rfl
  have e3 : partE a - partE a - 121 = -121 := by omega
  unfold divN
  rw [if_neg (by omega), if_neg (by omega), if_neg a3, if_neg (by omega), if_neg a0, e1, e2, e3, one_rung.1, one_rung.2]
  rfl

/-- A number times a power of two and divided by it again. -/
theorem pow_back {a p k : Nat} (ha : a < 2 ^ 64) (h1 : 700 ≤ powN a) (h2 : powN a ≤ 1300) (hk : k < 601) (hp : p = (723 + k) * 4503599627370496) :
    (mulN a p).2 = 0 ∧ divN (mulN a p).1 p = (a, 0) ∧ fracN (mulN a p).1 = fracN a := by
  have pp : powN p = 723 + k := by unfold powN; omega
  have pf : fracN p = 0 := by unfold fracN; omega
  have pn : negN p = false := by unfold negN; exact decide_eq_false (by omega)
  have pk : kindN p = 2 := by unfold kindN; rw [pp, if_neg (by omega), if_pos (by omega)]
  have pM : partM p = 2 ^ 52 := by unfold partM; rw [pp, if_neg (by omega), pf, Nat.zero_add]
  have pE : partE p = ((723 + k : Nat) : Int) - 1075 := by unfold partE; rw [pp, if_neg (by omega)]
  have ak : kindN a = 2 := by unfold kindN; rw [if_neg (by omega), if_pos (by omega)]
  have aM : partM a = fracN a + 2 ^ 52 := by unfold partM; rw [if_neg (by omega)]
  have aE : partE a = (powN a : Int) - 1075 := by unfold partE; rw [if_neg (by omega)]
  have hf := fracN_lt a
  obtain ⟨t, ht⟩ : ∃ t : Nat, partE a + partE p + 52 = (t : Int) - 1074 := ⟨(partE a + partE p + 52 + 1074).toNat, by omega⟩
  have ht2 : t < 1700 := by omega
  have hr : rung (partM a) (partE a + partE p + 52) = t * 2 ^ 52 + partM a := by
    have e : (partE a + partE p + 52 + 1074).toNat = t := by omega
    rw [rung_norm (by omega) (by omega) (by omega), e]
    exact Nat.min_eq_left (by rw [infR_eq]; omega)
  have hM0 : partM a ≠ 0 := by omega
  have hlt : t * 2 ^ 52 + partM a < infR := by rw [infR_eq]; omega
  have hlt' := hlt
  rw [infR_eq] at hlt'
  obtain ⟨f0, j, w1, w2⟩ := exact_word (negN a) hM0 (lastE_small (V := partM a) (E := partE a + partE p + 52) (by omega) (by omega)) (by rw [hr]; exact hlt)
  have hs := mul_pow (a := a) (p := p) (by omega) (by omega) (by omega) (by omega) pM pn
  rw [hr] at hs w1 w2
  have hk2 := kind_sign (negN a) (Nat.le_of_lt hlt)
  rw [if_neg (by omega), if_pos (by omega)] at hk2
  have hn := sign_neg (negN a) (r := t * 2 ^ 52 + partM a) (by omega)
  have hfr := fracN_sign (negN a) (t * 2 ^ 52 + partM a)
  rw [hs]
  refine ⟨f0, ?_, ?_⟩
  · show divN (signN (negN a) (t * 2 ^ 52 + partM a)) p = (a, 0)
    have e : partE a + partE p + 52 - (j : Int) - partE p - 52 = partE a - j := by omega
    rw [div_pow (by omega) (by omega) (by omega) (by omega) (by omega) (by omega) pM pn, hn, w1, w2, e, (rung_shift _ j _).1, (rung_shift _ j _).2, fin_word ha (by omega), fin_flags (by omega) (by omega)]
  · show fracN (signN (negN a) (t * 2 ^ 52 + partM a)) = fracN a
    rw [hfr, aM]
    omega

end Go.Rnd

/- Square roots, in plain numbers. -/
namespace Go.Rnd

/-- The greatest number whose square is at most n. -/
def isq (n : Nat) : Nat := Ieee.Datum.rootFrom n (n.log2 / 2 + 1) 0

theorem shl_pow (k : Nat) : 1 <<< k = 2 ^ k := by rw [Nat.shiftLeft_eq, Nat.one_mul]

theorem root_from {n : Nat} : ∀ (todo root : Nat), root * root ≤ n → n < (root + 2 ^ todo) * (root + 2 ^ todo) →
    Ieee.Datum.rootFrom n todo root * Ieee.Datum.rootFrom n todo root ≤ n ∧ n < (Ieee.Datum.rootFrom n todo root + 1) * (Ieee.Datum.rootFrom n todo root + 1)
  | 0, root, h1, h2 => ⟨h1, h2⟩
  | todo + 1, root, h1, h2 => by
    unfold Ieee.Datum.rootFrom
    simp only [shl_pow]
    have hp : 2 ^ (todo + 1) = 2 ^ todo + 2 ^ todo := by rw [Nat.pow_succ]; omega
    rw [hp] at h2
    by_cases h : (root + 2 ^ todo) * (root + 2 ^ todo) ≤ n
    · rw [if_pos h]
      exact root_from todo _ h (by rw [Nat.add_assoc]; exact h2)
    · rw [if_neg h]
      exact root_from todo _ h1 (by omega)

theorem isq_spec (n : Nat) : isq n * isq n ≤ n ∧ n < (isq n + 1) * (isq n + 1) := by
  refine root_from _ _ (by simp) ?_
  rw [Nat.zero_add, ← Nat.pow_add]
  rcases Nat.eq_zero_or_pos n with rfl | hn
  · decide
  · refine (Nat.log2_lt (by omega)).1 ?_
    omega

theorem sq_lt {a b : Nat} (h : a * a < b * b) : a < b := by
  rcases Nat.lt_or_ge a b with h1 | h1
  · exact h1
  · have := Nat.mul_le_mul h1 h1; omega

theorem isq_unique {n w : Nat} (h1 : w * w ≤ n) (h2 : n < (w + 1) * (w + 1)) : w = isq n := by
  obtain ⟨a, b⟩ := isq_spec n
  have c1 := sq_lt (Nat.lt_of_le_of_lt h1 b)
  have c2 := sq_lt (Nat.lt_of_le_of_lt a h2)
  omega

theorem isq_ge {n w : Nat} (h : w * w ≤ n) : w ≤ isq n := by
  have := sq_lt (Nat.lt_of_le_of_lt h (isq_spec n).2)
  omega

/-- The root with one digit more, that says whether something is left. -/
def stickR (n : Nat) : Nat := 2 * isq n + (if isq n * isq n = n then 0 else 1)

theorem sq_mul (a c : Nat) : a * c * (a * c) = a * a * (c * c) := by
  rw [Nat.mul_assoc, Nat.mul_left_comm c, ← Nat.mul_assoc a a]

/-- Two digits more below. -/
theorem root_step {n : Nat} (d : Nat) (E : Int) (h : 2 ^ 53 ≤ isq n) :
    rung (stickR (n * (2 ^ d * 2 ^ d))) (E - d) = rung (stickR n) E ∧ flagsOf (stickR (n * (2 ^ d * 2 ^ d))) (E - d) = flagsOf (stickR n) E := by
  have hA := pow_pos2 d
  obtain ⟨h1, h2⟩ := isq_spec n
  unfold stickR
  generalize hw : isq n = w at *
  generalize hc : 2 ^ d = c at *
  have hcc : 0 < c * c := Nat.mul_pos hA hA
  by_cases h0 : w * w = n
  · have e1 : isq (n * (c * c)) = w * c := by
      refine (isq_unique ?_ ?_).symm
      · rw [sq_mul, h0]; exact Nat.le_refl _
      · have := sq_mul w c
        rw [h0] at this
        rw [Nat.add_mul, Nat.mul_add, this]; omega
    rw [e1, sq_mul, h0, if_pos rfl, if_pos rfl]
    have := rung_shift (2 * w + 0) d E
    rw [hc, show (2 * w + 0) * c = 2 * (w * c) + 0 by rw [Nat.add_zero, Nat.add_zero, Nat.mul_assoc]] at this
    exact this
  · rw [if_neg h0]
    obtain ⟨g1, g2⟩ := isq_spec (n * (c * c))
    have q1 : w * c ≤ isq (n * (c * c)) := isq_ge (by rw [sq_mul]; exact Nat.mul_le_mul_right _ h1)
    have q2 : isq (n * (c * c)) < (w + 1) * c := by
      refine sq_lt (Nat.lt_of_le_of_lt g1 ?_)
      rw [sq_mul]
      exact (Nat.mul_lt_mul_right hcc).2 h2
    have q3 : isq (n * (c * c)) = w * c → isq (n * (c * c)) * isq (n * (c * c)) ≠ n * (c * c) := fun h5 h6 => by
      rw [h5, sq_mul] at h6
      exact h0 (Nat.eq_of_mul_eq_mul_right hcc h6)
    generalize hQ : isq (n * (c * c)) = Q at *
    have p1 : (2 * w + 1 - 1) * c = 2 * (w * c) := by rw [Nat.add_sub_cancel, Nat.mul_assoc]
    have p2 : (2 * w + 1 + 1) * c = 2 * ((w + 1) * c) := by rw [show 2 * w + 1 + 1 = 2 * (w + 1) by omega, Nat.mul_assoc]
    have od : (2 * w + 1) % 2 = 1 := by omega
    generalize hV : 2 * Q + (if Q * Q = n * (c * c) then 0 else 1) = V
    have v1 : (2 * w + 1 - 1) * 2 ^ d < V := by
      rw [hc, p1, ← hV]
      by_cases h5 : Q = w * c
      · rw [if_neg (q3 h5)]; omega
      · split <;> omega
    have v2 : V < (2 * w + 1 + 1) * 2 ^ d := by
      rw [hc, p2, ← hV]
      split <;> omega
    have lV := log2_odd od (by omega) v1 v2
    have hs : 54 ≤ (2 * w + 1).log2 := by rw [Nat.le_log2 (by omega)]; omega
    have ee : E - (d : Int) + d = E := by omega
    have := rung_odd (E := E - d) od v1 v2 (by unfold lastE; rw [lV]; omega) (by unfold lastE; omega)
    rw [ee] at this
    exact this

theorem isq_big {n t : Nat} (h : 2 ^ (t + t) ≤ n) : 2 ^ t ≤ isq n := isq_ge (by rw [← Nat.pow_add]; exact h)

theorem pow_two (k d : Nat) : 2 ^ (k + 2 * d) = 2 ^ k * (2 ^ d * 2 ^ d) := by rw [Nat.pow_add, Nat.two_mul, Nat.pow_add]

/-- Any two numbers of digits that are even with one another. -/
theorem root_same {m k l : Nat} {E F : Int} (h1 : 2 ^ 106 ≤ m * 2 ^ k) (h2 : 2 ^ 106 ≤ m * 2 ^ l) (he : 2 * E + k = 2 * F + l) :
    rung (stickR (m * 2 ^ k)) E = rung (stickR (m * 2 ^ l)) F ∧ flagsOf (stickR (m * 2 ^ k)) E = flagsOf (stickR (m * 2 ^ l)) F := by
  rcases Nat.le_total k l with h | h
  · obtain ⟨d, rfl⟩ : ∃ d, l = k + 2 * d := ⟨(l - k) / 2, by omega⟩
    have := root_step (n := m * 2 ^ k) d E (isq_big (t := 53) h1)
    rw [Nat.mul_assoc, ← pow_two, show E - (d : Int) = F by omega] at this
    exact ⟨this.1.symm, this.2.symm⟩
  · obtain ⟨d, rfl⟩ : ∃ d, k = l + 2 * d := ⟨(k - l) / 2, by omega⟩
    have := root_step (n := m * 2 ^ l) d F (isq_big (t := 53) h2)
    rw [Nat.mul_assoc, ← pow_two, show F - (d : Int) = E by omega] at this
    exact this

/-- How many digits more are taken: even with the power of two. -/
def rootK (b : Nat) : Nat := 128 + (partE b % 2).toNat

def sqrtN (b : Nat) : Nat × Nat :=
  if kindN b = 4 then (NaN, 0)
  else if kindN b = 0 ∨ b = infR then (b, 0)
  else if negN b = true then (NaN, 16)
  else (rung (stickR (partM b * 2 ^ rootK b)) ((partE b - rootK b) / 2 - 1), flagsOf (stickR (partM b * 2 ^ rootK b)) ((partE b - rootK b) / 2 - 1))

theorem partM_zero {b : Nat} (h3 : kindN b ≠ 3) (h4 : kindN b ≠ 4) : partM b = 0 ↔ kindN b = 0 := by
  have := fracN_lt b
  have := powN_lt b
  unfold partM
  unfold kindN at *
  split at h3 <;> split <;> (try split) <;> (try split) <;> simp_all <;> omega

theorem sqrt_nan {b : Nat} (h : kindN b = 4) : sqrtN b = (NaN, 0) := if_pos h
theorem sqrt_same {b : Nat} (h4 : kindN b ≠ 4) (h : kindN b = 0 ∨ b = infR) : sqrtN b = (b, 0) := by unfold sqrtN; rw [if_neg h4, if_pos h]
theorem sqrt_neg {b : Nat} (h4 : kindN b ≠ 4) (h : ¬ (kindN b = 0 ∨ b = infR)) (hn : negN b = true) : sqrtN b = (NaN, 16) := by unfold sqrtN; rw [if_neg h4, if_neg h, if_pos hn]
theorem sqrt_num {b : Nat} (h4 : kindN b ≠ 4) (h : ¬ (kindN b = 0 ∨ b = infR)) (hn : negN b = false) :
    sqrtN b = (rung (stickR (partM b * 2 ^ rootK b)) ((partE b - rootK b) / 2 - 1), flagsOf (stickR (partM b * 2 ^ rootK b)) ((partE b - rootK b) / 2 - 1)) := by
  unfold sqrtN; rw [if_neg h4, if_neg h, if_neg (by rw [hn]; decide)]

theorem inf_neg : negN infR = false := by decide
theorem inf_kind : kindN infR = 3 := by decide
theorem canon_inf : canonN infR = infR := by decide
theorem canon_nan {d : Nat} (h : kindN d = 4) : canonN d = NaN := if_pos h

theorem sqrt_unfold (b d : Nat) (x : Ieee.Datum) (h : Ieee.double.read b = x) : (Ieee.double.sqrt b).getD d = ((x.root 54).map Ieee.double.write).getD d := by
  rw [← h]; rfl

theorem sign_pos (r : Nat) : signN false r = r := rfl

/-- What the machine's root tries. -/
def moreK (m : Nat) (i : Int) : Nat := 2 * 54 - m.log2 + ((i - ((2 * 54 - m.log2 : Nat) : Int)) % 2).toNat

theorem root_num {m : Nat} {i : Int} (h : m ≠ 0) : (Ieee.Datum.number false m i).root 54 = some (.number false (2 * Ieee.Datum.rootFrom (m <<< moreK m i) ((m <<< moreK m i).log2 / 2 + 1) 0 + (Ieee.Datum.rootFrom (m <<< moreK m i) ((m <<< moreK m i).log2 / 2 + 1) 0 * Ieee.Datum.rootFrom (m <<< moreK m i) ((m <<< moreK m i).log2 / 2 + 1) 0 != m <<< moreK m i).toNat) ((i - moreK m i) / 2 - 1)) := by
  unfold Ieee.Datum.root moreK
  dsimp only
  rw [if_neg h, if_neg (by decide)]

theorem rooted {m : Nat} {i : Int} {d : Nat} (h : m ≠ 0) (hlog : m.log2 ≤ 52) (r : Int) (k : Nat) (hk : 2 ^ 106 ≤ m * 2 ^ k) (hr : 2 * r + k = i - 2) :
    canonN ((((Ieee.Datum.number false m i).root 54).map Ieee.double.write).getD d) = rung (stickR (m * 2 ^ k)) r := by
  have hpow : 2 ^ m.log2 ≤ m := Nat.log2_self_le h
  have hmo : 108 ≤ m.log2 + moreK m i ∧ (i - moreK m i) % 2 = 0 := by unfold moreK; omega
  rw [root_num h, Option.map_some, Option.getD_some, write_num, canon_sign _ (rung_le _ _), sign_pos]
  generalize moreK m i = more at *
  have g1 : 2 ^ 106 ≤ m * 2 ^ more := by
    have : 2 ^ 108 ≤ 2 ^ (m.log2 + more) := Nat.pow_le_pow_right (by decide) hmo.1
    rw [Nat.pow_add] at this
    have h5 := Nat.mul_le_mul_right (2 ^ more) hpow
    omega
  have pe2 : 2 * ((i - (more : Int)) / 2 - 1) + more = i - 2 := by omega
  rw [← (root_same g1 hk (E := (i - (more : Int)) / 2 - 1) (F := r) (by omega)).1, Nat.shiftLeft_eq]
  have e : ∀ w : Nat, 2 * w + (w * w != m * 2 ^ more).toNat = 2 * w + (if w * w = m * 2 ^ more then 0 else 1) := fun w => by
    by_cases hww : w * w = m * 2 ^ more
    · rw [if_pos hww, hww]; simp
    · rw [if_neg hww]
      have : (w * w != m * 2 ^ more) = true := by simpa using hww
      rw [this]; rfl
  rw [e]
  unfold stickR isq
  rfl

theorem rootK_ok {b : Nat} (hm : partM b ≠ 0) : 2 ^ 106 ≤ partM b * 2 ^ rootK b ∧ 2 * ((partE b - (rootK b : Int)) / 2 - 1) + rootK b = partE b - 2 := by
  refine ⟨?_, by unfold rootK; omega⟩
  have : 2 ^ 128 ≤ 2 ^ rootK b := Nat.pow_le_pow_right (by decide) (by unfold rootK; omega)
  have h5 := Nat.mul_le_mul (show 1 ≤ partM b by omega) this
  omega

theorem log_part {b : Nat} (hm : partM b ≠ 0) : (partM b).log2 ≤ 52 := by
  have := (Nat.log2_lt hm).2 (show partM b < 2 ^ 53 from partM_lt b)
  omega

theorem root_nan (s : Bool) (f : Nat) : (Ieee.Datum.nan s f).root 54 = none := rfl
theorem root_infT : (Ieee.Datum.infinity true).root 54 = none := rfl
theorem root_infF : (Ieee.Datum.infinity false).root 54 = some (.infinity false) := rfl
theorem root_zero (s : Bool) (i : Int) : (Ieee.Datum.number s 0 i).root 54 = some (.number s 0 i) := rfl
theorem root_minus {m : Nat} (i : Int) (h : m ≠ 0) : (Ieee.Datum.number true m i).root 54 = none := by
  unfold Ieee.Datum.root
  dsimp only
  rw [if_neg h, if_pos rfl]
theorem canon_none {d : Nat} (hd : kindN d = 4) : canonN ((Option.map Ieee.double.write none).getD d) = NaN := canon_nan hd

theorem root_ieee {b : Nat} (hb : b < 2 ^ 64) {d : Nat} (hd : kindN d = 4) : canonN ((Ieee.double.sqrt b).getD d) = (sqrtN b).1 := by
  rw [sqrt_unfold b d _ (read_eq hb)]
  by_cases h4 : kindN b = 4
  · rw [sqrt_nan h4, readN_nan h4, root_nan, canon_none hd]
  by_cases h3 : kindN b = 3
  · rw [readN_inf h3]
    have hw := word_of_inf hb h3
    cases hn : negN b with
    | true =>
      have hne : ¬ (kindN b = 0 ∨ b = infR) := by
        intro h
        rcases h with h | h
        · omega
        · rw [h, inf_neg] at hn; cases hn
      rw [sqrt_neg h4 hne hn, root_infT, canon_none hd]
    | false =>
      rw [hn, sign_pos] at hw
      rw [sqrt_same h4 (.inr hw.symm), root_infF, Option.map_some, Option.getD_some, write_inf, sign_pos, canon_inf]
      exact hw
  rw [readN_num h3 h4]
  have hz := partM_zero h3 h4
  by_cases h0 : kindN b = 0
  · have hm := hz.2 h0
    have := fin_word hb h4
    rw [hm] at this
    rw [sqrt_same h4 (.inl h0), hm, root_zero, Option.map_some, Option.getD_some, write_num, canon_sign _ (rung_le _ _), this]
  have hi : ¬ (kindN b = 0 ∨ b = infR) := by
    intro h
    rcases h with h | h
    · exact h0 h
    · rw [h, inf_kind] at h3; exact h3 rfl
  have hm : partM b ≠ 0 := fun h => h0 (hz.1 h)
  cases hn : negN b with
  | true => rw [sqrt_neg h4 hi hn, root_minus _ hm, canon_none hd]
  | false =>
    obtain ⟨k1, k2⟩ := rootK_ok hm
    rw [sqrt_num h4 hi hn, rooted hm (log_part hm) _ _ k1 k2]

end Go.Rnd

/- Numbers times powers of two; order; the greatest one. Plain numbers. -/
namespace Go.Rnd

def scaleN (b : Nat) (n : Int) : Nat × Nat :=
  if kindN b = 4 then (NaN, 0)
  else if kindN b = 3 ∨ kindN b = 0 then (b, 0)
  else (signN (negN b) (rung (partM b) (partE b + n)), flagsOf (partM b) (partE b + n))

/-- What is far too small. -/
theorem tiny {V : Nat} {E : Int} (h0 : V ≠ 0) (h : E + V.log2 + 1 ≤ -1075) : rung V E = 0 ∧ flagsOf V E = 3 := by
  have hl : lastE V E = -1074 := by unfold lastE; omega
  obtain ⟨k, hk⟩ : ∃ k : Nat, (-1074 : Int) - E = ((k : Nat) : Int) := ⟨(-1074 - E).toNat, by omega⟩
  have hV : V < 2 ^ (V.log2 + 1) := (Nat.log2_lt h0).1 (by omega)
  have hp : 2 ^ (V.log2 + 1) * 2 ≤ 2 ^ k := by rw [← Nat.pow_succ]; exact Nat.pow_le_pow_right (by decide) (by omega)
  have e1 : V * 2 ^ (-((-1074 : Int) - E)).toNat = V := by rw [hk]; simp
  have e2 : ((-1074 : Int) - E).toNat = k := by rw [hk]; rfl
  have hk2 : kept V E = 0 := by
    unfold kept rdivZ
    rw [hl, e1, e2]
    unfold rdiv
    rw [Nat.div_eq_of_lt (by omega), Nat.mod_eq_of_lt (by omega), if_neg (by omega)]
  have hx : exact V E = false := by
    unfold exact wholeZ
    rw [hl, e1, e2, Nat.mod_eq_of_lt (by omega)]
    exact decide_eq_false h0
  have hr : rung V E = 0 := by
    unfold rung
    rw [if_neg h0, hl, hk2]
    rfl
  refine ⟨hr, ?_⟩
  unfold flagsOf
  rw [if_neg h0, hr, hx]
  rfl

theorem log2_lt53 {m : Nat} (h : m < 2 ^ 53) : m.log2 ≤ 52 := by
  rcases Nat.eq_zero_or_pos m with rfl | h0
  · decide
  · have := (Nat.log2_lt (by omega)).2 h; omega

/-- What Near is asked where a number is far too small. -/
theorem near_tiny (n : Bool) {m : Nat} {e : Int} {more : Bool} (hm : m < 2 ^ 53) (h0 : m ≠ 0 ∨ more = true) (he : e ≤ -1130) :
    nearN n m e more = (signN n 0, 3) := by
  have h1 : more.toNat ≤ 1 := by cases more <;> decide
  have hV : 4 * m + more.toNat ≠ 0 := by
    rcases h0 with h | h
    · omega
    · rw [h]; simp
  have hl : (4 * m + more.toNat).log2 ≤ 54 := by
    have := (Nat.log2_lt hV).2 (show 4 * m + more.toNat < 2 ^ 55 by omega); omega
  have := tiny hV (E := e - 2) (by omega)
  unfold nearN
  rw [this.1, this.2]

theorem near_one (n : Bool) : nearN n 0 (-1074) true = (signN n 0, 3) := by
  cases n <;> decide +kernel

theorem scale_tiny {b : Nat} {n : Int} (h4 : kindN b ≠ 4) (h : ¬ (kindN b = 3 ∨ kindN b = 0)) (hn : partE b + n ≤ -1130) : scaleN b n = (signN (negN b) 0, 3) := by
  have hm : partM b ≠ 0 := fun h5 => h (.inr ((partM_zero (by omega) h4).1 h5))
  have := tiny hm (E := partE b + n) (by have := log_part hm; omega)
  unfold scaleN
  rw [if_neg h4, if_neg h, this.1, this.2]

theorem scale_num {b : Nat} {n : Int} (h4 : kindN b ≠ 4) (h : ¬ (kindN b = 3 ∨ kindN b = 0)) : scaleN b n = (signN (negN b) (rung (partM b) (partE b + n)), flagsOf (partM b) (partE b + n)) := by
  unfold scaleN; rw [if_neg h4, if_neg h]

/-- The greatest power of two that is at most a number. -/
def expN (b : Nat) : Int := if finN b = true ∧ kindN b ≠ 0 then ((partM b).log2 : Int) + partE b else 0
def absN (b : Nat) : Nat := b % 2 ^ 63
def ordN (a b : Nat) : Int := if kindN a = 4 ∨ kindN b = 4 then 0 else if keyN a < keyN b then -1 else if keyN b < keyN a then 1 else 0
def ordB (a b : Nat) : Bool := !(decide (kindN a = 4 ∨ kindN b = 4))
def maxN (a b : Nat) : Nat := if ordB a b = true then (if ordN a b < 0 then b else a) else NaN
end Go.Rnd
