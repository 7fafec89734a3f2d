/- Til of the verified evaluator and its use for this seat (of my texts PowL, TileL). -/
import Derived.Test.YtakfdnpjnbopbaaMul
import Derived.Test.YtakfdnpjnbopbaaFlo
import Derived.Test.YtakfdnpjnbopbaaMat

/- Products with powers of two and quotients by them; a number divided by itself. Plain numbers. -/
namespace Go.Rnd

theorem sign_join {b : Nat} (h : b < 2 ^ 64) : signN (negN b) (b % 2 ^ 63) = b := by
  unfold signN negN
  by_cases hb : 2 ^ 63 ≤ b
  · simp only [hb, decide_true, if_true]; omega
  · simp only [hb, decide_false, Bool.false_eq_true, if_false]; omega

theorem fin_word {b : Nat} (h : b < 2 ^ 64) (h4 : kindN b ≠ 4) : signN (negN b) (rung (partM b) (partE b)) = b := by
  rw [rung_word h4, sign_join h]

theorem fin_flags {b : Nat} (h3 : kindN b ≠ 3) (h4 : kindN b ≠ 4) : flagsOf (partM b) (partE b) = 0 := by
  by_cases h0 : partM b = 0
  · rw [h0]; exact flagsOf_zero _
  · have h1 := partM_lt b
    have h2 := partE_le b
    have h5 := key_fin h3 h4
    exact (exact_word false h0 (lastE_small (by omega) h2.1) (by rw [rung_word h4]; exact h5)).1

theorem mul_pow {a p : Nat} (a3 : kindN a ≠ 3) (a4 : kindN a ≠ 4) (p3 : kindN p ≠ 3) (p4 : kindN p ≠ 4) (hp : partM p = 2 ^ 52) (hn : negN p = false) :
    mulN a p = (signN (negN a) (rung (partM a) (partE a + partE p + 52)), flagsOf (partM a) (partE a + partE p + 52)) := by
  obtain ⟨s1, s2⟩ := rung_shift (partM a) 52 (partE a + partE p + 52)
  have e : partE a + partE p + 52 - ((52 : Nat) : Int) = partE a + partE p := by omega
  rw [e] at s1 s2
  have e2 : (negN a != false) = negN a := by cases negN a <;> rfl
  unfold mulN
  rw [if_neg (by omega), if_neg (by omega), hp, hn, s1, s2, e2]

theorem stick_pow (M : Nat) : stick M (2 ^ 52) 120 = M * 2 ^ 69 := by
  unfold stick
  have e : M * 2 ^ 120 = M * 2 ^ 68 * 2 ^ 52 := by rw [Nat.mul_assoc, ← Nat.pow_add]
  rw [e, Nat.mul_div_cancel _ (pow_pos2 52), Nat.mul_mod_left, if_pos rfl, Nat.add_zero, Nat.mul_left_comm]

theorem div_pow {a p : Nat} (a0 : kindN a ≠ 0) (a3 : kindN a ≠ 3) (a4 : kindN a ≠ 4) (p0 : kindN p ≠ 0) (p3 : kindN p ≠ 3) (p4 : kindN p ≠ 4) (hp : partM p = 2 ^ 52) (hn : negN p = false) :
    divN a p = (signN (negN a) (rung (partM a) (partE a - partE p - 52)), flagsOf (partM a) (partE a - partE p - 52)) := by
  obtain ⟨s1, s2⟩ := rung_shift (partM a) 69 (partE a - partE p - 52)
  have e : partE a - partE p - 52 - ((69 : Nat) : Int) = partE a - partE p - 121 := by omega
  rw [e] at s1 s2
  have e2 : (negN a != false) = negN a := by cases negN a <;> rfl
  unfold divN
  rw [if_neg (by omega), if_neg (by omega), if_neg a3, if_neg (by omega), if_neg p0, hp, hn, stick_pow, s1, s2, e2]

theorem one_word : partM 4607182418800017408 = 2 ^ 52 ∧ partE 4607182418800017408 = -52 ∧ kindN 4607182418800017408 = 2 ∧ negN 4607182418800017408 = false := by decide +kernel

theorem mul_one {a : Nat} (h : a < 2 ^ 64) (a3 : kindN a ≠ 3) (a4 : kindN a ≠ 4) : mulN a 4607182418800017408 = (a, 0) := by
  obtain ⟨o1, o2, o3, o4⟩ := one_word
  have e : partE a + -52 + 52 = partE a := by omega
  rw [mul_pow a3 a4 (by omega) (by omega) o1 o4, o2, e, fin_word h a4, fin_flags a3 a4]

theorem div_one {a : Nat} (h : a < 2 ^ 64) (a0 : kindN a ≠ 0) (a3 : kindN a ≠ 3) (a4 : kindN a ≠ 4) : divN a 4607182418800017408 = (a, 0) := by
  obtain ⟨o1, o2, o3, o4⟩ := one_word
  have e : partE a - -52 - 52 = partE a := by omega
  rw [div_pow a0 a3 a4 (by omega) (by omega) (by omega) o1 o4, o2, e, fin_word h a4, fin_flags a3 a4]

theorem one_rung : rung (2 * 2 ^ 120) (-121) = 4607182418800017408 ∧ flagsOf (2 * 2 ^ 120) (-121) = 0 := by decide +kernel

theorem div_self {a : Nat} (hM : partM a ≠ 0) (a0 : kindN a ≠ 0) (a3 : kindN a ≠ 3) (a4 : kindN a ≠ 4) : divN a a = (4607182418800017408, 0) := by
  have e1 : stick (partM a) (partM a) 120 = 2 * 2 ^ 120 := by
    unfold stick
    rw [Nat.mul_div_cancel_left _ (by omega), Nat.mul_mod_right, if_pos rfl]
  have e2 : (negN a != negN a) = false := by cases negN a <;> rfl
  have e3 : partE a - partE a - 121 = -121 := by omega
  unfold divN
  rw [if_neg (by omega), if_neg (by omega), if_neg a3, if_neg (by omega), if_neg a0, e1, e2, e3, one_rung.1, one_rung.2]
  rfl

/-- A number times a power of two and divided by it again. -/
theorem pow_back {a p k : Nat} (ha : a < 2 ^ 64) (h1 : 700 ≤ powN a) (h2 : powN a ≤ 1300) (hk : k < 601) (hp : p = (723 + k) * 4503599627370496) :
    (mulN a p).2 = 0 ∧ divN (mulN a p).1 p = (a, 0) ∧ fracN (mulN a p).1 = fracN a := by
  have pp : powN p = 723 + k := by unfold powN; omega
  have pf : fracN p = 0 := by unfold fracN; omega
  have pn : negN p = false := by unfold negN; exact decide_eq_false (by omega)
  have pk : kindN p = 2 := by unfold kindN; rw [pp, if_neg (by omega), if_pos (by omega)]
  have pM : partM p = 2 ^ 52 := by unfold partM; rw [pp, if_neg (by omega), pf, Nat.zero_add]
  have pE : partE p = ((723 + k : Nat) : Int) - 1075 := by unfold partE; rw [pp, if_neg (by omega)]
  have ak : kindN a = 2 := by unfold kindN; rw [if_neg (by omega), if_pos (by omega)]
  have aM : partM a = fracN a + 2 ^ 52 := by unfold partM; rw [if_neg (by omega)]
  have aE : partE a = (powN a : Int) - 1075 := by unfold partE; rw [if_neg (by omega)]
  have hf := fracN_lt a
  obtain ⟨t, ht⟩ : ∃ t : Nat, partE a + partE p + 52 = (t : Int) - 1074 := ⟨(partE a + partE p + 52 + 1074).toNat, by omega⟩
  have ht2 : t < 1700 := by omega
  have hr : rung (partM a) (partE a + partE p + 52) = t * 2 ^ 52 + partM a := by
    have e : (partE a + partE p + 52 + 1074).toNat = t := by omega
    rw [rung_norm (by omega) (by omega) (by omega), e]
    exact Nat.min_eq_left (by rw [infR_eq]; omega)
  have hM0 : partM a ≠ 0 := by omega
  have hlt : t * 2 ^ 52 + partM a < infR := by rw [infR_eq]; omega
  have hlt' := hlt
  rw [infR_eq] at hlt'
  obtain ⟨f0, j, w1, w2⟩ := exact_word (negN a) hM0 (lastE_small (V := partM a) (E := partE a + partE p + 52) (by omega) (by omega)) (by rw [hr]; exact hlt)
  have hs := mul_pow (a := a) (p := p) (by omega) (by omega) (by omega) (by omega) pM pn
  rw [hr] at hs w1 w2
  have hk2 := kind_sign (negN a) (Nat.le_of_lt hlt)
  rw [if_neg (by omega), if_pos (by omega)] at hk2
  have hn := sign_neg (negN a) (r := t * 2 ^ 52 + partM a) (by omega)
  have hfr := fracN_sign (negN a) (t * 2 ^ 52 + partM a)
  rw [hs]
  refine ⟨f0, ?_, ?_⟩
  · show divN (signN (negN a) (t * 2 ^ 52 + partM a)) p = (a, 0)
    have e : partE a + partE p + 52 - (j : Int) - partE p - 52 = partE a - j := by omega
    rw [div_pow (by omega) (by omega) (by omega) (by omega) (by omega) (by omega) pM pn, hn, w1, w2, e, (rung_shift _ j _).1, (rung_shift _ j _).2, fin_word ha (by omega), fin_flags (by omega) (by omega)]
  · show fracN (signN (negN a) (t * 2 ^ 52 + partM a)) = fracN a
    rw [hfr, aM]
    omega

end Go.Rnd

/- A sum of products with a row of ones and noughts. Plain numbers. -/
namespace Go.Rnd
open Go.Den

theorem nought_parts (n : Bool) : kindN (signN n 0) = 0 ∧ partM (signN n 0) = 0 ∧ partE (signN n 0) = -1074 := by
  cases n <;> decide +kernel

/-- A nought added turns nothing, but for the nought below 0. -/
theorem add_nought {s : Nat} (hs : s < 2 ^ 64) (k3 : kindN s ≠ 3) (k4 : kindN s ≠ 4) (hn : s ≠ 2 ^ 63) (n : Bool) : (addN s (signN n 0)).1 = s := by
  obtain ⟨z1, z2, z3⟩ := nought_parts n
  have he := partE_le s
  have em : min (partE s) (partE (signN n 0)) = -1074 := by rw [z3]; omega
  rw [addN_num (by omega) k3 (by omega), em]
  have vz : valAt (signN n 0) (-1074) = 0 := by
    unfold valAt
    rw [z2, Nat.zero_mul]
    cases negN (signN n 0) <;> rfl
  rw [vz, Int.add_zero]
  have hw := rung_word k4
  by_cases h0 : partM s = 0
  · have vs : valAt s (-1074) = 0 := by
      unfold valAt
      rw [h0, Nat.zero_mul]
      cases negN s <;> rfl
    rw [h0, rung_zero] at hw
    have s0 : s = 0 := by omega
    unfold roundZ
    rw [vs, if_pos rfl, s0]
    cases n <;> rfl
  · obtain ⟨d, hd⟩ : ∃ d : Nat, partE s = -1074 + (d : Int) := ⟨(partE s + 1074).toNat, by omega⟩
    have e1 : (partE s - -1074).toNat = d := by omega
    unfold valAt
    rw [e1, roundZ_sgn _ _ (mul_pow_ne h0)]
    have := (rung_shift (partM s) d (partE s)).1
    have e2 : partE s - (d : Int) = -1074 := by omega
    rw [e2] at this
    rw [this]
    exact fin_word hs k4

theorem mul_nought {b : Nat} (k3 : kindN b ≠ 3) (k4 : kindN b ≠ 4) : (mulN 0 b).1 = signN (negN b) 0 := by
  have z : kindN 0 = 0 ∧ partM 0 = 0 ∧ negN 0 = false := by decide
  unfold mulN
  rw [if_neg (by omega), if_neg (by omega), z.2.1, Nat.zero_mul, rung_zero, z.2.2]
  cases negN b <;> rfl

structure Good (x : Int) : Prop where
  word : inU64 x = true
  k3 : kindN x.toNat ≠ 3
  k4 : kindN x.toNat ≠ 4
  ne : x.toNat ≠ 2 ^ 63

theorem word_lt {x : Int} (h : inU64 x = true) : x.toNat < 2 ^ 64 := by
  have := cdec_eq.1 h
  omega

theorem good_zero : Good 0 := ⟨cdec_eq.2 (by omega), by decide, by decide, by decide⟩

theorem eye_dot {n i : Nat} (hi : i < n) {g : Nat → Int} (hg : ∀ j, j < n → Good (g j)) : ∀ (k j : Nat) (s : Int), j + k = n → (j ≤ i → s = 0) → (i < j → s = g i) →
    dotP s.toNat (((List.range n).map fun b : Nat => eyeI (i : Int) (b : Int)).drop j) (((List.range n).map g).drop j) = (g i).toNat := by
  intro k
  induction k with
  | zero =>
    intro j s hj h1 h2
    have l1 : ((List.range n).map fun b : Nat => eyeI (i : Int) (b : Int)).length = n := by rw [List.length_map, List.length_range]
    rw [List.drop_of_length_le (by omega), h2 (by omega)]
    rfl
  | succ k ih =>
    intro j s hj h1 h2
    have l1 : j < ((List.range n).map fun b : Nat => eyeI (i : Int) (b : Int)).length := by rw [List.length_map, List.length_range]; omega
    have l2 : j < ((List.range n).map g).length := by rw [List.length_map, List.length_range]; omega
    have gj := hg j (by omega)
    have sg : Good s := by
      rcases Nat.lt_or_ge i j with h | h
      · rw [h2 h]; exact hg i hi
      · rw [h1 h]; exact good_zero
    rw [List.drop_eq_getElem_cons l1, List.drop_eq_getElem_cons l2, List.getElem_map, List.getElem_map, List.getElem_range]
    show dotP (addN s.toNat (mulN (eyeI (i : Int) (j : Int)).toNat (g j).toNat).1).1 _ _ = _
    by_cases hij : i = j
    · subst hij
      have e1 : eyeI (i : Int) (i : Int) = 4607182418800017408 := if_pos rfl
      have s0 := h1 (Nat.le_refl i)
      have w := word_lt gj.word
      have em : (mulN (4607182418800017408 : Int).toNat (g i).toNat).1 = (g i).toNat := by
        rw [mulN_comm]
        exact congrArg Prod.fst (mul_one w gj.k3 gj.k4)
      have ea : (addN s.toNat (g i).toNat).1 = (g i).toNat := by
        rw [s0, addN_comm]
        exact add_nought w gj.k3 gj.k4 gj.ne false
      rw [e1, em, ea]
      exact ih (i + 1) (g i) (by omega) (fun h => by omega) (fun _ => rfl)
    · have e1 : eyeI (i : Int) (j : Int) = 0 := if_neg (by omega)
      have ea : (addN s.toNat (mulN (0 : Int).toNat (g j).toNat).1).1 = s.toNat := by
        show (addN s.toNat (mulN 0 (g j).toNat).1).1 = _
        rw [mul_nought gj.k3 gj.k4]
        exact add_nought (word_lt sg.word) sg.k3 sg.k4 sg.ne _
      rw [e1, ea]
      exact ih (j + 1) s (by omega) (fun h => h1 (by omega)) (fun h => h2 (by omega))

theorem eye_row {n i : Nat} (hi : i < n) {g : Nat → Int} (hg : ∀ j, j < n → Good (g j)) : dotI ((List.range n).map fun b : Nat => eyeI (i : Int) (b : Int)) ((List.range n).map g) = g i := by
  have h := eye_dot hi hg n 0 0 (by omega) (fun _ => rfl) (fun h => by omega)
  rw [List.drop_zero, List.drop_zero] at h
  have w := cdec_eq.1 (hg i hi).word
  show ((dotP 0 _ _ : Nat) : Int) = g i
  have h : dotP 0 ((List.range n).map fun b : Nat => eyeI (i : Int) (b : Int)) ((List.range n).map g) = (g i).toNat := h
  rw [h]
  omega

end Go.Rnd
