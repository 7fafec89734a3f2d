/- Ref7 of the verified evaluator and its use for this seat (of my texts S1PRef06a, S1PRef06b). -/
import Derived.Test.YthopmgndjnnpnaaRef6
import Derived.Test.YthopmgndjnnpnaaLawX

/- dioptraref06.Quotient, dioptraref06.Div. -/
namespace Go.Proofs.S1
open Go Go.Den Go.Rnd Go.Proofs
open EqRef06

theorem div_mod_of {y W q r : Nat} (h : y = W * q + r) (hr : r < W) : y / W = q ∧ y % W = r := by
  subst h
  constructor
  · rw [Nat.mul_add_div (by omega), Nat.div_eq_of_lt hr, Nat.add_zero]
  · rw [Nat.mul_add_mod, Nat.mod_eq_of_lt hr]

theorem shW_low (V j : Nat) : shW (V : Int) (-(j : Int)) = ((V / 2 ^ j : Nat) : Int) := by
  unfold shW
  by_cases h : 0 ≤ -(j : Int)
  · have : j = 0 := by omega
    subst this
    rw [if_pos h, Nat.pow_zero, Nat.div_one]
    exact Int.mul_one _
  · have e : (-(-(j : Int))).toNat = j := by omega
    rw [if_neg h, e]
    unfold shR
    rw [Int.natAbs_natCast]
    exact sgn_pos (by omega) _

theorem odd_nat (y : Nat) : oddB (y : Int) = decide (y % 2 = 1) := by
  unfold oddB
  rw [decide_eq_decide]
  omega

theorem cmp_nat (x y : Nat) : leI (0 : Int) (cmpZ (x : Int) (y : Int)) = decide (y ≤ x) := by
  rw [leI_eq, decide_eq_decide]
  unfold cmpZ
  split
  · omega
  · split <;> omega

theorem okN {n : Nat} (h : lenN n < 20000) : okW (negW (n : Int)) (limbsI (n : Int)) = true := okW_of (by rw [Int.natAbs_natCast]; omega)

theorem quo_loop (N : Nat) {V W : Nat} (hV : lenN V < 12000) (hW : lenN W < 12000) (hW0 : 0 < W) : ∀ (j F : Nat), j < F → j ≤ 900000 →
    ref06.Quotient.L1 N F (negW (V : Int)) (limbsI (V : Int)) (negW (W : Int)) (limbsI (W : Int)) (negW ((V / 2 ^ j / W : Nat) : Int)) (limbsI ((V / 2 ^ j / W : Nat) : Int)) (negW ((V / 2 ^ j % W : Nat) : Int)) (limbsI ((V / 2 ^ j % W : Nat) : Int)) ((j : Int) - 1) =
      some (.tup [.agg [.bool (negW ((V / W : Nat) : Int)), .ints .arg .u32 (limbsI ((V / W : Nat) : Int))], .agg [.bool (negW ((V % W : Nat) : Int)), .ints .arg .u32 (limbsI ((V % W : Nat) : Int))]]) := by
  have oV : okV (negW (V : Int)) (limbsI (V : Int)) = true := okV_of (by rw [Int.natAbs_natCast]; omega)
  have oW : okW (negW (W : Int)) (limbsI (W : Int)) = true := okN (by omega)
  have i1 : inI64 (1 : Int) = true := cdec_eq.2 (by omega)
  have o1 : okW (negW (1 : Int)) (limbsI (1 : Int)) = true := okN (n := 1) (by decide)
  intro j
  induction j with
  | zero =>
    intro F hF hj
    obtain ⟨F, rfl⟩ : ∃ G, F = G + 1 := ⟨F - 1, by omega⟩
    rw [ref06.Quotient.L1_step, leI_eq, decide_eq_false (by omega), cond_false, Nat.pow_zero, Nat.div_one]
  | succ j ih =>
    intro F hF hj
    obtain ⟨F, rfl⟩ : ∃ G, F = G + 1 := ⟨F - 1, by omega⟩
    have e0 : ((j + 1 : Nat) : Int) - 1 = (j : Int) := by omega
    have eh : V / 2 ^ (j + 1) = V / 2 ^ j / 2 := by rw [Nat.pow_succ, ← Nat.div_div_eq_div_mul]
    have ih := ih F (by omega) (by omega)
    have hyV : V / 2 ^ j ≤ V := Nat.div_le_self _ _
    rw [e0, eh, ref06.Quotient.L1_step, leI_eq, decide_eq_true (show (0 : Int) ≤ (j : Int) by omega), cond_true, Int.zero_sub, w_i64_in (x := -(j : Int)) (by omega) (by omega), w_i64_in (x := (j : Int) - 1) (by omega) (by omega)]
    have osh : okSh (-(j : Int)) = true := cdec_eq.2 (by omega)
    have ly : lenN (V / 2 ^ j) < 12000 := Nat.lt_of_le_of_lt (lenN_mono hyV) hV
    simp only [wv_of]
    rw [shW_low]
    generalize V / 2 ^ j = y at *
    have oy : okW (negW (y : Int)) (limbsI (y : Int)) = true := okN (by omega)
    have hqy : y / 2 / W ≤ y := Nat.le_trans (Nat.div_le_self _ _) (Nat.div_le_self _ _)
    have hrW : y / 2 % W < W := Nat.mod_lt _ hW0
    have hd := Nat.div_add_mod (y / 2) W
    generalize hq : y / 2 / W = q at *
    generalize hr : y / 2 % W = r at *
    have lq := lenN_mono hqy
    have lr := lenN_mono (Nat.le_of_lt hrW)
    have lr2 := lenN_two r
    have lq2 := lenN_two q
    have lw2 := lenN_two W
    have lr21 : lenN (2 * r + 1) ≤ lenN (2 * W) := lenN_mono (by omega)
    have oq : okW (negW (q : Int)) (limbsI (q : Int)) = true := okN (by omega)
    have or_ : okW (negW (r : Int)) (limbsI (r : Int)) = true := okN (by omega)
    have oq2 : okW (negW ((2 * q : Nat) : Int)) (limbsI ((2 * q : Nat) : Int)) = true := okN (by omega)
    have or2 : okW (negW ((2 * r : Nat) : Int)) (limbsI ((2 * r : Nat) : Int)) = true := okN (by omega)
    have or21 : okW (negW ((2 * r + 1 : Nat) : Int)) (limbsI ((2 * r + 1 : Nat) : Int)) = true := okN (by omega)
    have c1 : 2 * (r : Int) = ((2 * r : Nat) : Int) := by omega
    have c2 : 2 * (q : Int) = ((2 * q : Nat) : Int) := by omega
    have c3 : ((2 * r : Nat) : Int) + 1 = ((2 * r + 1 : Nat) : Int) := by omega
    have c4 : ((2 * q : Nat) : Int) + 1 = ((2 * q + 1 : Nat) : Int) := by omega
    rw [or_, cond_true, oV, osh, Bool.and_self, cond_true, oy, cond_true, odd_nat, i1, o1, oq, oW, c1, c2, c3, c4, or2, or21, oq2, cmp_nat, cmp_nat]
    have mul2 : ∀ c, W * (2 * q + c) = 2 * (W * q) + W * c := fun c => by rw [Nat.mul_add, Nat.mul_left_comm]
    by_cases hodd : y % 2 = 1
    · rw [decide_eq_true hodd]
      by_cases hc : W ≤ 2 * r + 1
      · obtain ⟨d1, d2⟩ := div_mod_of (y := y) (W := W) (q := 2 * q + 1) (r := 2 * r + 1 - W) (by rw [mul2]; omega) (by omega)
        rw [d1, d2] at ih
        have c5 : ((2 * r + 1 : Nat) : Int) - (W : Int) = ((2 * r + 1 - W : Nat) : Int) := by omega
        rw [decide_eq_true hc, c5, Bool.and_self]
        simp only [cond_true]
        exact ih
      · obtain ⟨d1, d2⟩ := div_mod_of (y := y) (W := W) (q := 2 * q + 0) (r := 2 * r + 1) (by rw [mul2]; omega) (by omega)
        rw [d1, d2] at ih
        rw [decide_eq_false hc, Bool.and_self]
        simp only [cond_true, cond_false]
        exact ih
    · rw [decide_eq_false hodd]
      by_cases hc : W ≤ 2 * r
      · obtain ⟨d1, d2⟩ := div_mod_of (y := y) (W := W) (q := 2 * q + 1) (r := 2 * r - W) (by rw [mul2]; omega) (by omega)
        rw [d1, d2] at ih
        have c5 : ((2 * r : Nat) : Int) - (W : Int) = ((2 * r - W : Nat) : Int) := by omega
        rw [decide_eq_true hc, c5, Bool.and_self]
        simp only [cond_true, cond_false]
        exact ih
      · obtain ⟨d1, d2⟩ := div_mod_of (y := y) (W := W) (q := 2 * q + 0) (r := 2 * r) (by rw [mul2]; omega) (by omega)
        rw [d1, d2] at ih
        rw [decide_eq_false hc, Bool.and_self]
        simp only [cond_true, cond_false]
        exact ih

theorem quo_head (N M : Nat) (n : Bool) (a : List Int) (m : Bool) (b : List Int) (h : 1 ≤ lenI (wv n a)) (h2 : lenI (wv n a) ≤ 9000000) :
    ref06.Quotient.L0 N (M + 1) n a m b = ref06.Quotient.L1 N (M + 1) n a m b false [] false [] (lenI (wv n a) - 1) := by
  have e : w_i64 (lenI (wv n a) - 1) = lenI (wv n a) - 1 := w_i64_in (by omega) (by omega)
  have c : leI (0 : Int) (lenI (wv n a) - 1) = true := by rw [leI_eq]; exact decide_eq_true (by omega)
  rw [ref06.Quotient.L0_step, ref06.Quotient.L1_step, e, c, cond_true, cond_true]

theorem ref06.Quotient.known : Known Try.prog 68 ref06.Quotient.spec := ref06.Quotient.known_of (.cons ref01.Of.known (.cons ref01.Shift.known (.cons ref01.Double.known (.cons ref01.Add.known (.cons ref01.Odd.known (.cons ref01.Len.known (.cons ref01.Compare.known (.cons ref01.Sub.known .nil)))))))) fun n a m b hp => by
  obtain ⟨h1, h2⟩ := and_true_iff.1 hp
  obtain ⟨h3, h4⟩ := and_true_iff.1 h1
  obtain ⟨v, rfl, rfl, hv⟩ := okW_get h3
  obtain ⟨w, rfl, rfl, hw⟩ := okW_get h4
  have h2 := cdec_eq.1 h2
  rw [wv_of, wv_of] at h2
  obtain ⟨v0, w0, lv, lw⟩ := h2
  obtain ⟨V, rfl⟩ : ∃ k : Nat, v = k := ⟨v.toNat, by omega⟩
  obtain ⟨W, rfl⟩ : ∃ k : Nat, w = k := ⟨w.toNat, by omega⟩
  rw [Int.natAbs_natCast] at lv lw
  have hout : ref06.Quotient.out [.b (negW (V : Int)), .l (limbsI (V : Int)), .b (negW (W : Int)), .l (limbsI (W : Int))] =
      .tup [.agg [.bool (negW ((V / W : Nat) : Int)), .ints .arg .u32 (limbsI ((V / W : Nat) : Int))], .agg [.bool (negW ((V % W : Nat) : Int)), .ints .arg .u32 (limbsI ((V % W : Nat) : Int))]] := by
    show DV.tup [.agg [.bool (negW (quoI (wv (negW (V : Int)) (limbsI (V : Int))) (wv (negW (W : Int)) (limbsI (W : Int))))), .ints .arg .u32 (limbsI (quoI (wv (negW (V : Int)) (limbsI (V : Int))) (wv (negW (W : Int)) (limbsI (W : Int)))))], .agg [.bool (negW (remI (wv (negW (V : Int)) (limbsI (V : Int))) (wv (negW (W : Int)) (limbsI (W : Int))))), .ints .arg .u32 (limbsI (remI (wv (negW (V : Int)) (limbsI (V : Int))) (wv (negW (W : Int)) (limbsI (W : Int)))))]] = _
    rw [wv_of, wv_of]
    unfold quoI remI
    rw [Int.natAbs_natCast, Int.natAbs_natCast]
  rw [hout]
  by_cases hV0 : V = 0
  · subst hV0
    refine ⟨1, .tup [.agg [.bool false, .nil], .agg [.bool false, .nil]], [], ?_, ?_⟩
    · have hl : leI (0 : Int) (w_i64 (lenI (0 : Int) - 1)) = false := by decide
      rw [ref06.Quotient.ev, h3, cond_true, ref06.Quotient.L0_step, wv_of, show ((0 : Nat) : Int) = 0 from rfl, hl, cond_false]
    · rw [Nat.zero_div, Nat.zero_mod]
      exact Wk.tupL (.cons (Wk.aggL (.cons .bool (.cons (.nil _ _) .nil))) (.cons (Wk.aggL (.cons .bool (.cons (.nil _ _) .nil))) .nil))
  · have hlog := log2_lenN (n := V)
    have hI : lenI (V : Int) = ((V.log2 + 1 : Nat) : Int) := by
      unfold lenI
      rw [if_neg (by omega), Int.natAbs_natCast]; rfl
    have hz : V / 2 ^ (V.log2 + 1) = 0 := Nat.div_eq_of_lt Nat.lt_log2_self
    have lp := quo_loop (V.log2 + 2) (V := V) (W := W) (by omega) (by omega) (by omega) (V.log2 + 1) (V.log2 + 2) (by omega) (by omega)
    rw [hz, Nat.zero_div, Nat.zero_mod] at lp
    refine ⟨V.log2 + 2, _, [], ?_, Wk.tupL (.cons wagg (.cons wagg .nil))⟩
    rw [ref06.Quotient.ev, h3, cond_true]
    have qh := quo_head (V.log2 + 2) (V.log2 + 1) (negW (V : Int)) (limbsI (V : Int)) (negW (W : Int)) (limbsI (W : Int)) (by rw [wv_of, hI]; omega) (by rw [wv_of, hI]; omega)
    rw [wv_of, hI] at qh
    exact qh.trans lp

end Go.Proofs.S1

/- dioptraref06.Div: a quotient with 180 bits more, and one that says that something is left; rounded. -/
namespace Go.Proofs.S1
open Go Go.Den Go.Rnd Go.Proofs
open EqRef06

theorem stick_pos {X Y K : Nat} (h : 2 ^ 53 ≤ X * 2 ^ K / Y) : stick X Y K ≠ 0 := by unfold stick; omega

theorem stick_ref {a b : Nat} (ha : partM a ≠ 0) (hb : partM b ≠ 0) : ∃ X Y : Nat, mD (valI (a : Int)) = sgn (negN a) X ∧ mD (valI (b : Int)) = sgn (negN b) Y ∧ X < 2 ^ 53 ∧ 0 < Y ∧ Y < 2 ^ 53 ∧ stick X Y 180 ≠ 0 ∧
    rung (stick X Y 180) (eD (valI (a : Int)) (partE a) - eD (valI (b : Int)) (partE b) - 181) = rung (stick (partM a) (partM b) 120) (partE a - partE b - 121) ∧
    flagsOf (stick X Y 180) (eD (valI (a : Int)) (partE a) - eD (valI (b : Int)) (partE b) - 181) = flagsOf (stick (partM a) (partM b) 120) (partE a - partE b - 121) := by
  obtain ⟨X, t, x0, x1, x2, x3, x4⟩ := odd_part ha
  obtain ⟨Y, u, y0, y1, y2, y3, y4⟩ := odd_part hb
  have la := partM_lt a
  have lb := partM_lt b
  have pt := pow_pos2 t
  have pu := pow_pos2 u
  have hX : X ≤ partM a := by rw [x2]; exact Nat.le_mul_of_pos_right _ pt
  have hY : Y ≤ partM b := by rw [y2]; exact Nat.le_mul_of_pos_right _ pu
  have hY2 : Y < 2 ^ (53 - u) := by
    rw [y2] at lb
    have e : 2 ^ (53 - u) * 2 ^ u = 9007199254740992 := by rw [← Nat.pow_add, show 53 - u + u = 53 by omega]
    rw [← e] at lb
    exact Nat.lt_of_mul_lt_mul_right lb
  have g1 : 2 ^ 53 ≤ X * 2 ^ (120 + t - u) / Y := quo_ge (t := 53 - u) (by omega) (by omega) hY2 (by omega)
  have g2 : 2 ^ 53 ≤ X * 2 ^ 180 / Y := quo_ge (t := 53 - u) (by omega) (by omega) hY2 (by omega)
  have es : stick (partM a) (partM b) 120 = stick X Y (120 + t - u) := by
    rw [x2, y2, stick_left]
    have : 120 + t = 120 + t - u + u := by omega
    conv => lhs; rw [this]
    rw [stick_right]
  obtain ⟨s1, s2⟩ := stick_same (X := X) (Y := Y) (K := 180) (L := 120 + t - u) (E := partE a + t - (partE b + u) - 181) (F := partE a - partE b - 121) (by omega) g2 g1 (by omega)
  refine ⟨X, Y, x1, y1, by omega, by omega, by omega, stick_pos g2, ?_, ?_⟩
  · rw [es, x3, y3, s1]
  · rw [es, x3, y3, s2]

theorem absI_sgn (s : Bool) (m : Nat) : absI (sgn s m) = (m : Int) := by
  unfold absI sgn
  split <;> omega

theorem shW_180 (X : Nat) : shW (X : Int) (180 : Int) = ((X * 2 ^ 180 : Nat) : Int) := by
  unfold shW
  rw [if_pos (by decide), Int.natCast_mul]
  rfl

theorem lenN_53 {n : Nat} (h : n < 2 ^ 53) : lenN n ≤ 2 := lenN_le (k := 2) (Nat.lt_trans h (by decide))

theorem div_cuts (N : Nat) (p : Bool) (s t : Bool) {X Y : Nat} {e f : Int} (hX : X < 2 ^ 53) (hY0 : 0 < Y) (hY : Y < 2 ^ 53) (hS : stick X Y 180 ≠ 0) (he : -1100 ≤ e ∧ e ≤ 2000) (hf : -1100 ≤ f ∧ f ≤ 2000)
    (oX : okW (negW (sgn s X)) (limbsI (sgn s X)) = true) (oY : okW (negW (sgn t Y)) (limbsI (sgn t Y)) = true) :
    ref06.Div.C16 N p (negW (sgn t Y)) (limbsI (sgn t Y)) f (negW (sgn s X)) (limbsI (sgn s X)) e =
      some (.tup [.int .u64 ((signN p (rung (stick X Y 180) (e - f - 181)) : Nat) : Int), .int .u8 ((flagsOf (stick X Y 180) (e - f - 181) : Nat) : Int)]) := by
  have lX := lenN_53 hX
  have lY := lenN_53 hY
  have lX2 := lenN_shl X 180
  have oAX : okV (negW (X : Int)) (limbsI (X : Int)) = true := okV_of (by rw [Int.natAbs_natCast]; omega)
  have oSh : okSh (180 : Int) = true := cdec_eq.2 (by omega)
  have oQ : okQ (negW ((X * 2 ^ 180 : Nat) : Int)) (limbsI ((X * 2 ^ 180 : Nat) : Int)) (negW (Y : Int)) (limbsI (Y : Int)) = true := by
    unfold okQ
    rw [wv_of, wv_of]
    refine and_true_iff.2 ⟨and_true_iff.2 ⟨okN (by omega), okN (by omega)⟩, cdec_eq.2 ?_⟩
    rw [Int.natAbs_natCast, Int.natAbs_natCast]
    omega
  rw [ref06.Div.C16_eq, oX, oY, cond_true, cond_true]
  simp only [wv_of]
  rw [absI_sgn, absI_sgn, shW_180, oAX, oSh, Bool.and_self, cond_true, oQ, cond_true]
  unfold quoI remI
  rw [Int.natAbs_natCast, Int.natAbs_natCast]
  have lq : lenN (X * 2 ^ 180 / Y) ≤ lenN (X * 2 ^ 180) := lenN_mono (Nat.div_le_self _ _)
  have lq2 := lenN_two (X * 2 ^ 180 / Y)
  have hst : stick X Y 180 = 2 * (X * 2 ^ 180 / Y) + (if X * 2 ^ 180 % Y = 0 then 0 else 1) := rfl
  have lst : lenN (stick X Y 180) < 1000 := by
    have l1 : stick X Y 180 ≤ 2 * (X * 2 ^ 180 / Y + 1) := by rw [hst]; split <;> omega
    have l2 : X * 2 ^ 180 / Y + 1 ≤ X * 2 ^ 180 + 1 := Nat.add_le_add_right (Nat.div_le_self _ _) 1
    have l3 : X * 2 ^ 180 + 1 ≤ 2 ^ 53 * 2 ^ 180 := (Nat.mul_lt_mul_right (pow_pos2 180)).2 hX
    have l4 : stick X Y 180 < 2 ^ (32 * 8) := Nat.lt_of_le_of_lt (Nat.le_trans l1 (Nat.mul_le_mul_left 2 (Nat.le_trans l2 l3))) (by
      rw [← Nat.pow_add, Nat.mul_comm, ← Nat.pow_succ]
      exact Nat.pow_lt_pow_right (by decide) (by decide))
    exact lenN_lt l4 (by omega)
  generalize X * 2 ^ 180 / Y = q at *
  generalize X * 2 ^ 180 % Y = r at *
  have oq : okW (negW (q : Int)) (limbsI (q : Int)) = true := okN (by omega)
  have oq2 : okW (negW ((2 * q : Nat) : Int)) (limbsI ((2 * q : Nat) : Int)) = true := okN (by omega)
  have i1 : inI64 (1 : Int) = true := cdec_eq.2 (by omega)
  have o1 : okW (negW (1 : Int)) (limbsI (1 : Int)) = true := okN (n := 1) (by decide)
  have c2 : 2 * (q : Int) = ((2 * q : Nat) : Int) := by omega
  have c4 : ((2 * q : Nat) : Int) + 1 = ((2 * q + 1 : Nat) : Int) := by omega
  rw [ref06.Div.C17_eq, oq, cond_true, wv_of, c2, ref06.Div.C18_eq, len_pos, i1, oq2, o1, wv_of, wv_of, c4, Bool.and_self, cond_true, cond_true]
  -- both ways come to the same number
  have key : (bif decide ((r : Int) ≠ 0) then
        ref06.Div.C20 N p (negW (sgn t Y)) (limbsI (sgn t Y)) f (negW (sgn s X)) (limbsI (sgn s X)) e (negW (r : Int)) (limbsI (r : Int)) (negW ((2 * q + 1 : Nat) : Int)) (limbsI ((2 * q + 1 : Nat) : Int))
      else ref06.Div.C20 N p (negW (sgn t Y)) (limbsI (sgn t Y)) f (negW (sgn s X)) (limbsI (sgn s X)) e (negW (r : Int)) (limbsI (r : Int)) (negW ((2 * q : Nat) : Int)) (limbsI ((2 * q : Nat) : Int))) =
      ref06.Div.C20 N p (negW (sgn t Y)) (limbsI (sgn t Y)) f (negW (sgn s X)) (limbsI (sgn s X)) e (negW (r : Int)) (limbsI (r : Int)) (negW ((stick X Y 180 : Nat) : Int)) (limbsI ((stick X Y 180 : Nat) : Int)) := by
    rw [hst]
    by_cases hr : r = 0
    · rw [decide_eq_false (by omega), cond_false, if_pos hr, Nat.add_zero]
    · rw [decide_eq_true (by omega), cond_true, if_neg hr]
  refine key.trans ?_
  clear key hst
  generalize stick X Y 180 = S at *
  have oL : okL (limbsI (S : Int)) = true := okL_limbs (by rw [Int.natAbs_natCast]; omega)
  have eT : wv p (limbsI (S : Int)) = sgn p S := by
    unfold wv
    rw [valL_limbsI, Int.natAbs_natCast]
  have aT : (sgn p S).natAbs = S := sgn_abs p S
  have hT : sgn p S ≠ 0 := by omega
  have oT : okW (negW (sgn p S)) (limbsI (sgn p S)) = true := okW_of (by rw [aT]; omega)
  have oE : okE2 (e - f - 181) = true := cdec_eq.2 (by omega)
  have ml := lenN_mono (mD_abs_le (sgn p S))
  rw [aT] at ml
  have oM : okW (negW (mD (sgn p S))) (limbsI (mD (sgn p S))) = true := okW_of (by omega)
  have rz := roundZ_mD hT (e - f - 181)
  have htz := tz_lt (n := (sgn p S).natAbs) (by omega)
  rw [aT] at htz
  have hll := log2_lenN (n := S)
  have oR : okRnd (mD (sgn p S)) (eD (sgn p S) (e - f - 181)) = true := by
    refine cdec_eq.2 ⟨by omega, ?_⟩
    unfold eD
    rw [if_neg hT, aT]
    omega
  rw [ref06.Div.C20_eq, oL, cond_true, w_i64_in (x := e - f) (by omega) (by omega), w_i64_in (by omega) (by omega)]
  simp only [wv_of]
  rw [eT, oT, oE, Bool.and_self, cond_true, oM, oR, Bool.and_self, cond_true]
  unfold roundBI roundFI
  rw [rz, roundZ_sgn 0 p hS]

theorem ref06.Div.known : Known Try.prog 35 ref06.Div.spec := ref06.Div.known_of (.cons ref04.Neg.known (.cons ref04.Value.known (.cons ref04.Kind.known (.cons ref04.Round.known (.cons ref01.Of.known (.cons ref02.Of.known (.cons ref06.signed.known (.cons ref06.Quotient.known (.cons ref01.Shift.known (.cons ref06.plain.known (.cons ref01.Double.known (.cons ref01.Add.known (.cons ref01.Made.known .nil))))))))))))) fun a b hp => by
  obtain ⟨ha, hb⟩ := and_true_iff.1 hp
  obtain ⟨a, rfl, hn⟩ := inU64_nat ha
  obtain ⟨b, rfl, hm⟩ := inU64_nat hb
  refine ⟨0, ref06.Div.out [.i a, .i b], [], ?_, Wk.tupL (.cons .int (.cons .int .nil))⟩
  show _ = some (DV.tup [.int .u64 (((divN a b).1 : Nat) : Int), .int .u8 (((divN a b).2 : Nat) : Int)])
  have i1 : inU64 (9218868437227405312 : Int) = true := inU64_of (n := 9218868437227405312) (by decide)
  have i2 : inU64 (0 : Int) = true := inU64_of (n := 0) (by decide)
  have ea : negI (a : Int) = negN a := rfl
  have eb : negI (b : Int) = negN b := rfl
  have pa : partEI (a : Int) = partE a := rfl
  have pb : partEI (b : Int) = partE b := rfl
  have k4 : ∀ b : Nat, (((kindN b : Nat) : Int) == (4 : Int)) = decide (kindN b = 4) := fun b => kq b 4
  have kk : (((kindN a : Nat) : Int) == ((kindN b : Nat) : Int)) = decide (kindN a = kindN b) := kq a (kindN b)
  rw [ref06.Div.ev, natI_nat, natI_nat, ha, hb, kindI_nat, kindI_nat, k4, k4, k3, k3, k0, k0, kk, i1, i2, inf_word, zero_word, not_beq, ea, eb, pa, pb, cond_true, cond_true, cond_true, cond_true]
  unfold divN
  by_cases h4 : kindN a = 4 ∨ kindN b = 4
  · have c4 : (decide (kindN a = 4) || decide (kindN b = 4)) = true := by simp; exact h4
    rw [if_pos h4, c4, cond_true]; rfl
  · have c4 : (decide (kindN a = 4) || decide (kindN b = 4)) = false := by simp; omega
    rw [if_neg h4, c4, cond_false]
    by_cases h1 : kindN a = kindN b ∧ (kindN a = 3 ∨ kindN a = 0)
    · have c1 : (decide (kindN a = kindN b) && (decide (kindN a = 3) || decide (kindN a = 0))) = true := by simp; omega
      rw [if_pos h1, c1, cond_true]; rfl
    · have c1 : (decide (kindN a = kindN b) && (decide (kindN a = 3) || decide (kindN a = 0))) = false := by simp; omega
      rw [if_neg h1, c1, cond_false]
      by_cases h2 : kindN a = 3
      · rw [if_pos h2, decide_eq_true h2, cond_true]; rfl
      · rw [if_neg h2, decide_eq_false h2, cond_false]
        by_cases h3 : kindN b = 3 ∨ kindN a = 0
        · have c3 : (decide (kindN b = 3) || decide (kindN a = 0)) = true := by simp; exact h3
          rw [if_pos h3, c3, cond_true]; rfl
        · have c3 : (decide (kindN b = 3) || decide (kindN a = 0)) = false := by simp; omega
          rw [if_neg h3, c3, cond_false]
          by_cases h5 : kindN b = 0
          · rw [if_pos h5, decide_eq_true h5, cond_true]; rfl
          · have qa := partM_pos (b := a) (by omega) (by omega) (by omega)
            have qb := partM_pos (b := b) (by omega) (by omega) (by omega)
            obtain ⟨X, Y, x1, y1, hX, hY0, hY, hS, r1, r2⟩ := stick_ref qa qb
            obtain ⟨_, t, _, _, _, x3, x4⟩ := odd_part qa
            obtain ⟨_, u, _, _, _, y3, y4⟩ := odd_part qb
            have xa := partE_le a
            have xb := partE_le b
            have lX := lenN_53 hX
            have lY := lenN_53 hY
            have dc := div_cuts 0 (negN a != negN b) (negN a) (negN b) (e := eD (valI (a : Int)) (partE a)) (f := eD (valI (b : Int)) (partE b)) hX hY0 hY hS (by omega) (by omega) (okW_of (by rw [sgn_abs]; omega)) (okW_of (by rw [sgn_abs]; omega))
            rw [if_neg h5, decide_eq_false h5, cond_false, x1, y1, cond_true, cond_true, dc, r1, r2]

end Go.Proofs.S1
