/- A verified evaluator of the program's form and its use for this seat: S1PRefA, S1PRefAa, S1EqRefB, S1PRefB, S1PRefBa, S1EqRefC, S1PRefC, S1PRefCa, S1EqRefE, S1PRefV, S1PPack, S1PNear, S1EqSum, S1PSum. -/
import Derived.Test.YtjbokjpbiobjpaaGreatTF
import Derived.Test.YtjbokjpbiobjpaaGreatTE
set_option linter.unusedVariables false
set_option linter.unusedSimpArgs false
noncomputable section
namespace Go.Proofs.S1
open Go Go.Den Go.Rnd Go.Proofs
open EqRefA
theorem Af.Ii.known : Af.Ii.Kn := Af.Ii.Ac .nil fun l i hp => by
  obtain ⟨hl, hi⟩ := Jr hp
  refine ⟨0, Af.Ii.out [.l l, .i i], [], ?_, .int⟩
  rw [Af.Ii.ev, Ef, Aw]
  show _ = some (DV.int .u64 (Fx l i))
  by_cases h0 : 0 ≤ i
  · obtain ⟨k, rfl⟩ : ∃ k : Nat, i = k := ⟨i.toNat, by omega⟩
    have hv := Ga hi k
    have hg := Qe hi k
    rw [hv, Int.toNat_natCast, hg, decide_eq_true h0, Bool.true_and]
    by_cases h1 : (k : Int) < (l.length : Int)
    · rw [decide_eq_true h1, cond_true, cond_true, Cv (by omega) (by omega)]
    · have h2 : l.getD k 0 = 0 := by
        rw [List.getD_eq_getElem?_getD, List.getElem?_eq_none (by omega)]; rfl
      rw [h2] at hg
      rw [decide_eq_false h1, cond_false, ← hg]
  · have : Fx l i = 0 := by unfold Fx; rw [if_neg h0]
    rw [decide_eq_false h0, Bool.false_and, cond_false, this]
theorem wagg {drops : List Nat} {b : Bool} {l : List Int} : Wk drops (.agg [.bool b, .ints .arg .u32 l]) (.agg [.bool b, .ints .arg .u32 l]) := Wk.J7 (.cons .bool (.cons .argL .nil))
theorem negW_zero : Bc 0 = false := rfl
theorem limbsI_zero : Al 0 = [] := rfl
theorem made_loop (N : Nat) (n : Bool) {l : List Int} (hl : l.length < 1073741824) (hi : Wm l) : ∀ (p F : Nat), p ≤ l.length → p < F → B7 l < 2 ^ (32 * p) →
    ∃ dv, Af.Made.L0 N F n l (p : Int) = some dv ∧ Wk [] dv (.agg [.bool (Bc (wv n l)), .ints .arg .u32 (Al (wv n l))]) := by
  have hlast : ∀ p, p ≤ l.length → Cz (B7 l) = p → p ≠ 0 → some (DV.agg [.bool n, .ints .arg .u32 (l.take p)]) = some (DV.agg [.bool (Bc (wv n l)), .ints .arg .u32 (Al (wv n l))]) := by
    intro p hp hq h0
    have h1 := limbs_take hi
    rw [hq] at h1
    have h2 : B7 l ≠ 0 := fun h => by rw [h] at hq; exact h0 hq.symm
    have e : (wv n l).natAbs = B7 l := by unfold wv Gu; split <;> omega
    have e1 : Al (wv n l) = O5 (B7 l) := by unfold Al; rw [e]
    have e2 : Bc (wv n l) = n := by unfold Bc wv Gu; cases n <;> simp <;> omega
    rw [h1, e1, e2]
  intro p
  induction p with
  | zero =>
    intro F hp hF hv
    obtain ⟨F, rfl⟩ : ∃ G, F = G + 1 := ⟨F - 1, by omega⟩
    have hz : wv n l = 0 := by
      have : B7 l = 0 := by rw [Nat.mul_zero, Nat.pow_zero] at hv; omega
      unfold wv Gu; rw [this]; cases n <;> rfl
    refine ⟨.agg [.bool false, .nil], ?_, ?_⟩
    · rw [Af.Made.Az, Aw]; rfl
    · rw [hz, negW_zero, limbsI_zero]
      exact Wk.J7 (.cons .bool (.cons (.nil _ _) .nil))
  | succ p ih =>
    intro F hp hF hv
    obtain ⟨F, rfl⟩ : ∃ G, F = G + 1 := ⟨F - 1, by omega⟩
    rw [Af.Made.Az, Aw, Ap (by omega) (by omega)]
    have e0 : ((p + 1 : Nat) : Int) - 1 = (p : Int) := by omega
    have t0 : decide ((0 : Int) < ((p + 1 : Nat) : Int)) = true := decide_eq_true (by omega)
    have t1 : decide ((0 : Int) ≤ (p : Int)) = true := by simp
    have t2 : decide ((p : Int) < (l.length : Int)) = true := by simp; omega
    have hg := Qe hi p
    have hq : B7 l / 2 ^ (32 * p) < 4294967296 := by
      rw [Nat.div_lt_iff_lt_mul (B1 _), ← M5]; exact hv
    rw [Nat.mod_eq_of_lt hq] at hg
    rw [e0, t0, t1, t2, Int.toNat_natCast, hg]
    simp only [Bool.not_true, Bool.and_self, Bool.false_or, cond_true, Bool.true_and]
    by_cases hz : B7 l / 2 ^ (32 * p) = 0
    · have : (((B7 l / 2 ^ (32 * p) : Nat) : Int) == 0) = true := by rw [hz]; rfl
      rw [this, cond_true]
      refine ih F (by omega) (by omega) ?_
      rcases Nat.lt_or_ge (B7 l) (2 ^ (32 * p)) with h | h
      · exact h
      · have := Nat.div_pos h (B1 _); omega
    · have : (((B7 l / 2 ^ (32 * p) : Nat) : Int) == 0) = false := by simp only [beq_eq_false_iff_ne, ne_eq]; omega
      have t3 : (((p + 1 : Nat) : Int) == 0) = false := by simp only [beq_eq_false_iff_ne, ne_eq]; omega
      have t4 : decide (((p + 1 : Nat) : Int) ≤ (l.length : Int)) = true := by simp; omega
      have t5 : decide ((0 : Int) ≤ ((p + 1 : Nat) : Int)) = true := decide_eq_true (by omega)
      rw [this, cond_false, t3, cond_false, t4, t5, Bool.and_self, cond_true, Int.toNat_natCast]
      have hlen : Cz (B7 l) = p + 1 := by
        have a1 := L7 hv
        have a2 := lenN_ge (n := B7 l) (k := p) (by
          rcases Nat.lt_or_ge (B7 l) (2 ^ (32 * p)) with h | h
          · exact absurd (Nat.div_eq_of_lt h) hz
          · exact h)
        omega
      exact ⟨_, hlast (p + 1) hp hlen (by omega), wagg⟩
theorem Af.Made.known : Af.Made.Kn := Af.Made.Ac .nil fun n l hp => by
  obtain ⟨hl, hi⟩ := Jr hp
  obtain ⟨dv, h1, h2⟩ := made_loop (l.length + 1) n hl hi l.length (l.length + 1) (Nat.le_refl _) (by omega) (Lx hi)
  exact ⟨l.length + 1, dv, [], by rw [Af.Made.ev]; exact h1, h2⟩
theorem Xk {a b : Int} (ha : 0 ≤ a ∧ a < 4294967296) (hb : 0 ≤ b ∧ b < 4294967296) : Gf [a, b] = true :=
  Mg (show 2 < 1073741824 by decide) fun x hx => by
    rcases List.mem_cons.1 hx with rfl | hx
    · exact ha
    · rcases List.mem_cons.1 hx with rfl | hx
      · exact hb
      · cases hx
theorem lit32 : (4294967296 : Int) = ((4294967296 : Nat) : Int) := rfl
theorem Af.Of.known : Af.Of.Kn := Af.Of.Ac (.cons Af.Made.known .nil) fun n hp => by
  have hp := Ar.1 hp
  refine ⟨0, Af.Of.out [.i n], [], ?_, wagg⟩
  rw [Af.Of.ev, Aw]
  show _ = some (DV.agg [.bool (Bc n), .ints .arg .u32 (Al n)])
  by_cases h : n < 0
  · obtain ⟨k, rfl⟩ : ∃ k : Nat, n = -(k : Int) := ⟨(-n).toNat, by omega⟩
    have e1 : Bd (Bd (Ab (0 - Ab (-(k : Int) + 1))) + 1) = (k : Int) := by
      rw [Ap (x := -(k : Int) + 1) (by omega) (by omega), Ap (by omega) (by omega), Cv (x := 0 - (-(k : Int) + 1)) (by omega) (by omega), Cv (by omega) (by omega)]; omega
    rw [decide_eq_true h, cond_true, e1, lit32, Iq, Ir, Jt (by omega) (by omega), Cv (by omega) (by omega), Jt (by omega) (by omega),
      Xk (by omega) (by omega), cond_true]
    have e2 : wv true [((k % 4294967296 : Nat) : Int), ((k / 4294967296 : Nat) : Int)] = -(k : Int) := by
      unfold wv Gu B7 B7 B7
      rw [if_pos rfl, Int.toNat_natCast, Int.toNat_natCast]
      omega
    rw [e2]
  · obtain ⟨k, rfl⟩ : ∃ k : Nat, n = (k : Int) := ⟨n.toNat, by omega⟩
    rw [decide_eq_false h, cond_false, lit32, Iq, Ir, Jt (by omega) (by omega), Ap (by omega) (by omega), Jt (by omega) (by omega),
      Xk (by omega) (by omega), cond_true]
    have e2 : wv false [((k % 4294967296 : Nat) : Int), ((k / 4294967296 : Nat) : Int)] = (k : Int) := by
      unfold wv Gu B7 B7 B7
      rw [if_neg (by decide), Int.toNat_natCast, Int.toNat_natCast]
      omega
    rw [e2]
theorem Af.Neg.known : Af.Neg.Kn := Af.Neg.Ac (.cons Af.Made.known .nil) fun n a hp => by
  obtain ⟨v, rfl, rfl, hv⟩ := Hz hp
  refine ⟨0, Af.Neg.out [.b (Bc v), .l (Al v)], [], ?_, wagg⟩
  rw [Af.Neg.ev, Na (by omega), cond_true, wv_neg]
  rfl
end Go.Proofs.S1
namespace Go.Proofs.S1
open Go Go.Den Go.Rnd Go.Proofs
open EqRefA
theorem more_loop (N : Nat) {a b : List Int} (ha : Gf a = true) (hb : Gf b = true) : ∀ (j F : Nat), j < 4000000000 → j < F → B7 a / 2 ^ (32 * j) = B7 b / 2 ^ (32 * j) →
    Af.Hg.L0 N F a b ((j : Int) - 1) = some (.int .i64 (Tx (B7 a) (B7 b))) := by
  have ia := (Jr ha).2
  have ib := (Jr hb).2
  intro j
  induction j with
  | zero =>
    intro F hj hF h
    obtain ⟨F, rfl⟩ : ∃ G, F = G + 1 := ⟨F - 1, by omega⟩
    rw [Nat.mul_zero, Nat.pow_zero, Nat.div_one, Nat.div_one] at h
    have e : Tx (B7 a) (B7 b) = 0 := by unfold Tx; rw [if_neg (by omega), if_neg (by omega)]
    rw [Af.Hg.Az, Ef, e]
    rfl
  | succ j ih =>
    intro F hj hF h
    obtain ⟨F, rfl⟩ : ∃ G, F = G + 1 := ⟨F - 1, by omega⟩
    have e0 : ((j + 1 : Nat) : Int) - 1 = (j : Int) := by omega
    have t0 : decide ((0 : Int) ≤ (j : Int)) = true := decide_eq_true (by omega)
    rw [M5, Nat.mul_comm, ← Nat.div_div_eq_div_mul, ← Nat.div_div_eq_div_mul] at h
    have up : B7 a / 2 ^ (32 * j) < B7 b / 2 ^ (32 * j) → B7 a < B7 b := fun k => by
      rcases Nat.lt_or_ge (B7 a) (B7 b) with h1 | h1
      · exact h1
      · have := Nat.div_le_div_right (c := 2 ^ (32 * j)) h1; omega
    have down : B7 b / 2 ^ (32 * j) < B7 a / 2 ^ (32 * j) → B7 b < B7 a := fun k => by
      rcases Nat.lt_or_ge (B7 b) (B7 a) with h1 | h1
      · exact h1
      · have := Nat.div_le_div_right (c := 2 ^ (32 * j)) h1; omega
    rw [Af.Hg.Az, e0, Ef, t0, cond_true, ha, hb, cond_true, cond_true, Aw, Aw, Ga ia, Ga ib, Ap (by omega) (by omega)]
    have ih := ih F (by omega) (by omega)
    generalize B7 a / 2 ^ (32 * j) = x at *
    generalize B7 b / 2 ^ (32 * j) = y at *
    by_cases h1 : x % 4294967296 < y % 4294967296
    · have e : Tx (B7 a) (B7 b) = -1 := by unfold Tx; rw [if_pos (up (by omega))]
      rw [decide_eq_true (by omega), cond_true, e]
    · rw [decide_eq_false (by omega), cond_false]
      by_cases h2 : y % 4294967296 < x % 4294967296
      · have := down (by omega)
        have e : Tx (B7 a) (B7 b) = 1 := by unfold Tx; rw [if_neg (by omega), if_pos this]
        rw [decide_eq_true (by omega), cond_true, e]
        rfl
      · rw [decide_eq_false (by omega), cond_false]
        exact ih (by omega)
theorem div_len {l : List Int} (h : Wm l) {j : Nat} (hj : l.length ≤ j) : B7 l / 2 ^ (32 * j) = 0 :=
  Nat.div_eq_of_lt (Nat.lt_of_lt_of_le (Lx h) (Nat.pow_le_pow_right (by decide) (by omega)))
theorem Af.Hg.known : Af.Hg.Kn := Af.Hg.Ac (.cons Af.Ii.known .nil) fun a b hp => by
  obtain ⟨ha, hb⟩ := Ag.1 hp
  obtain ⟨la, ia⟩ := Jr ha
  obtain ⟨lb, ib⟩ := Jr hb
  refine ⟨max a.length b.length + 2, Af.Hg.out [.l a, .l b], [], ?_, .int⟩
  rw [Af.Hg.ev]
  have e : max (a.length : Int) (b.length : Int) = ((max a.length b.length + 1 : Nat) : Int) - 1 := by omega
  rw [e]
  exact more_loop _ ha hb _ _ (by omega) (by omega) (by rw [div_len ia (by omega), div_len ib (by omega)])
theorem plus_loop (N : Nat) {a b : List Int} (ha : Gf a = true) (hb : Gf b = true) : ∀ (k i c F : Nat), i + k = max a.length b.length + 1 → k < F → c ≤ 1 →
    B7 a / 2 ^ (32 * i) + B7 b / 2 ^ (32 * i) + c = (B7 a + B7 b) / 2 ^ (32 * i) →
    Af.plus.L0 N F a b (c : Int) (i : Int) (digits i (B7 a + B7 b)) = some (.ints (.own 100005 tW) .u32 (Iv a b)) := by
  obtain ⟨la, ia⟩ := Jr ha
  obtain ⟨lb, ib⟩ := Jr hb
  intro k
  induction k with
  | zero =>
    intro i c F hi hF hc h
    obtain ⟨F, rfl⟩ : ∃ G, F = G + 1 := ⟨F - 1, by omega⟩
    have t0 : decide ((i : Int) ≤ max (a.length : Int) (b.length : Int)) = false := decide_eq_false (by omega)
    rw [Af.plus.Az, Ef, t0, cond_false]
    unfold Iv
    rw [show i = max a.length b.length + 1 by omega]
  | succ k ih =>
    intro i c F hi hF hc h
    obtain ⟨F, rfl⟩ : ∃ G, F = G + 1 := ⟨F - 1, by omega⟩
    have t0 : decide ((i : Int) ≤ max (a.length : Int) (b.length : Int)) = true := decide_eq_true (by omega)
    have t1 : decide ((digits i (B7 a + B7 b)).length + 1 ≤ H0) = true := decide_eq_true (by rw [Ek]; unfold H0; omega)
    rw [Af.plus.Az, Ef, t0, ha, hb, t1]
    simp only [cond_true]
    rw [Ga ia, Ga ib]
    have ih := ih (i + 1)
    rw [M5, Nat.mul_comm 4294967296, ← Nat.div_div_eq_div_mul, ← Nat.div_div_eq_div_mul, ← Nat.div_div_eq_div_mul, Ma] at ih
    generalize B7 a / 2 ^ (32 * i) = x at *
    generalize B7 b / 2 ^ (32 * i) = y at *
    generalize (B7 a + B7 b) / 2 ^ (32 * i) = z at *
    have e1 : Bd (Bd (((x % 4294967296 : Nat) : Int) + ((y % 4294967296 : Nat) : Int)) + (c : Int)) = ((x % 4294967296 + y % 4294967296 + c : Nat) : Int) := by
      rw [Cv (x := ((x % 4294967296 : Nat) : Int) + ((y % 4294967296 : Nat) : Int)) (by omega) (by omega), Cv (by omega) (by omega)]; omega
    rw [e1, lit32, Iq, Ir, Jt (by omega) (by omega), Cv (by omega) (by omega), Ap (by omega) (by omega)]
    have e2 : (x % 4294967296 + y % 4294967296 + c) % 4294967296 = z % 4294967296 := by omega
    rw [e2]
    exact ih ((x % 4294967296 + y % 4294967296 + c) / 4294967296) F (by omega) (by omega) (by omega) (by omega)
theorem own_arg {i : Nat} {e : TypeId} {k : IntKind} {l : List Int} : Wk [i] (.ints (.own i e) k l) (.ints .arg k l) := .dropA i e k l (List.mem_singleton.2 rfl)
theorem Af.plus.known : Af.plus.Kn := Af.plus.Ac (.cons Af.Ii.known .nil) fun a b hp => by
  obtain ⟨ha, hb⟩ := Ag.1 hp
  refine ⟨max a.length b.length + 2, .ints (.own 100005 tW) .u32 (Iv a b), [100005], ?_, own_arg⟩
  rw [Af.plus.ev]
  exact plus_loop _ ha hb (max a.length b.length + 1) 0 0 _ (by omega) (by omega) (by omega) (by simp)
theorem minus_loop (N : Nat) {a b : List Int} (ha : Gf a = true) (hb : Gf b = true) : ∀ (k i w F : Nat), i + k = a.length → k < F → w ≤ 1 →
    B7 a / 2 ^ (32 * i) = B7 b / 2 ^ (32 * i) + (B7 a - B7 b) / 2 ^ (32 * i) + w →
    Af.minus.L0 N F a b (w : Int) (i : Int) (digits i (B7 a - B7 b)) = some (.ints (.own 100005 tW) .u32 (F7 a b)) := by
  obtain ⟨la, ia⟩ := Jr ha
  obtain ⟨lb, ib⟩ := Jr hb
  intro k
  induction k with
  | zero =>
    intro i c F hi hF hc h
    obtain ⟨F, rfl⟩ : ∃ G, F = G + 1 := ⟨F - 1, by omega⟩
    have t0 : decide ((i : Int) < (a.length : Int)) = false := decide_eq_false (by omega)
    rw [Af.minus.Az, Aw, t0, cond_false]
    unfold F7
    rw [show i = a.length by omega]
  | succ k ih =>
    intro i w F hi hF hc h
    obtain ⟨F, rfl⟩ : ∃ G, F = G + 1 := ⟨F - 1, by omega⟩
    have t0 : decide ((i : Int) < (a.length : Int)) = true := decide_eq_true (by omega)
    have t1 : decide ((digits i (B7 a - B7 b)).length + 1 ≤ H0) = true := decide_eq_true (by rw [Ek]; unfold H0; omega)
    rw [Af.minus.Az, Aw, t0, ha, hb, t1]
    simp only [cond_true]
    rw [Ga ia, Ga ib]
    have ih := ih (i + 1)
    rw [M5, Nat.mul_comm 4294967296, ← Nat.div_div_eq_div_mul, ← Nat.div_div_eq_div_mul, ← Nat.div_div_eq_div_mul, Ma] at ih
    generalize B7 a / 2 ^ (32 * i) = x at *
    generalize B7 b / 2 ^ (32 * i) = y at *
    generalize (B7 a - B7 b) / 2 ^ (32 * i) = z at *
    have e1 : Bd (Bd (Bd ((4294967296 : Int) + ((x % 4294967296 : Nat) : Int)) - ((y % 4294967296 : Nat) : Int)) - (w : Int)) = ((4294967296 + x % 4294967296 - y % 4294967296 - w : Nat) : Int) := by
      rw [Cv (x := (4294967296 : Int) + ((x % 4294967296 : Nat) : Int)) (by omega) (by omega), Cv (x := (4294967296 : Int) + ((x % 4294967296 : Nat) : Int) - ((y % 4294967296 : Nat) : Int)) (by omega) (by omega), Cv (by omega) (by omega)]; omega
    have e2 : (4294967296 + x % 4294967296 - y % 4294967296 - w) % 4294967296 = z % 4294967296 := by omega
    have e3 : Bd ((1 : Int) - (((4294967296 + x % 4294967296 - y % 4294967296 - w) / 4294967296 : Nat) : Int)) = ((1 - (4294967296 + x % 4294967296 - y % 4294967296 - w) / 4294967296 : Nat) : Int) := by
      rw [Cv (by omega) (by omega)]; omega
    rw [e1, lit32, Iq, Ir, Jt (by omega) (by omega), Cv (x := (((4294967296 + x % 4294967296 - y % 4294967296 - w) / 4294967296 : Nat) : Int)) (by omega) (by omega), Ap (by omega) (by omega), e2, e3]
    exact ih (1 - (4294967296 + x % 4294967296 - y % 4294967296 - w) / 4294967296) F (by omega) (by omega) (by omega) (by omega)
theorem Af.minus.known : Af.minus.Kn := Af.minus.Ac (.cons Af.Ii.known .nil) fun a b hp => by
  obtain ⟨h1, hle⟩ := Ag.1 hp
  obtain ⟨ha, hb⟩ := Ag.1 h1
  have hle := Ar.1 hle
  refine ⟨a.length + 1, .ints (.own 100005 tW) .u32 (F7 a b), [100005], ?_, own_arg⟩
  rw [Af.minus.ev]
  exact minus_loop _ ha hb a.length 0 0 _ (by omega) (by omega) (by omega) (by simp; omega)
theorem Fw (v : Int) : Wm (Al v) := limbs_in _
theorem wv_add {v w : Int} (h : Bc v = Bc w) : wv (Bc v) (Iv (Al v) (Al w)) = v + w := by
  unfold wv
  rw [plusL_val (Fw _) (Fw _), Db, Db]
  unfold Bc at h ⊢
  unfold Gu
  rw [decide_eq_decide] at h
  by_cases hv : v < 0
  · have hw := h.1 hv
    rw [decide_eq_true hv, if_pos rfl]; omega
  · have hw : ¬ w < 0 := fun k => hv (h.2 k)
    rw [decide_eq_false hv, if_neg (by decide)]; omega
theorem wv_less {v w : Int} (h : Bc v ≠ Bc w) (hl : w.natAbs ≤ v.natAbs) : wv (Bc v) (F7 (Al v) (Al w)) = v + w := by
  unfold wv
  rw [minusL_val _ (Fw _), Db, Db]
  unfold Bc at h ⊢
  unfold Gu
  rw [ne_eq, decide_eq_decide] at h
  by_cases hv : v < 0
  · have hw : ¬ w < 0 := fun k => h ⟨fun _ => k, fun _ => hv⟩
    rw [decide_eq_true hv, if_pos rfl]; omega
  · have hw : w < 0 := by
      rcases Int.lt_or_le w 0 with k | k
      · exact k
      · exact absurd ⟨fun k' => absurd k' hv, fun k' => by omega⟩ h
    rw [decide_eq_false hv, if_neg (by decide)]; omega
theorem Af.Add.known : Af.Add.Kn := Af.Add.Ac (.cons Af.Made.known (.cons Af.Hg.known (.cons Af.minus.known (.cons Af.plus.known .nil)))) fun n a m b hp => by
  obtain ⟨h1, h2⟩ := Ag.1 hp
  obtain ⟨v, rfl, rfl, hv⟩ := Hz h1
  obtain ⟨w, rfl, rfl, hw⟩ := Hz h2
  refine ⟨0, Af.Add.out [.b (Bc v), .l (Al v), .b (Bc w), .l (Al w)], [], ?_, wagg⟩
  have o1 : Gf (Al v) = true := Na (by omega)
  have o2 : Gf (Al w) = true := Na (by omega)
  rw [Af.Add.ev, o1, o2, Bool.and_self, cond_true]
  show _ = some (DV.agg [.bool (Bc (wv (Bc v) (Al v) + wv (Bc w) (Al w))), .ints .arg .u32 (Al (wv (Bc v) (Al v) + wv (Bc w) (Al w)))])
  rw [Gt, Gt]
  by_cases hs : Bc v = Bc w
  · have : (Bc v == Bc w) = true := by simp [hs]
    have o3 : Gf (Iv (Al v) (Al w)) = true := Mg (by rw [Sa, B9, B9]; omega) (plusL_in _ _)
    rw [this, cond_true, o3, cond_true, wv_add hs]
  · have : (Bc v == Bc w) = false := by simp [hs]
    rw [this, cond_false, cond_true, Aw, Db, Db, Bool.true_and, Bool.true_and]
    by_cases hl : v.natAbs < w.natAbs
    · have e : decide (Tx v.natAbs w.natAbs < 0) = true := decide_eq_true (by unfold Tx; rw [if_pos hl]; decide)
      have o3 : Gf (F7 (Al w) (Al v)) = true := Mg (by rw [Qu, B9]; omega) (X4 _ _)
      have o4 : leL (Al v) (Al w) = true := Ar.2 (by rw [Db, Db]; omega)
      rw [e, cond_true, o4, cond_true, o3, cond_true, wv_less (fun k => hs k.symm) (by omega), Int.add_comm]
    · have e : decide (Tx v.natAbs w.natAbs < 0) = false := decide_eq_false (by unfold Tx; rw [if_neg hl]; split <;> decide)
      have o3 : Gf (F7 (Al v) (Al w)) = true := Mg (by rw [Qu, B9]; omega) (X4 _ _)
      have o4 : leL (Al w) (Al v) = true := Ar.2 (by rw [Db, Db]; omega)
      rw [e, cond_false, o4, cond_true, o3, cond_true, wv_less hs (by omega)]
end Go.Proofs.S1
namespace Go.Proofs.S1
open Go Go.Den Go.Rnd Go.Proofs
set_option linter.unusedVariables false
set_option maxRecDepth 100000
namespace EqRefB
theorem Eu : ∀ a : Bool, (a && true) = a := by decide
theorem I7 : ∀ a b : Bool, ((a && b) && true) = (a && b) := by decide
theorem H8 : ∀ a b : Bool, (bif a then b else false) = (a && b) := by decide
theorem Hr : ∀ a : Bool, (((!a) || (a == true)) && true) = true := by decide
theorem Ge : ∀ a : Bool, ((!(a == true)) || ((((!(a == true)) || (a == true)) && true) && true)) = true := by decide
theorem Kb : ∀ a : Bool, ((!(a == true)) || true) = true := by decide
theorem Lu : ∀ a : Bool, (((a && true) && true) && true) = a := by decide
theorem Ld : ∀ a b : Bool, ((!(a == true)) || ((((!(a == true)) || (a == true)) && true) && b)) = ((!a) || b) := by decide
theorem Qk : ∀ a b c : Bool, (bif (!(a == b)) then true else c) = ((!(a == b)) || c) := by decide
theorem Ru : ∀ a b : Bool, ((!(!(!(a == b)))) || ((!(a == b)) == false)) = true := by decide
theorem Ho : ∀ a b : Bool, ((!((!(a == b)) == false)) || ((((!((!(a == b)) == false)) || ((!(a == b)) == false)) && (((!((!(a == b)) == false)) || ((!(a == b)) == false)) && true)) && true)) = true := by decide
theorem Ip : ∀ a b : Bool, ((!((!(a == b)) == false)) || ((((!((!(a == b)) == false)) || ((!(a == b)) == false)) && true) && true)) = true := by decide
theorem I8 : ∀ a b : Bool, ((!((!(a == b)) == false)) || true) = true := by decide
def Af.E5.A9 : List (Nat × Entry) := [(171, Af.Made.spec), (174, Af.plus.spec)]
def Af.E5.E : Env := Bb (A8 Af.E5.A9) (fun _ => false) (fun _ => none) (fun _ => none)
theorem Af.E5.ev (N : Nat) (n : Bool) (a : List Int) : A1 Af.E5.E N Tryz.f222 (Ad Tryz.f222) [.agg [.bool n, .ints .arg .u32 a]] =
  bif (Gf a && Gf a) then
  bif (Gf (Iv a a)) then
  some (.agg [.bool (Bc (wv n (Iv a a))), .ints .arg .u32 (Al (wv n (Iv a a)))])
  else none
  else none :=
  Eq.trans (by kernel_rfl)
  (C1 (Eu (Gf a && Gf a)) (C1 (Eu (Gf (Iv a a))) rfl rfl) rfl)
theorem Af.E5.Ac (hk : A0 Tryz.prog Af.E5.A9) (h : ∀ (n : Bool) (a : List Int), Af.E5.pre [.b n, .l a] = true → ∃ N dv drops, A1 Af.E5.E N Tryz.f222 (Ad Tryz.f222) [.agg [.bool n, .ints .arg .u32 a]] = some dv ∧ Wk drops dv (Af.E5.out [.b n, .l a])) : Am Tryz.prog 222 Af.E5.spec :=
  Aj (A2 hk _ _ _) Tryz.func222 (by kernel_rfl) (by kernel_rfl) h
abbrev _root_.Go.Proofs.S1.Af.E5.Kn : Prop := Am Tryz.prog 222 Af.E5.spec
def Af.Gs.hint : Nat → Option Bf
  | 0 => some { keep := [1, 2, 3, 4], objs := [(0, 3, 100003, .ints 173 .u32 [])], boxes := [1, 2] }
  | _ => none
def Af.Gs.A9 : List (Nat × Entry) := [(171, Af.Made.spec), (221, Af.Ii.spec)]
def Af.Gs.E : Env := Bb (A8 Af.Gs.A9) (fun _ => false) Af.Gs.hint (fun _ => none)
def Af.Gs.L0 (N M : Nat) (n : Bool) (a : List Int) (p4 : Int) (p3 : List Int) : Option DV := B6 Af.Gs.E N Tryz.f173 (Ad Tryz.f173) [1, 1, 0, 1, 0] [] M ⟨Hq 37 [(1, .ptr 1 0 0), (2, .ptr 2 0 0), (3, .oref 100003), (4, .int .i64 p4)], [(1, false, .box [.bool n, .ints .arg .u32 a]), (2, false, .box [.bool false, .nil]), (100003, false, .ints 173 .u32 p3)]⟩
theorem Af.Gs.Az (N M : Nat) (n : Bool) (a : List Int) (p4 : Int) (p3 : List Int) : Af.Gs.L0 N (M + 1) n a p4 p3 =
  bif (A5 p4 (List.length a : Int)) then
  bif (Gf a) then
  bif (Gf a) then
  bif ((decide (0 ≤ p4)) && (decide (p4 < (List.length p3 : Int)))) then
  bif (decide ((Int.toNat p4) < (List.length p3))) then
  Af.Gs.L0 N M n a (Ab (p4 + (1 : Int))) (List.set p3 (Int.toNat p4) (Im (Bd (Int.tdiv (Bd ((Bd ((Int.tmod (Fx a (Ab (p4 + (1 : Int)))) (2 : Int)) * (4294967296 : Int))) + (Fx a p4))) (2 : Int)))))
  else none
  else none
  else none
  else none
  else bif (Gf p3) then
  some (.agg [.bool (Bc (wv n p3)), .ints .arg .u32 (Al (wv n p3))])
  else none :=
  Eq.trans (by kernel_rfl)
  (Fb (C1 (Eu (Gf a)) (C1 (Eu (Gf a)) (C1 (I7 (decide (0 ≤ p4)) (decide (p4 < (List.length p3 : Int)))) (C1 (Eu (decide ((Int.toNat p4) < (List.length p3)))) rfl rfl) rfl) rfl) rfl) rfl)
theorem Af.Gs.ev (N : Nat) (n : Bool) (a : List Int) : A1 Af.Gs.E N Tryz.f173 (Ad Tryz.f173) [.agg [.bool n, .ints .arg .u32 a]] =
  bif (((decide ((0 : Int) ≤ (List.length a : Int))) && (decide ((List.length a : Int) ≤ (List.length a : Int)))) && (decide ((List.length a : Int) ≤ H0))) then
  Af.Gs.L0 N N n a (0 : Int) (List.replicate (Int.toNat (List.length a : Int)) (0 : Int))
  else none := by kernel_rfl
theorem Af.Gs.Ac (hk : A0 Tryz.prog Af.Gs.A9) (h : ∀ (n : Bool) (a : List Int), Af.Gs.pre [.b n, .l a] = true → ∃ N dv drops, A1 Af.Gs.E N Tryz.f173 (Ad Tryz.f173) [.agg [.bool n, .ints .arg .u32 a]] = some dv ∧ Wk drops dv (Af.Gs.out [.b n, .l a])) : Am Tryz.prog 173 Af.Gs.spec :=
  Aj (A2 hk _ _ _) Tryz.func173 (by kernel_rfl) (by kernel_rfl) h
abbrev _root_.Go.Proofs.S1.Af.Gs.Kn : Prop := Am Tryz.prog 173 Af.Gs.spec
def Af.Bj.hint : Nat → Option Bf
  | 0 => some { keep := [1, 2, 4], objs := [], boxes := [2, 4] }
  | 2 => some { keep := [1, 2, 4], objs := [], boxes := [2, 4] }
  | 4 => some { keep := [1, 2, 4], objs := [], boxes := [2, 4] }
  | 6 => some { keep := [1, 2, 4], objs := [], boxes := [2, 4] }
  | _ => none
def Af.Bj.A9 : List (Nat × Entry) := [(222, Af.E5.spec), (173, Af.Gs.spec), (171, Af.Made.spec)]
def Af.Bj.E : Env := Bb (A8 Af.Bj.A9) (fun _ => false) Af.Bj.hint (fun _ => none)
def Af.Bj.L0 (N M : Nat) (p1 : Int) (p2 : Bool) (p2_1 : List Int) : Option DV := B6 Af.Bj.E N Tryz.f178 (Ad Tryz.f178) [1, 0, 0] [] M ⟨Hq 63 [(1, .int .i64 p1), (2, .ptr 2 0 0), (4, .ptr 4 0 0)], [(2, false, .box [.bool p2, .ints .arg .u32 p2_1]), (4, false, .box [.bool false, .nil])]⟩
def Af.Bj.L1 (N M : Nat) (p1_1 : Int) (p2_2 : Bool) (p2_3 : List Int) : Option DV := B6 Af.Bj.E N Tryz.f178 (Ad Tryz.f178) [1, 1, 0, 0] [] M ⟨Hq 63 [(1, .int .i64 p1_1), (2, .ptr 2 0 0), (4, .ptr 4 0 0)], [(2, false, .box [.bool p2_2, .ints .arg .u32 p2_3]), (4, false, .box [.bool false, .nil])]⟩
def Af.Bj.L2 (N M : Nat) (p1_2 : Int) (p2_4 : Bool) (p2_5 : List Int) : Option DV := B6 Af.Bj.E N Tryz.f178 (Ad Tryz.f178) [1, 1, 1, 0, 0] [] M ⟨Hq 63 [(1, .int .i64 p1_2), (2, .ptr 2 0 0), (4, .ptr 4 0 0)], [(2, false, .box [.bool p2_4, .ints .arg .u32 p2_5]), (4, false, .box [.bool false, .nil])]⟩
def Af.Bj.L3 (N M : Nat) (p1_3 : Int) (p2_6 : Bool) (p2_7 : List Int) : Option DV := B6 Af.Bj.E N Tryz.f178 (Ad Tryz.f178) [1, 1, 1, 1, 0, 0] [] M ⟨Hq 63 [(1, .int .i64 p1_3), (2, .ptr 2 0 0), (4, .ptr 4 0 0)], [(2, false, .box [.bool p2_6, .ints .arg .u32 p2_7]), (4, false, .box [.bool false, .nil])]⟩
theorem Af.Bj.Az (N M : Nat) (p1 : Int) (p2 : Bool) (p2_1 : List Int) : Af.Bj.L0 N (M + 1) p1 p2 p2_1 =
  bif ((Ds (32 : Int) p1) && (A5 (0 : Int) (List.length p2_1 : Int))) then
  bif (decide (1 + (List.length p2_1) ≤ H0)) then
  bif (Gf ([(0 : Int)] ++ p2_1)) then
  Af.Bj.L0 N M (Ab (p1 - (32 : Int))) (Bc (wv p2 ([(0 : Int)] ++ p2_1))) (Al (wv p2 ([(0 : Int)] ++ p2_1)))
  else none
  else none
  else Af.Bj.L1 N N p1 p2 p2_1 :=
  Eq.trans (by kernel_rfl)
  (Ax (Kb (Ds (32 : Int) p1)) (Ax (Ge (Ds (32 : Int) p1)) (Ax (Ge (Ds (32 : Int) p1)) (Ax (Ge (Ds (32 : Int) p1)) (Ax (Hr (Ds (32 : Int) p1)) (C1 (H8 (Ds (32 : Int) p1) (A5 (0 : Int) (List.length p2_1 : Int))) (C1 (Eu (decide (1 + (List.length p2_1) ≤ H0))) (C1 (Eu (Gf ([(0 : Int)] ++ p2_1))) rfl rfl) rfl) rfl))))))
theorem Af.Bj.Ch (N M : Nat) (p1_1 : Int) (p2_2 : Bool) (p2_3 : List Int) : Af.Bj.L1 N (M + 1) p1_1 p2_2 p2_3 =
  bif ((A5 (0 : Int) p1_1) && (A5 (0 : Int) (List.length p2_3 : Int))) then
  bif (Ib p2_2 p2_3) then
  Af.Bj.L1 N M (Ab (p1_1 - (1 : Int))) (Bc (2 * wv p2_2 p2_3)) (Al (2 * wv p2_2 p2_3))
  else none
  else Af.Bj.L2 N N p1_1 p2_2 p2_3 :=
  Eq.trans (by kernel_rfl)
  (Ax (Kb (A5 (0 : Int) p1_1)) (Ax (Ge (A5 (0 : Int) p1_1)) (Ax (Ge (A5 (0 : Int) p1_1)) (Ax (Ge (A5 (0 : Int) p1_1)) (Ax (Hr (A5 (0 : Int) p1_1)) (C1 (H8 (A5 (0 : Int) p1_1) (A5 (0 : Int) (List.length p2_3 : Int))) rfl rfl))))))
theorem Af.Bj.Fq (N M : Nat) (p1_2 : Int) (p2_4 : Bool) (p2_5 : List Int) : Af.Bj.L2 N (M + 1) p1_2 p2_4 p2_5 =
  bif ((Ds p1_2 (-32 : Int)) && (A5 (0 : Int) (List.length p2_5 : Int))) then
  bif (decide ((1 : Int) ≤ (List.length p2_5 : Int))) then
  bif (Gf (List.drop 1 p2_5)) then
  Af.Bj.L2 N M (Ab (p1_2 + (32 : Int))) (Bc (wv p2_4 (List.drop 1 p2_5))) (Al (wv p2_4 (List.drop 1 p2_5)))
  else none
  else none
  else Af.Bj.L3 N N p1_2 p2_4 p2_5 :=
  Eq.trans (by kernel_rfl)
  (Ax (Kb (Ds p1_2 (-32 : Int))) (Ax (Ge (Ds p1_2 (-32 : Int))) (Ax (Ge (Ds p1_2 (-32 : Int))) (Ax (Ge (Ds p1_2 (-32 : Int))) (Ax (Hr (Ds p1_2 (-32 : Int))) (C1 (H8 (Ds p1_2 (-32 : Int)) (A5 (0 : Int) (List.length p2_5 : Int))) (C1 (Lu (decide ((1 : Int) ≤ (List.length p2_5 : Int)))) (C1 (Eu (Gf (List.drop 1 p2_5))) rfl rfl) rfl) rfl))))))
theorem Af.Bj.Aam (N M : Nat) (p1_3 : Int) (p2_6 : Bool) (p2_7 : List Int) : Af.Bj.L3 N (M + 1) p1_3 p2_6 p2_7 =
  bif ((A5 p1_3 (0 : Int)) && (A5 (0 : Int) (List.length p2_7 : Int))) then
  bif (Ib p2_6 p2_7) then
  Af.Bj.L3 N M (Ab (p1_3 + (1 : Int))) (Bc (Jo (wv p2_6 p2_7) 1)) (Al (Jo (wv p2_6 p2_7) 1))
  else none
  else some (.agg [.bool p2_6, .ints .arg .u32 p2_7]) :=
  Eq.trans (by kernel_rfl)
  (Ax (Kb (A5 p1_3 (0 : Int))) (Ax (Ge (A5 p1_3 (0 : Int))) (Ax (Ge (A5 p1_3 (0 : Int))) (Ax (Ge (A5 p1_3 (0 : Int))) (Ax (Hr (A5 p1_3 (0 : Int))) (C1 (H8 (A5 p1_3 (0 : Int)) (A5 (0 : Int) (List.length p2_7 : Int))) rfl rfl))))))
theorem Af.Bj.ev (N : Nat) (n : Bool) (a : List Int) (k : Int) : A1 Af.Bj.E N Tryz.f178 (Ad Tryz.f178) [.agg [.bool n, .ints .arg .u32 a], .int .i64 k] =
  Af.Bj.L0 N N k n a := by kernel_rfl
theorem Af.Bj.Ac (hk : A0 Tryz.prog Af.Bj.A9) (h : ∀ (n : Bool) (a : List Int) (k : Int), Af.Bj.pre [.b n, .l a, .i k] = true → ∃ N dv drops, A1 Af.Bj.E N Tryz.f178 (Ad Tryz.f178) [.agg [.bool n, .ints .arg .u32 a], .int .i64 k] = some dv ∧ Wk drops dv (Af.Bj.out [.b n, .l a, .i k])) : Am Tryz.prog 178 Af.Bj.spec :=
  Aj (A2 hk _ _ _) Tryz.func178 (by kernel_rfl) (by kernel_rfl) h
abbrev _root_.Go.Proofs.S1.Af.Bj.Kn : Prop := Am Tryz.prog 178 Af.Bj.spec
def Af.Pv.hint : Nat → Option Bf
  | 0 => some { keep := [3, 4], objs := [], boxes := [] }
  | _ => none
def Af.Pv.A9 : List (Nat × Entry) := []
def Af.Pv.E : Env := Bb (A8 Af.Pv.A9) (fun _ => false) Af.Pv.hint (fun _ => none)
def Af.Pv.L0 (N M : Nat) (p3 p4 : Int) : Option DV := B6 Af.Pv.E N Tryz.f223 (Ad Tryz.f223) [1, 1, 1, 0, 1, 0] [] M ⟨Hq 29 [(3, .int .i64 p3), (4, .int .u32 p4)], []⟩
theorem Af.Pv.Az (N M : Nat) (p3 p4 : Int) : Af.Pv.L0 N (M + 1) p3 p4 =
  bif (A5 (0 : Int) p4) then
  Af.Pv.L0 N M (Ab (p3 + (1 : Int))) (Im (Int.tdiv p4 (2 : Int)))
  else some (.int .i64 p3) := by kernel_rfl
theorem Af.Pv.ev (N : Nat) (n : Bool) (a : List Int) : A1 Af.Pv.E N Tryz.f223 (Ad Tryz.f223) [.agg [.bool n, .ints .arg .u32 a]] =
  bif ((List.length a : Int) == (0 : Int)) then
  some (.int .i64 0)
  else bif ((decide (0 ≤ (Ab ((List.length a : Int) - (1 : Int))))) && (decide ((Ab ((List.length a : Int) - (1 : Int))) < (List.length a : Int)))) then
  Af.Pv.L0 N N (Ab ((32 : Int) * (Ab ((List.length a : Int) - (1 : Int))))) (List.getD a (Int.toNat (Ab ((List.length a : Int) - (1 : Int)))) 0)
  else none := by kernel_rfl
theorem Af.Pv.Ac (hk : A0 Tryz.prog Af.Pv.A9) (h : ∀ (n : Bool) (a : List Int), Af.Pv.pre [.b n, .l a] = true → ∃ N dv drops, A1 Af.Pv.E N Tryz.f223 (Ad Tryz.f223) [.agg [.bool n, .ints .arg .u32 a]] = some dv ∧ Wk drops dv (Af.Pv.out [.b n, .l a])) : Am Tryz.prog 223 Af.Pv.spec :=
  Aj (A2 hk _ _ _) Tryz.func223 (by kernel_rfl) (by kernel_rfl) h
abbrev _root_.Go.Proofs.S1.Af.Pv.Kn : Prop := Am Tryz.prog 223 Af.Pv.spec
def Af.U8.A9 : List (Nat × Entry) := []
def Af.U8.E : Env := Bb (A8 Af.U8.A9) (fun _ => false) (fun _ => none) (fun _ => none)
theorem Af.U8.ev (N : Nat) (n : Bool) (a : List Int) : A1 Af.U8.E N Tryz.f172 (Ad Tryz.f172) [.agg [.bool n, .ints .arg .u32 a]] =
  bif ((!(A5 (0 : Int) (List.length a : Int))) || (decide ((0 : Int) < (List.length a : Int)))) then
  some (.bool (bif (A5 (0 : Int) (List.length a : Int)) then ((Int.tmod (List.getD a 0 0) (2 : Int)) == (1 : Int)) else false))
  else none :=
  Eq.trans (by kernel_rfl)
  (Ax (Kb (A5 (0 : Int) (List.length a : Int))) (Ax (Ge (A5 (0 : Int) (List.length a : Int))) (C1 (Ld (A5 (0 : Int) (List.length a : Int)) (decide ((0 : Int) < (List.length a : Int)))) (Ax (Ge (A5 (0 : Int) (List.length a : Int))) (Ax (Ge (A5 (0 : Int) (List.length a : Int))) (Ax (Ge (A5 (0 : Int) (List.length a : Int))) (Ax (Hr (A5 (0 : Int) (List.length a : Int))) rfl)))) rfl)))
theorem Af.U8.Ac (hk : A0 Tryz.prog Af.U8.A9) (h : ∀ (n : Bool) (a : List Int), Af.U8.pre [.b n, .l a] = true → ∃ N dv drops, A1 Af.U8.E N Tryz.f172 (Ad Tryz.f172) [.agg [.bool n, .ints .arg .u32 a]] = some dv ∧ Wk drops dv (Af.U8.out [.b n, .l a])) : Am Tryz.prog 172 Af.U8.spec :=
  Aj (A2 hk _ _ _) Tryz.func172 (by kernel_rfl) (by kernel_rfl) h
abbrev _root_.Go.Proofs.S1.Af.U8.Kn : Prop := Am Tryz.prog 172 Af.U8.spec
end EqRefB
end Go.Proofs.S1
namespace Go.Proofs.S1
open Go Go.Den Go.Rnd Go.Proofs
open EqRefB
theorem Af.E5.known : Af.E5.Kn := Af.E5.Ac (.cons Af.Made.known (.cons Af.plus.known .nil)) fun n a hp => by
  obtain ⟨v, rfl, rfl, hv⟩ := Hz hp
  refine ⟨0, Af.E5.out [.b (Bc v), .l (Al v)], [], ?_, wagg⟩
  have o1 : Gf (Al v) = true := Na (by omega)
  have o3 : Gf (Iv (Al v) (Al v)) = true := Mg (by rw [Sa, B9]; omega) (plusL_in _ _)
  rw [Af.E5.ev, o1, o3, Bool.and_self, cond_true, cond_true, wv_add rfl]
  show _ = some (DV.agg [.bool (Bc (2 * wv (Bc v) (Al v))), .ints .arg .u32 (Al (2 * wv (Bc v) (Al v)))])
  rw [Gt, Int.two_mul]
theorem set_at (l : List Int) (y x : Int) (r : List Int) : ∀ i, i = l.length → (l ++ y :: r).set i x = l ++ x :: r := by
  induction l with
  | nil => intro i h; subst h; rfl
  | cons z l ih =>
    intro i h
    obtain ⟨j, rfl⟩ : ∃ j, i = j + 1 := ⟨i - 1, by rw [List.length_cons] at h; omega⟩
    show z :: (l ++ y :: r).set j x = z :: (l ++ x :: r)
    rw [ih j (by rw [List.length_cons] at h; omega)]
theorem half_loop (N : Nat) {v : Int} (hv : Cz v.natAbs < 268435456) : ∀ (k i F : Nat), i + k = Cz v.natAbs → k < F →
    Af.Gs.L0 N F (Bc v) (Al v) (i : Int) (digits i (v.natAbs / 2) ++ List.replicate k 0) = some (.agg [.bool (Bc (Jo v 1)), .ints .arg .u32 (Al (Jo v 1))]) := by
  have o1 : Gf (Al v) = true := Na (by omega)
  have ia := Fw v
  intro k
  induction k with
  | zero =>
    intro i F hi hF
    obtain ⟨F, rfl⟩ : ∃ G, F = G + 1 := ⟨F - 1, by omega⟩
    have t0 : decide ((i : Int) < ((Al v).length : Int)) = false := decide_eq_false (by rw [B9]; omega)
    rw [List.replicate_zero, List.append_nil, Af.Gs.Az, Aw, t0, cond_false]
    have o3 : Gf (digits i (v.natAbs / 2)) = true := Mg (by rw [Ek]; omega) (Nj _ _)
    have e : wv (Bc v) (digits i (v.natAbs / 2)) = Jo v 1 := by
      unfold wv Jo
      rw [Ju, Nat.mod_eq_of_lt, Nat.pow_one]
      have := Ky v.natAbs
      rw [show i = Cz v.natAbs by omega]
      exact Nat.lt_of_le_of_lt (Nat.div_le_self _ _) this
    rw [o3, cond_true, e]
  | succ k ih =>
    intro i F hi hF
    obtain ⟨F, rfl⟩ : ∃ G, F = G + 1 := ⟨F - 1, by omega⟩
    have hlen : (digits i (v.natAbs / 2) ++ List.replicate (k + 1) (0 : Int)).length = i + (k + 1) := by rw [List.length_append, Ek, List.length_replicate]
    have t0 : decide ((i : Int) < ((Al v).length : Int)) = true := decide_eq_true (by rw [B9]; omega)
    have t1 : decide ((0 : Int) ≤ (i : Int)) = true := decide_eq_true (by omega)
    have t2 : decide ((i : Int) < ((digits i (v.natAbs / 2) ++ List.replicate (k + 1) (0 : Int)).length : Int)) = true := decide_eq_true (by rw [hlen]; omega)
    have t3 : decide (i < (digits i (v.natAbs / 2) ++ List.replicate (k + 1) (0 : Int)).length) = true := decide_eq_true (by rw [hlen]; omega)
    have e0 : Ab ((i : Int) + 1) = ((i + 1 : Nat) : Int) := by rw [Ap (by omega) (by omega)]; omega
    rw [Af.Gs.Az, Aw, t0, o1, Int.toNat_natCast, t1, t2, t3, Bool.and_self]
    simp only [cond_true]
    rw [e0, Ga ia, Ga ia, Db]
    have ih := ih (i + 1) F (by omega) (by omega)
    rw [Ma, Nat.div_div_eq_div_mul, Nat.mul_comm 2, ← Nat.div_div_eq_div_mul] at ih
    rw [M5, Nat.mul_comm 4294967296, ← Nat.div_div_eq_div_mul, List.replicate_succ, set_at _ _ _ _ i (Ek _ _).symm]
    rw [List.append_assoc] at ih
    generalize v.natAbs / 2 ^ (32 * i) = x at *
    have e1 : Int.tmod ((x / 4294967296 % 4294967296 : Nat) : Int) 2 = ((x / 4294967296 % 4294967296 % 2 : Nat) : Int) := Iq _ 2
    have e2 : Bd (Bd (((x / 4294967296 % 4294967296 % 2 : Nat) : Int) * 4294967296) + ((x % 4294967296 : Nat) : Int)) = ((x / 4294967296 % 4294967296 % 2 * 4294967296 + x % 4294967296 : Nat) : Int) := by
      rw [Cv (x := ((x / 4294967296 % 4294967296 % 2 : Nat) : Int) * 4294967296) (by omega) (by omega), Cv (by omega) (by omega)]; omega
    have e3 : Int.tdiv ((x / 4294967296 % 4294967296 % 2 * 4294967296 + x % 4294967296 : Nat) : Int) 2 = (((x / 4294967296 % 4294967296 % 2 * 4294967296 + x % 4294967296) / 2 : Nat) : Int) := Ir _ 2
    have e4 : (x / 4294967296 % 4294967296 % 2 * 4294967296 + x % 4294967296) / 2 = x / 2 % 4294967296 := by omega
    rw [e1, e2, e3, e4, Cv (by omega) (by omega), Jt (by omega) (by omega)]
    exact ih
theorem Af.Gs.known : Af.Gs.Kn := Af.Gs.Ac (.cons Af.Made.known (.cons Af.Ii.known .nil)) fun n a hp => by
  obtain ⟨v, rfl, rfl, hv⟩ := Hz hp
  refine ⟨Cz v.natAbs + 1, Af.Gs.out [.b (Bc v), .l (Al v)], [], ?_, wagg⟩
  show _ = some (DV.agg [.bool (Bc (Jo (wv (Bc v) (Al v)) 1)), .ints .arg .u32 (Al (Jo (wv (Bc v) (Al v)) 1))])
  rw [Af.Gs.ev, Gt, B9, decide_eq_true (by omega), decide_eq_true (by omega), decide_eq_true (by unfold H0; omega), Bool.and_self, Bool.and_self, cond_true, Int.toNat_natCast]
  have h := half_loop (Cz v.natAbs + 1) hv (Cz v.natAbs) 0 (Cz v.natAbs + 1) (by omega) (by omega)
  rw [digits, List.nil_append] at h
  exact h
def wout (v : Int) : Option DV := some (.agg [.bool (Bc v), .ints .arg .u32 (Al v)])
theorem Sr (v : Int) : A5 (0 : Int) ((Al v).length : Int) = decide (v ≠ 0) := by
  rw [Aw, B9, decide_eq_decide]
  constructor
  · intro h e
    rw [e] at h
    exact absurd h (by decide)
  · intro h
    have := Hu (n := v.natAbs) (by omega)
    omega
theorem shift3 (N : Nat) : ∀ (j F : Nat) (v : Int), j < F → j < 2000000 → Cz v.natAbs < 268435456 → Af.Bj.L3 N F (-(j : Int)) (Bc v) (Al v) = wout (Jo v j) := by
  intro j
  induction j with
  | zero =>
    intro F v hF _ hv
    obtain ⟨F, rfl⟩ : ∃ G, F = G + 1 := ⟨F - 1, by omega⟩
    rw [Af.Bj.Aam, Aw, decide_eq_false (by omega), Bool.false_and, cond_false, shR_zero]
    rfl
  | succ j ih =>
    intro F v hF hj hv
    obtain ⟨F, rfl⟩ : ∃ G, F = G + 1 := ⟨F - 1, by omega⟩
    rw [Af.Bj.Aam, Aw, decide_eq_true (by omega), Bool.true_and, Sr]
    by_cases h0 : v = 0
    · rw [decide_eq_false (by omega), cond_false, h0, P3]
      rfl
    · rw [decide_eq_true h0, cond_true, H4 hv, cond_true, Gt, Ap (by omega) (by omega)]
      have e : -((j + 1 : Nat) : Int) + 1 = -(j : Int) := by omega
      have hl : Cz (Jo v 1).natAbs < 268435456 := by
        rw [Ko]
        exact Nat.lt_of_le_of_lt (K9 (Nat.div_le_self _ _)) hv
      rw [e, ih F (Jo v 1) (by omega) (by omega) hl, Y9, Nat.add_comm]
theorem wv_tail (v : Int) : wv (Bc v) ((Al v).drop 1) = Jo v 32 := by
  unfold wv Jo
  rw [valL_tail (Fw v), Db, two32]
theorem shift2 (N : Nat) : ∀ (F j : Nat) (v : Int), j < F → j < N → j < 2000000 → Cz v.natAbs < 268435456 → Af.Bj.L2 N F (-(j : Int)) (Bc v) (Al v) = wout (Jo v j) := by
  intro F
  induction F with
  | zero => intro j v h; omega
  | succ F ih =>
    intro j v hF hN hj hv
    rw [Af.Bj.Fq, Ef, Sr]
    by_cases hc : 32 ≤ j ∧ v ≠ 0
    · have o3 : Gf ((Al v).drop 1) = true := Mg (by rw [List.length_drop, B9]; omega) (inL_tail (Fw v))
      have t1 : decide ((1 : Int) ≤ ((Al v).length : Int)) = true := decide_eq_true (by
        rw [B9]
        have := Hu (n := v.natAbs) (by omega)
        omega)
      have hl : Cz (Jo v 32).natAbs < 268435456 := by
        rw [Ko]
        exact Nat.lt_of_le_of_lt (K9 (Nat.div_le_self _ _)) hv
      rw [decide_eq_true (by omega), decide_eq_true hc.2, Bool.and_self, cond_true, t1, cond_true, o3, cond_true, wv_tail, Ap (by omega) (by omega)]
      have e : -(j : Int) + 32 = -((j - 32 : Nat) : Int) := by omega
      rw [e, ih (j - 32) (Jo v 32) (by omega) (by omega) (by omega) hl, Y9]
      congr 2
      omega
    · have : (decide (-(j : Int) ≤ -32) && decide (v ≠ 0)) = false := by
        rw [Bool.and_eq_false_iff, decide_eq_false_iff_not, decide_eq_false_iff_not]
        omega
      rw [this, cond_false]
      exact shift3 N j N v hN hj hv
theorem T4 (N F : Nat) {k : Int} (hk : 0 ≤ k) (hN : 0 < N) (v : Int) : Af.Bj.L2 N (F + 1) k (Bc v) (Al v) = wout v := by
  obtain ⟨M, rfl⟩ : ∃ M, N = M + 1 := ⟨N - 1, by omega⟩
  rw [Af.Bj.Fq, Ef, decide_eq_false (by omega), Bool.false_and, cond_false, Af.Bj.Aam, Aw, decide_eq_false (by omega), Bool.false_and, cond_false]
  rfl
theorem shift1 (N : Nat) (hN : 0 < N) : ∀ (j F : Nat) (v : Int), j < F → j < 2000000 → Cz v.natAbs + j < 268435456 → Af.Bj.L1 N F (j : Int) (Bc v) (Al v) = wout (v * ((2 ^ j : Nat) : Int)) := by
  obtain ⟨M, rfl⟩ : ∃ M, N = M + 1 := ⟨N - 1, by omega⟩
  intro j
  induction j with
  | zero =>
    intro F v hF _ hv
    obtain ⟨F, rfl⟩ : ∃ G, F = G + 1 := ⟨F - 1, by omega⟩
    rw [Af.Bj.Ch, Aw, decide_eq_false (by omega), Bool.false_and, cond_false, T4 _ _ (by omega) (by omega), Nat.pow_zero]
    congr 1
    omega
  | succ j ih =>
    intro F v hF hj hv
    obtain ⟨F, rfl⟩ : ∃ G, F = G + 1 := ⟨F - 1, by omega⟩
    rw [Af.Bj.Ch, Aw, decide_eq_true (by omega), Bool.true_and, Sr]
    by_cases h0 : v = 0
    · rw [decide_eq_false (by omega), cond_false, h0, Int.zero_mul, T4 _ _ (by omega) (by omega)]
    · have hl := lenN_two v.natAbs
      have e2 : (2 * v).natAbs = 2 * v.natAbs := by omega
      have e : ((j + 1 : Nat) : Int) - 1 = (j : Int) := by omega
      rw [decide_eq_true h0, cond_true, H4 (by omega), cond_true, Gt, Ap (by omega) (by omega), e, ih F (2 * v) (by omega) (by omega) (by rw [e2]; omega)]
      congr 1
      rw [Nat.pow_succ, Int.natCast_mul, Int.mul_comm 2 v, Int.mul_assoc, Int.mul_comm ((2 ^ j : Nat) : Int)]
      rfl
theorem wv_up (v : Int) : wv (Bc v) ([(0 : Int)] ++ Al v) = v * ((2 ^ 32 : Nat) : Int) := by
  have e : B7 ([(0 : Int)] ++ Al v) = 4294967296 * v.natAbs := by
    show B7 (0 :: Al v) = _
    rw [B7, Db]
    exact Nat.zero_add _
  unfold wv
  rw [e, two32]
  by_cases h : v < 0
  · rw [R1 h]; omega
  · rw [R0 h]; omega
theorem shift0 (N : Nat) : ∀ (F j : Nat) (v : Int), j < F → j < N → j < 2000000 → Cz v.natAbs + j < 268435456 → Af.Bj.L0 N F (j : Int) (Bc v) (Al v) = wout (v * ((2 ^ j : Nat) : Int)) := by
  intro F
  induction F with
  | zero => intro j v h; omega
  | succ F ih =>
    intro j v hF hN hj hv
    rw [Af.Bj.Az, Ef, Sr]
    by_cases hc : 32 ≤ j ∧ v ≠ 0
    · have o3 : Gf ([(0 : Int)] ++ Al v) = true := Mg (by rw [List.length_append, B9]; show 1 + _ < _; omega) (inL_zero (Fw v))
      have t1 : decide (1 + (Al v).length ≤ H0) = true := decide_eq_true (by rw [B9]; unfold H0; omega)
      have e2 : (v * ((2 ^ 32 : Nat) : Int)).natAbs = v.natAbs * 4294967296 := by rw [Int.natAbs_mul, Int.natAbs_natCast, two32]
      have hl := lenN_up v.natAbs
      rw [decide_eq_true (by omega), decide_eq_true hc.2, Bool.and_self, cond_true, t1, cond_true, o3, cond_true, wv_up, Ap (by omega) (by omega)]
      have e : (j : Int) - 32 = ((j - 32 : Nat) : Int) := by omega
      rw [e, ih (j - 32) _ (by omega) (by omega) (by omega) (by rw [e2]; omega)]
      have e3 : 2 ^ j = 2 ^ 32 * 2 ^ (j - 32) := by rw [← Nat.pow_add]; congr 1; omega
      rw [e3, Int.natCast_mul, Int.mul_assoc]
    · have : (decide ((32 : Int) ≤ (j : Int)) && decide (v ≠ 0)) = false := by
        rw [Bool.and_eq_false_iff, decide_eq_false_iff_not, decide_eq_false_iff_not]
        omega
      rw [this, cond_false]
      exact shift1 N (by omega) j N v hN hj hv
theorem shift_down (N j : Nat) (v : Int) (hj : 0 < j) (hN : j < N) (hj2 : j < 2000000) (hv : Cz v.natAbs < 268435456) : Af.Bj.L0 N N (-(j : Int)) (Bc v) (Al v) = wout (Jo v j) := by
  obtain ⟨M, rfl⟩ : ∃ M, N = M + 1 := ⟨N - 1, by omega⟩
  rw [Af.Bj.Az, Ef, decide_eq_false (by omega), Bool.false_and, cond_false, Af.Bj.Ch, Aw, decide_eq_false (by omega), Bool.false_and, cond_false]
  exact shift2 _ _ j v hN hN hj2 hv
theorem Af.Bj.known : Af.Bj.Kn := Af.Bj.Ac (.cons Af.E5.known (.cons Af.Gs.known (.cons Af.Made.known .nil))) fun n a k hp => by
  obtain ⟨h1, h2⟩ := Ag.1 hp
  obtain ⟨v, rfl, rfl, hv⟩ := Nw h1
  have h2 := Ar.1 h2
  refine ⟨k.natAbs + 1, Af.Bj.out [.b (Bc v), .l (Al v), .i k], [], ?_, wagg⟩
  show _ = some (DV.agg [.bool (Bc (Fp (wv (Bc v) (Al v)) k)), .ints .arg .u32 (Al (Fp (wv (Bc v) (Al v)) k))])
  rw [Af.Bj.ev, Gt]
  unfold Fp
  by_cases h : 0 ≤ k
  · obtain ⟨j, rfl⟩ : ∃ j : Nat, k = j := ⟨k.toNat, by omega⟩
    rw [if_pos h, Int.toNat_natCast, Int.natAbs_natCast]
    exact shift0 _ _ j v (by omega) (by omega) (by omega) (by omega)
  · obtain ⟨j, rfl⟩ : ∃ j : Nat, k = -(j : Int) := ⟨(-k).toNat, by omega⟩
    have e : (-(-(j : Int))).toNat = j := by omega
    rw [if_neg h, e, Int.natAbs_neg, Int.natAbs_natCast]
    exact shift_down _ j v (by omega) (by omega) (by omega) (by omega)
end Go.Proofs.S1
namespace Go.Proofs.S1
open Go Go.Den Go.Rnd Go.Proofs
open EqRefB
theorem log2_half {t : Nat} (h : 2 ≤ t) : (t / 2).log2 + 1 = t.log2 := by
  have := log2_div (n := t) (m := 1) (by omega)
  rw [Nat.pow_one] at this
  exact this
theorem len_loop (N : Nat) : ∀ (F : Nat) (t : Nat) (p : Int), t < 2 ^ 32 → 0 < t → t.log2 + 1 < F → -1000 ≤ p → p + t.log2 < 4611686018427387904 →
    Af.Pv.L0 N F p (t : Int) = some (.int .i64 (p + t.log2 + 1)) := by
  intro F
  induction F with
  | zero => intro t p _ _ h; omega
  | succ F ih =>
    intro t p ht h0 hF hp1 hp2
    have e2 : Int.tdiv (t : Int) 2 = ((t / 2 : Nat) : Int) := Ir t 2
    rw [two32] at ht
    rw [Af.Pv.Az, Aw, decide_eq_true (by omega), cond_true, e2, Jt (by omega) (by omega), Ap (by omega) (by omega)]
    by_cases h1 : t = 1
    · subst h1
      obtain ⟨G, rfl⟩ : ∃ G, F = G + 1 := ⟨F - 1, by omega⟩
      rw [Af.Pv.Az, Aw, decide_eq_false (by decide), cond_false]
      have : (1 : Nat).log2 = 0 := by decide
      rw [this]
      congr 2
      omega
    · have hl := log2_half (t := t) (by omega)
      rw [ih (t / 2) (p + 1) (by rw [two32]; omega) (by omega) (by omega) (by omega) (by omega)]
      congr 2
      omega
theorem Af.Pv.known : Af.Pv.Kn := Af.Pv.Ac .nil fun n a hp => by
  obtain ⟨v, rfl, rfl, hv⟩ := Hz hp
  refine ⟨40, Af.Pv.out [.b (Bc v), .l (Al v)], [], ?_, .int⟩
  show _ = some (DV.int .i64 (Xd (wv (Bc v) (Al v))))
  rw [Af.Pv.ev, Gt, B9]
  unfold Xd
  by_cases h0 : v = 0
  · rw [if_pos h0, h0]; rfl
  · have hn : v.natAbs ≠ 0 := by omega
    have hl := Hu hn
    have e0 : ((Cz v.natAbs : Int) == 0) = false := by simp only [beq_eq_false_iff_ne, ne_eq]; omega
    have e1 : (Cz v.natAbs : Int) - 1 = ((Cz v.natAbs - 1 : Nat) : Int) := by omega
    have hlen : Cz v.natAbs = v.natAbs.log2 / 32 + 1 := by unfold Cz; rw [if_neg hn]
    have hge : 2 ^ (32 * (Cz v.natAbs - 1)) ≤ v.natAbs := Nat.le_trans (Nat.pow_le_pow_right (by decide) (by omega)) (Nat.log2_self_le hn)
    have hq : v.natAbs / 2 ^ (32 * (Cz v.natAbs - 1)) < 2 ^ 32 := by
      rw [Nat.div_lt_iff_lt_mul (B1 _), ← Nat.pow_add]
      have := Ky v.natAbs
      have e : 32 + 32 * (Cz v.natAbs - 1) = 32 * Cz v.natAbs := by omega
      rw [e]; exact this
    have hlog := log2_div hge
    have hg := Qe (Fw v) (Cz v.natAbs - 1)
    have hq' := hq
    rw [two32] at hq'
    rw [Db, Nat.mod_eq_of_lt hq'] at hg
    have hpos := Nat.div_pos hge (B1 _)
    have h32 : (v.natAbs / 2 ^ (32 * (Cz v.natAbs - 1))).log2 < 32 := (Nat.log2_lt (by omega)).2 hq
    rw [if_neg h0, e0, cond_false, Ap (by omega) (by omega), e1, decide_eq_true (by omega), decide_eq_true (by omega), Bool.and_self, cond_true, Int.toNat_natCast, hg, Ap (by omega) (by omega)]
    rw [len_loop 40 40 _ _ hq hpos (by omega) (by omega) (by omega)]
    congr 2
    omega
theorem Af.U8.known : Af.U8.Kn := Af.U8.Ac .nil fun n a hp => by
  obtain ⟨v, rfl, rfl, hv⟩ := Hz hp
  refine ⟨0, Af.U8.out [.b (Bc v), .l (Al v)], [], ?_, .bool⟩
  show _ = some (DV.bool (oddB (wv (Bc v) (Al v))))
  rw [Af.U8.ev, Gt, Sr]
  have hg := Qe (Fw v) 0
  rw [Db, Nat.mul_zero, Nat.pow_zero, Nat.div_one] at hg
  have e2 : Int.tmod ((v.natAbs % 4294967296 : Nat) : Int) 2 = ((v.natAbs % 4294967296 % 2 : Nat) : Int) := Iq _ 2
  unfold oddB
  by_cases h0 : v = 0
  · rw [h0]; rfl
  · have hl := Hu (n := v.natAbs) (by omega)
    rw [hg, e2, decide_eq_true h0, B9, decide_eq_true (by omega), Bool.or_true, cond_true, cond_true]
    congr 2
    rw [Bool.eq_iff_iff]
    simp only [beq_iff_eq, decide_eq_true_eq]
    omega
end Go.Proofs.S1
namespace Go.Proofs.S1
open Go Go.Den Go.Rnd Go.Proofs
set_option linter.unusedVariables false
set_option maxRecDepth 100000
namespace EqRefC
theorem Eu : ∀ a : Bool, (a && true) = a := by decide
theorem I7 : ∀ a : Bool, (((a && true) && true) && true) = a := by decide
theorem H8 : ∀ a : Bool, (((!a) || (a == true)) && true) = true := by decide
theorem Hr : ∀ a b : Bool, ((!(a == true)) || ((((!(a == true)) || (a == true)) && (((!(a == true)) || (a == true)) && true)) && b)) = ((!a) || b) := by decide
theorem Ge : ∀ a : Bool, ((!(a == true)) || ((((!(a == true)) || (a == true)) && true) && true)) = true := by decide
theorem Kb : ∀ a : Bool, ((!(a == true)) || true) = true := by decide
def As.Of.hint : Nat → Option Bf
  | 0 => some { keep := [1, 2, 4], objs := [], boxes := [2, 4] }
  | 2 => some { keep := [1, 2, 4], objs := [], boxes := [2, 4] }
  | _ => none
def As.Of.A9 : List (Nat × Entry) := [(173, Af.Gs.spec), (171, Af.Made.spec), (172, Af.U8.spec)]
def As.Of.E : Env := Bb (A8 As.Of.A9) (fun _ => false) As.Of.hint (fun _ => none)
def As.Of.L0 (N M : Nat) (p1 : Int) (p2 : Bool) (p2_1 : List Int) : Option DV := B6 As.Of.E N Tryz.f109 (Ad Tryz.f109) [1, 1, 0, 0] [] M ⟨Hq 33 [(1, .int .i64 p1), (2, .ptr 2 0 0), (4, .ptr 4 0 0)], [(2, false, .box [.bool p2, .ints .arg .u32 p2_1]), (4, false, .box [.bool false, .nil, .int .i64 0])]⟩
def As.Of.L1 (N M : Nat) (p1_1 : Int) (p2_2 : Bool) (p2_3 : List Int) : Option DV := B6 As.Of.E N Tryz.f109 (Ad Tryz.f109) [1, 1, 1, 0, 0] [] M ⟨Hq 33 [(1, .int .i64 p1_1), (2, .ptr 2 0 0), (4, .ptr 4 0 0)], [(2, false, .box [.bool p2_2, .ints .arg .u32 p2_3]), (4, false, .box [.bool false, .nil, .int .i64 0])]⟩
theorem As.Of.Az (N M : Nat) (p1 : Int) (p2 : Bool) (p2_1 : List Int) : As.Of.L0 N (M + 1) p1 p2 p2_1 =
  bif (decide ((0 : Int) < (List.length p2_1 : Int))) then
  bif ((List.getD p2_1 0 0) == (0 : Int)) then
  bif (decide ((1 : Int) ≤ (List.length p2_1 : Int))) then
  bif (Gf (List.drop 1 p2_1)) then
  As.Of.L0 N M (Ab (p1 + (32 : Int))) (Bc (wv p2 (List.drop 1 p2_1))) (Al (wv p2 (List.drop 1 p2_1)))
  else none
  else none
  else As.Of.L1 N N p1 p2 p2_1
  else none :=
  Eq.trans (by kernel_rfl)
  (Fb (Fb (C1 (I7 (decide ((1 : Int) ≤ (List.length p2_1 : Int)))) (C1 (Eu (Gf (List.drop 1 p2_1))) rfl rfl) rfl) rfl) rfl)
theorem As.Of.Ch (N M : Nat) (p1_1 : Int) (p2_2 : Bool) (p2_3 : List Int) : As.Of.L1 N (M + 1) p1_1 p2_2 p2_3 =
  bif (Ib p2_2 p2_3) then
  bif (!(oddB (wv p2_2 p2_3))) then
  bif (Ib p2_2 p2_3) then
  As.Of.L1 N M (Ab (p1_1 + (1 : Int))) (Bc (Jo (wv p2_2 p2_3) 1)) (Al (Jo (wv p2_2 p2_3) 1))
  else none
  else some (.agg [.bool p2_2, .ints .arg .u32 p2_3, .int .i64 p1_1])
  else none := by kernel_rfl
theorem As.Of.ev (N : Nat) (n : Bool) (a : List Int) (e : Int) : A1 As.Of.E N Tryz.f109 (Ad Tryz.f109) [.agg [.bool n, .ints .arg .u32 a], .int .i64 e] =
  bif ((List.length a : Int) == (0 : Int)) then
  some (.agg [.bool false, .nil, .int .i64 0])
  else As.Of.L0 N N e n a := by kernel_rfl
theorem As.Of.Ac (hk : A0 Tryz.prog As.Of.A9) (h : ∀ (n : Bool) (a : List Int) (e : Int), As.Of.pre [.b n, .l a, .i e] = true → ∃ N dv drops, A1 As.Of.E N Tryz.f109 (Ad Tryz.f109) [.agg [.bool n, .ints .arg .u32 a], .int .i64 e] = some dv ∧ Wk drops dv (As.Of.out [.b n, .l a, .i e])) : Am Tryz.prog 109 As.Of.spec :=
  Aj (A2 hk _ _ _) Tryz.func109 (by kernel_rfl) (by kernel_rfl) h
abbrev _root_.Go.Proofs.S1.As.Of.Kn : Prop := Am Tryz.prog 109 As.Of.spec
def As.Neg.A9 : List (Nat × Entry) := [(143, Af.Neg.spec)]
def As.Neg.E : Env := Bb (A8 As.Neg.A9) (fun _ => false) (fun _ => none) (fun _ => none)
theorem As.Neg.ev (N : Nat) (n : Bool) (a : List Int) (e : Int) : A1 As.Neg.E N Tryz.f170 (Ad Tryz.f170) [.agg [.bool n, .ints .arg .u32 a, .int .i64 e]] =
  bif (Ib n a) then
  some (.agg [.bool (Bc (- wv n a)), .ints .arg .u32 (Al (- wv n a)), .int .i64 e])
  else none :=
  Eq.trans (by kernel_rfl)
  (C1 (Eu (Ib n a)) rfl rfl)
theorem As.Neg.Ac (hk : A0 Tryz.prog As.Neg.A9) (h : ∀ (n : Bool) (a : List Int) (e : Int), As.Neg.pre [.b n, .l a, .i e] = true → ∃ N dv drops, A1 As.Neg.E N Tryz.f170 (Ad Tryz.f170) [.agg [.bool n, .ints .arg .u32 a, .int .i64 e]] = some dv ∧ Wk drops dv (As.Neg.out [.b n, .l a, .i e])) : Am Tryz.prog 170 As.Neg.spec :=
  Aj (A2 hk _ _ _) Tryz.func170 (by kernel_rfl) (by kernel_rfl) h
abbrev _root_.Go.Proofs.S1.As.Neg.Kn : Prop := Am Tryz.prog 170 As.Neg.spec
def As.U9.A9 : List (Nat × Entry) := []
def As.U9.E : Env := Bb (A8 As.U9.A9) (fun _ => false) (fun _ => none) (fun _ => none)
theorem As.U9.ev (N : Nat) (n : Bool) (a : List Int) (e : Int) (m : Bool) (b : List Int) (f : Int) : A1 As.U9.E N Tryz.f111 (Ad Tryz.f111) [.agg [.bool n, .ints .arg .u32 a, .int .i64 e], .agg [.bool m, .ints .arg .u32 b, .int .i64 f]] =
  bif ((List.length a : Int) == (0 : Int)) then
  some (.int .i64 f)
  else bif ((List.length b : Int) == (0 : Int)) then
  some (.int .i64 e)
  else some (.int .i64 (min e f)) := by kernel_rfl
theorem As.U9.Ac (hk : A0 Tryz.prog As.U9.A9) (h : ∀ (n : Bool) (a : List Int) (e : Int) (m : Bool) (b : List Int) (f : Int), As.U9.pre [.b n, .l a, .i e, .b m, .l b, .i f] = true → ∃ N dv drops, A1 As.U9.E N Tryz.f111 (Ad Tryz.f111) [.agg [.bool n, .ints .arg .u32 a, .int .i64 e], .agg [.bool m, .ints .arg .u32 b, .int .i64 f]] = some dv ∧ Wk drops dv (As.U9.out [.b n, .l a, .i e, .b m, .l b, .i f])) : Am Tryz.prog 111 As.U9.spec :=
  Aj (A2 hk _ _ _) Tryz.func111 (by kernel_rfl) (by kernel_rfl) h
abbrev _root_.Go.Proofs.S1.As.U9.Kn : Prop := Am Tryz.prog 111 As.U9.spec
def As.Level.A9 : List (Nat × Entry) := [(178, Af.Bj.spec)]
def As.Level.E : Env := Bb (A8 As.Level.A9) (fun _ => false) (fun _ => none) (fun _ => none)
theorem As.Level.ev (N : Nat) (n : Bool) (a : List Int) (e f : Int) : A1 As.Level.E N Tryz.f113 (Ad Tryz.f113) [.agg [.bool n, .ints .arg .u32 a, .int .i64 e], .int .i64 f] =
  bif ((List.length a : Int) == (0 : Int)) then
  some (.agg [.bool n, .ints .arg .u32 a])
  else bif (Uy n a && okSh (Ab (e - f))) then
  some (.agg [.bool (Bc (Fp (wv n a) (Ab (e - f)))), .ints .arg .u32 (Al (Fp (wv n a) (Ab (e - f))))])
  else none := by kernel_rfl
theorem As.Level.Ac (hk : A0 Tryz.prog As.Level.A9) (h : ∀ (n : Bool) (a : List Int) (e f : Int), As.Level.pre [.b n, .l a, .i e, .i f] = true → ∃ N dv drops, A1 As.Level.E N Tryz.f113 (Ad Tryz.f113) [.agg [.bool n, .ints .arg .u32 a, .int .i64 e], .int .i64 f] = some dv ∧ Wk drops dv (As.Level.out [.b n, .l a, .i e, .i f])) : Am Tryz.prog 113 As.Level.spec :=
  Aj (A2 hk _ _ _) Tryz.func113 (by kernel_rfl) (by kernel_rfl) h
abbrev _root_.Go.Proofs.S1.As.Level.Kn : Prop := Am Tryz.prog 113 As.Level.spec
def As.Add.A9 : List (Nat × Entry) := [(112, Af.Add.spec), (113, As.Level.spec), (111, As.U9.spec), (109, As.Of.spec)]
def As.Add.E : Env := Bb (A8 As.Add.A9) (fun _ => false) (fun _ => none) (fun _ => none)
theorem As.Add.ev (N : Nat) (n : Bool) (a : List Int) (e : Int) (m : Bool) (b : List Int) (f : Int) : A1 As.Add.E N Tryz.f42 (Ad Tryz.f42) [.agg [.bool n, .ints .arg .u32 a, .int .i64 e], .agg [.bool m, .ints .arg .u32 b, .int .i64 f]] =
  bif (Ib n a && Ib m b) then
  bif (Uy n a && okLv (wv n a) e (Ck (wv n a) e (wv m b) f)) then
  bif (Uy m b && okLv (wv m b) f (Ck (wv n a) e (wv m b) f)) then
  bif (Ib (Bc (Fp (wv n a) (e - (Ck (wv n a) e (wv m b) f)))) (Al (Fp (wv n a) (e - (Ck (wv n a) e (wv m b) f)))) && Ib (Bc (Fp (wv m b) (f - (Ck (wv n a) e (wv m b) f)))) (Al (Fp (wv m b) (f - (Ck (wv n a) e (wv m b) f))))) then
  bif (Ib (Bc (wv (Bc (Fp (wv n a) (e - (Ck (wv n a) e (wv m b) f)))) (Al (Fp (wv n a) (e - (Ck (wv n a) e (wv m b) f)))) + wv (Bc (Fp (wv m b) (f - (Ck (wv n a) e (wv m b) f)))) (Al (Fp (wv m b) (f - (Ck (wv n a) e (wv m b) f)))))) (Al (wv (Bc (Fp (wv n a) (e - (Ck (wv n a) e (wv m b) f)))) (Al (Fp (wv n a) (e - (Ck (wv n a) e (wv m b) f)))) + wv (Bc (Fp (wv m b) (f - (Ck (wv n a) e (wv m b) f)))) (Al (Fp (wv m b) (f - (Ck (wv n a) e (wv m b) f)))))) && Xa (Ck (wv n a) e (wv m b) f)) then
  some (.agg [.bool (Bc (mD (wv (Bc (wv (Bc (Fp (wv n a) (e - (Ck (wv n a) e (wv m b) f)))) (Al (Fp (wv n a) (e - (Ck (wv n a) e (wv m b) f)))) + wv (Bc (Fp (wv m b) (f - (Ck (wv n a) e (wv m b) f)))) (Al (Fp (wv m b) (f - (Ck (wv n a) e (wv m b) f)))))) (Al (wv (Bc (Fp (wv n a) (e - (Ck (wv n a) e (wv m b) f)))) (Al (Fp (wv n a) (e - (Ck (wv n a) e (wv m b) f)))) + wv (Bc (Fp (wv m b) (f - (Ck (wv n a) e (wv m b) f)))) (Al (Fp (wv m b) (f - (Ck (wv n a) e (wv m b) f))))))))), .ints .arg .u32 (Al (mD (wv (Bc (wv (Bc (Fp (wv n a) (e - (Ck (wv n a) e (wv m b) f)))) (Al (Fp (wv n a) (e - (Ck (wv n a) e (wv m b) f)))) + wv (Bc (Fp (wv m b) (f - (Ck (wv n a) e (wv m b) f)))) (Al (Fp (wv m b) (f - (Ck (wv n a) e (wv m b) f)))))) (Al (wv (Bc (Fp (wv n a) (e - (Ck (wv n a) e (wv m b) f)))) (Al (Fp (wv n a) (e - (Ck (wv n a) e (wv m b) f)))) + wv (Bc (Fp (wv m b) (f - (Ck (wv n a) e (wv m b) f)))) (Al (Fp (wv m b) (f - (Ck (wv n a) e (wv m b) f))))))))), .int .i64 (eD (wv (Bc (wv (Bc (Fp (wv n a) (e - (Ck (wv n a) e (wv m b) f)))) (Al (Fp (wv n a) (e - (Ck (wv n a) e (wv m b) f)))) + wv (Bc (Fp (wv m b) (f - (Ck (wv n a) e (wv m b) f)))) (Al (Fp (wv m b) (f - (Ck (wv n a) e (wv m b) f)))))) (Al (wv (Bc (Fp (wv n a) (e - (Ck (wv n a) e (wv m b) f)))) (Al (Fp (wv n a) (e - (Ck (wv n a) e (wv m b) f)))) + wv (Bc (Fp (wv m b) (f - (Ck (wv n a) e (wv m b) f)))) (Al (Fp (wv m b) (f - (Ck (wv n a) e (wv m b) f))))))) (Ck (wv n a) e (wv m b) f))])
  else none
  else none
  else none
  else none
  else none :=
  Eq.trans (by kernel_rfl)
  (Fb (C1 (Eu (Uy n a && okLv (wv n a) e (Ck (wv n a) e (wv m b) f))) (C1 (Eu (Uy m b && okLv (wv m b) f (Ck (wv n a) e (wv m b) f))) (C1 (Eu (Ib (Bc (Fp (wv n a) (e - (Ck (wv n a) e (wv m b) f)))) (Al (Fp (wv n a) (e - (Ck (wv n a) e (wv m b) f)))) && Ib (Bc (Fp (wv m b) (f - (Ck (wv n a) e (wv m b) f)))) (Al (Fp (wv m b) (f - (Ck (wv n a) e (wv m b) f)))))) (C1 (Eu (Ib (Bc (wv (Bc (Fp (wv n a) (e - (Ck (wv n a) e (wv m b) f)))) (Al (Fp (wv n a) (e - (Ck (wv n a) e (wv m b) f)))) + wv (Bc (Fp (wv m b) (f - (Ck (wv n a) e (wv m b) f)))) (Al (Fp (wv m b) (f - (Ck (wv n a) e (wv m b) f)))))) (Al (wv (Bc (Fp (wv n a) (e - (Ck (wv n a) e (wv m b) f)))) (Al (Fp (wv n a) (e - (Ck (wv n a) e (wv m b) f)))) + wv (Bc (Fp (wv m b) (f - (Ck (wv n a) e (wv m b) f)))) (Al (Fp (wv m b) (f - (Ck (wv n a) e (wv m b) f)))))) && Xa (Ck (wv n a) e (wv m b) f))) rfl rfl) rfl) rfl) rfl) rfl)
theorem As.Add.Ac (hk : A0 Tryz.prog As.Add.A9) (h : ∀ (n : Bool) (a : List Int) (e : Int) (m : Bool) (b : List Int) (f : Int), As.Add.pre [.b n, .l a, .i e, .b m, .l b, .i f] = true → ∃ N dv drops, A1 As.Add.E N Tryz.f42 (Ad Tryz.f42) [.agg [.bool n, .ints .arg .u32 a, .int .i64 e], .agg [.bool m, .ints .arg .u32 b, .int .i64 f]] = some dv ∧ Wk drops dv (As.Add.out [.b n, .l a, .i e, .b m, .l b, .i f])) : Am Tryz.prog 42 As.Add.spec :=
  Aj (A2 hk _ _ _) Tryz.func42 (by kernel_rfl) (by kernel_rfl) h
abbrev _root_.Go.Proofs.S1.As.Add.Kn : Prop := Am Tryz.prog 42 As.Add.spec
def As.Sub.A9 : List (Nat × Entry) := [(42, As.Add.spec), (170, As.Neg.spec)]
def As.Sub.E : Env := Bb (A8 As.Sub.A9) (fun _ => false) (fun _ => none) (fun _ => none)
theorem As.Sub.ev (N : Nat) (n : Bool) (a : List Int) (e : Int) (m : Bool) (b : List Int) (f : Int) : A1 As.Sub.E N Tryz.f105 (Ad Tryz.f105) [.agg [.bool n, .ints .arg .u32 a, .int .i64 e], .agg [.bool m, .ints .arg .u32 b, .int .i64 f]] =
  bif (Ib m b) then
  bif (((Uy n a && Uy (Bc (- wv m b)) (Al (- wv m b))) && Uz e) && Uz f) then
  some (.agg [.bool (Bc (Pq (wv n a) e (wv (Bc (- wv m b)) (Al (- wv m b))) f)), .ints .arg .u32 (Al (Pq (wv n a) e (wv (Bc (- wv m b)) (Al (- wv m b))) f)), .int .i64 (addE (wv n a) e (wv (Bc (- wv m b)) (Al (- wv m b))) f)])
  else none
  else none :=
  Eq.trans (by kernel_rfl)
  (C1 (Eu (Ib m b)) (C1 (Eu (((Uy n a && Uy (Bc (- wv m b)) (Al (- wv m b))) && Uz e) && Uz f)) rfl rfl) rfl)
theorem As.Sub.Ac (hk : A0 Tryz.prog As.Sub.A9) (h : ∀ (n : Bool) (a : List Int) (e : Int) (m : Bool) (b : List Int) (f : Int), As.Sub.pre [.b n, .l a, .i e, .b m, .l b, .i f] = true → ∃ N dv drops, A1 As.Sub.E N Tryz.f105 (Ad Tryz.f105) [.agg [.bool n, .ints .arg .u32 a, .int .i64 e], .agg [.bool m, .ints .arg .u32 b, .int .i64 f]] = some dv ∧ Wk drops dv (As.Sub.out [.b n, .l a, .i e, .b m, .l b, .i f])) : Am Tryz.prog 105 As.Sub.spec :=
  Aj (A2 hk _ _ _) Tryz.func105 (by kernel_rfl) (by kernel_rfl) h
abbrev _root_.Go.Proofs.S1.As.Sub.Kn : Prop := Am Tryz.prog 105 As.Sub.spec
def As.U7.A9 : List (Nat × Entry) := [(223, Af.Pv.spec)]
def As.U7.E : Env := Bb (A8 As.U7.A9) (fun _ => false) (fun _ => none) (fun _ => none)
theorem As.U7.ev (N : Nat) (n : Bool) (a : List Int) (e : Int) : A1 As.U7.E N Tryz.f180 (Ad Tryz.f180) [.agg [.bool n, .ints .arg .u32 a, .int .i64 e]] =
  bif ((List.length a : Int) == (0 : Int)) then
  some (.int .i64 0)
  else bif (Ib n a) then
  some (.int .i64 (Ab ((Xd (wv n a)) + e)))
  else none :=
  Eq.trans (by kernel_rfl)
  (Fb rfl (C1 (Eu (Ib n a)) rfl rfl))
theorem As.U7.Ac (hk : A0 Tryz.prog As.U7.A9) (h : ∀ (n : Bool) (a : List Int) (e : Int), As.U7.pre [.b n, .l a, .i e] = true → ∃ N dv drops, A1 As.U7.E N Tryz.f180 (Ad Tryz.f180) [.agg [.bool n, .ints .arg .u32 a, .int .i64 e]] = some dv ∧ Wk drops dv (As.U7.out [.b n, .l a, .i e])) : Am Tryz.prog 180 As.U7.spec :=
  Aj (A2 hk _ _ _) Tryz.func180 (by kernel_rfl) (by kernel_rfl) h
abbrev _root_.Go.Proofs.S1.As.U7.Kn : Prop := Am Tryz.prog 180 As.U7.spec
def As.Sign.A9 : List (Nat × Entry) := []
def As.Sign.E : Env := Bb (A8 As.Sign.A9) (fun _ => false) (fun _ => none) (fun _ => none)
theorem As.Sign.ev (N : Nat) (n : Bool) (a : List Int) (e : Int) : A1 As.Sign.E N Tryz.f179 (Ad Tryz.f179) [.agg [.bool n, .ints .arg .u32 a, .int .i64 e]] =
  bif n then
  some (.int .i64 (-1 : Int))
  else some (.int .i64 (min (List.length a : Int) (1 : Int))) := by kernel_rfl
theorem As.Sign.Ac (hk : A0 Tryz.prog As.Sign.A9) (h : ∀ (n : Bool) (a : List Int) (e : Int), As.Sign.pre [.b n, .l a, .i e] = true → ∃ N dv drops, A1 As.Sign.E N Tryz.f179 (Ad Tryz.f179) [.agg [.bool n, .ints .arg .u32 a, .int .i64 e]] = some dv ∧ Wk drops dv (As.Sign.out [.b n, .l a, .i e])) : Am Tryz.prog 179 As.Sign.spec :=
  Aj (A2 hk _ _ _) Tryz.func179 (by kernel_rfl) (by kernel_rfl) h
abbrev _root_.Go.Proofs.S1.As.Sign.Kn : Prop := Am Tryz.prog 179 As.Sign.spec
def As.Compare.A9 : List (Nat × Entry) := [(179, As.Sign.spec), (105, As.Sub.spec), (180, As.U7.spec)]
def As.Compare.E : Env := Bb (A8 As.Compare.A9) (fun _ => false) (fun _ => none) (fun _ => none)
theorem As.Compare.ev (N : Nat) (n : Bool) (a : List Int) (e : Int) (m : Bool) (b : List Int) (f : Int) : A1 As.Compare.E N Tryz.f116 (Ad Tryz.f116) [.agg [.bool n, .ints .arg .u32 a, .int .i64 e], .agg [.bool m, .ints .arg .u32 b, .int .i64 f]] =
  bif (Ib n a) then
  bif (Ib m b) then
  bif ((Lt (wv n a)) != (Lt (wv m b))) then
  bif (Ib n a) then
  bif (Ib m b) then
  some (.int .i64 (min (1 : Int) (max (-1 : Int) (Ab ((Lt (wv n a)) - (Lt (wv m b)))))))
  else none
  else none
  else bif (Ib n a && Uz e) then
  bif (Ib m b && Uz f) then
  bif ((Hs (wv n a) e) != (Hs (wv m b) f)) then
  bif (Ib n a && Uz e) then
  bif (Ib m b && Uz f) then
  bif (Ib n a) then
  bif ((A5 (Hs (wv m b) f) (Hs (wv n a) e)) == (A5 (0 : Int) (Lt (wv n a)))) then
  some (.int .i64 1)
  else some (.int .i64 (-1 : Int))
  else none
  else none
  else none
  else bif (((Uy n a && Uy m b) && Uz e) && Uz f) then
  bif (Ib (Bc (Pq (wv n a) e (- wv m b) f)) (Al (Pq (wv n a) e (- wv m b) f))) then
  some (.int .i64 (Lt (wv (Bc (Pq (wv n a) e (- wv m b) f)) (Al (Pq (wv n a) e (- wv m b) f)))))
  else none
  else none
  else none
  else none
  else none
  else none :=
  Eq.trans (by kernel_rfl)
  (C1 (Eu (Ib n a)) (C1 (Eu (Ib m b)) (Fb (C1 (Eu (Ib n a)) (C1 (Eu (Ib m b)) rfl rfl) rfl) (C1 (Eu (Ib n a && Uz e)) (C1 (Eu (Ib m b && Uz f)) (Fb (C1 (Eu (Ib n a && Uz e)) (C1 (Eu (Ib m b && Uz f)) (C1 (Eu (Ib n a)) rfl rfl) rfl) rfl) rfl) rfl) rfl)) rfl) rfl)
theorem As.Compare.Ac (hk : A0 Tryz.prog As.Compare.A9) (h : ∀ (n : Bool) (a : List Int) (e : Int) (m : Bool) (b : List Int) (f : Int), As.Compare.pre [.b n, .l a, .i e, .b m, .l b, .i f] = true → ∃ N dv drops, A1 As.Compare.E N Tryz.f116 (Ad Tryz.f116) [.agg [.bool n, .ints .arg .u32 a, .int .i64 e], .agg [.bool m, .ints .arg .u32 b, .int .i64 f]] = some dv ∧ Wk drops dv (As.Compare.out [.b n, .l a, .i e, .b m, .l b, .i f])) : Am Tryz.prog 116 As.Compare.spec :=
  Aj (A2 hk _ _ _) Tryz.func116 (by kernel_rfl) (by kernel_rfl) h
abbrev _root_.Go.Proofs.S1.As.Compare.Kn : Prop := Am Tryz.prog 116 As.Compare.spec
end EqRefC
end Go.Proofs.S1
namespace Go.Proofs.S1
open Go Go.Den Go.Rnd Go.Proofs
open EqRefC
def dout (v e : Int) : Option DV := some (.agg [.bool (Bc v), .ints .arg .u32 (Al v), .int .i64 e])
theorem wdy {drops : List Nat} {b : Bool} {l : List Int} {e : Int} : Wk drops (.agg [.bool b, .ints .arg .u32 l, .int .i64 e]) (.agg [.bool b, .ints .arg .u32 l, .int .i64 e]) := Wk.J7 (.cons .bool (.cons .argL (.cons .int .nil)))
theorem head_val (v : Int) : (Al v).getD 0 0 = ((v.natAbs % 4294967296 : Nat) : Int) := by
  have hg := Qe (Fw v) 0
  rw [Db, Nat.mul_zero, Nat.pow_zero, Nat.div_one] at hg
  exact hg
theorem shR_len {v : Int} {k : Nat} (h : Cz v.natAbs < 268435456) : Cz (Jo v k).natAbs < 268435456 := by
  rw [Ko]
  exact Nat.lt_of_le_of_lt (K9 (Nat.div_le_self _ _)) h
theorem shR_ne {v : Int} {k : Nat} (h0 : v ≠ 0) (h : v.natAbs % 2 ^ k = 0) : Jo v k ≠ 0 ∧ Q5 (Jo v k).natAbs + k = Q5 v.natAbs := by
  have hv := Nat.div_add_mod v.natAbs (2 ^ k)
  rw [h, Nat.add_zero, Nat.mul_comm] at hv
  have hq : v.natAbs / 2 ^ k ≠ 0 := by
    intro e; rw [e] at hv; omega
  have ht := Y1 hq k
  rw [hv] at ht
  have ha := Ko v k
  refine ⟨by omega, ?_⟩
  rw [ha]
  omega
theorem of_loop1 (N : Nat) : ∀ (F : Nat) (v e : Int), v ≠ 0 → Q5 v.natAbs < F → Cz v.natAbs < 268435456 → -4000000000000 ≤ e → e + Q5 v.natAbs ≤ 400000000000000 →
    As.Of.L1 N F e (Bc v) (Al v) = dout (mD v) (eD v e) := by
  intro F
  induction F with
  | zero => intro v e _ h; omega
  | succ F ih =>
    intro v e h0 hF hv h1 h2
    rw [As.Of.Ch, H4 hv, cond_true, Gt]
    by_cases ho : v % 2 = 1
    · have : oddB v = true := decide_eq_true ho
      rw [this, Bool.not_true, cond_false, mD_odd ho, eD_odd ho]
      rfl
    · have : oddB v = false := decide_eq_false ho
      have hm : v.natAbs % 2 ^ 1 = 0 := by rw [Nat.pow_one]; omega
      obtain ⟨n1, n2⟩ := shR_ne h0 hm
      rw [this, Bool.not_false, cond_true, cond_true, Ap (by omega) (by omega), ih (Jo v 1) (e + 1) n1 (by omega) (shR_len hv) (by omega) (by omega), mD_shR hm]
      have := eD_shR (e := e) hm h0
      rw [← this]
      rfl
theorem of_loop0 (N : Nat) : ∀ (F : Nat) (v e : Int), v ≠ 0 → Q5 v.natAbs < F → Q5 v.natAbs < N → Cz v.natAbs < 268435456 → -4000000000000 ≤ e → e + Q5 v.natAbs ≤ 400000000000000 →
    As.Of.L0 N F e (Bc v) (Al v) = dout (mD v) (eD v e) := by
  intro F
  induction F with
  | zero => intro v e _ h; omega
  | succ F ih =>
    intro v e h0 hF hN hv h1 h2
    have hl := Hu (n := v.natAbs) (by omega)
    rw [As.Of.Az, B9, decide_eq_true (by omega), cond_true, head_val]
    by_cases hz : v.natAbs % 4294967296 = 0
    · have e0 : (((v.natAbs % 4294967296 : Nat) : Int) == 0) = true := by rw [hz]; rfl
      have o3 : Gf ((Al v).drop 1) = true := Mg (by rw [List.length_drop, B9]; omega) (inL_tail (Fw v))
      have hm : v.natAbs % 2 ^ 32 = 0 := by rw [two32]; exact hz
      obtain ⟨n1, n2⟩ := shR_ne h0 hm
      rw [e0, cond_true, decide_eq_true (by omega), cond_true, o3, cond_true, wv_tail, Ap (by omega) (by omega), ih (Jo v 32) (e + 32) n1 (by omega) (by omega) (shR_len hv) (by omega) (by omega), mD_shR hm]
      have := eD_shR (e := e) hm h0
      rw [← this]
      rfl
    · have e0 : (((v.natAbs % 4294967296 : Nat) : Int) == 0) = false := by simp only [beq_eq_false_iff_ne, ne_eq]; omega
      rw [e0, cond_false]
      exact of_loop1 N N v e h0 hN hv h1 h2
theorem tz_small {v : Int} (h0 : v ≠ 0) (h : Cz v.natAbs < 268435456) : Q5 v.natAbs < 8589934592 := by
  have h1 := tz_lt (n := v.natAbs) (by omega)
  have h2 := X6 (n := v.natAbs)
  omega
theorem As.Of.known : As.Of.Kn := As.Of.Ac (.cons Af.Gs.known (.cons Af.Made.known (.cons Af.U8.known .nil))) fun n a e hp => by
  obtain ⟨h1, h2⟩ := Ag.1 hp
  obtain ⟨v, rfl, rfl, hv⟩ := Hz h1
  have h2 := Ar.1 h2
  by_cases h0 : v = 0
  · subst h0
    refine ⟨0, .agg [.bool false, .nil, .int .i64 (0 : Int)], [], ?_, ?_⟩
    · rw [As.Of.ev]; rfl
    · show Wk [] _ (.agg [.bool (Bc (mD (wv (Bc 0) (Al 0)))), .ints .arg .u32 (Al (mD (wv (Bc 0) (Al 0)))), .int .i64 (eD (wv (Bc 0) (Al 0)) e)])
      rw [Gt, U2.2 rfl]
      exact Wk.J7 (.cons .bool (.cons (.nil _ _) (.cons .int .nil)))
  · refine ⟨Q5 v.natAbs + 1, As.Of.out [.b (Bc v), .l (Al v), .i e], [], ?_, wdy⟩
    have ht := tz_small h0 hv
    have hl := Hu (n := v.natAbs) (by omega)
    have e0 : (((Al v).length : Int) == 0) = false := by rw [B9]; simp only [beq_eq_false_iff_ne, ne_eq]; omega
    show _ = dout (mD (wv (Bc v) (Al v))) (eD (wv (Bc v) (Al v)) e)
    rw [As.Of.ev, e0, cond_false, Gt]
    exact of_loop0 _ _ v e h0 (by omega) (by omega) hv (by omega) (by omega)
theorem As.Neg.known : As.Neg.Kn := As.Neg.Ac (.cons Af.Neg.known .nil) fun n a e hp => by
  refine ⟨0, As.Neg.out [.b n, .l a, .i e], [], ?_, wdy⟩
  have hp : Ib n a = true := hp
  rw [As.Neg.ev, hp, cond_true]
  rfl
theorem Sq (v : Int) : (((Al v).length : Int) == 0) = decide (v = 0) := by
  rw [B9, Bool.eq_iff_iff]
  simp only [beq_iff_eq, decide_eq_true_eq]
  constructor
  · intro h
    rcases Int.lt_trichotomy v 0 with k | k | k
    · have := Hu (n := v.natAbs) (by omega); omega
    · exact k
    · have := Hu (n := v.natAbs) (by omega); omega
  · intro h; rw [h]; rfl
theorem As.U9.known : As.U9.Kn := As.U9.Ac .nil fun n a e m b f hp => by
  obtain ⟨h1, h2⟩ := Ag.1 hp
  obtain ⟨v, rfl, rfl, hv⟩ := Hz h1
  obtain ⟨w, rfl, rfl, hw⟩ := Hz h2
  refine ⟨0, As.U9.out [.b (Bc v), .l (Al v), .i e, .b (Bc w), .l (Al w), .i f], [], ?_, .int⟩
  show _ = some (DV.int .i64 (Ck (wv (Bc v) (Al v)) e (wv (Bc w) (Al w)) f))
  rw [As.U9.ev, Gt, Gt, Sq, Sq]
  unfold Ck
  by_cases h : v = 0
  · rw [decide_eq_true h, cond_true, if_pos h]
  · rw [decide_eq_false h, cond_false, if_neg h]
    by_cases h' : w = 0
    · rw [decide_eq_true h', cond_true, if_pos h']
    · rw [decide_eq_false h', cond_false, if_neg h']
theorem Vi (k : Int) : Fp 0 k = 0 := by
  unfold Fp
  split
  · exact Int.zero_mul _
  · exact P3 _
theorem As.Level.known : As.Level.Kn := As.Level.Ac (.cons Af.Bj.known .nil) fun n a e f hp => by
  obtain ⟨h1, h2⟩ := Ag.1 hp
  obtain ⟨v, rfl, rfl, hv⟩ := Nw h1
  refine ⟨0, As.Level.out [.b (Bc v), .l (Al v), .i e, .i f], [], ?_, wagg⟩
  show _ = wout (Fp (wv (Bc v) (Al v)) (e - f))
  unfold okLv at h2
  rw [Gt] at h2
  obtain ⟨h3, h4⟩ := Ag.1 h2
  have h3 := Ar.1 h3
  have h4 := Ar.1 h4
  rw [As.Level.ev, Gt, Sq]
  by_cases h : v = 0
  · rw [decide_eq_true h, cond_true, h, Vi]; rfl
  · have o : okSh (Ab (e - f)) = true := by rw [Ap (by omega) (by omega)]; exact Ar.2 (by omega)
    rw [decide_eq_false h, cond_false, h1, o, Bool.and_self, cond_true, Ap (by omega) (by omega)]
    rfl
theorem lenN_shl (n k : Nat) : Cz (n * 2 ^ k) ≤ Cz n + k := by
  refine L7 ?_
  have h1 := Ky n
  have h2 : n * 2 ^ k < 2 ^ (32 * Cz n) * 2 ^ k := (Nat.mul_lt_mul_right (B1 k)).2 h1
  rw [← Nat.pow_add] at h2
  exact Nat.lt_of_lt_of_le h2 (Nat.pow_le_pow_right (by decide) (by omega))
theorem lenN_shW (v k : Int) : Cz (Fp v k).natAbs ≤ Cz v.natAbs + k.toNat := by
  unfold Fp
  by_cases h : 0 ≤ k
  · rw [if_pos h, Int.natAbs_mul, Int.natAbs_natCast]
    exact lenN_shl _ _
  · rw [if_neg h, Ko]
    exact Nat.le_trans (K9 (Nat.div_le_self _ _)) (Nat.le_add_right _ _)
theorem lenN_sum (v w : Int) : Cz (v + w).natAbs ≤ max (Cz v.natAbs) (Cz w.natAbs) + 1 := by
  refine L7 ?_
  have h1 := Ky v.natAbs
  have h2 := Ky w.natAbs
  have h3 : 2 ^ (32 * Cz v.natAbs) ≤ 2 ^ (32 * max (Cz v.natAbs) (Cz w.natAbs)) := Nat.pow_le_pow_right (by decide) (by omega)
  have h4 : 2 ^ (32 * Cz w.natAbs) ≤ 2 ^ (32 * max (Cz v.natAbs) (Cz w.natAbs)) := Nat.pow_le_pow_right (by decide) (by omega)
  rw [M5]
  omega
theorem V7 {v e w f : Int} (he : -400000 ≤ e ∧ e ≤ 400000) (hf : -400000 ≤ f ∧ f ≤ 400000) : -400000 ≤ Ck v e w f ∧ Ck v e w f ≤ 400000 := by
  unfold Ck
  split
  · exact hf
  · split
    · exact he
    · omega
theorem Uv {v e l : Int} (hv : Cz v.natAbs < 134217728) (h : e - l ≤ 800000) : Cz (Fp v (e - l)).natAbs < 140000000 := by
  have := lenN_shW v (e - l)
  omega
theorem As.Add.known : As.Add.Kn := As.Add.Ac (.cons Af.Add.known (.cons As.Level.known (.cons As.U9.known (.cons As.Of.known .nil)))) fun n a e m b f hp => by
  obtain ⟨h1, hf⟩ := Ag.1 hp
  obtain ⟨h2, he⟩ := Ag.1 h1
  obtain ⟨h3, h4⟩ := Ag.1 h2
  obtain ⟨v, rfl, rfl, hv⟩ := Nw h3
  obtain ⟨w, rfl, rfl, hw⟩ := Nw h4
  have he := Ar.1 he
  have hf := Ar.1 hf
  refine ⟨0, As.Add.out [.b (Bc v), .l (Al v), .i e, .b (Bc w), .l (Al w), .i f], [], ?_, wdy⟩
  show _ = dout (Pq (wv (Bc v) (Al v)) e (wv (Bc w) (Al w)) f) (addE (wv (Bc v) (Al v)) e (wv (Bc w) (Al w)) f)
  have hlo := V7 (v := v) (w := w) he hf
  have l1 := Uv (l := Ck v e w f) hv (show e - Ck v e w f ≤ 800000 by omega)
  have l2 := Uv (l := Ck v e w f) hw (show f - Ck v e w f ≤ 800000 by omega)
  have l3 := lenN_sum (Fp v (e - Ck v e w f)) (Fp w (f - Ck v e w f))
  have o1 : okLv v e (Ck v e w f) = true := Ag.2 ⟨Ar.2 (by omega), Ar.2 (by omega)⟩
  have o2 : okLv w f (Ck v e w f) = true := Ag.2 ⟨Ar.2 (by omega), Ar.2 (by omega)⟩
  have o3 : Xa (Ck v e w f) = true := Ar.2 (by omega)
  rw [As.Add.ev]
  simp only [Gt]
  rw [H4 (v := v) (by omega), H4 (v := w) (by omega), h3, h4, o1, o2, H4 (v := Fp v (e - Ck v e w f)) (by omega), H4 (v := Fp w (f - Ck v e w f)) (by omega), H4 (v := Fp v (e - Ck v e w f) + Fp w (f - Ck v e w f)) (by omega), o3]
  simp only [Bool.and_self, cond_true]
  rfl
theorem As.Sub.known : As.Sub.Kn := As.Sub.Ac (.cons As.Add.known (.cons As.Neg.known .nil)) fun n a e m b f hp => by
  obtain ⟨h1, hf⟩ := Ag.1 hp
  obtain ⟨h2, he⟩ := Ag.1 h1
  obtain ⟨h3, h4⟩ := Ag.1 h2
  obtain ⟨w, rfl, rfl, hw⟩ := Nw h4
  refine ⟨0, As.Sub.out [.b n, .l a, .i e, .b (Bc w), .l (Al w), .i f], [], ?_, wdy⟩
  show _ = dout (Pq (wv n a) e (- wv (Bc w) (Al w)) f) (addE (wv n a) e (- wv (Bc w) (Al w)) f)
  rw [As.Sub.ev]
  simp only [Gt]
  rw [H4 (v := w) (by omega), h3, okV_of (v := -w) (by rw [Int.natAbs_neg]; exact hw), he, hf]
  rfl
theorem lenI_bounds {v : Int} (h : Cz v.natAbs < 268435456) : 0 ≤ Xd v ∧ Xd v ≤ 8589934593 := by
  have h2 := X6 (n := v.natAbs)
  unfold Xd
  split
  · omega
  · constructor <;> omega
theorem As.U7.known : As.U7.Kn := As.U7.Ac (.cons Af.Pv.known .nil) fun n a e hp => by
  obtain ⟨h1, he⟩ := Ag.1 hp
  obtain ⟨v, rfl, rfl, hv⟩ := Hz h1
  have he := Ar.1 he
  refine ⟨0, As.U7.out [.b (Bc v), .l (Al v), .i e], [], ?_, .int⟩
  show _ = some (DV.int .i64 (Hs (wv (Bc v) (Al v)) e))
  have hb := lenI_bounds hv
  rw [As.U7.ev, Gt, Sq, h1]
  unfold Hs
  by_cases h : v = 0
  · rw [decide_eq_true h, cond_true, if_pos h]
  · rw [decide_eq_false h, cond_false, cond_true, if_neg h, Ap (by omega) (by omega)]
theorem As.Sign.known : As.Sign.Kn := As.Sign.Ac .nil fun n a e hp => by
  obtain ⟨v, rfl, rfl, hv⟩ := Hz hp
  refine ⟨0, As.Sign.out [.b (Bc v), .l (Al v), .i e], [], ?_, .int⟩
  show _ = some (DV.int .i64 (Lt (wv (Bc v) (Al v))))
  rw [As.Sign.ev, Gt, B9]
  unfold Lt Bc
  by_cases h : v < 0
  · rw [decide_eq_true h, cond_true, if_pos h]
  · rw [decide_eq_false h, cond_false, if_neg h]
    by_cases h' : v = 0
    · rw [if_pos h', h']; rfl
    · have := Hu (n := v.natAbs) (by omega)
      rw [if_neg h']
      congr 2
      omega
end Go.Proofs.S1
namespace Go.Proofs.S1
open Go Go.Den Go.Rnd Go.Proofs
open EqRefC
theorem low_up {v e w f : Int} : (v ≠ 0 → 0 ≤ e - Ck v e w f) ∧ (w ≠ 0 → 0 ≤ f - Ck v e w f) := by
  unfold Ck
  constructor
  · intro h
    rw [if_neg h]
    split <;> omega
  · intro h
    split
    · omega
    · omega
theorem Vj {v k : Int} (h : v ≠ 0 → 0 ≤ k) : ∃ j : Nat, Fp v k = v * ((2 ^ j : Nat) : Int) ∧ (v ≠ 0 → (j : Int) = k) := by
  by_cases h0 : v = 0
  · exact ⟨0, by rw [h0, Vi, Int.zero_mul], fun k => absurd h0 k⟩
  · have hk := h h0
    refine ⟨k.toNat, ?_, fun _ => by omega⟩
    unfold Fp
    rw [if_pos hk]
theorem V0 (v : Int) (j : Nat) : (v * ((2 ^ j : Nat) : Int) < 0 ↔ v < 0) ∧ (v * ((2 ^ j : Nat) : Int) = 0 ↔ v = 0) := by
  have hp := B1 j
  constructor
  · constructor
    · intro h
      rcases Int.lt_or_le v 0 with h1 | h1
      · exact h1
      · have := Int.mul_nonneg h1 (Int.natCast_nonneg (2 ^ j)); omega
    · intro h
      exact Int.mul_neg_of_neg_of_pos h (by omega)
  · constructor
    · intro h
      rcases Int.mul_eq_zero.1 h with h | h
      · exact h
      · omega
    · intro h; rw [h, Int.zero_mul]
theorem Za (v : Int) (j : Nat) : Lt (v * ((2 ^ j : Nat) : Int)) = Lt v := by
  obtain ⟨h1, h2⟩ := V0 v j
  unfold Lt
  simp only [h1, h2]
theorem sgI_mD (v : Int) : Lt (mD v) = Lt v := by
  have := Za (mD v) (Q5 v.natAbs)
  rw [← Zr] at this
  exact this.symm
theorem cmp_sub (x y : Int) : Lt (x + -y) = Uq x y := by
  unfold Lt Uq
  by_cases h : x < y
  · rw [if_pos (by omega), if_pos h]
  · rw [if_neg (by omega), if_neg h]
    by_cases h' : y < x
    · rw [if_neg (by omega), if_pos h']
    · rw [if_pos (by omega), if_neg h']
theorem low_neg (v e w f : Int) : Ck v e (-w) f = Ck v e w f := by
  unfold Ck
  have : (-w = 0) = (w = 0) := propext ⟨fun h => by omega, fun h => by omega⟩
  simp only [this]
theorem cmp_sign {x y : Int} (h : Lt x ≠ Lt y) : Uq x y = min 1 (max (-1) (Lt x - Lt y)) := by
  unfold Lt at h ⊢
  unfold Uq
  rcases Int.lt_trichotomy x 0 with h1 | h1 | h1 <;> rcases Int.lt_trichotomy y 0 with h2 | h2 | h2
  all_goals
    first
    | (exfalso; apply h; simp [show x < 0 by omega, show y < 0 by omega]; done)
    | (exfalso; apply h; subst h1; subst h2; rfl)
    | (exfalso; apply h; rw [if_neg (by omega), if_neg (by omega), if_neg (by omega), if_neg (by omega)]; done)
    | skip
  · rw [if_pos (by omega), if_pos (by omega), if_neg (by omega), if_pos (by omega)]; decide
  · rw [if_pos (by omega), if_pos (by omega), if_neg (by omega), if_neg (by omega)]; decide
  · rw [if_neg (by omega), if_pos (by omega), if_neg (by omega), if_pos (by omega), if_pos (by omega)]; decide
  · rw [if_pos (by omega), if_neg (by omega), if_pos (by omega), if_neg (by omega), if_neg (by omega)]; decide
  · rw [if_neg (by omega), if_pos (by omega), if_neg (by omega), if_neg (by omega), if_pos (by omega)]; decide
  · rw [if_neg (by omega), if_pos (by omega), if_neg (by omega), if_neg (by omega), if_neg (by omega), if_pos (by omega)]; decide
theorem V9 {a b : Nat} (ha : a ≠ 0) (h : a.log2 < b.log2) : a < b := by
  rcases Nat.lt_or_ge a b with k | k
  · exact k
  · have hb : b ≠ 0 := by
      intro e; rw [e] at h
      exact absurd h (by rw [show (0 : Nat).log2 = 0 by decide]; omega)
    have := (Nat.le_log2 ha).2 (Nat.le_trans (Nat.log2_self_le hb) k)
    omega
theorem cmp_top {v e w f : Int} (hs : Lt v = Lt w) (ht : Hs v e ≠ Hs w f) :
    Ur v e w f = if (decide (Hs w f < Hs v e) == decide (0 < Lt v)) = true then 1 else -1 := by
  obtain ⟨u1, u2⟩ := low_up (v := v) (e := e) (w := w) (f := f)
  obtain ⟨j, hx, hj⟩ := Vj u1
  obtain ⟨k, hy, hk⟩ := Vj u2
  unfold Ur
  rw [hx, hy]
  have z : v = 0 ↔ w = 0 := by
    unfold Lt at hs
    constructor
    · intro h; subst h
      revert hs
      simp
      split <;> simp_all
    · intro h; subst h
      revert hs
      simp
      split <;> simp_all
  by_cases v0 : v = 0
  · exfalso
    apply ht
    unfold Hs
    rw [if_pos v0, if_pos (z.1 v0)]
  · have w0 : w ≠ 0 := fun h => v0 (z.2 h)
    have hj := hj v0
    have hk := hk w0
    have nv : v.natAbs ≠ 0 := by omega
    have nw : w.natAbs ≠ 0 := by omega
    have l1 := Li v.natAbs j nv
    have l2 := Li w.natAbs k nw
    have ax : (v * ((2 ^ j : Nat) : Int)).natAbs = v.natAbs * 2 ^ j := by rw [Int.natAbs_mul, Int.natAbs_natCast]
    have ay : (w * ((2 ^ k : Nat) : Int)).natAbs = w.natAbs * 2 ^ k := by rw [Int.natAbs_mul, Int.natAbs_natCast]
    have sx := (V0 v j).1
    have sy := (V0 w k).1
    have zx := mul_ne v0 j
    have zy := mul_ne w0 k
    have tv : Hs v e = (v.natAbs.log2 : Int) + 1 + e := by unfold Hs Xd; rw [if_neg v0, if_neg v0]
    have tw : Hs w f = (w.natAbs.log2 : Int) + 1 + f := by unfold Hs Xd; rw [if_neg w0, if_neg w0]
    have big : Hs w f < Hs v e → w.natAbs * 2 ^ k < v.natAbs * 2 ^ j := fun h => V9 (Ha nw) (by omega)
    have lit : Hs v e < Hs w f → v.natAbs * 2 ^ j < w.natAbs * 2 ^ k := fun h => V9 (Ha nv) (by omega)
    generalize v * ((2 ^ j : Nat) : Int) = x at *
    generalize w * ((2 ^ k : Nat) : Int) = y at *
    by_cases hv : v < 0
    · have sv : Lt v = -1 := by unfold Lt; rw [if_pos hv]
      have hw : w < 0 := by
        rw [sv] at hs
        unfold Lt at hs
        rcases Int.lt_or_le w 0 with q | q
        · exact q
        · rw [if_neg (by omega), if_neg w0] at hs; omega
      rw [sv]
      unfold Uq
      by_cases h : Hs w f < Hs v e
      · have := big h
        rw [decide_eq_true h, if_pos (by omega)]; rfl
      · have := lit (by omega)
        rw [decide_eq_false h, if_neg (by omega), if_pos (by omega)]; rfl
    · have sv : Lt v = 1 := by unfold Lt; rw [if_neg hv, if_neg v0]
      have hw : ¬ w < 0 := by
        intro q
        rw [sv] at hs
        unfold Lt at hs
        rw [if_pos q] at hs; omega
      rw [sv]
      unfold Uq
      by_cases h : Hs w f < Hs v e
      · have := big h
        rw [decide_eq_true h, if_neg (by omega), if_pos (by omega)]; rfl
      · have := lit (by omega)
        rw [decide_eq_false h, if_pos (by omega)]; rfl
theorem sub_cmp (v e w f : Int) : Lt (Pq v e (-w) f) = Ur v e w f := by
  obtain ⟨u1, u2⟩ := low_up (v := v) (e := e) (w := w) (f := f)
  obtain ⟨k, hy, hk⟩ := Vj u2
  have hy' : Fp (-w) (f - Ck v e w f) = -(Fp w (f - Ck v e w f)) := by
    by_cases w0 : w = 0
    · rw [w0]; show Fp 0 _ = _; rw [Vi]; rfl
    · unfold Fp
      rw [if_pos (u2 w0), if_pos (u2 w0), Int.neg_mul]
  unfold Pq addS Ur
  rw [sgI_mD, low_neg, hy', cmp_sub]
theorem cmp_signs {v e w f : Int} (h : Lt v ≠ Lt w) : Ur v e w f = min 1 (max (-1) (Lt v - Lt w)) := by
  obtain ⟨u1, u2⟩ := low_up (v := v) (e := e) (w := w) (f := f)
  obtain ⟨j, hx, hj⟩ := Vj u1
  obtain ⟨k, hy, hk⟩ := Vj u2
  have e1 := Za v j
  have e2 := Za w k
  unfold Ur
  rw [hx, hy, ← e1, ← e2]
  exact cmp_sign (by rw [e1, e2]; exact h)
theorem Vk (v : Int) : -1 ≤ Lt v ∧ Lt v ≤ 1 := by unfold Lt; split <;> (try split) <;> omega
theorem addM_len {v e w f : Int} (hv : Cz v.natAbs < 134217728) (hw : Cz w.natAbs < 134217728) (he : -400000 ≤ e ∧ e ≤ 400000) (hf : -400000 ≤ f ∧ f ≤ 400000) : Cz (Pq v e w f).natAbs < 140000001 := by
  have hlo := V7 (v := v) (w := w) he hf
  have l1 := Uv (l := Ck v e w f) hv (show e - Ck v e w f ≤ 800000 by omega)
  have l2 := Uv (l := Ck v e w f) hw (show f - Ck v e w f ≤ 800000 by omega)
  have l3 := lenN_sum (Fp v (e - Ck v e w f)) (Fp w (f - Ck v e w f))
  have l4 := K9 (X5 (addS v e w f))
  unfold Pq
  unfold addS at l4 ⊢
  omega
theorem As.Compare.known : As.Compare.Kn := As.Compare.Ac (.cons As.Sign.known (.cons As.Sub.known (.cons As.U7.known .nil))) fun n a e m b f hp => by
  obtain ⟨h1, hf⟩ := Ag.1 hp
  obtain ⟨h2, he⟩ := Ag.1 h1
  obtain ⟨h3, h4⟩ := Ag.1 h2
  obtain ⟨v, rfl, rfl, hv⟩ := Nw h3
  obtain ⟨w, rfl, rfl, hw⟩ := Nw h4
  refine ⟨0, As.Compare.out [.b (Bc v), .l (Al v), .i e, .b (Bc w), .l (Al w), .i f], [], ?_, .int⟩
  show _ = some (DV.int .i64 (Ur (wv (Bc v) (Al v)) e (wv (Bc w) (Al w)) f))
  have bv := Vk v
  have bw := Vk w
  have hm := addM_len (v := v) (w := -w) hv (by rw [Int.natAbs_neg]; exact hw) (Ar.1 he) (Ar.1 hf)
  rw [As.Compare.ev]
  simp only [Gt]
  rw [H4 (v := v) (by omega), H4 (v := w) (by omega), H4 (v := Pq v e (-w) f) (by omega), h3, h4, he, hf, Aw, Aw]
  simp only [Bool.and_self, cond_true]
  by_cases hs : Lt v = Lt w
  · have e0 : (Lt v != Lt w) = false := by simp [hs]
    rw [e0, cond_false]
    by_cases ht : Hs v e = Hs w f
    · have e1 : (Hs v e != Hs w f) = false := by simp [ht]
      rw [e1, cond_false, sub_cmp]
    · have e1 : (Hs v e != Hs w f) = true := by simp [ht]
      rw [e1, cond_true, cmp_top hs ht]
      cases (decide (Hs w f < Hs v e) == decide (0 < Lt v)) <;> rfl
  · have e0 : (Lt v != Lt w) = true := by simp [hs]
    rw [e0, cond_true, cmp_signs hs, Ap (by omega) (by omega)]
end Go.Proofs.S1
namespace Go.Proofs.S1
open Go Go.Den Go.Rnd Go.Proofs
set_option linter.unusedVariables false
set_option maxRecDepth 100000
namespace EqRefE
def A3.Value.A9 : List (Nat × Entry) := [(143, Af.Neg.spec), (115, Af.Of.spec), (109, As.Of.spec), (141, A3.Ka.spec), (142, A3.Neg.spec), (140, A3.Power.spec)]
def A3.Value.E : Env := Bb (A8 A3.Value.A9) (fun _ => false) (fun _ => none) (fun _ => none)
theorem A3.Value.ev (N : Nat) (x : Int) : A1 A3.Value.E N Tryz.f63 (Ad Tryz.f63) [.int .u64 x] =
  bif (Mh x) then
  bif (inI64 (Ab (Cf x))) then
  bif (Mh x) then
  bif (A5 (0 : Int) (Kc x)) then
  bif (Mh x) then
  bif (inI64 (Ab (Bd ((Cf x) + (4503599627370496 : Int))))) then
  bif (Mh x) then
  bif (Ah x) then
  bif (C6 x) then
  bif (Ib (Bc ((Ab (Bd ((Cf x) + (4503599627370496 : Int)))))) (Al ((Ab (Bd ((Cf x) + (4503599627370496 : Int))))))) then
  bif (Ib (Bc (- wv (Bc ((Ab (Bd ((Cf x) + (4503599627370496 : Int)))))) (Al ((Ab (Bd ((Cf x) + (4503599627370496 : Int)))))))) (Al (- wv (Bc ((Ab (Bd ((Cf x) + (4503599627370496 : Int)))))) (Al ((Ab (Bd ((Cf x) + (4503599627370496 : Int)))))))) && Xa (Ab ((Kc x) - (1075 : Int)))) then
  some (.agg [.bool (Bc (mD (wv (Bc (- wv (Bc ((Ab (Bd ((Cf x) + (4503599627370496 : Int)))))) (Al ((Ab (Bd ((Cf x) + (4503599627370496 : Int)))))))) (Al (- wv (Bc ((Ab (Bd ((Cf x) + (4503599627370496 : Int)))))) (Al ((Ab (Bd ((Cf x) + (4503599627370496 : Int))))))))))), .ints .arg .u32 (Al (mD (wv (Bc (- wv (Bc ((Ab (Bd ((Cf x) + (4503599627370496 : Int)))))) (Al ((Ab (Bd ((Cf x) + (4503599627370496 : Int)))))))) (Al (- wv (Bc ((Ab (Bd ((Cf x) + (4503599627370496 : Int)))))) (Al ((Ab (Bd ((Cf x) + (4503599627370496 : Int))))))))))), .int .i64 (eD (wv (Bc (- wv (Bc ((Ab (Bd ((Cf x) + (4503599627370496 : Int)))))) (Al ((Ab (Bd ((Cf x) + (4503599627370496 : Int)))))))) (Al (- wv (Bc ((Ab (Bd ((Cf x) + (4503599627370496 : Int)))))) (Al ((Ab (Bd ((Cf x) + (4503599627370496 : Int))))))))) (Ab ((Kc x) - (1075 : Int))))])
  else none
  else none
  else bif (Ib (Bc ((Ab (Bd ((Cf x) + (4503599627370496 : Int)))))) (Al ((Ab (Bd ((Cf x) + (4503599627370496 : Int)))))) && Xa (Ab ((Kc x) - (1075 : Int)))) then
  some (.agg [.bool (Bc (mD (wv (Bc ((Ab (Bd ((Cf x) + (4503599627370496 : Int)))))) (Al ((Ab (Bd ((Cf x) + (4503599627370496 : Int))))))))), .ints .arg .u32 (Al (mD (wv (Bc ((Ab (Bd ((Cf x) + (4503599627370496 : Int)))))) (Al ((Ab (Bd ((Cf x) + (4503599627370496 : Int))))))))), .int .i64 (eD (wv (Bc ((Ab (Bd ((Cf x) + (4503599627370496 : Int)))))) (Al ((Ab (Bd ((Cf x) + (4503599627370496 : Int))))))) (Ab ((Kc x) - (1075 : Int))))])
  else none
  else none
  else none
  else none
  else none
  else bif (Ah x) then
  bif (C6 x) then
  bif (Ib (Bc ((Ab (Cf x)))) (Al ((Ab (Cf x))))) then
  bif (Ib (Bc (- wv (Bc ((Ab (Cf x)))) (Al ((Ab (Cf x)))))) (Al (- wv (Bc ((Ab (Cf x)))) (Al ((Ab (Cf x)))))) && Xa (-1074 : Int)) then
  some (.agg [.bool (Bc (mD (wv (Bc (- wv (Bc ((Ab (Cf x)))) (Al ((Ab (Cf x)))))) (Al (- wv (Bc ((Ab (Cf x)))) (Al ((Ab (Cf x))))))))), .ints .arg .u32 (Al (mD (wv (Bc (- wv (Bc ((Ab (Cf x)))) (Al ((Ab (Cf x)))))) (Al (- wv (Bc ((Ab (Cf x)))) (Al ((Ab (Cf x))))))))), .int .i64 (eD (wv (Bc (- wv (Bc ((Ab (Cf x)))) (Al ((Ab (Cf x)))))) (Al (- wv (Bc ((Ab (Cf x)))) (Al ((Ab (Cf x))))))) (-1074 : Int))])
  else none
  else none
  else bif (Ib (Bc ((Ab (Cf x)))) (Al ((Ab (Cf x)))) && Xa (-1074 : Int)) then
  some (.agg [.bool (Bc (mD (wv (Bc ((Ab (Cf x)))) (Al ((Ab (Cf x))))))), .ints .arg .u32 (Al (mD (wv (Bc ((Ab (Cf x)))) (Al ((Ab (Cf x))))))), .int .i64 (eD (wv (Bc ((Ab (Cf x)))) (Al ((Ab (Cf x))))) (-1074 : Int))])
  else none
  else none
  else none
  else none
  else none := by kernel_rfl
theorem A3.Value.Ac (hk : A0 Tryz.prog A3.Value.A9) (h : ∀ (x : Int), A3.Value.pre [.i x] = true → ∃ N dv drops, A1 A3.Value.E N Tryz.f63 (Ad Tryz.f63) [.int .u64 x] = some dv ∧ Wk drops dv (A3.Value.out [.i x])) : Am Tryz.prog 63 A3.Value.spec :=
  Aj (A2 hk _ _ _) Tryz.func63 (by kernel_rfl) (by kernel_rfl) h
abbrev _root_.Go.Proofs.S1.A3.Value.Kn : Prop := Am Tryz.prog 63 A3.Value.spec
end EqRefE
end Go.Proofs.S1
namespace Go.Proofs.S1
open Go Go.Den Go.Rnd Go.Proofs
open EqRefE
theorem lenN_lt {n k : Nat} (h : n < 2 ^ (32 * k)) {m : Nat} (hk : k < m) : Cz n < m := Nat.lt_of_le_of_lt (L7 h) hk
theorem Rz (m : Nat) : Gu false m = (m : Int) := rfl
theorem sgn_true (m : Nat) : Gu true m = -(m : Int) := rfl
theorem A3.Value.known : A3.Value.Kn := A3.Value.Ac (.cons Af.Neg.known (.cons Af.Of.known (.cons As.Of.known (.cons A3.Ka.known (.cons A3.Neg.known (.cons A3.Power.known .nil)))))) fun x hp => by
  obtain ⟨n, rfl, hn⟩ := Bg (x := x) hp
  refine ⟨0, A3.Value.out [.i n], [], ?_, wdy⟩
  show _ = dout (mD (Fs n)) (eD (Fs n) (Ba n))
  have hf := Iy n
  have hw := Hy n
  have small : ∀ k : Nat, k < 2 ^ 54 → Cz k < 268435456 := fun k hk => lenN_lt (k := 2) (Nat.lt_trans hk (by decide)) (by omega)
  have o1 : ∀ k : Nat, k < 2 ^ 54 → Ib (Bc (k : Int)) (Al (k : Int)) = true := fun k hk => H4 (by rw [Int.natAbs_natCast]; exact small k hk)
  have o2 : ∀ k : Nat, k < 2 ^ 54 → Ib (Bc (-(k : Int))) (Al (-(k : Int))) = true := fun k hk => H4 (by rw [Int.natAbs_neg, Int.natAbs_natCast]; exact small k hk)
  rw [A3.Value.ev]
  unfold Cf Kc C6 Fs Ba
  simp only [Gt, Int.toNat_natCast]
  have e1 : Ab ((Cl n : Nat) : Int) = ((Cl n : Nat) : Int) := Ap (by omega) (by omega)
  have e2 : Ab (Bd (((Cl n : Nat) : Int) + 4503599627370496)) = ((Cl n + 2 ^ 52 : Nat) : Int) := by
    rw [Cv (by omega) (by omega), Ap (by omega) (by omega)]; omega
  have i1 : ∀ k : Nat, k < 2 ^ 54 → inI64 (k : Int) = true := fun k hk => Ar.2 (by omega)
  rw [J0, By hn, e1, e2, i1 _ (by omega), i1 _ (by omega), Aw, Ap (by omega) (by omega)]
  simp only [cond_true]
  unfold Aq Ay
  by_cases h : C5 n = 0
  · have o3 : Xa (-1074) = true := Ar.2 (by omega)
    rw [if_pos h, if_pos h, decide_eq_false (by omega), cond_false, o1 _ (by omega), o2 _ (by omega), o3]
    cases Bi n
    · rw [cond_false, Rz]; rfl
    · rw [cond_true, sgn_true]; rfl
  · have o3 : Xa ((C5 n : Int) - 1075) = true := Ar.2 (by omega)
    rw [if_neg h, if_neg h, decide_eq_true (by omega), cond_true, o1 _ (by omega), o2 _ (by omega), o3]
    cases Bi n
    · rw [cond_false, Rz]; rfl
    · rw [cond_true, sgn_true]; rfl
theorem tz_le_of {m t : Nat} (h : m < 2 ^ t) (h0 : m ≠ 0) : Q5 m < t := Nat.lt_of_le_of_lt (tz_lt h0) ((Nat.log2_lt h0).2 h)
theorem val_at (b : Nat) (g : Int) : Io b g = vAt (Fs (b : Int)) (Ay b) g := by
  unfold Io vAt Fs
  rw [Int.toNat_natCast]
  generalize 2 ^ (Ay b - g).toNat = p
  unfold Gu
  cases Bi b
  · exact Int.natCast_mul _ _
  · show -((Aq b * p : Nat) : Int) = -(Aq b : Int) * (p : Int)
    rw [Int.natCast_mul, Int.neg_mul]
theorem val_abs (b : Nat) : (Fs (b : Int)).natAbs = Aq b := by
  unfold Fs Gu
  rw [Int.toNat_natCast]
  split <;> omega
theorem val_ok (b : Nat) : Cz (Fs (b : Int)).natAbs < 3 ∧ -400000 ≤ eD (Fs (b : Int)) (Ay b) ∧ eD (Fs (b : Int)) (Ay b) ≤ 400000 := by
  have hm := El b
  have he := D7 b
  have ha := val_abs b
  refine ⟨lenN_lt (k := 2) (by rw [ha]; exact Nat.lt_trans hm (by decide)) (by omega), ?_⟩
  unfold eD
  by_cases h : Fs (b : Int) = 0
  · rw [if_pos h]; omega
  · rw [if_neg h]
    have := tz_le_of (m := (Fs (b : Int)).natAbs) (t := 53) (by rw [ha]; exact hm) (by omega)
    omega
end Go.Proofs.S1
namespace Go.Proofs.S1
open Go Go.Den Go.Rnd Go.Proofs
theorem Zq {r : Nat} (h : r < 2 ^ 63) : C0 r = ((2 ^ 63 + r : Nat) : Int) := by
  unfold C0; rw [Int.toNat_natCast, V3 h]
theorem Lz {r : Nat} (h : r < 2 ^ 63) (n : Bool) : (bif n then (bif (Ah (r : Int)) then some (DV.int .u64 (C0 r)) else none) else some (DV.int .u64 r)) = some (DV.int .u64 ((Be n r : Nat) : Int)) := by
  cases n
  · rfl
  · rw [By (by omega), Zq h]; rfl
theorem M7 (n : Bool) (m : Nat) (e : Int) : Sc n m e = ((Be n (B5 m e) : Nat) : Int) := by
  unfold Sc; rw [Int.toNat_natCast]
theorem pack_arith {E M : Nat} (h1 : 1 ≤ E) (h2 : E ≤ 2046) (h3 : 4503599627370496 ≤ M) (h4 : M < 9007199254740992) : E * 2 ^ 52 + M % 2 ^ 52 = min ((E - 1) * 2 ^ 52 + M) Dt := by
  obtain ⟨k, rfl⟩ : ∃ k, E = k + 1 := ⟨E - 1, by omega⟩
  obtain ⟨r, rfl⟩ : ∃ r, M = 2 ^ 52 + r := ⟨M - 2 ^ 52, by omega⟩
  have hr : r < 2 ^ 52 := by omega
  have hm : (2 ^ 52 + r) % 2 ^ 52 = r := by rw [Nat.add_mod_left, Nat.mod_eq_of_lt hr]
  have hk : k * 2 ^ 52 ≤ 2045 * 2 ^ 52 := Nat.mul_le_mul_right _ (by omega)
  have hi : Dt = 2045 * 2 ^ 52 + 2 ^ 52 + 2 ^ 52 := by unfold Dt; rfl
  rw [hm, Nat.add_sub_cancel, Nat.succ_mul, hi]
  generalize 2 ^ 52 = c at *
  omega
theorem soft.Pack.known : soft.Pack.Kn := EqSoft.soft.Pack.Ac (.cons soft.Cy.known .nil) fun rk n m e hp hr => by
  have hp := Ar.1 (show Jq m e = true from hp)
  have hr : Nr m e < rk + 1 := hr
  obtain ⟨m0, m1, e0, e1⟩ := hp
  obtain ⟨M, rfl⟩ : ∃ M : Nat, m = M := ⟨m.toNat, by omega⟩
  refine ⟨0, soft.Pack.out [.b n, .i M, .i e], [], ?_, .int⟩
  rw [EqSoft.soft.Pack.ev]
  show _ = some (DV.int .u64 (Sc n M e))
  rw [M7]
  unfold Nr at hr
  by_cases h0 : M = 0
  · subst h0
    have := Lz (r := 0) (by decide) n
    have e0 : B5 0 e = 0 := rfl
    rw [e0]
    simpa using this
  · have b0 : ((M : Int) == 0) = false := by simp; omega
    rw [b0, cond_false]
    by_cases h1 : M = 9007199254740992
    · have b1 : Ds (9007199254740992 : Int) (M : Int) = true := by rw [Ef]; simp; omega
      have s1 : Ct .u64 (M : Int) (1 : Int) = ((2 ^ 52 : Nat) : Int) := by
        rw [show (1 : Int) = ((1 : Nat) : Int) from rfl, Gk .u64 M 1 (by decide), h1]
      have w1 : Ab (e + 1) = e + 1 := Ap (by omega) (by omega)
      rw [if_pos (by omega)] at hr
      have p1 : Jq ((2 ^ 52 : Nat) : Int) (e + 1) = true := Ar.2 (by omega)
      have p2 : C2 (Nr ((2 ^ 52 : Nat) : Int) (e + 1) < rk) = true := Ar.2 (by
        unfold Nr
        rw [if_neg (by omega), if_neg (by omega)]; omega)
      rw [b1, s1, w1, p1, p2, M7, h1]
      have := (Dg (2 ^ 52) 1 (e + 1)).1
      have e2 : e + 1 - ((1 : Nat) : Int) = e := by omega
      rw [e2] at this
      rw [← this]; rfl
    · have b1 : Ds (9007199254740992 : Int) (M : Int) = false := by rw [Ef]; simp; omega
      rw [b1, cond_false]
      rw [if_neg (by omega)] at hr
      by_cases h2 : M < 4503599627370496
      · have b2 : A5 (M : Int) (4503599627370496 : Int) = true := by rw [Aw]; simp; omega
        rw [if_pos (by omega)] at hr
        by_cases h3 : e = -1074
        · subst h3
          have b3 : A5 (-1074 : Int) (-1074) = false := by decide
          rw [b2, b3, Bool.true_and, cond_false, cond_true, Vl h2]
          exact Lz (by omega) n
        · have b3 : A5 (-1074 : Int) e = true := by rw [Aw]; simp; omega
          have s1 : Bp .u64 (M : Int) (1 : Int) = ((M * 2 ^ 1 : Nat) : Int) := by
            rw [show (1 : Int) = ((1 : Nat) : Int) from rfl, Em M 1 (by decide), Nat.mod_eq_of_lt (by omega)]
          have w1 : Ab (e - 1) = e - 1 := Ap (by omega) (by omega)
          have p1 : Jq ((M * 2 ^ 1 : Nat) : Int) (e - 1) = true := Ar.2 (by omega)
          have p2 : C2 (Nr ((M * 2 ^ 1 : Nat) : Int) (e - 1) < rk) = true := Ar.2 (by
            unfold Nr
            rw [if_neg (by omega)]
            split <;> omega)
          rw [b2, b3, s1, w1, p1, p2, M7]
          have := (Dg M 1 e).1
          have e2 : e - ((1 : Nat) : Int) = e - 1 := by omega
          rw [e2] at this
          rw [this]; rfl
      · have b2 : A5 (M : Int) (4503599627370496 : Int) = false := by rw [Aw]; simp; omega
        have w1 : Ab (e + 1075) = e + 1075 := Ap (by omega) (by omega)
        rw [b2, w1, Bool.false_and, cond_false, cond_false]
        have hr := K5 (m := M) (e := e) (by omega) (by omega) e0
        by_cases h4 : 2047 ≤ e + 1075
        · have b4 : Ds (2047 : Int) (e + 1075) = true := by rw [Ef]; simp; omega
          have : B5 M e = 9218868437227405312 := by rw [hr, Gv]; omega
          rw [b4, this, cond_true]
          exact Lz (r := 9218868437227405312) (by decide) n
        · have b4 : Ds (2047 : Int) (e + 1075) = false := by rw [Ef]; simp; omega
          obtain ⟨E, hE⟩ : ∃ E : Nat, e + 1075 = E := ⟨(e + 1075).toNat, by omega⟩
          have s1 : Gy .u64 (Bp .u64 (Bd (e + 1075)) (52 : Int)) (D3 .u64 (M : Int) (4503599627370495 : Int)) = ((B5 M e : Nat) : Int) := by
            rw [hE, Cv (by omega) (by omega), show (52 : Int) = ((52 : Nat) : Int) from rfl, Em E 52 (by decide), Nat.mod_eq_of_lt (by omega),
              show (4503599627370495 : Int) = ((2 ^ 52 - 1 : Nat) : Int) from rfl, Hm 52 (by omega) (by decide), Ln (by omega) (by omega)]
            have hE2 : (e + 1074).toNat = E - 1 := by omega
            have hE3 : 1 ≤ E ∧ E ≤ 2046 := by omega
            have hM : 4503599627370496 ≤ M ∧ M < 9007199254740992 := by omega
            rw [hr, hE2]
            exact congrArg (fun (x : Nat) => (x : Int)) (pack_arith hE3.1 hE3.2 hM.1 hM.2)
          rw [b4, s1, cond_false]
          exact Lz (Uw M e) n
end Go.Proofs.S1
namespace Go.Proofs.S1
open Go Go.Den Go.Rnd Go.Proofs
open EqSoft
theorem two_lt {D : Nat} (h : D ≤ 63) : 2 ^ D < 2 ^ 64 := Nat.pow_lt_pow_right (by decide) (by omega)
theorem N7 (n : Bool) {r : Nat} (h : r < 2 ^ 63) : Fj .u64 ((Be n r : Nat) : Int) (9223372036854775808 : Int) = (r : Int) := by
  have hs : Be n r < 2 ^ 64 := by unfold Be; split <;> omega
  unfold Fj
  rw [show (9223372036854775808 : Int) = ((2 ^ 63 : Nat) : Int) from rfl, BitVec.toNat_and, BitVec.toNat_not, Hj, Hj, show IntKind.u64.bits = 64 from rfl, Nat.mod_eq_of_lt hs,
    show 2 ^ 64 - 1 - 2 ^ 63 % 2 ^ 64 = 2 ^ 63 - 1 by decide, Nat.and_two_pow_sub_one_eq_mod]
  have : Be n r % 2 ^ 63 = r := by unfold Be; cases n <;> simp <;> omega
  rw [this]
  exact Rt (by omega)
theorem near_flags (N : Nat) (ex n : Bool) {r : Nat} (h : r ≤ Dt) : soft.Cs.C18 N ex ((Be n r : Nat) : Int) = some (.tup [.int .u64 ((Be n r : Nat) : Int), .int .u8 ((flags r ex : Nat) : Int)]) := by
  have h63 : r < 2 ^ 63 := by rw [Gv] at h; omega
  have hs : Be n r < 2 ^ 64 := by unfold Be; split <;> omega
  rw [soft.Cs.C18_eq, N7 n h63, By hs]
  unfold A7 flags
  rw [Int.toNat_natCast, Ts n h]
  have hinf : (((r : Nat) : Int) == (9218868437227405312 : Int)) = decide (r = Dt) := by
    rw [Gv, Bool.eq_iff_iff]; simp; omega
  rw [hinf]
  by_cases h1 : r = Dt
  · simp [h1]
  · by_cases h2 : 2 ^ 52 ≤ r
    · cases ex <;> simp [h1] <;> simp [show 4503599627370496 ≤ r by omega]
    · by_cases h3 : 0 < r
      · cases ex <;> simp [h1, h3] <;> simp [show ¬ 4503599627370496 ≤ r by omega]
      · cases ex <;> simp [h1, h3] <;> simp [show ¬ 4503599627370496 ≤ r by omega]
theorem near_loop (N : Nat) (n : Bool) {m : Nat} {e : Int} (he : -1140 ≤ e ∧ e ≤ 50000) (r : Bool) : ∀ (k d F : Nat), d + k = 62 → k < F → (∀ d', d' < d → 2 ^ 53 ≤ m / 2 ^ d' ∨ e + d' < -1074) →
    ∃ D : Nat, soft.Cs.L0 N F n m e r (d : Int) = soft.Cs.C7 N n m e r (D : Int) ∧ Drop m e D := by
  intro k
  induction k with
  | zero =>
    intro d F hd hF hl
    obtain ⟨F, rfl⟩ : ∃ G, F = G + 1 := ⟨F - 1, by omega⟩
    obtain rfl : d = 62 := by omega
    rw [soft.Cs.Az, Gk .u64 m 62 (by decide), Ap (by omega) (by omega), Ap (by omega) (by omega), Ef, Aw]
    have a0 : decide ((0 : Int) ≤ ((62 : Nat) : Int)) = true := by decide
    have a1 : ((((62 : Nat) : Int) + 1) == 63) = true := by decide
    rw [a0, cond_true, a1, cond_true]
    by_cases h : 2 ^ 53 ≤ m / 2 ^ 62 ∨ e + (62 : Nat) < -1074
    · refine ⟨63, ?_, by omega, by omega, fun d' hd' => ?_⟩
      · have : (decide ((9007199254740992 : Int) ≤ ((m / 2 ^ 62 : Nat) : Int)) || decide (e + ((62 : Nat) : Int) < -1074)) = true := by
          simp only [Bool.or_eq_true, decide_eq_true_eq]; omega
        rw [this]; rfl
      · rcases Nat.lt_or_ge d' 62 with h' | h'
        · exact hl d' h'
        · obtain rfl : d' = 62 := by omega
          exact h
    · refine ⟨62, ?_, by omega, fun _ => by omega, hl⟩
      have : (decide ((9007199254740992 : Int) ≤ ((m / 2 ^ 62 : Nat) : Int)) || decide (e + ((62 : Nat) : Int) < -1074)) = false := by
        simp only [Bool.or_eq_false_iff, decide_eq_false_iff_not]; omega
      rw [this]; rfl
  | succ k ih =>
    intro d F hd hF hl
    obtain ⟨F, rfl⟩ : ∃ G, F = G + 1 := ⟨F - 1, by omega⟩
    rw [soft.Cs.Az, Gk .u64 m d (by show d ≤ 64; omega), Ap (by omega) (by omega), Ap (by omega) (by omega), Ef, Aw]
    have a0 : decide ((0 : Int) ≤ (d : Int)) = true := by simp
    have a1 : (((d : Int) + 1) == 63) = false := by simp; omega
    rw [a0, cond_true, a1, cond_false]
    by_cases h : 2 ^ 53 ≤ m / 2 ^ d ∨ e + d < -1074
    · have : (decide ((9007199254740992 : Int) ≤ ((m / 2 ^ d : Nat) : Int)) || decide (e + (d : Int) < -1074)) = true := by
        simp only [Bool.or_eq_true, decide_eq_true_eq]; omega
      rw [this, cond_true, show (d : Int) + 1 = ((d + 1 : Nat) : Int) by omega]
      refine ih (d + 1) F (by omega) (by omega) fun d' hd' => ?_
      rcases Nat.lt_or_ge d' d with h' | h'
      · exact hl d' h'
      · obtain rfl : d' = d := by omega
        exact h
    · refine ⟨d, ?_, by omega, fun _ => by omega, hl⟩
      have : (decide ((9007199254740992 : Int) ≤ ((m / 2 ^ d : Nat) : Int)) || decide (e + (d : Int) < -1074)) = false := by
        simp only [Bool.or_eq_false_iff, decide_eq_false_iff_not]; omega
      rw [this]; rfl
theorem near_rest (N : Nat) (n : Bool) {m D : Nat} (hm : m < 2 ^ 64) {e : Int} (he : -1140 ≤ e ∧ e ≤ 50000) (r : Bool) (hD : D ≤ 63) (hq : (if e + D < -1074 then 0 else qOf m D r.toNat) ≤ 2 ^ 53) :
    soft.Cs.C7 N n m e r (D : Int) = soft.Cs.C18 N (decide (m % 2 ^ D = 0 ∧ r.toNat = 0)) ((Be n (B5 (if e + D < -1074 then 0 else qOf m D r.toNat) (max (e + D) (-1074))) : Nat) : Int) := by
  have hA := B1 D
  have h2D := two_lt hD
  have hr := Nat.mod_lt m hA
  have hqm : m / 2 ^ D ≤ m := Nat.div_le_self _ _
  rw [soft.Cs.C7_eq]
  have a0 : decide ((0 : Int) ≤ (D : Int)) = true := by simp
  have e1 : Ct .u64 (m : Int) (D : Int) = ((m / 2 ^ D : Nat) : Int) := Gk .u64 m D (by show D ≤ 64; omega)
  have e2 : Bp .u64 (1 : Int) (D : Int) = ((2 ^ D : Nat) : Int) := by
    rw [show (1 : Int) = ((1 : Nat) : Int) from rfl, Em 1 D (by omega), Nat.one_mul, Nat.mod_eq_of_lt h2D]
  have e3 : D3 .u64 (m : Int) (Bd (Bp .u64 (1 : Int) (D : Int) - (1 : Int))) = ((m % 2 ^ D : Nat) : Int) := by
    rw [e2, Cv (by omega) (by omega), show ((2 ^ D : Nat) : Int) - 1 = ((2 ^ D - 1 : Nat) : Int) by omega, Hm D hm (by omega)]
  have e5 : (bif (((m % 2 ^ D : Nat) : Int) == (0 : Int)) then (!r) else false) = decide (m % 2 ^ D = 0 ∧ r.toNat = 0) := by
    by_cases h : m % 2 ^ D = 0
    · cases r <;> simp [h]
    · have : (((m % 2 ^ D : Nat) : Int) == (0 : Int)) = false := by simp only [beq_eq_false_iff_ne, ne_eq]; omega
      rw [this]; simp [h]
  rw [a0, cond_true, cond_true, e1, e3, e5, Aw]
  have last : ∀ (p : Bool) (q : Nat), q ≤ 2 ^ 64 - 1 → (if e + D < -1074 then 0 else q) ≤ 2 ^ 53 → soft.Cs.C14 N n e (D : Int) ((q : Nat) : Int) p = soft.Cs.C18 N p ((Be n (B5 (if e + D < -1074 then 0 else q) (max (e + D) (-1074))) : Nat) : Int) := by
    intro p q hq hq2
    rw [soft.Cs.C14_eq, Ap (by omega) (by omega), Aw]
    have c16 : ∀ q' : Nat, q' ≤ 2 ^ 53 → soft.Cs.C16 N n e (q' : Int) (D : Int) p = soft.Cs.C18 N p ((Be n (B5 q' (max (e + D) (-1074))) : Nat) : Int) := by
      intro q' hq'
      rw [soft.Cs.C16_eq, Ap (by omega) (by omega)]
      have : Jq (q' : Int) (max (e + (D : Int)) (-1074)) = true := Ar.2 (by omega)
      rw [this, M7]; rfl
    by_cases h : e + D < -1074
    · rw [if_pos h] at hq2 ⊢
      have : decide (e + (D : Int) < -1074) = true := by simpa using h
      rw [this]
      exact c16 0 hq2
    · rw [if_neg h] at hq2 ⊢
      have : decide (e + (D : Int) < -1074) = false := by simpa using h
      rw [this]
      exact c16 q hq2
  have up : ∀ (half : Nat) (hh : 0 < D → half = 2 ^ (D - 1)) (p : Bool), soft.Cs.C12 N n e r (D : Int) ((m / 2 ^ D : Nat) : Int) ((m % 2 ^ D : Nat) : Int) (half : Int) p = soft.Cs.C18 N p ((Be n (B5 (if e + D < -1074 then 0 else qOf m D r.toNat) (max (e + D) (-1074))) : Nat) : Int) := by
    intro half hh p
    rw [soft.Cs.C12_eq, Aw, Aw]
    have odd : (D3 .u64 ((m / 2 ^ D : Nat) : Int) (1 : Int) == (1 : Int)) = decide (m / 2 ^ D % 2 = 1) := by
      rw [show (1 : Int) = ((2 ^ 1 - 1 : Nat) : Int) from rfl, Hm 1 (by omega) (by decide), Bool.eq_iff_iff]
      simp only [beq_iff_eq, decide_eq_true_eq]
      omega
    rw [odd]
    have test : (decide ((0 : Int) < (D : Int)) && (decide ((half : Int) < ((m % 2 ^ D : Nat) : Int)) || ((((m % 2 ^ D : Nat) : Int) == (half : Int)) && (r || decide (m / 2 ^ D % 2 = 1))))) =
        decide (0 < D ∧ (2 ^ (D - 1) < m % 2 ^ D ∨ (m % 2 ^ D = 2 ^ (D - 1) ∧ (r.toNat = 1 ∨ m / 2 ^ D % 2 = 1)))) := by
      rw [Bool.eq_iff_iff]
      generalize m % 2 ^ D = rr
      generalize m / 2 ^ D = qq
      generalize hg : 2 ^ (D - 1) = gg at hh
      by_cases h0 : 0 < D
      · have := hh h0
        subst this
        cases r <;> simp [h0] <;> omega
      · simp [h0]
    rw [test]
    by_cases ht : 0 < D ∧ (2 ^ (D - 1) < m % 2 ^ D ∨ (m % 2 ^ D = 2 ^ (D - 1) ∧ (r.toNat = 1 ∨ m / 2 ^ D % 2 = 1)))
    · have hq1 : qOf m D r.toNat = m / 2 ^ D + 1 := by unfold qOf; rw [if_pos ht]
      have hlt : m / 2 ^ D + 1 < 2 ^ 64 := by
        obtain ⟨d, rfl⟩ : ∃ d, D = d + 1 := ⟨D - 1, by omega⟩
        have h1 : m / 2 ^ (d + 1) ≤ m / 2 := Nat.div_le_div_left (by rw [Nat.pow_succ]; have := B1 d; omega) (by decide)
        omega
      rw [hq1] at hq ⊢
      rw [decide_eq_true ht, cond_true, Cv (by omega) (by omega), show ((m / 2 ^ D : Nat) : Int) + 1 = ((m / 2 ^ D + 1 : Nat) : Int) by omega]
      exact last p _ (by omega) hq
    · have hq1 : qOf m D r.toNat = m / 2 ^ D := by unfold qOf; rw [if_neg ht]; rfl
      rw [hq1] at hq ⊢
      rw [decide_eq_false ht, cond_false]
      exact last p _ (by omega) hq
  rcases Nat.eq_zero_or_pos D with rfl | hpos
  · have : decide ((0 : Int) < ((0 : Nat) : Int)) = false := by decide
    rw [this, cond_false]
    exact up 0 (fun h => absurd h (by omega)) _
  · have h1 : decide ((0 : Int) < (D : Int)) = true := by simpa using hpos
    have h2 : Ab ((D : Int) - 1) = ((D - 1 : Nat) : Int) := by rw [Ap (by omega) (by omega)]; omega
    have h3 : decide ((0 : Int) ≤ ((D - 1 : Nat) : Int)) = true := by simp
    have h4 : Bp .u64 (1 : Int) ((D - 1 : Nat) : Int) = ((2 ^ (D - 1) : Nat) : Int) := by
      rw [show (1 : Int) = ((1 : Nat) : Int) from rfl, Em 1 (D - 1) (by omega), Nat.one_mul, Nat.mod_eq_of_lt (two_lt (by omega))]
    rw [h1, cond_true, h2, h3, cond_true, h4]
    exact up _ (fun _ => rfl) _
theorem soft.Cs.known : soft.Cs.Kn := soft.Cs.Ac (.cons soft.Kind.known (.cons soft.Pack.known .nil)) fun n m e r hp => by
  obtain ⟨m0, m1, e1, e2, hr⟩ := Ar.1 (show Dn m e r = true from hp)
  obtain ⟨M, rfl⟩ : ∃ M : Nat, m = M := ⟨m.toNat, by omega⟩
  refine ⟨63, soft.Cs.out [.b n, .i M, .i e, .b r], [], ?_, Wk.Gg (.cons .int (.cons .int .nil))⟩
  show _ = some (DV.tup [.int .u64 (Ea n M e r), .int .u8 (D9 n M e r)])
  unfold Ea D9 Fg
  rw [Int.toNat_natCast, soft.Cs.ev]
  dsimp only
  by_cases h0 : M = 0 ∧ r = false
  · obtain ⟨rfl, rfl⟩ := h0
    have : Jq (0 : Int) (-1074) = true := Ar.2 (by omega)
    have hp0 := M7 n 0 (-1074)
    rw [this]
    simp only [Bool.not_false, Bool.and_true, cond_true, Bool.toNat_false]
    have hz : (((0 : Nat) : Int) == 0) = true := rfl
    rw [hz, cond_true]
    have hp0 : Sc n (0 : Int) (-1074) = ((Be n (B5 0 (-1074)) : Nat) : Int) := hp0
    have z : ∀ E, B5 0 E = 0 := fun E => if_pos rfl
    have z3 : ∀ E, flagsOf 0 E = 0 := fun E => if_pos rfl
    rw [hp0, z, show 4 * 0 + 0 = 0 from rfl, z, z3]
    rfl
  · have hc : ((((M : Nat) : Int) == (0 : Int)) && !r) = false := by
      cases r
      · have : M ≠ 0 := fun h => h0 ⟨h, rfl⟩
        simp; omega
      · simp
    rw [hc, cond_false]
    have he : -1140 ≤ e ∧ e ≤ 50000 := by omega
    obtain ⟨D, hl, hD⟩ := near_loop 63 n (m := M) he r 62 0 63 (by omega) (by omega) (fun d' h => by omega)
    have hs : r.toNat ≤ 1 := by cases r <;> decide
    have hV : 4 * M + r.toNat ≠ 0 := by
      intro h
      refine h0 ⟨by omega, ?_⟩
      cases r
      · rfl
      · simp at h
    obtain ⟨t1, t2, t3⟩ := near_drop hD hs hV (by omega) (by omega) (fun h => by
      have : r = true := by cases r <;> simp_all
      have := hr this
      omega)
    have hl : soft.Cs.L0 63 63 n (M : Int) e r (0 : Int) = soft.Cs.C7 63 n (M : Int) e r (D : Int) := hl
    rw [hl, near_rest 63 n (by omega) he r hD.le t3, ← t1, near_flags 63 _ n (L4 _ _), t2]
end Go.Proofs.S1
namespace Go.Proofs.S1
open Go Go.Den Go.Rnd Go.Proofs
set_option linter.unusedVariables false
set_option maxRecDepth 100000
namespace EqSum
theorem Eu : ∀ a b : Bool, (bif a then true else b) = (a || b) := by decide
theorem I7 : ∀ a : Bool, ((!(!a)) || (a == false)) = true := by decide
theorem H8 : ∀ a : Bool, ((!(a == false)) || ((((!(a == false)) || (a == false)) && (((!(a == false)) || (a == false)) && true)) && true)) = true := by decide
theorem Hr : ∀ a : Bool, ((!(a == false)) || true) = true := by decide
theorem Ge : ∀ a b : Bool, (bif (!a) then true else (!b)) = ((!a) || (!b)) := by decide
theorem Kb : ∀ a : Bool, ((!(!(!a))) || ((!a) == false)) = true := by decide
theorem Lu : ∀ a : Bool, ((!((!a) == false)) || ((((!((!a) == false)) || ((!a) == false)) && true) && true)) = true := by decide
theorem Ld : ∀ a b : Bool, ((!((!a) == false)) || ((((!((!a) == false)) || ((!a) == false)) && true) && b)) = ((!a) || b) := by decide
theorem Qk : ∀ a : Bool, ((!((!a) == false)) || true) = true := by decide
def sum.right.A9 : List (Nat × Entry) := []
def sum.right.E : Env := Bb (A8 sum.right.A9) (fun _ => false) (fun _ => none) (fun _ => none)
theorem sum.right.ev (N : Nat) (m d : Int) : A1 sum.right.E N Tryz.f249 (Ad Tryz.f249) [.int .u64 m, .int .i64 d] =
  bif (A5 (63 : Int) d) then
  bif ((Bp .u64 (Ct .u64 m (63 : Int)) (63 : Int)) != m) then
  some (.int .u64 (Gy .u64 (Ct .u64 m (63 : Int)) (1 : Int)))
  else some (.int .u64 (Ct .u64 m (63 : Int)))
  else bif (decide (0 ≤ d)) then
  bif (decide (0 ≤ d)) then
  bif ((Bp .u64 (Ct .u64 m d) d) != m) then
  some (.int .u64 (Gy .u64 (Ct .u64 m d) (1 : Int)))
  else some (.int .u64 (Ct .u64 m d))
  else none
  else none := by kernel_rfl
theorem sum.right.Ac (hk : A0 Tryz.prog sum.right.A9) (h : ∀ (m d : Int), sum.right.pre [.i m, .i d] = true → ∃ N dv drops, A1 sum.right.E N Tryz.f249 (Ad Tryz.f249) [.int .u64 m, .int .i64 d] = some dv ∧ Wk drops dv (sum.right.out [.i m, .i d])) : Am Tryz.prog 249 sum.right.spec :=
  Aj (A2 hk _ _ _) Tryz.func249 (by kernel_rfl) (by kernel_rfl) h
abbrev _root_.Go.Proofs.S1.sum.right.Kn : Prop := Am Tryz.prog 249 sum.right.spec
def sum.D0.A9 : List (Nat × Entry) := [(148, soft.Finite.spec), (155, soft.Kind.spec)]
def sum.D0.E : Env := Bb (A8 sum.D0.A9) (fun _ => false) (fun _ => none) (fun _ => none)
theorem sum.D0.ev (N : Nat) (a b : Int) : A1 sum.D0.E N Tryz.f248 (Ad Tryz.f248) [.int .u64 a, .int .u64 b] =
  bif (Ah a) then
  bif ((A7 a) == (4 : Int)) then
  some (.tup [.int .u64 9221120237041090560, .int .u8 0])
  else bif (Ah b) then
  bif ((A7 b) == (4 : Int)) then
  some (.tup [.int .u64 9221120237041090560, .int .u8 0])
  else bif (Ah a) then
  bif (C8 a) then
  some (.tup [.int .u64 b, .int .u8 0])
  else bif (Ah b) then
  bif ((C8 b) || (a == b)) then
  some (.tup [.int .u64 a, .int .u8 0])
  else some (.tup [.int .u64 9221120237041090560, .int .u8 16])
  else none
  else none
  else none
  else none :=
  Eq.trans (by kernel_rfl)
  (Fb (Fb rfl (Fb (Fb rfl (Fb (Fb rfl (Fb (Ax (Hr (C8 b)) (Ax (Hr (C8 b)) (Ax (H8 (C8 b)) (Ax (I7 (C8 b)) (C1 (Eu (C8 b) (a == b)) rfl rfl))))) rfl)) rfl)) rfl)) rfl)
theorem sum.D0.Ac (hk : A0 Tryz.prog sum.D0.A9) (h : ∀ (a b : Int), sum.D0.pre [.i a, .i b] = true → ∃ N dv drops, A1 sum.D0.E N Tryz.f248 (Ad Tryz.f248) [.int .u64 a, .int .u64 b] = some dv ∧ Wk drops dv (sum.D0.out [.i a, .i b])) : Am Tryz.prog 248 sum.D0.spec :=
  Aj (A2 hk _ _ _) Tryz.func248 (by kernel_rfl) (by kernel_rfl) h
abbrev _root_.Go.Proofs.S1.sum.D0.Kn : Prop := Am Tryz.prog 248 sum.D0.spec
def sum.Add.A9 : List (Nat × Entry) := [(148, soft.Finite.spec), (212, soft.Cs.spec), (211, soft.Fa.spec), (213, soft.Sign.spec), (249, sum.right.spec), (248, sum.D0.spec)]
def sum.Add.E : Env := Bb (A8 sum.Add.A9) (fun _ => false) (fun _ => none) (fun _ => none)
theorem sum.Add.ev (N : Nat) (a b : Int) : A1 sum.Add.E N Tryz.f232 (Ad Tryz.f232) [.int .u64 a, .int .u64 b] =
  bif (Ah a) then
  bif ((!(C8 a)) || (Ah b)) then
  bif ((!(C8 a)) || (!(C8 b))) then
  bif ((Ah a && Ah b) && (!(C8 a) || !(C8 b))) then
  some (.tup [.int .u64 (Kk a b), .int .u8 (Ul a b)])
  else none
  else bif (Ah a) then
  bif (Ah b) then
  bif (Ah a) then
  bif (Ah b) then
  bif (A5 (Ba a) (Ba b)) then
  bif (Ah (Bp .u64 (Bk a) (9 : Int)) && C2 (0 ≤ (Ab ((Ba b) - (Ba a))) ∧ (Ab ((Ba b) - (Ba a))) < 1000000)) then
  bif ((C6 b) == (C6 a)) then
  bif (Dn (Bd ((Bp .u64 (Bk b) (9 : Int)) + (Eh (Bp .u64 (Bk a) (9 : Int)) (Ab ((Ba b) - (Ba a)))))) (Ab ((Ba b) - (9 : Int))) false) then
  some (.tup [.int .u64 (Ea (C6 b) (Bd ((Bp .u64 (Bk b) (9 : Int)) + (Eh (Bp .u64 (Bk a) (9 : Int)) (Ab ((Ba b) - (Ba a)))))) (Ab ((Ba b) - (9 : Int))) false), .int .u8 (D9 (C6 b) (Bd ((Bp .u64 (Bk b) (9 : Int)) + (Eh (Bp .u64 (Bk a) (9 : Int)) (Ab ((Ba b) - (Ba a)))))) (Ab ((Ba b) - (9 : Int))) false)])
  else none
  else bif (A5 (Eh (Bp .u64 (Bk a) (9 : Int)) (Ab ((Ba b) - (Ba a)))) (Bp .u64 (Bk b) (9 : Int))) then
  bif (Dn (Bd ((Bp .u64 (Bk b) (9 : Int)) - (Eh (Bp .u64 (Bk a) (9 : Int)) (Ab ((Ba b) - (Ba a)))))) (Ab ((Ba b) - (9 : Int))) false) then
  some (.tup [.int .u64 (Ea (C6 b) (Bd ((Bp .u64 (Bk b) (9 : Int)) - (Eh (Bp .u64 (Bk a) (9 : Int)) (Ab ((Ba b) - (Ba a)))))) (Ab ((Ba b) - (9 : Int))) false), .int .u8 (D9 (C6 b) (Bd ((Bp .u64 (Bk b) (9 : Int)) - (Eh (Bp .u64 (Bk a) (9 : Int)) (Ab ((Ba b) - (Ba a)))))) (Ab ((Ba b) - (9 : Int))) false)])
  else none
  else bif (A5 (Bp .u64 (Bk b) (9 : Int)) (Eh (Bp .u64 (Bk a) (9 : Int)) (Ab ((Ba b) - (Ba a))))) then
  bif (Dn (Bd ((Eh (Bp .u64 (Bk a) (9 : Int)) (Ab ((Ba b) - (Ba a)))) - (Bp .u64 (Bk b) (9 : Int)))) (Ab ((Ba b) - (9 : Int))) false) then
  some (.tup [.int .u64 (Ea (C6 a) (Bd ((Eh (Bp .u64 (Bk a) (9 : Int)) (Ab ((Ba b) - (Ba a)))) - (Bp .u64 (Bk b) (9 : Int)))) (Ab ((Ba b) - (9 : Int))) false), .int .u8 (D9 (C6 a) (Bd ((Eh (Bp .u64 (Bk a) (9 : Int)) (Ab ((Ba b) - (Ba a)))) - (Bp .u64 (Bk b) (9 : Int)))) (Ab ((Ba b) - (9 : Int))) false)])
  else none
  else some (.tup [.int .u64 0, .int .u8 0])
  else none
  else bif (Ah (Bp .u64 (Bk b) (9 : Int)) && C2 (0 ≤ (Ab ((Ba a) - (Ba b))) ∧ (Ab ((Ba a) - (Ba b))) < 1000000)) then
  bif ((C6 a) == (C6 b)) then
  bif (Dn (Bd ((Bp .u64 (Bk a) (9 : Int)) + (Eh (Bp .u64 (Bk b) (9 : Int)) (Ab ((Ba a) - (Ba b)))))) (Ab ((Ba a) - (9 : Int))) false) then
  some (.tup [.int .u64 (Ea (C6 a) (Bd ((Bp .u64 (Bk a) (9 : Int)) + (Eh (Bp .u64 (Bk b) (9 : Int)) (Ab ((Ba a) - (Ba b)))))) (Ab ((Ba a) - (9 : Int))) false), .int .u8 (D9 (C6 a) (Bd ((Bp .u64 (Bk a) (9 : Int)) + (Eh (Bp .u64 (Bk b) (9 : Int)) (Ab ((Ba a) - (Ba b)))))) (Ab ((Ba a) - (9 : Int))) false)])
  else none
  else bif (A5 (Eh (Bp .u64 (Bk b) (9 : Int)) (Ab ((Ba a) - (Ba b)))) (Bp .u64 (Bk a) (9 : Int))) then
  bif (Dn (Bd ((Bp .u64 (Bk a) (9 : Int)) - (Eh (Bp .u64 (Bk b) (9 : Int)) (Ab ((Ba a) - (Ba b)))))) (Ab ((Ba a) - (9 : Int))) false) then
  some (.tup [.int .u64 (Ea (C6 a) (Bd ((Bp .u64 (Bk a) (9 : Int)) - (Eh (Bp .u64 (Bk b) (9 : Int)) (Ab ((Ba a) - (Ba b)))))) (Ab ((Ba a) - (9 : Int))) false), .int .u8 (D9 (C6 a) (Bd ((Bp .u64 (Bk a) (9 : Int)) - (Eh (Bp .u64 (Bk b) (9 : Int)) (Ab ((Ba a) - (Ba b)))))) (Ab ((Ba a) - (9 : Int))) false)])
  else none
  else bif (A5 (Bp .u64 (Bk a) (9 : Int)) (Eh (Bp .u64 (Bk b) (9 : Int)) (Ab ((Ba a) - (Ba b))))) then
  bif (Dn (Bd ((Eh (Bp .u64 (Bk b) (9 : Int)) (Ab ((Ba a) - (Ba b)))) - (Bp .u64 (Bk a) (9 : Int)))) (Ab ((Ba a) - (9 : Int))) false) then
  some (.tup [.int .u64 (Ea (C6 b) (Bd ((Eh (Bp .u64 (Bk b) (9 : Int)) (Ab ((Ba a) - (Ba b)))) - (Bp .u64 (Bk a) (9 : Int)))) (Ab ((Ba a) - (9 : Int))) false), .int .u8 (D9 (C6 b) (Bd ((Eh (Bp .u64 (Bk b) (9 : Int)) (Ab ((Ba a) - (Ba b)))) - (Bp .u64 (Bk a) (9 : Int)))) (Ab ((Ba a) - (9 : Int))) false)])
  else none
  else some (.tup [.int .u64 0, .int .u8 0])
  else none
  else none
  else none
  else none
  else none
  else none
  else none :=
  Eq.trans (by kernel_rfl)
  (Fb (Ax (Qk (C8 a)) (C1 (Ld (C8 a) (Ah b)) (Ax (Lu (C8 a)) (Ax (Kb (C8 a)) (C1 (Ge (C8 a) (C8 b)) rfl rfl))) rfl)) rfl)
theorem sum.Add.Ac (hk : A0 Tryz.prog sum.Add.A9) (h : ∀ (a b : Int), sum.Add.pre [.i a, .i b] = true → ∃ N dv drops, A1 sum.Add.E N Tryz.f232 (Ad Tryz.f232) [.int .u64 a, .int .u64 b] = some dv ∧ Wk drops dv (sum.Add.out [.i a, .i b])) : Am Tryz.prog 232 sum.Add.spec :=
  Aj (A2 hk _ _ _) Tryz.func232 (by kernel_rfl) (by kernel_rfl) h
abbrev _root_.Go.Proofs.S1.sum.Add.Kn : Prop := Am Tryz.prog 232 sum.Add.spec
def sum.Sub.A9 : List (Nat × Entry) := [(233, soft.Cy.spec), (232, sum.Add.spec)]
def sum.Sub.E : Env := Bb (A8 sum.Sub.A9) (fun _ => false) (fun _ => none) (fun _ => none)
theorem sum.Sub.ev (N : Nat) (a b : Int) : A1 sum.Sub.E N Tryz.f207 (Ad Tryz.f207) [.int .u64 a, .int .u64 b] =
  bif (Ah b) then
  bif (Ah a && Ah (C0 b)) then
  some (.tup [.int .u64 (Kk a (C0 b)), .int .u8 (Ul a (C0 b))])
  else none
  else none := by kernel_rfl
theorem sum.Sub.Ac (hk : A0 Tryz.prog sum.Sub.A9) (h : ∀ (a b : Int), sum.Sub.pre [.i a, .i b] = true → ∃ N dv drops, A1 sum.Sub.E N Tryz.f207 (Ad Tryz.f207) [.int .u64 a, .int .u64 b] = some dv ∧ Wk drops dv (sum.Sub.out [.i a, .i b])) : Am Tryz.prog 207 sum.Sub.spec :=
  Aj (A2 hk _ _ _) Tryz.func207 (by kernel_rfl) (by kernel_rfl) h
abbrev _root_.Go.Proofs.S1.sum.Sub.Kn : Prop := Am Tryz.prog 207 sum.Sub.spec
end EqSum
end Go.Proofs.S1
namespace Go.Proofs.S1
open Go Go.Den Go.Rnd Go.Proofs
open EqSum
theorem or_one (q : Nat) : q ||| 1 = 2 * (q / 2) + 1 := by
  have e : q % 2 ||| (q / 2 * 2 ^ 1) = q / 2 * 2 ^ 1 + q % 2 := Lh (Nat.mod_lt _ (by decide))
  have e1 : 1 ||| (q / 2 * 2 ^ 1) = q / 2 * 2 ^ 1 + 1 := Lh (k := 1) (by decide)
  have hq : q / 2 * 2 ^ 1 + q % 2 = q := by omega
  rw [hq] at e
  rcases Nat.mod_two_eq_zero_or_one q with h | h
  · rw [h, Nat.zero_or] at e
    rw [e, Nat.or_comm] at e1
    omega
  · rw [h] at e
    have : q ||| 1 = q := by
      conv => lhs; rw [← e]
      rw [Nat.or_comm 1, Nat.or_assoc, Nat.or_self, Nat.or_comm, e]
    omega
theorem Vp {n s : Nat} (hn : n < 2 ^ 64) (hs : s ≤ 63) :
    (bif ((Bp .u64 (Ct .u64 (n : Int) (s : Int)) (s : Int)) != (n : Int)) then
      some (DV.int .u64 (Gy .u64 (Ct .u64 (n : Int) (s : Int)) (1 : Int)))
    else some (.int .u64 (Ct .u64 (n : Int) (s : Int)))) = some (.int .u64 ((Ey n s : Nat) : Int)) := by
  have hq : n / 2 ^ s ≤ n := Nat.div_le_self _ _
  have hm : n / 2 ^ s * 2 ^ s ≤ n := Nat.div_mul_le_self _ _
  have hd := Nat.div_add_mod n (2 ^ s)
  rw [Nat.mul_comm] at hd
  rw [Gk .u64 n s (by show s ≤ 64; omega), Em _ s (by omega), Nat.mod_eq_of_lt (by omega)]
  have h1 : Gy .u64 ((n / 2 ^ s : Nat) : Int) (1 : Int) = ((n / 2 ^ s ||| 1 : Nat) : Int) := S5 (by omega) (by decide)
  rw [h1, or_one]
  unfold Ey
  by_cases h : n % 2 ^ s = 0
  · have : ((((n / 2 ^ s * 2 ^ s : Nat) : Int)) != (n : Int)) = false := by
      simp only [bne_eq_false_iff_eq]; omega
    rw [this, if_pos h, cond_false]
  · have : ((((n / 2 ^ s * 2 ^ s : Nat) : Int)) != (n : Int)) = true := by
      simp only [bne_iff_ne, ne_eq]; omega
    rw [this, if_neg h, cond_true]
theorem sum.right.known : sum.right.Kn := sum.right.Ac .nil fun m d hp => by
  obtain ⟨h1, h2⟩ := Ag.1 hp
  obtain ⟨n, rfl, hn⟩ := Bg h1
  have h2 := Ar.1 h2
  obtain ⟨d, rfl⟩ : ∃ k : Nat, d = k := ⟨d.toNat, by omega⟩
  refine ⟨0, sum.right.out [.i n, .i d], [], ?_, .int⟩
  rw [sum.right.ev, Aw]
  show _ = some (DV.int .u64 (Eh n d))
  unfold Eh
  rw [Int.toNat_natCast, Int.toNat_natCast]
  by_cases h : 63 < d
  · have : decide ((63 : Int) < (d : Int)) = true := by simp; omega
    rw [this, cond_true, Nat.min_eq_right (by omega)]
    exact Vp hn (Nat.le_refl 63)
  · have : decide ((63 : Int) < (d : Int)) = false := by simp; omega
    have h0 : decide ((0 : Int) ≤ (d : Int)) = true := by simp
    rw [this, cond_false, h0, cond_true, cond_true, Nat.min_eq_left (by omega)]
    exact Vp hn (by omega)
theorem NaN_eq : ((Pu : Nat) : Int) = 9221120237041090560 := rfl
theorem sum.D0.known : sum.D0.Kn := sum.D0.Ac (.cons soft.Finite.known (.cons soft.Kind.known .nil)) fun a b hp => by
  obtain ⟨h1, h2⟩ := Ag.1 hp
  obtain ⟨ha, hb⟩ := Ag.1 h1
  obtain ⟨a, rfl, hn⟩ := Bg ha
  obtain ⟨b, rfl, hm⟩ := Bg hb
  refine ⟨0, sum.D0.out [.i a, .i b], [], ?_, Wk.Gg (.cons .int (.cons .int .nil))⟩
  rw [sum.D0.ev, ha, hb]
  show _ = some (DV.tup [.int .u64 (Kk a b), .int .u8 (Ul a b)])
  unfold Kk Ul Kf A7 C8
  simp only [Int.toNat_natCast, cond_true]
  unfold C8 at h2
  simp only [Int.toNat_natCast] at h2
  by_cases a4 : Ai a = 4
  · simp [a4, NaN_eq]
  · have e4 : ((Ai a : Int) == 4) = false := by simp; omega
    rw [e4, cond_false]
    by_cases b4 : Ai b = 4
    · simp [b4, NaN_eq]
    · have f4 : ((Ai b : Int) == 4) = false := by simp; omega
      rw [f4, cond_false]
      have ka := Wf a
      have kb := Wf b
      by_cases a3 : Ai a = 3
      · have fa : Jl a = false := by rw [ka]; simp [a3]
        rw [fa, cond_false]
        by_cases b3 : Ai b = 3
        · have fb : Jl b = false := by rw [kb]; simp [b3]
          rw [fb]
          by_cases hab : a = b
          · subst hab; simp [a3]
          · have hab' : ((a : Int) == (b : Int)) = false := by simp; omega
            rw [hab']
            simp [a3, b3, hab, NaN_eq]
        · have fb : Jl b = true := by rw [kb]; simp [b3, b4]
          rw [fb]
          simp [a3, b3, b4]
      · have fa : Jl a = true := by rw [ka]; simp [a3, a4]
        have b3 : Ai b = 3 := by
          rw [fa, kb] at h2
          simp [b4] at h2
          exact h2
        rw [fa, cond_true]
        simp [a3, b3, a4]
def sumOf (na nb : Bool) (X r : Nat) (e : Int) : Nat × Nat :=
  if na = nb then Fg na (X + r) e false else if r < X then Fg na (X - r) e false else if X < r then Fg nb (r - X) e false else (0, 0)
theorem Tn {na : Bool} {m : Int} {n : Nat} {e e' : Int} (h : m = n) (he : e' = e) (hn : n < 2 ^ 64) (h1 : -1100 ≤ e) (h2 : e ≤ 1000) :
    (bif Dn m e' false then some (DV.tup [.int .u64 (Ea na m e' false), .int .u8 (D9 na m e' false)]) else none)
      = some (.tup [.int .u64 (((Fg na n e false).1 : Nat) : Int), .int .u8 (((Fg na n e false).2 : Nat) : Int)]) := by
  subst h; subst he
  have hp : Dn (n : Int) e' false = true := Ar.2 ⟨by omega, by omega, by omega, .inl (by omega), fun h => by cases h⟩
  rw [hp, cond_true]
  unfold Ea D9
  rw [Int.toNat_natCast]
theorem add_code (na nb : Bool) {X r : Nat} {e e' : Int} (hX : X < 2 ^ 62) (hr : r ≤ 2 ^ 62) (h : e' = e) (h1 : -1100 ≤ e) (h2 : e ≤ 1000) :
    (bif (na == nb) then
      bif Dn (Bd ((X : Int) + (r : Int))) e' false then some (DV.tup [.int .u64 (Ea na (Bd ((X : Int) + (r : Int))) e' false), .int .u8 (D9 na (Bd ((X : Int) + (r : Int))) e' false)]) else none
    else bif A5 (r : Int) (X : Int) then
      bif Dn (Bd ((X : Int) - (r : Int))) e' false then some (DV.tup [.int .u64 (Ea na (Bd ((X : Int) - (r : Int))) e' false), .int .u8 (D9 na (Bd ((X : Int) - (r : Int))) e' false)]) else none
    else bif A5 (X : Int) (r : Int) then
      bif Dn (Bd ((r : Int) - (X : Int))) e' false then some (DV.tup [.int .u64 (Ea nb (Bd ((r : Int) - (X : Int))) e' false), .int .u8 (D9 nb (Bd ((r : Int) - (X : Int))) e' false)]) else none
    else some (.tup [.int .u64 (0 : Int), .int .u8 (0 : Int)])) =
      some (.tup [.int .u64 (((sumOf na nb X r e).1 : Nat) : Int), .int .u8 (((sumOf na nb X r e).2 : Nat) : Int)]) := by
  unfold sumOf
  rw [Aw, Aw]
  by_cases hs : na = nb
  · have : (na == nb) = true := by simp [hs]
    rw [this, cond_true, if_pos hs]
    exact Tn (by rw [Cv (by omega) (by omega)]; omega) h (by omega) h1 h2
  · have : (na == nb) = false := by simp [hs]
    rw [this, cond_false, if_neg hs]
    by_cases hl : r < X
    · have : decide ((r : Int) < (X : Int)) = true := by simp; omega
      rw [this, cond_true, if_pos hl]
      exact Tn (by rw [Cv (by omega) (by omega)]; omega) h (by omega) h1 h2
    · have : decide ((r : Int) < (X : Int)) = false := by simp; omega
      rw [this, cond_false, if_neg hl]
      by_cases hg : X < r
      · have : decide ((X : Int) < (r : Int)) = true := by simp; omega
        rw [this, cond_true, if_pos hg]
        exact Tn (by rw [Cv (by omega) (by omega)]; omega) h (by omega) h1 h2
      · have : decide ((X : Int) < (r : Int)) = false := by simp; omega
        rw [this, cond_false, if_neg hg]
        rfl
theorem add_pre {a b : Nat} (ha : Jl a = true) (hb : Jl b = true) (hle : Ay b ≤ Ay a) :
    ∃ X r : Nat, X < 2 ^ 62 ∧ r ≤ 2 ^ 62 ∧ Bp .u64 (Bk a) (9 : Int) = (X : Int) ∧ Eh (Bp .u64 (Bk b) (9 : Int)) (Ab (Ba a - Ba b)) = (r : Int)
      ∧ Ab (Ba a - 9) = Ay a - 9
      ∧ (Ah (Bp .u64 (Bk b) (9 : Int)) && C2 (0 ≤ (Ab ((Ba a) - (Ba b))) ∧ (Ab ((Ba a) - (Ba b))) < 1000000)) = true
      ∧ sumOf (C6 a) (C6 b) X r (Ay a - 9) = Kf a b := by
  obtain ⟨d, hd⟩ : ∃ d : Nat, Ay a = Ay b + d := ⟨(Ay a - Ay b).toNat, by omega⟩
  have hx := El a
  have hy := El b
  have ea := D7 a
  have eb := D7 b
  have C := add_core (Mx := Aq a) (My := Aq b) hd hx hy (fun h => Xy (by omega))
  have sh : ∀ m : Nat, m < 2 ^ 53 → Bp .u64 (m : Int) (9 : Int) = ((m * 2 ^ 9 : Nat) : Int) := fun m hm => by
    have := Em m 9 (by decide)
    rw [Nat.mod_eq_of_lt (by omega)] at this
    exact this
  have h2 : Ab (Ba a - Ba b) = (d : Int) := by
    unfold Ba
    rw [Int.toNat_natCast, Int.toNat_natCast, Ap (by omega) (by omega)]; omega
  have s1 : Bp .u64 (Bk a) (9 : Int) = ((Aq a * 2 ^ 9 : Nat) : Int) := by
    unfold Bk; rw [Int.toNat_natCast]; exact sh _ hx
  have s2 : Bp .u64 (Bk b) (9 : Int) = ((Aq b * 2 ^ 9 : Nat) : Int) := by
    unfold Bk; rw [Int.toNat_natCast]; exact sh _ hy
  refine ⟨Aq a * 2 ^ 9, Ey (Aq b * 2 ^ 9) (min d 63), by omega, C.small, s1, ?_, ?_, ?_, ?_⟩
  · rw [s2, h2]; unfold Eh; rw [Int.toNat_natCast, Int.toNat_natCast]
  · unfold Ba; rw [Int.toNat_natCast, Ap (by omega) (by omega)]
  · rw [s2, h2, By (by omega), Bool.true_and]
    exact Ar.2 ⟨by omega, by omega⟩
  · unfold C6
    rw [Int.toNat_natCast, Int.toNat_natCast, add_ordered ha hb hd]
    rfl
theorem sum.Add.known : sum.Add.Kn := sum.Add.Ac (.cons soft.Finite.known (.cons soft.Cs.known (.cons soft.Fa.known (.cons soft.Sign.known (.cons sum.right.known (.cons sum.D0.known .nil)))))) fun a b hp => by
  obtain ⟨ha, hb⟩ := Ag.1 hp
  obtain ⟨a, rfl, hn⟩ := Bg ha
  obtain ⟨b, rfl, hm⟩ := Bg hb
  refine ⟨0, sum.Add.out [.i a, .i b], [], ?_, Wk.Gg (.cons .int (.cons .int .nil))⟩
  rw [sum.Add.ev, ha, hb]
  show _ = some (DV.tup [.int .u64 (Kk a b), .int .u8 (Ul a b)])
  rw [Bool.or_true, cond_true, cond_true]
  by_cases hf : (!(C8 a) || !(C8 b)) = true
  · rw [hf]; rfl
  · have hf : (!(C8 a) || !(C8 b)) = false := by simpa using hf
    rw [hf, cond_false, cond_true, cond_true, cond_true, cond_true]
    have fa : Jl a = true := by
      have := (Bool.or_eq_false_iff.1 hf).1
      unfold C8 at this
      simpa using this
    have fb : Jl b = true := by
      have := (Bool.or_eq_false_iff.1 hf).2
      unfold C8 at this
      simpa using this
    have xa := D7 a
    have xb := D7 b
    rw [Aw]
    by_cases hl : Ay a < Ay b
    · obtain ⟨X, r, hX, hr, e1, e2, e3, e4, e5⟩ := add_pre fb fa (by omega)
      have : decide (Ba a < Ba b) = true := by unfold Ba; simpa using hl
      rw [this, cond_true, e4, cond_true, e1, e2, add_code _ _ hX hr e3 (by omega) (by omega), e5, addN_comm]
      rfl
    · obtain ⟨X, r, hX, hr, e1, e2, e3, e4, e5⟩ := add_pre fa fb (by omega)
      have : decide (Ba a < Ba b) = false := by unfold Ba; simpa using hl
      rw [this, cond_false, e4, cond_true, e1, e2, add_code _ _ hX hr e3 (by omega) (by omega), e5]
      rfl
theorem sum.Sub.known : sum.Sub.Kn := sum.Sub.Ac (.cons soft.Cy.known (.cons sum.Add.known .nil)) fun a b hp => by
  obtain ⟨ha, hb⟩ := Ag.1 hp
  obtain ⟨b, rfl, hm⟩ := Bg hb
  refine ⟨0, sum.Sub.out [.i a, .i b], [], ?_, Wk.Gg (.cons .int (.cons .int .nil))⟩
  have : Ah (C0 (b : Int)) = true := by unfold C0; rw [Int.toNat_natCast]; exact By (Tp hm)
  rw [sum.Sub.ev, ha, hb, this]
  unfold Kk Ul C0
  rw [Int.toNat_natCast]
  rfl
end Go.Proofs.S1
end
