/- RefM of the verified evaluator and its use for this seat (of my texts S1EqRefM, S1PRefM). -/
import Derived.Test.YthopmgndjnnpnaaSpe
import Derived.Test.YthopmgndjnnpnaaRefE

/- The evaluator's equations: dioptraref01.single, dioptraref01.Mul, dioptraref02.Mul. Printed by denpy.py. -/
namespace Go.Proofs.S1
open Go Go.Den Go.Rnd Go.Proofs
set_option linter.unusedVariables false
set_option maxRecDepth 100000
namespace EqRefM
theorem tt0 (a : Bool) : (a && true) = a := by cases a <;> rfl
theorem tt1 (a b : Bool) : ((a && b) && true) = (a && b) := by cases a <;> cases b <;> rfl
def ref01.single.hint : Nat → Option LoopHint
  | 0 => some { keep := [0, 1, 5, 6, 7], objs := [(0, 5, 100005, .ints 84 .u32 [])], boxes := [] }
  | _ => none
noncomputable def ref01.single.tab : List (Nat × Entry) := []
noncomputable def ref01.single.E : Env := envOf (tabOf ref01.single.tab) (fun _ => false) ref01.single.hint (fun _ => none)
noncomputable def ref01.single.L0 (N M : Nat) (a : List Int) (x : Int) (p6 : Int) (p7 : Int) (p5 : List Int) : Option DV := loopAt ref01.single.E N Try.f98 (bodyOf Try.f98) [1, 1, 1, 0, 1, 0] [] M ⟨mkT 39 [(0, .ints .arg .u32 a), (1, .int .u32 x), (5, .oref 100005), (6, .int .u64 p6), (7, .int .i64 p7)], [(100005, false, .ints 84 .u32 p5)]⟩
theorem ref01.single.L0_step (N M : Nat) (a : List Int) (x : Int) (p6 : Int) (p7 : Int) (p5 : List Int) : ref01.single.L0 N (M + 1) a x p6 p7 p5 =
  bif (ltI p7 (List.length a : Int)) then
    bif ((decide (0 ≤ p7)) && (decide (p7 < (List.length a : Int)))) then
      bif (decide ((List.length p5) + 1 ≤ lim)) then
        ref01.single.L0 N M a x (w_u64 (Int.tdiv (w_u64 ((w_u64 ((w_u64 (List.getD a (Int.toNat p7) 0)) * (w_u64 x))) + p6)) (4294967296 : Int))) (w_i64 (p7 + (1 : Int))) (p5 ++ [(w_u32 (Int.tmod (w_u64 ((w_u64 ((w_u64 (List.getD a (Int.toNat p7) 0)) * (w_u64 x))) + p6)) (4294967296 : Int)))])
      else none
    else none
  else bif (decide ((List.length p5) + 1 ≤ lim)) then
    some (.ints (.own 38 84) .u32 (p5 ++ [(w_u32 p6)]))
  else none := by kernel_rfl
theorem ref01.single.ev (N : Nat) (a : List Int) (x : Int) : funD ref01.single.E N Try.f98 (bodyOf Try.f98) [.ints .arg .u32 a, .int .u32 x] =
  ref01.single.L0 N N a x (0 : Int) (0 : Int) [] := by kernel_rfl
theorem ref01.single.known_of (hk : Knowns Try.prog ref01.single.tab) (h : ∀ (a : List Int) (x : Int), ref01.single.pre [.l a, .i x] = true → ∃ N dv drops, funD ref01.single.E N Try.f98 (bodyOf Try.f98) [.ints .arg .u32 a, .int .u32 x] = some dv ∧ Wk drops dv (ref01.single.out [.l a, .i x])) : Known Try.prog 98 ref01.single.spec := by
  refine ⟨meets_entry (E := ref01.single.E) (env_ok hk _ _ _) Try.func98 (show Try.f98.body = some (bodyOf Try.f98) by kernel_rfl) fun ats dvs he hp => ?_, call_enter Try.func98 (by kernel_rfl) (show Try.f98.body = some (bodyOf Try.f98) by kernel_rfl)⟩
  obtain ⟨a, _, _, rfl, rfl, he0⟩ := he.s_inv
  obtain ⟨x, _, _, rfl, rfl, he1⟩ := he0.i_inv
  obtain ⟨rfl, rfl⟩ := he1.nil_inv
  exact h a x hp

def ref01.Mul.hint : Nat → Option LoopHint
  | 0 => some { keep := [2, 3, 4, 5, 6], objs := [(0, 5, 100005, .ints 84 .u32 [])], boxes := [2, 3, 4] }
  | _ => none
noncomputable def ref01.Mul.tab : List (Nat × Entry) := [(73, ref01.Made.spec), (91, ref01.plus.own.spec), (98, ref01.single.spec)]
noncomputable def ref01.Mul.E : Env := envOf (tabOf ref01.Mul.tab) (fun n => Nat.beq n 29) ref01.Mul.hint (fun _ => none)
noncomputable def ref01.Mul.L0 (N M : Nat) (n : Bool) (a : List Int) (m : Bool) (b : List Int) (p6 : Int) (p5 : List Int) : Option DV := loopAt ref01.Mul.E N Try.f94 (bodyOf Try.f94) [1, 1, 0, 1, 0] [] M ⟨mkT 37 [(2, .ptr 2 0 0), (3, .ptr 3 0 0), (4, .ptr 4 0 0), (5, .oref 100005), (6, .int .i64 p6)], [(2, false, .box [.bool n, .ints .arg .u32 a]), (3, false, .box [.bool m, .ints .arg .u32 b]), (4, false, .box [.bool false, .nil]), (100005, false, .ints 84 .u32 p5)]⟩
theorem ref01.Mul.L0_step (N M : Nat) (n : Bool) (a : List Int) (m : Bool) (b : List Int) (p6 : Int) (p5 : List Int) : ref01.Mul.L0 N (M + 1) n a m b p6 p5 =
  bif (leI (0 : Int) p6) then
    bif (decide (1 + (List.length p5) ≤ lim)) then
      bif ((decide (0 ≤ p6)) && (decide (p6 < (List.length b : Int)))) then
        bif (okL a && inU32 (List.getD b (Int.toNat p6) 0)) then
          bif (okL ([(0 : Int)] ++ p5) && okL (singleL a (List.getD b (Int.toNat p6) 0))) then
            ref01.Mul.L0 N M n a m b (w_i64 (p6 - (1 : Int))) (plusL ([(0 : Int)] ++ p5) (singleL a (List.getD b (Int.toNat p6) 0)))
          else none
        else none
      else none
    else none
  else bif (okL p5) then
    some (.agg [.bool (negW (wv (!(n == m)) p5)), .ints .arg .u32 (limbsI (wv (!(n == m)) p5))])
  else none :=
  Eq.trans (b := bif (leI (0 : Int) p6) then
    bif (decide (1 + (List.length p5) ≤ lim)) then
      bif (((decide (0 ≤ p6)) && (decide (p6 < (List.length b : Int)))) && true) then
        bif ((okL a && inU32 (List.getD b (Int.toNat p6) 0)) && true) then
          bif ((okL ([(0 : Int)] ++ p5) && okL (singleL a (List.getD b (Int.toNat p6) 0))) && true) then
            ref01.Mul.L0 N M n a m b (w_i64 (p6 - (1 : Int))) (plusL ([(0 : Int)] ++ p5) (singleL a (List.getD b (Int.toNat p6) 0)))
          else none
        else none
      else none
    else none
  else bif (okL p5) then
    some (.agg [.bool (negW (wv (!(n == m)) p5)), .ints .arg .u32 (limbsI (wv (!(n == m)) p5))])
  else none) (by kernel_rfl)
  (ifE (ifE (ifS (tt1 _ _) (ifS (tt0 _) (ifS (tt0 _) rfl rfl) rfl) rfl) rfl) rfl)
theorem ref01.Mul.ev (N : Nat) (n : Bool) (a : List Int) (m : Bool) (b : List Int) : funD ref01.Mul.E N Try.f94 (bodyOf Try.f94) [.agg [.bool n, .ints .arg .u32 a], .agg [.bool m, .ints .arg .u32 b]] =
  ref01.Mul.L0 N N n a m b (w_i64 ((List.length b : Int) - (1 : Int))) [] := by kernel_rfl
theorem ref01.Mul.known_of (hk : Knowns Try.prog ref01.Mul.tab) (h : ∀ (n : Bool) (a : List Int) (m : Bool) (b : List Int), ref01.Mul.pre [.b n, .l a, .b m, .l b] = true → ∃ N dv drops, funD ref01.Mul.E N Try.f94 (bodyOf Try.f94) [.agg [.bool n, .ints .arg .u32 a], .agg [.bool m, .ints .arg .u32 b]] = some dv ∧ Wk drops dv (ref01.Mul.out [.b n, .l a, .b m, .l b])) : Known Try.prog 94 ref01.Mul.spec := by
  refine ⟨meets_entry (E := ref01.Mul.E) (env_ok hk _ _ _) Try.func94 (show Try.f94.body = some (bodyOf Try.f94) by kernel_rfl) fun ats dvs he hp => ?_, call_enter Try.func94 (by kernel_rfl) (show Try.f94.body = some (bodyOf Try.f94) by kernel_rfl)⟩
  obtain ⟨_, _, _, _, rfl, rfl, hs0, he0⟩ := he.st_inv
  obtain ⟨n, _, _, rfl, rfl, he1⟩ := hs0.b_inv
  obtain ⟨a, _, _, rfl, rfl, he2⟩ := he1.s_inv
  obtain ⟨rfl, rfl⟩ := he2.nil_inv
  obtain ⟨_, _, _, _, rfl, rfl, hs3, he3⟩ := he0.st_inv
  obtain ⟨m, _, _, rfl, rfl, he4⟩ := hs3.b_inv
  obtain ⟨b, _, _, rfl, rfl, he5⟩ := he4.s_inv
  obtain ⟨rfl, rfl⟩ := he5.nil_inv
  obtain ⟨rfl, rfl⟩ := he3.nil_inv
  exact h n a m b hp

noncomputable def ref02.Mul.tab : List (Nat × Entry) := [(57, ref02.Of.spec), (94, ref01.Mul.spec)]
noncomputable def ref02.Mul.E : Env := envOf (tabOf ref02.Mul.tab) (fun _ => false) (fun _ => none) (fun _ => none)
theorem ref02.Mul.ev (N : Nat) (n : Bool) (a : List Int) (e : Int) (m : Bool) (b : List Int) (f : Int) : funD ref02.Mul.E N Try.f75 (bodyOf Try.f75) [.agg [.bool n, .ints .arg .u32 a, .int .i64 e], .agg [.bool m, .ints .arg .u32 b, .int .i64 f]] =
  bif (okM n a && okM m b) then
    bif (okW (negW (wv n a * wv m b)) (limbsI (wv n a * wv m b)) && okE2 (w_i64 (e + f))) then
      some (.agg [.bool (negW (mD (wv (negW (wv n a * wv m b)) (limbsI (wv n a * wv m b))))), .ints .arg .u32 (limbsI (mD (wv (negW (wv n a * wv m b)) (limbsI (wv n a * wv m b))))), .int .i64 (eD (wv (negW (wv n a * wv m b)) (limbsI (wv n a * wv m b))) (w_i64 (e + f)))])
    else none
  else none :=
  Eq.trans (b := bif ((okM n a && okM m b) && true) then
    bif ((okW (negW (wv n a * wv m b)) (limbsI (wv n a * wv m b)) && okE2 (w_i64 (e + f))) && true) then
      some (.agg [.bool (negW (mD (wv (negW (wv n a * wv m b)) (limbsI (wv n a * wv m b))))), .ints .arg .u32 (limbsI (mD (wv (negW (wv n a * wv m b)) (limbsI (wv n a * wv m b))))), .int .i64 (eD (wv (negW (wv n a * wv m b)) (limbsI (wv n a * wv m b))) (w_i64 (e + f)))])
    else none
  else none) (by kernel_rfl)
  (ifS (tt0 _) (ifS (tt0 _) rfl rfl) rfl)
theorem ref02.Mul.known_of (hk : Knowns Try.prog ref02.Mul.tab) (h : ∀ (n : Bool) (a : List Int) (e : Int) (m : Bool) (b : List Int) (f : Int), ref02.Mul.pre [.b n, .l a, .i e, .b m, .l b, .i f] = true → ∃ N dv drops, funD ref02.Mul.E N Try.f75 (bodyOf Try.f75) [.agg [.bool n, .ints .arg .u32 a, .int .i64 e], .agg [.bool m, .ints .arg .u32 b, .int .i64 f]] = some dv ∧ Wk drops dv (ref02.Mul.out [.b n, .l a, .i e, .b m, .l b, .i f])) : Known Try.prog 75 ref02.Mul.spec := by
  refine ⟨meets_entry (E := ref02.Mul.E) (env_ok hk _ _ _) Try.func75 (show Try.f75.body = some (bodyOf Try.f75) by kernel_rfl) fun ats dvs he hp => ?_, call_enter Try.func75 (by kernel_rfl) (show Try.f75.body = some (bodyOf Try.f75) by kernel_rfl)⟩
  obtain ⟨_, _, _, _, rfl, rfl, hs0, he0⟩ := he.st_inv
  obtain ⟨n, _, _, rfl, rfl, he1⟩ := hs0.b_inv
  obtain ⟨a, _, _, rfl, rfl, he2⟩ := he1.s_inv
  obtain ⟨e, _, _, rfl, rfl, he3⟩ := he2.i_inv
  obtain ⟨rfl, rfl⟩ := he3.nil_inv
  obtain ⟨_, _, _, _, rfl, rfl, hs4, he4⟩ := he0.st_inv
  obtain ⟨m, _, _, rfl, rfl, he5⟩ := hs4.b_inv
  obtain ⟨b, _, _, rfl, rfl, he6⟩ := he5.s_inv
  obtain ⟨f, _, _, rfl, rfl, he7⟩ := he6.i_inv
  obtain ⟨rfl, rfl⟩ := he7.nil_inv
  obtain ⟨rfl, rfl⟩ := he4.nil_inv
  exact h n a e m b f hp
end EqRefM
end Go.Proofs.S1

/- Products of whole and of dyadic numbers: dioptraref01.single, .Mul, dioptraref02.Mul. -/
namespace Go.Proofs.S1
open Go Go.Den Go.Rnd Go.Proofs
open EqRefM

theorem okM_get {n : Bool} {l : List Int} (h : okM n l = true) : ∃ v, n = negW v ∧ l = limbsI v ∧ lenN v.natAbs < 33554432 := by
  have h := cdec_eq.1 h
  obtain ⟨h1, h2, h3⟩ := h
  obtain ⟨e1, e2⟩ := canon_get h2 h3
  refine ⟨wv n l, e1, e2, ?_⟩
  rw [e2, length_limbsI] at h1
  exact h1

theorem okM_of {v : Int} (h : lenN v.natAbs < 33554432) : okM (negW v) (limbsI v) = true :=
  cdec_eq.2 ⟨by rw [length_limbsI]; exact h, canon_of v⟩

theorem ref01.plus.own.known : Known Try.prog 91 ref01.plus.own.spec := by
  refine ⟨meets_entry (E := EqRefA.ref01.plus.E) (env_ok (.cons ref01.limb.known .nil) _ _ _) Try.func91 (show Try.f91.body = some (bodyOf Try.f91) by kernel_rfl) fun ats dvs he hp => ?_, call_enter Try.func91 (by kernel_rfl) (show Try.f91.body = some (bodyOf Try.f91) by kernel_rfl)⟩
  obtain ⟨a, _, _, rfl, rfl, he0⟩ := he.s_inv
  obtain ⟨b, _, _, rfl, rfl, he1⟩ := he0.s_inv
  obtain ⟨rfl, rfl⟩ := he1.nil_inv
  obtain ⟨ha, hb⟩ := and_true_iff.1 (show (okL a && okL b) = true from hp)
  refine ⟨max a.length b.length + 2, .ints (.own 100005 84) .u32 (plusL a b), [], ?_, .keep _ _ _ _ (List.not_mem_nil)⟩
  rw [EqRefA.ref01.plus.ev]
  exact plus_loop _ ha hb (max a.length b.length + 1) 0 0 _ (by omega) (by omega) (by omega) (by simp)

theorem single_bound {x y c : Nat} (hx : x < 4294967296) (hy : y < 4294967296) (hc : c < 4294967296) : x * y + c < 18446744073709551616 := by
  have := Nat.mul_le_mul (show x ≤ 4294967295 by omega) (show y ≤ 4294967295 by omega)
  omega

theorem single_loop (N : Nat) {a : List Int} {X : Nat} (ha : okL a = true) (hX : X < 4294967296) : ∀ (k i c F : Nat), i + k = a.length → k < F → c < 4294967296 →
    valL a / 2 ^ (32 * i) * X + c = valL a * X / 2 ^ (32 * i) →
    ref01.single.L0 N F a (X : Int) (c : Int) (i : Int) (digits i (valL a * X)) = some (.ints (.own 38 84) .u32 (singleL a (X : Int))) := by
  obtain ⟨la, ia⟩ := okL_get ha
  intro k
  induction k with
  | zero =>
    intro i c F hi hF hc h
    obtain ⟨F, rfl⟩ : ∃ G, F = G + 1 := ⟨F - 1, by omega⟩
    have t0 : decide ((i : Int) < (a.length : Int)) = false := decide_eq_false (by omega)
    have t1 : decide ((digits i (valL a * X)).length + 1 ≤ lim) = true := decide_eq_true (by rw [digits_length]; unfold lim; omega)
    have hz : valL a / 2 ^ (32 * i) = 0 := Nat.div_eq_of_lt (by rw [show i = a.length by omega]; exact valL_lt ia)
    rw [hz, Nat.zero_mul, Nat.zero_add] at h
    rw [ref01.single.L0_step, ltI_eq, t0, cond_false, t1, cond_true, w_u32_in (by omega) (by omega)]
    unfold singleL
    rw [Int.toNat_natCast, digits_snoc, ← show i = a.length by omega, ← h, Nat.mod_eq_of_lt hc]
  | succ k ih =>
    intro i c F hi hF hc h
    obtain ⟨F, rfl⟩ : ∃ G, F = G + 1 := ⟨F - 1, by omega⟩
    have t0 : decide ((i : Int) < (a.length : Int)) = true := decide_eq_true (by omega)
    have t2 : decide ((0 : Int) ≤ (i : Int)) = true := decide_eq_true (by omega)
    have t1 : decide ((digits i (valL a * X)).length + 1 ≤ lim) = true := decide_eq_true (by rw [digits_length]; unfold lim; omega)
    rw [ref01.single.L0_step, ltI_eq, t0, t1, t2]
    simp only [cond_true, Bool.and_self]
    rw [Int.toNat_natCast, get_val ia i]
    have ih := ih (i + 1)
    rw [pow32, Nat.mul_comm 4294967296, ← Nat.div_div_eq_div_mul, ← Nat.div_div_eq_div_mul, digits_snoc] at ih
    generalize valL a / 2 ^ (32 * i) = x at *
    generalize valL a * X / 2 ^ (32 * i) = z at *
    have hb := single_bound (x := x % 4294967296) (y := X) (c := c) (Nat.mod_lt _ (by decide)) hX hc
    have hm : x * X = x / 4294967296 * X * 4294967296 + x % 4294967296 * X := by
      rw [Nat.mul_right_comm, ← Nat.add_mul]
      congr 1
      omega
    have e1 : w_u64 (w_u64 (w_u64 ((x % 4294967296 : Nat) : Int) * w_u64 (X : Int)) + (c : Int)) = ((x % 4294967296 * X + c : Nat) : Int) := by
      rw [w_u64_in (x := ((x % 4294967296 : Nat) : Int)) (by omega) (by omega), w_u64_in (x := (X : Int)) (by omega) (by omega), ← Int.natCast_mul, w_u64_in (x := ((x % 4294967296 * X : Nat) : Int)) (by omega) (by omega), w_u64_in (by omega) (by omega)]
      omega
    have hlt : (x % 4294967296 * X + c) / 4294967296 < 4294967296 := by omega
    rw [e1, lit32, tmod_nat, tdiv_nat, w_u32_in (by omega) (by omega), w_u64_in (by omega) (by omega), w_i64_in (by omega) (by omega)]
    rw [hm] at h
    generalize x % 4294967296 * X = p at *
    generalize x / 4294967296 * X = q at *
    have e2 : (p + c) % 4294967296 = z % 4294967296 := by omega
    rw [e2]
    exact ih ((p + c) / 4294967296) F (by omega) (by omega) hlt (by omega)

theorem ref01.single.known : Known Try.prog 98 ref01.single.spec := ref01.single.known_of .nil fun a x hp => by
  obtain ⟨ha, hx⟩ := and_true_iff.1 hp
  have hx := cdec_eq.1 hx
  obtain ⟨X, rfl⟩ : ∃ k : Nat, x = k := ⟨x.toNat, by omega⟩
  refine ⟨a.length + 1, .ints (.own 38 84) .u32 (singleL a X), [38], ?_, own_arg⟩
  rw [ref01.single.ev]
  exact single_loop _ ha (by omega) a.length 0 0 _ (by omega) (by omega) (by omega) (by simp)

theorem singleL_in (a : List Int) (x : Int) : inL (singleL a x) := digits_in _ _
theorem singleL_length (a : List Int) (x : Int) : (singleL a x).length = a.length + 1 := digits_length _ _
theorem singleL_val {a : List Int} (ia : inL a) {X : Nat} (hX : X < 4294967296) : valL (singleL a (X : Int)) = valL a * X := by
  have h := valL_lt ia
  unfold singleL
  rw [valL_digits, Int.toNat_natCast, Nat.mod_eq_of_lt]
  rw [pow32, Nat.mul_comm 4294967296]
  exact Nat.mul_lt_mul'' h hX

theorem mul_loop (N : Nat) {n m : Bool} {a b : List Int} (ha : inL a) (hb : inL b) (la : a.length < 33554432) (lb : b.length < 33554432) :
    ∀ (j F : Nat) (p : List Int), j ≤ b.length → j < F → inL p → p.length ≤ a.length + 2 * (b.length - j) → valL p = valL a * (valL b / 2 ^ (32 * j)) →
    ref01.Mul.L0 N F n a m b ((j : Int) - 1) p = some (.agg [.bool (negW (sgn (!(n == m)) (valL a * valL b))), .ints .arg .u32 (limbsI (sgn (!(n == m)) (valL a * valL b)))]) := by
  intro j
  induction j with
  | zero =>
    intro F p hj hF ip lp vp
    obtain ⟨F, rfl⟩ : ∃ G, F = G + 1 := ⟨F - 1, by omega⟩
    have o : okL p = true := okL_of (by omega) ip
    rw [Nat.mul_zero, Nat.pow_zero, Nat.div_one] at vp
    rw [ref01.Mul.L0_step, leI_eq, decide_eq_false (by omega), cond_false, o, cond_true]
    unfold wv
    rw [vp]
  | succ j ih =>
    intro F p hj hF ip lp vp
    obtain ⟨F, rfl⟩ : ∃ G, F = G + 1 := ⟨F - 1, by omega⟩
    have e0 : ((j + 1 : Nat) : Int) - 1 = (j : Int) := by omega
    have hX : valL b / 2 ^ (32 * j) % 4294967296 < 4294967296 := Nat.mod_lt _ (by decide)
    have o1 : okL a = true := okL_of (by omega) ha
    have i0 : inL ([(0 : Int)] ++ p) := inL_zero ip
    have o2 : okL ([(0 : Int)] ++ p) = true := okL_of (by rw [List.length_append]; show 1 + p.length < _; omega) i0
    have o3 : okL (singleL a ((valL b / 2 ^ (32 * j) % 4294967296 : Nat) : Int)) = true := okL_of (by rw [singleL_length]; omega) (singleL_in _ _)
    have o4 : inU32 ((valL b / 2 ^ (32 * j) % 4294967296 : Nat) : Int) = true := cdec_eq.2 (by omega)
    have vz : valL ([(0 : Int)] ++ p) = 4294967296 * valL p := by
      show (0 : Int).toNat + 4294967296 * valL p = _
      rw [show (0 : Int).toNat = 0 from rfl, Nat.zero_add]
    have c1 : decide (1 + p.length ≤ lim) = true := decide_eq_true (by unfold lim; omega)
    have c2 : decide ((j : Int) < (b.length : Int)) = true := decide_eq_true (by omega)
    have c3 : decide ((0 : Int) ≤ (j : Int)) = true := decide_eq_true (by omega)
    rw [e0, ref01.Mul.L0_step, leI_eq, c3, cond_true, c1, cond_true, c2, Bool.and_self, cond_true, Int.toNat_natCast, get_val hb j, o1, o4, Bool.and_self, cond_true, o2, o3, Bool.and_self, cond_true, w_i64_in (by omega) (by omega)]
    refine ih F _ (by omega) (by omega) (plusL_in _ _) ?_ ?_
    · rw [plusL_length, List.length_append, singleL_length]
      show max (1 + p.length) _ + 1 ≤ _
      omega
    · rw [plusL_val i0 (singleL_in _ _), vz, singleL_val ha hX, vp, pow32, Nat.mul_comm 4294967296 (2 ^ (32 * j)), ← Nat.div_div_eq_div_mul, Nat.mul_left_comm, ← Nat.mul_add]
      congr 1
      omega

theorem sgn_mul (s t : Bool) (x y : Nat) : sgn (!(s == t)) (x * y) = sgn s x * sgn t y := by
  unfold sgn
  cases s <;> cases t <;> simp [Int.natCast_mul, Int.neg_mul, Int.mul_neg]

theorem ref01.Mul.known : Known Try.prog 94 ref01.Mul.spec := ref01.Mul.known_of (.cons ref01.Made.known (.cons ref01.plus.own.known (.cons ref01.single.known .nil))) fun n a m b hp => by
  obtain ⟨h1, h2⟩ := and_true_iff.1 hp
  obtain ⟨v, rfl, rfl, hv⟩ := okM_get h1
  obtain ⟨w, rfl, rfl, hw⟩ := okM_get h2
  refine ⟨(limbsI w).length + 1, ref01.Mul.out [.b (negW v), .l (limbsI v), .b (negW w), .l (limbsI w)], [], ?_, wagg⟩
  have lv := length_limbsI v
  have lw := length_limbsI w
  have iw := limbsI_in w
  have hz : valL (limbsI w) / 2 ^ (32 * (limbsI w).length) = 0 := Nat.div_eq_of_lt (valL_lt iw)
  rw [ref01.Mul.ev, w_i64_in (by omega) (by omega)]
  refine (mul_loop _ (limbsI_in v) iw (by omega) (by omega) (limbsI w).length _ [] (Nat.le_refl _) (by omega) (fun x h => by cases h) (by show 0 ≤ _; omega) (by rw [hz, Nat.mul_zero]; rfl)).trans ?_
  rw [sgn_mul]
  rfl

theorem lenN_mul (n m : Nat) : lenN (n * m) ≤ lenN n + lenN m := by
  refine lenN_le ?_
  rw [Nat.mul_add, Nat.pow_add]
  exact Nat.mul_lt_mul'' (lt_lenN n) (lt_lenN m)

theorem ref02.Mul.known : Known Try.prog 75 ref02.Mul.spec := ref02.Mul.known_of (.cons ref02.Of.known (.cons ref01.Mul.known .nil)) fun n a e m b f hp => by
  obtain ⟨h1, h2⟩ := and_true_iff.1 hp
  obtain ⟨h3, h4⟩ := and_true_iff.1 h2
  have he := cdec_eq.1 h3
  have hf := cdec_eq.1 h4
  obtain ⟨h5, h6⟩ := and_true_iff.1 h1
  obtain ⟨v, rfl, rfl, hv⟩ := okM_get h5
  obtain ⟨w, rfl, rfl, hw⟩ := okM_get h6
  refine ⟨0, ref02.Mul.out [.b (negW v), .l (limbsI v), .i e, .b (negW w), .l (limbsI w), .i f], [], ?_, wdy⟩
  have hl := lenN_mul v.natAbs w.natAbs
  have o1 : okW (negW (v * w)) (limbsI (v * w)) = true := okW_of (by rw [Int.natAbs_mul]; omega)
  have o2 : okE2 (e + f) = true := cdec_eq.2 (by omega)
  rw [ref02.Mul.ev, h5, h6, Bool.and_self, cond_true, w_i64_in (by omega) (by omega)]
  simp only [wv_of]
  rw [o1, o2, Bool.and_self, cond_true]
  show _ = some (DV.agg [.bool (negW (mD (wv (negW v) (limbsI v) * wv (negW w) (limbsI w)))), .ints .arg .u32 (limbsI (mD (wv (negW v) (limbsI v) * wv (negW w) (limbsI w)))), .int .i64 (eD (wv (negW v) (limbsI v) * wv (negW w) (limbsI w)) (e + f))])
  rw [wv_of, wv_of]

end Go.Proofs.S1
