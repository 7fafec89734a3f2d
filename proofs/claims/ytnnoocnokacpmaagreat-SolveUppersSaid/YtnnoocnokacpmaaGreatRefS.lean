/- RefS of the verified evaluator and its use for this seat (of my texts S1EqRef17, S1PRef17). -/
import Derived.Test.YtnnoocnokacpmaaGreatSpe
import Derived.Test.YtnnoocnokacpmaaGreatSol
import Derived.Test.YtnnoocnokacpmaaGreatCmp

/- The evaluator's equations: dioptraref09.Div, dioptraref09.Finite, dioptraref11.Check, dioptraref17.Check, dioptraref17.finite, dioptraref17.Upper. Printed by denpy.py. -/
namespace Go.Proofs.S1
open Go Go.Den Go.Rnd Go.Proofs
set_option linter.unusedVariables false
set_option maxRecDepth 100000
namespace EqRef17
theorem tt0 (a b : Bool) : (bif a then true else b) = (a || b) := by cases a <;> cases b <;> rfl
theorem tt1 (a : Bool) : ((!(!a)) || (a == false)) = true := by cases a <;> rfl
theorem tt2 (a : Bool) : ((!(a == false)) || ((((!(a == false)) || (a == false)) && (((!(a == false)) || (a == false)) && true)) && true)) = true := by cases a <;> rfl
theorem tt3 (a : Bool) : ((!(a == false)) || ((((!(a == false)) || (a == false)) && true) && true)) = true := by cases a <;> rfl
theorem tt4 (a : Bool) : ((!(a == false)) || true) = true := by cases a <;> rfl
theorem tt5 (a : Bool) : (a && true) = a := by cases a <;> rfl
noncomputable def ref09.Div.tab : List (Nat × Entry) := [(76, ref09.B.spec), (120, ref09.F.spec)]
noncomputable def ref09.Div.E : Env := envOf (tabOf ref09.Div.tab) (fun _ => false) (fun _ => none) (fun _ => none)
theorem ref09.Div.ev (N : Nat) (a : Int) (b : Int) : funD ref09.Div.E N Tryz.f56 (bodyOf Tryz.f56) [.int .u64 a, .int .u64 b] =
  bif (inU64 a) then
  bif (inU64 b) then
  some (.int .u64 (canonNI ((Ieee.double.div (Int.toNat a) (Int.toNat b)).getD nanBits)))
  else none
  else none := by kernel_rfl
theorem ref09.Div.known_of (hk : Knowns Tryz.prog ref09.Div.tab) (h : ∀ (a : Int) (b : Int), ref09.Div.pre [.i a, .i b] = true → ∃ N dv drops, funD ref09.Div.E N Tryz.f56 (bodyOf Tryz.f56) [.int .u64 a, .int .u64 b] = some dv ∧ Wk drops dv (ref09.Div.out [.i a, .i b])) : Known Tryz.prog 56 ref09.Div.spec := by
  refine ⟨meets_entry (E := ref09.Div.E) (env_ok hk _ _ _) Tryz.func56 (show Tryz.f56.body = some (bodyOf Tryz.f56) by kernel_rfl) fun ats dvs he hp => ?_, call_enter Tryz.func56 (by kernel_rfl) (show Tryz.f56.body = some (bodyOf Tryz.f56) by kernel_rfl)⟩
  obtain ⟨a, _, _, rfl, rfl, he0⟩ := he.i_inv
  obtain ⟨b, _, _, rfl, rfl, he1⟩ := he0.i_inv
  obtain ⟨rfl, rfl⟩ := he1.nil_inv
  exact h a b hp

def ref09.Finite.hint : Nat → Option LoopHint
  | 0 => some { keep := [0, 3], objs := [], boxes := [] }
  | _ => none
noncomputable def ref09.Finite.tab : List (Nat × Entry) := [(124, ref04.Finite.spec)]
noncomputable def ref09.Finite.E : Env := envOf (tabOf ref09.Finite.tab) (fun _ => false) ref09.Finite.hint (fun _ => none)
noncomputable def ref09.Finite.L0 (N M : Nat) (x : List Int) (p3 : Int) : Option DV := loopAt ref09.Finite.E N Tryz.f66 (bodyOf Tryz.f66) [1, 0, 1, 0] [] M ⟨mkT 16 [(0, .ints .arg .u64 x), (3, .int .i64 p3)], []⟩
theorem ref09.Finite.L0_step (N M : Nat) (x : List Int) (p3 : Int) : ref09.Finite.L0 N (M + 1) x p3 =
  bif (ltI p3 (List.length x : Int)) then
  bif ((decide (0 ≤ p3)) && (decide (p3 < (List.length x : Int)))) then
  bif (inU64 (List.getD x (Int.toNat p3) 0)) then
  bif (!(finI (List.getD x (Int.toNat p3) 0))) then
  some (.bool false)
  else ref09.Finite.L0 N M x (w_i64 (p3 + (1 : Int)))
  else none
  else none
  else some (.bool true) := by kernel_rfl
theorem ref09.Finite.ev (N : Nat) (x : List Int) : funD ref09.Finite.E N Tryz.f66 (bodyOf Tryz.f66) [.ints .arg .u64 x] =
  ref09.Finite.L0 N N x (0 : Int) := by kernel_rfl
theorem ref09.Finite.known_of (hk : Knowns Tryz.prog ref09.Finite.tab) (h : ∀ (x : List Int), ref09.Finite.pre [.l x] = true → ∃ N dv drops, funD ref09.Finite.E N Tryz.f66 (bodyOf Tryz.f66) [.ints .arg .u64 x] = some dv ∧ Wk drops dv (ref09.Finite.out [.l x])) : Known Tryz.prog 66 ref09.Finite.spec := by
  refine ⟨meets_entry (E := ref09.Finite.E) (env_ok hk _ _ _) Tryz.func66 (show Tryz.f66.body = some (bodyOf Tryz.f66) by kernel_rfl) fun ats dvs he hp => ?_, call_enter Tryz.func66 (by kernel_rfl) (show Tryz.f66.body = some (bodyOf Tryz.f66) by kernel_rfl)⟩
  obtain ⟨x, _, _, rfl, rfl, he0⟩ := he.s_inv
  obtain ⟨rfl, rfl⟩ := he0.nil_inv
  exact h x hp

noncomputable def ref11.Check.tab : List (Nat × Entry) := [(66, ref09.Finite.spec), (65, ref10.Right.spec)]
noncomputable def ref11.Check.E : Env := envOf (tabOf ref11.Check.tab) (fun _ => false) (fun _ => none) (fun _ => none)
theorem ref11.Check.ev (N : Nat) (r : Int) (c : Int) (l : List Int) : funD ref11.Check.E N Tryz.f20 (bodyOf Tryz.f20) [.agg [.int .i64 r, .int .i64 c, .ints .arg .u64 l]] =
  bif (!(rightB r c l)) then
  some (.int .i64 (1 : Int))
  else bif (okU64 l) then
  bif (!(finL l)) then
  some (.int .i64 (4 : Int))
  else some (.int .i64 (0 : Int))
  else none := by kernel_rfl
theorem ref11.Check.known_of (hk : Knowns Tryz.prog ref11.Check.tab) (h : ∀ (r : Int) (c : Int) (l : List Int), ref11.Check.pre [.i r, .i c, .l l] = true → ∃ N dv drops, funD ref11.Check.E N Tryz.f20 (bodyOf Tryz.f20) [.agg [.int .i64 r, .int .i64 c, .ints .arg .u64 l]] = some dv ∧ Wk drops dv (ref11.Check.out [.i r, .i c, .l l])) : Known Tryz.prog 20 ref11.Check.spec := by
  refine ⟨meets_entry (E := ref11.Check.E) (env_ok hk _ _ _) Tryz.func20 (show Tryz.f20.body = some (bodyOf Tryz.f20) by kernel_rfl) fun ats dvs he hp => ?_, call_enter Tryz.func20 (by kernel_rfl) (show Tryz.f20.body = some (bodyOf Tryz.f20) by kernel_rfl)⟩
  obtain ⟨_, _, _, _, rfl, rfl, hs0, he0⟩ := he.st_inv
  obtain ⟨r, _, _, rfl, rfl, he1⟩ := hs0.i_inv
  obtain ⟨c, _, _, rfl, rfl, he2⟩ := he1.i_inv
  obtain ⟨l, _, _, rfl, rfl, he3⟩ := he2.s_inv
  obtain ⟨rfl, rfl⟩ := he3.nil_inv
  obtain ⟨rfl, rfl⟩ := he0.nil_inv
  exact h r c l hp

def ref17.Check.hint : Nat → Option LoopHint
  | 0 => some { keep := [2, 5], objs := [], boxes := [2] }
  | _ => none
noncomputable def ref17.Check.tab : List (Nat × Entry) := [(41, ref04.Kind.spec), (52, ref10.At.spec), (20, ref11.Check.spec)]
noncomputable def ref17.Check.E : Env := envOf (tabOf ref17.Check.tab) (fun _ => false) ref17.Check.hint (fun _ => none)
noncomputable def ref17.Check.L0 (N M : Nat) (r : Int) (c : Int) (l : List Int) (p5 : Int) : Option DV := loopAt ref17.Check.E N Tryz.f51 (bodyOf Tryz.f51) [1, 1, 1, 1, 0, 1, 0] [] M ⟨mkT 40 [(2, .ptr 2 0 0), (5, .int .i64 p5)], [(2, false, .box [.int .i64 r, .int .i64 c, .ints .arg .u64 l])]⟩
theorem ref17.Check.L0_step (N M : Nat) (r : Int) (c : Int) (l : List Int) (p5 : Int) : ref17.Check.L0 N (M + 1) r c l p5 =
  bif (ltI p5 r) then
  bif (atPre r c l p5 p5) then
  bif (natI (atI c l p5 p5)) then
  bif ((kindI (atI c l p5 p5)) == (0 : Int)) then
  some (.int .i64 (5 : Int))
  else ref17.Check.L0 N M r c l (w_i64 (p5 + (1 : Int)))
  else none
  else none
  else some (.int .i64 (0 : Int)) := by kernel_rfl
theorem ref17.Check.ev (N : Nat) (r : Int) (c : Int) (l : List Int) (p : Int) (q : Int) (m : List Int) : funD ref17.Check.E N Tryz.f51 (bodyOf Tryz.f51) [.agg [.int .i64 r, .int .i64 c, .ints .arg .u64 l], .agg [.int .i64 p, .int .i64 q, .ints .arg .u64 m]] =
  bif (allU64 l) then
  bif ((chkFI r c l) != (0 : Int)) then
  bif (allU64 l) then
  some (.int .i64 (chkFI r c l))
  else none
  else bif (allU64 m) then
  bif ((chkFI p q m) != (0 : Int)) then
  bif (allU64 m) then
  some (.int .i64 (chkFI p q m))
  else none
  else bif ((r != c) || (r != p)) then
  some (.int .i64 (3 : Int))
  else ref17.Check.L0 N N r c l (0 : Int)
  else none
  else none :=
  Eq.trans (by kernel_rfl)
  (ifE (ifE rfl (ifE (ifE rfl (ifTn (tt4 (r != c)) (ifTn (tt3 (r != c)) (ifTn (tt4 (r != c)) (ifTn (tt3 (r != c)) (ifTn (tt2 (r != c)) (ifTn (tt1 (r != c)) (ifS (tt0 (r != c) (r != p)) rfl rfl)))))))) rfl)) rfl)
theorem ref17.Check.known_of (hk : Knowns Tryz.prog ref17.Check.tab) (h : ∀ (r : Int) (c : Int) (l : List Int) (p : Int) (q : Int) (m : List Int), ref17.Check.pre [.i r, .i c, .l l, .i p, .i q, .l m] = true → ∃ N dv drops, funD ref17.Check.E N Tryz.f51 (bodyOf Tryz.f51) [.agg [.int .i64 r, .int .i64 c, .ints .arg .u64 l], .agg [.int .i64 p, .int .i64 q, .ints .arg .u64 m]] = some dv ∧ Wk drops dv (ref17.Check.out [.i r, .i c, .l l, .i p, .i q, .l m])) : Known Tryz.prog 51 ref17.Check.spec := by
  refine ⟨meets_entry (E := ref17.Check.E) (env_ok hk _ _ _) Tryz.func51 (show Tryz.f51.body = some (bodyOf Tryz.f51) by kernel_rfl) fun ats dvs he hp => ?_, call_enter Tryz.func51 (by kernel_rfl) (show Tryz.f51.body = some (bodyOf Tryz.f51) by kernel_rfl)⟩
  obtain ⟨_, _, _, _, rfl, rfl, hs0, he0⟩ := he.st_inv
  obtain ⟨r, _, _, rfl, rfl, he1⟩ := hs0.i_inv
  obtain ⟨c, _, _, rfl, rfl, he2⟩ := he1.i_inv
  obtain ⟨l, _, _, rfl, rfl, he3⟩ := he2.s_inv
  obtain ⟨rfl, rfl⟩ := he3.nil_inv
  obtain ⟨_, _, _, _, rfl, rfl, hs4, he4⟩ := he0.st_inv
  obtain ⟨p, _, _, rfl, rfl, he5⟩ := hs4.i_inv
  obtain ⟨q, _, _, rfl, rfl, he6⟩ := he5.i_inv
  obtain ⟨m, _, _, rfl, rfl, he7⟩ := he6.s_inv
  obtain ⟨rfl, rfl⟩ := he7.nil_inv
  obtain ⟨rfl, rfl⟩ := he4.nil_inv
  exact h r c l p q m hp

noncomputable def ref17.finite.tab : List (Nat × Entry) := [(66, ref09.Finite.spec)]
noncomputable def ref17.finite.E : Env := envOf (tabOf ref17.finite.tab) (fun _ => false) (fun _ => none) (fun _ => none)
theorem ref17.finite.ev (N : Nat) (r : Int) (c : Int) (l : List Int) : funD ref17.finite.E N Tryz.f57 (bodyOf Tryz.f57) [.agg [.int .i64 r, .int .i64 c, .ints .arg .u64 l]] =
  bif (okU64 l) then
  bif (!(finL l)) then
  some (.tup [.agg [.int .i64 (0 : Int), .int .i64 (0 : Int), .nil], .int .i64 (2 : Int)])
  else some (.tup [.agg [.int .i64 r, .int .i64 c, .ints .arg .u64 l], .int .i64 (0 : Int)])
  else none := by kernel_rfl
theorem ref17.finite.known_of (hk : Knowns Tryz.prog ref17.finite.tab) (h : ∀ (r : Int) (c : Int) (l : List Int), ref17.finite.pre [.i r, .i c, .l l] = true → ∃ N dv drops, funD ref17.finite.E N Tryz.f57 (bodyOf Tryz.f57) [.agg [.int .i64 r, .int .i64 c, .ints .arg .u64 l]] = some dv ∧ Wk drops dv (ref17.finite.out [.i r, .i c, .l l])) : Known Tryz.prog 57 ref17.finite.spec := by
  refine ⟨meets_entry (E := ref17.finite.E) (env_ok hk _ _ _) Tryz.func57 (show Tryz.f57.body = some (bodyOf Tryz.f57) by kernel_rfl) fun ats dvs he hp => ?_, call_enter Tryz.func57 (by kernel_rfl) (show Tryz.f57.body = some (bodyOf Tryz.f57) by kernel_rfl)⟩
  obtain ⟨_, _, _, _, rfl, rfl, hs0, he0⟩ := he.st_inv
  obtain ⟨r, _, _, rfl, rfl, he1⟩ := hs0.i_inv
  obtain ⟨c, _, _, rfl, rfl, he2⟩ := he1.i_inv
  obtain ⟨l, _, _, rfl, rfl, he3⟩ := he2.s_inv
  obtain ⟨rfl, rfl⟩ := he3.nil_inv
  obtain ⟨rfl, rfl⟩ := he0.nil_inv
  exact h r c l hp

def ref17.Upper.hint : Nat → Option LoopHint
  | 0 => some { keep := [2, 3, 4, 6, 7], objs := [], boxes := [2, 3, 4, 6] }
  | 2 => some { keep := [2, 3, 4, 6, 7, 8], objs := [], boxes := [2, 3, 4, 6] }
  | 4 => some { keep := [2, 3, 4, 6, 7, 8, 9, 10], objs := [], boxes := [2, 3, 4, 6] }
  | _ => none
noncomputable def ref17.Upper.tab : List (Nat × Entry) := [(56, ref09.Div.spec), (54, ref09.Mul.spec), (53, ref09.Sub.spec), (52, ref10.At.spec), (55, ref10.With.spec), (28, ref10.Zeros.spec), (51, ref17.Check.spec), (57, ref17.finite.spec)]
noncomputable def ref17.Upper.E : Env := envOf (tabOf ref17.Upper.tab) (fun _ => false) ref17.Upper.hint (fun _ => none)
noncomputable def ref17.Upper.L0 (N M : Nat) (r : Int) (c : Int) (l : List Int) (p : Int) (q : Int) (m : List Int) (p7 : Int) (p6_2 : List Int) : Option DV := loopAt ref17.Upper.E N Tryz.f14 (bodyOf Tryz.f14) [1, 1, 1, 0, 1, 0] [] M ⟨mkT 74 [(2, .ptr 2 0 0), (3, .ptr 3 0 0), (4, .ptr 4 0 0), (6, .ptr 6 0 0), (7, .int .i64 p7)], [(2, false, .box [.int .i64 r, .int .i64 c, .ints .arg .u64 l]), (3, false, .box [.int .i64 p, .int .i64 q, .ints .arg .u64 m]), (4, false, .box [.int .i64 (0 : Int), .int .i64 (0 : Int), .nil]), (6, false, .box [.int .i64 p, .int .i64 q, .ints .fresh .u64 p6_2])]⟩
noncomputable def ref17.Upper.L1 (N M0 M : Nat) (r : Int) (c : Int) (l : List Int) (p : Int) (q : Int) (m : List Int) (p8 : Int) (p6 : List Int) (p7_1 : Int) : Option DV := loopAt ref17.Upper.E N Tryz.f14 (bodyOf Tryz.f14) [1, 1, 1, 0, 1, 0, 0, 1, 0, 0, 1, 0] [M0] M ⟨mkT 74 [(2, .ptr 2 0 0), (3, .ptr 3 0 0), (4, .ptr 4 0 0), (6, .ptr 6 0 0), (7, .int .i64 p7_1), (8, .int .i64 p8)], [(2, false, .box [.int .i64 r, .int .i64 c, .ints .arg .u64 l]), (3, false, .box [.int .i64 p, .int .i64 q, .ints .arg .u64 m]), (4, false, .box [.int .i64 (0 : Int), .int .i64 (0 : Int), .nil]), (6, false, .box [.int .i64 p, .int .i64 q, .ints .fresh .u64 p6])]⟩
noncomputable def ref17.Upper.L2 (N M0 M1 M : Nat) (r : Int) (c : Int) (l : List Int) (p : Int) (q : Int) (m : List Int) (p9 : Int) (p10 : Int) (p7_2 : Int) (p8_1 : Int) (p6_1 : List Int) : Option DV := loopAt ref17.Upper.E N Tryz.f14 (bodyOf Tryz.f14) [1, 1, 1, 0, 1, 0, 0, 1, 0, 0, 1, 0, 0, 1, 0, 0, 1, 0, 1, 0] [M0, M1] M ⟨mkT 74 [(2, .ptr 2 0 0), (3, .ptr 3 0 0), (4, .ptr 4 0 0), (6, .ptr 6 0 0), (7, .int .i64 p7_2), (8, .int .i64 p8_1), (9, .int .u64 p9), (10, .int .i64 p10)], [(2, false, .box [.int .i64 r, .int .i64 c, .ints .arg .u64 l]), (3, false, .box [.int .i64 p, .int .i64 q, .ints .arg .u64 m]), (4, false, .box [.int .i64 (0 : Int), .int .i64 (0 : Int), .nil]), (6, false, .box [.int .i64 p, .int .i64 q, .ints .fresh .u64 p6_1])]⟩
theorem ref17.Upper.L0_step (N M : Nat) (r : Int) (c : Int) (l : List Int) (p : Int) (q : Int) (m : List Int) (p7 : Int) (p6_2 : List Int) : ref17.Upper.L0 N (M + 1) r c l p q m p7 p6_2 =
  bif (ltI p7 q) then
  ref17.Upper.L1 N M N r c l p q m (w_i64 (r - (1 : Int))) p6_2 p7
  else bif (allU64 p6_2 && rightB p q p6_2) then
  some (.tup [.agg [.int .i64 ((finX p q p6_2).1), .int .i64 ((finX p q p6_2).2.1), .ints .arg .u64 ((finX p q p6_2).2.2.1)], .int .i64 ((finX p q p6_2).2.2.2)])
  else none := by kernel_rfl
theorem ref17.Upper.L1_step (N M0 M : Nat) (r : Int) (c : Int) (l : List Int) (p : Int) (q : Int) (m : List Int) (p8 : Int) (p6 : List Int) (p7_1 : Int) : ref17.Upper.L1 N M0 (M + 1) r c l p q m p8 p6 p7_1 =
  bif (leI (0 : Int) p8) then
  bif (atPre p q m p8 p7_1) then
  ref17.Upper.L2 N M0 M N r c l p q m (atI q m p8 p7_1) (w_i64 (p8 + (1 : Int))) p7_1 p8 p6
  else none
  else ref17.Upper.L0 N M0 r c l p q m (w_i64 (p7_1 + (1 : Int))) p6 := by kernel_rfl
theorem ref17.Upper.L2_step (N M0 M1 M : Nat) (r : Int) (c : Int) (l : List Int) (p : Int) (q : Int) (m : List Int) (p9 : Int) (p10 : Int) (p7_2 : Int) (p8_1 : Int) (p6_1 : List Int) : ref17.Upper.L2 N M0 M1 (M + 1) r c l p q m p9 p10 p7_2 p8_1 p6_1 =
  bif (ltI p10 r) then
  bif (atPre r c l p8_1 p10) then
  bif (atPre p q p6_1 p10 p7_2) then
  bif (inU64 (atI c l p8_1 p10) && inU64 (atI q p6_1 p10 p7_2)) then
  bif (inU64 p9 && inU64 (mulBI (atI c l p8_1 p10) (atI q p6_1 p10 p7_2))) then
  ref17.Upper.L2 N M0 M1 M r c l p q m (subBI p9 (mulBI (atI c l p8_1 p10) (atI q p6_1 p10 p7_2))) (w_i64 (p10 + (1 : Int))) p7_2 p8_1 p6_1
  else none
  else none
  else none
  else none
  else bif (atPre r c l p8_1 p8_1) then
  bif (inU64 p9 && inU64 (atI c l p8_1 p8_1)) then
  bif (atPre p q p6_1 p8_1 p7_2) then
  ref17.Upper.L1 N M0 M1 r c l p q m (w_i64 (p8_1 - (1 : Int))) (List.set p6_1 (Int.toNat (p8_1 * q + p7_2)) (divBI p9 (atI c l p8_1 p8_1))) p7_2
  else none
  else none
  else none :=
  Eq.trans (by kernel_rfl)
  (ifE (ifS (tt5 (atPre r c l p8_1 p10)) (ifS (tt5 (atPre p q p6_1 p10 p7_2)) (ifS (tt5 (inU64 (atI c l p8_1 p10) && inU64 (atI q p6_1 p10 p7_2))) (ifS (tt5 (inU64 p9 && inU64 (mulBI (atI c l p8_1 p10) (atI q p6_1 p10 p7_2)))) rfl rfl) rfl) rfl) rfl) (ifS (tt5 (atPre r c l p8_1 p8_1)) (ifS (tt5 (inU64 p9 && inU64 (atI c l p8_1 p8_1))) (ifS (tt5 (atPre p q p6_1 p8_1 p7_2)) rfl rfl) rfl) rfl))
theorem ref17.Upper.ev (N : Nat) (r : Int) (c : Int) (l : List Int) (p : Int) (q : Int) (m : List Int) : funD ref17.Upper.E N Tryz.f14 (bodyOf Tryz.f14) [.agg [.int .i64 r, .int .i64 c, .ints .arg .u64 l], .agg [.int .i64 p, .int .i64 q, .ints .arg .u64 m]] =
  bif (allU64 l && allU64 m) then
  bif ((chkT r c l p q m) != (0 : Int)) then
  bif (allU64 l && allU64 m) then
  some (.tup [.agg [.int .i64 (0 : Int), .int .i64 (0 : Int), .nil], .int .i64 (chkT r c l p q m)])
  else none
  else bif (sizeB p && sizeB q) then
  ref17.Upper.L0 N N r c l p q m (0 : Int) (grid (Int.toNat p) (Int.toNat q) (fun _ _ => 0))
  else none
  else none := by kernel_rfl
theorem ref17.Upper.known_of (hk : Knowns Tryz.prog ref17.Upper.tab) (h : ∀ (r : Int) (c : Int) (l : List Int) (p : Int) (q : Int) (m : List Int), ref17.Upper.pre [.i r, .i c, .l l, .i p, .i q, .l m] = true → ∃ N dv drops, funD ref17.Upper.E N Tryz.f14 (bodyOf Tryz.f14) [.agg [.int .i64 r, .int .i64 c, .ints .arg .u64 l], .agg [.int .i64 p, .int .i64 q, .ints .arg .u64 m]] = some dv ∧ Wk drops dv (ref17.Upper.out [.i r, .i c, .l l, .i p, .i q, .l m])) : Known Tryz.prog 14 ref17.Upper.spec := by
  refine ⟨meets_entry (E := ref17.Upper.E) (env_ok hk _ _ _) Tryz.func14 (show Tryz.f14.body = some (bodyOf Tryz.f14) by kernel_rfl) fun ats dvs he hp => ?_, call_enter Tryz.func14 (by kernel_rfl) (show Tryz.f14.body = some (bodyOf Tryz.f14) by kernel_rfl)⟩
  obtain ⟨_, _, _, _, rfl, rfl, hs0, he0⟩ := he.st_inv
  obtain ⟨r, _, _, rfl, rfl, he1⟩ := hs0.i_inv
  obtain ⟨c, _, _, rfl, rfl, he2⟩ := he1.i_inv
  obtain ⟨l, _, _, rfl, rfl, he3⟩ := he2.s_inv
  obtain ⟨rfl, rfl⟩ := he3.nil_inv
  obtain ⟨_, _, _, _, rfl, rfl, hs4, he4⟩ := he0.st_inv
  obtain ⟨p, _, _, rfl, rfl, he5⟩ := hs4.i_inv
  obtain ⟨q, _, _, rfl, rfl, he6⟩ := he5.i_inv
  obtain ⟨m, _, _, rfl, rfl, he7⟩ := he6.s_inv
  obtain ⟨rfl, rfl⟩ := he7.nil_inv
  obtain ⟨rfl, rfl⟩ := he4.nil_inv
  exact h r c l p q m hp
end EqRef17
end Go.Proofs.S1

/- Packages dioptraref09, dioptraref11, dioptraref17 (in part): what their functions answer. -/
namespace Go.Proofs.S1
open Go Go.Den Go.Rnd Go.Proofs
open EqRef17

theorem ref09.Div.known : Known Tryz.prog 56 ref09.Div.spec := ref09.Div.known_of (.cons ref09.B.known (.cons ref09.F.known .nil)) fun a b hp => by
  obtain ⟨ha, hb⟩ := and_true_iff.1 hp
  obtain ⟨a, rfl, hn⟩ := inU64_nat ha
  obtain ⟨b, rfl, hm⟩ := inU64_nat hb
  refine ⟨0, ref09.Div.out [.i a, .i b], [], ?_, .int⟩
  rw [ref09.Div.ev, ha, hb, Int.toNat_natCast, Int.toNat_natCast]
  unfold canonNI
  rw [div_ieee hn hm nanBits_kind]; rfl

theorem ref_finite_loop (N : Nat) {x : List Int} (hx : okU64 x = true) : ∀ (k i F : Nat), i + k = x.length → k < F → ref09.Finite.L0 N F x (i : Int) = some (.bool ((x.drop i).all finI)) := by
  obtain ⟨hl, hu⟩ := okU_get hx
  intro k
  induction k with
  | zero =>
    intro i F hi hF
    obtain ⟨F, rfl⟩ : ∃ G, F = G + 1 := ⟨F - 1, by omega⟩
    rw [ref09.Finite.L0_step, ltI_eq, decide_eq_false (by omega), cond_false, List.drop_of_length_le (by omega)]; rfl
  | succ k ih =>
    intro i F hi hF
    obtain ⟨F, rfl⟩ : ∃ G, F = G + 1 := ⟨F - 1, by omega⟩
    rw [ref09.Finite.L0_step, ltI_eq, decide_eq_true (show (i : Int) < (x.length : Int) by omega), cond_true, decide_eq_true (show (0 : Int) ≤ (i : Int) by omega), Bool.and_self, cond_true, Int.toNat_natCast, hu i (by omega), cond_true, drop_getD (by omega), List.all_cons]
    cases finI (x.getD i 0) with
    | false => rfl
    | true =>
      rw [Bool.not_true, cond_false, w_i64_in (by omega) (by omega), Bool.true_and]
      exact ih (i + 1) F (by omega) (by omega)

theorem ref09.Finite.known : Known Tryz.prog 66 ref09.Finite.spec := ref09.Finite.known_of (.cons ref04.Finite.known .nil) fun x hp => by
  have hp : okU64 x = true := hp
  refine ⟨x.length + 1, ref09.Finite.out [.l x], [], ?_, .bool⟩
  show _ = some (DV.bool (x.all finI))
  rw [ref09.Finite.ev]
  exact ref_finite_loop _ hp x.length 0 (x.length + 1) (by omega) (by omega)

theorem ref11.Check.known : Known Tryz.prog 20 ref11.Check.spec := ref11.Check.known_of (.cons ref09.Finite.known (.cons ref10.Right.known .nil)) fun r c l hp => by
  have hp : allU64 l = true := hp
  refine ⟨0, ref11.Check.out [.i r, .i c, .l l], [], ?_, .int⟩
  show _ = some (DV.int .i64 (chkFI r c l))
  rw [ref11.Check.ev]
  unfold chkFI
  by_cases h : rightB r c l = true
  · have := right_len h
    rw [h, Bool.not_true, cond_false, okU_of hp (by omega), cond_true, if_pos rfl]
    cases finL l <;> rfl
  · have h' : rightB r c l = false := by simpa using h
    rw [h']; rfl

theorem ref_check_loop (N : Nat) {n : Nat} {l : List Int} (n6 : n ≤ 6) (hl : l.length = n * n) (al : allU64 l = true) : ∀ (cnt i F : Nat), i + cnt = n → cnt < F →
    ref17.Check.L0 N F (n : Int) (n : Int) l (i : Int) = some (.int .i64 (if ((List.range n).drop i).any (fun i : Nat => decide (kindI (atI (n : Int) l (i : Int) (i : Int)) = 0)) = true then 5 else 0)) := by
  intro cnt
  induction cnt with
  | zero =>
    intro i F hi hF
    obtain ⟨F, rfl⟩ : ∃ G, F = G + 1 := ⟨F - 1, by omega⟩
    rw [ref17.Check.L0_step, ltI_eq, decide_eq_false (by omega), cond_false, List.drop_of_length_le (by rw [List.length_range]; omega)]; rfl
  | succ cnt ih =>
    intro i F hi hF
    obtain ⟨F, rfl⟩ : ∃ G, F = G + 1 := ⟨F - 1, by omega⟩
    have hn : natI (atI (n : Int) l (i : Int) (i : Int)) = true := by
      obtain ⟨k, hk, _⟩ := inU64_nat (at_all (c := (n : Int)) (i := (i : Int)) (k := (i : Int)) al)
      rw [hk]; exact natI_nat k
    rw [ref17.Check.L0_step, ltI_eq, decide_eq_true (show (i : Int) < (n : Int) by omega), cond_true, atPre_of n6 n6 hl (show i < n by omega) (show i < n by omega), cond_true, hn, cond_true, range_drop (by omega), List.any_cons]
    by_cases hk : kindI (atI (n : Int) l (i : Int) (i : Int)) = 0
    · have e : (kindI (atI (n : Int) l (i : Int) (i : Int)) == (0 : Int)) = true := by rw [hk]; rfl
      rw [e, cond_true, decide_eq_true hk]; rfl
    · have e : (kindI (atI (n : Int) l (i : Int) (i : Int)) == (0 : Int)) = false := by simpa using hk
      rw [e, cond_false, decide_eq_false hk, Bool.false_or, w_i64_in (by omega) (by omega)]
      exact ih (i + 1) F (by omega) (by omega)

theorem ref17.Check.known : Known Tryz.prog 51 ref17.Check.spec := ref17.Check.known_of (.cons ref04.Kind.known (.cons ref10.At.known (.cons ref11.Check.known .nil))) fun r c l p q m hp => by
  obtain ⟨al, am⟩ := and_true_iff.1 (show (allU64 l && allU64 m) = true from hp)
  refine ⟨8, ref17.Check.out [.i r, .i c, .l l, .i p, .i q, .l m], [], ?_, .int⟩
  show _ = some (DV.int .i64 (chkT r c l p q m))
  rw [ref17.Check.ev, al, cond_true, cond_true, am, cond_true, cond_true, ne_or]
  unfold chkT
  by_cases h1 : chkFI r c l = 0
  · rw [zeroI h1, cond_false, if_neg (by rw [h1]; decide)]
    by_cases h2 : chkFI p q m = 0
    · rw [zeroI h2, cond_false, if_neg (by rw [h2]; decide)]
      by_cases h3 : r ≠ c ∨ r ≠ p
      · rw [decide_eq_true h3, cond_true, if_pos h3]
      · rw [decide_eq_false h3, cond_false, if_neg h3]
        obtain rfl : r = c := Decidable.byContradiction fun h => h3 (.inl h)
        obtain ⟨R, C, rfl, hC, r6, c6, hl⟩ := right_nat (chk_zero h1).1
        obtain rfl : R = C := by omega
        rw [Int.toNat_natCast]
        exact ref_check_loop 8 r6 hl al R 0 8 (by omega) (by omega)
    · rw [neI h2, cond_true, if_pos h2]
  · rw [neI h1, cond_true, if_pos h1]

def outA (x : MX) : DV := .tup [.agg [.int .i64 x.1, .int .i64 x.2.1, .ints .arg .u64 x.2.2.1], .int .i64 x.2.2.2]
theorem wk_matA {drops : List Nat} {x : MX} : Wk drops (outA x) (outA x) :=
  Wk.tupL (.cons (Wk.aggL (.cons .int (.cons .int (.cons .argL .nil)))) (.cons .int .nil))
theorem wk_noA {drops : List Nat} {e : Int} : Wk drops (nilX e) (outA (noX e)) :=
  Wk.tupL (.cons (Wk.aggL (.cons .int (.cons .int (.cons (.nil _ _) .nil)))) (.cons .int .nil))

theorem ref17.finite.known : Known Tryz.prog 57 ref17.finite.spec := ref17.finite.known_of (.cons ref09.Finite.known .nil) fun r c l hp => by
  obtain ⟨al, hr⟩ := and_true_iff.1 (show (allU64 l && rightB r c l) = true from hp)
  have := right_len hr
  show ∃ N dv drops, _ = some dv ∧ Wk drops dv (outA (finX r c l))
  unfold finX
  cases hf : finL l with
  | true =>
    rw [if_pos rfl]
    exact ⟨0, _, [], by rw [ref17.finite.ev, okU_of al (by omega), hf]; rfl, wk_matA⟩
  | false =>
    rw [if_neg (by decide)]
    exact ⟨0, _, [], by rw [ref17.finite.ev, okU_of al (by omega), hf]; rfl, wk_noA⟩

section
variable {n Q : Nat} {l m : List Int}

theorem ref_up_round (N : Nat) (n6 : n ≤ 6) (q6 : Q ≤ 6) (hl : l.length = n * n) (al : allU64 l = true) {i j k : Nat} (hi : i + k + 1 = n) (hj : j < Q) (M0 M1 : Nat) :
    ∀ (cnt t F : Nat) (s : Int), t + cnt = n → cnt < F → i + 1 ≤ t → inU64 s = true →
    ref17.Upper.L2 N M0 M1 F (n : Int) (n : Int) l (n : Int) (Q : Int) m s (t : Int) (j : Int) (i : Int) (upS n Q l m j k) =
    ref17.Upper.L1 N M0 M1 (n : Int) (n : Int) l (n : Int) (Q : Int) m (w_i64 ((i : Int) - (1 : Int))) (List.set (upS n Q l m j k) (Int.toNat ((i : Int) * (Q : Int) + (j : Int))) (divBI (lessR (n : Int) l (i : Int) s (t : Int) ((upL (n : Int) l (fun i => atI (Q : Int) m (i : Int) (j : Int)) n n).drop t)) (atI (n : Int) l (i : Int) (i : Int)))) (j : Int) := by
  intro cnt
  induction cnt with
  | zero =>
    intro t F s ht hF hit hs
    obtain ⟨F, rfl⟩ : ∃ G, F = G + 1 := ⟨F - 1, by omega⟩
    rw [List.drop_of_length_le (by rw [upL_length]; omega), lessR]
    rw [ref17.Upper.L2_step, ltI_eq, decide_eq_false (show ¬ (t : Int) < (n : Int) by omega), cond_false, atPre_of n6 n6 hl (show i < n by omega) (show i < n by omega), cond_true, hs, at_all al, Bool.and_self, cond_true,
      atPre_of n6 q6 (upS_len (l := l) (m := m) j k) (show i < n by omega) hj, cond_true]
  | succ cnt ih =>
    intro t F s ht hF hit hs
    obtain ⟨F, rfl⟩ : ∃ G, F = G + 1 := ⟨F - 1, by omega⟩
    rw [ref17.Upper.L2_step, ltI_eq, decide_eq_true (show (t : Int) < (n : Int) by omega), cond_true, atPre_of n6 n6 hl (show i < n by omega) (show t < n by omega), cond_true, atPre_of n6 q6 (upS_len (l := l) (m := m) j k) (show t < n by omega) hj, cond_true,
      upS_get (show t < n by omega) hj (by omega), at_all al, upF_in, Bool.and_self, cond_true, hs, mul_in, Bool.and_self, cond_true, w_i64_in (x := (t : Int) + 1) (by omega) (by omega)]
    have := ih (t + 1) F (subBI s (mulBI (atI (n : Int) l (i : Int) (t : Int)) (upF n Q l m t j))) (by omega) (by omega) (by omega) (sub_in hs (mul_in _ _))
    rw [less_step (by rw [upL_length]; omega)]
    exact this

theorem ref_up_rows (N : Nat) (n6 : n ≤ 6) (q6 : Q ≤ 6) (hN : 7 < N) (hl : l.length = n * n) (hm : m.length = n * Q) (al : allU64 l = true) (am : allU64 m = true) {j : Nat} (hj : j < Q) (M0 : Nat) : ∀ (cnt k F : Nat), k + cnt = n → cnt < F →
    ref17.Upper.L1 N M0 F (n : Int) (n : Int) l (n : Int) (Q : Int) m ((n : Int) - 1 - (k : Int)) (upS n Q l m j k) (j : Int) =
    ref17.Upper.L0 N M0 (n : Int) (n : Int) l (n : Int) (Q : Int) m ((j + 1 : Nat) : Int) (upS n Q l m j n) := by
  intro cnt
  induction cnt with
  | zero =>
    intro k F hk hF
    obtain ⟨F, rfl⟩ : ∃ G, F = G + 1 := ⟨F - 1, by omega⟩
    obtain rfl : k = n := by omega
    rw [ref17.Upper.L1_step, leI_eq, decide_eq_false (by omega), cond_false, w_i64_in (by omega) (by omega)]
    rfl
  | succ cnt ih =>
    intro k F hk hF
    obtain ⟨F, rfl⟩ : ∃ G, F = G + 1 := ⟨F - 1, by omega⟩
    obtain ⟨i, hi⟩ : ∃ i : Nat, i + k + 1 = n := ⟨n - k - 1, by omega⟩
    have ei : (n : Int) - 1 - (k : Int) = (i : Int) := by omega
    have hr := ref_up_round (n := n) (Q := Q) (l := l) (m := m) N n6 q6 hl al hi hj M0 F (n - (i + 1)) (i + 1) N (atI (Q : Int) m (i : Int) (j : Int)) (by omega) (by omega) (by omega) (at_all (c := (Q : Int)) am)
    rw [upS_set hi hj (upL_row (show i < n by omega)).symm, w_i64_in (by omega) (by omega), show (i : Int) - 1 = (n : Int) - 1 - ((k + 1 : Nat) : Int) by omega] at hr
    rw [ei, ref17.Upper.L1_step, leI_eq, decide_eq_true (show (0 : Int) ≤ (i : Int) by omega), cond_true, atPre_of n6 q6 hm (show i < n by omega) hj, cond_true, w_i64_in (x := (i : Int) + 1) (by omega) (by omega)]
    exact hr.trans (ih (k + 1) F (by omega) (by omega))

theorem ref_up_cols (N : Nat) (n6 : n ≤ 6) (q6 : Q ≤ 6) (hN : 7 < N) (hl : l.length = n * n) (hm : m.length = n * Q) (al : allU64 l = true) (am : allU64 m = true) : ∀ (cnt j F : Nat), j + cnt = Q → cnt < F →
    ref17.Upper.L0 N F (n : Int) (n : Int) l (n : Int) (Q : Int) m (j : Int) (upS n Q l m j 0) = some (outA (finX (n : Int) (Q : Int) (upS n Q l m Q 0))) := by
  intro cnt
  induction cnt with
  | zero =>
    intro j F hj hF
    obtain ⟨F, rfl⟩ : ∃ G, F = G + 1 := ⟨F - 1, by omega⟩
    obtain rfl : j = Q := by omega
    have hr : rightB (n : Int) (j : Int) (upS n j l m j 0) = true := grid_right _ n6 q6
    rw [ref17.Upper.L0_step, ltI_eq, decide_eq_false (by omega), cond_false, upS_in, hr, Bool.and_self, cond_true]
    rfl
  | succ cnt ih =>
    intro j F hj hF
    obtain ⟨F, rfl⟩ : ∃ G, F = G + 1 := ⟨F - 1, by omega⟩
    have hr := ref_up_rows N n6 q6 hN hl hm al am (show j < Q by omega) F n 0 N (by omega) (by omega)
    rw [upS_next, show (n : Int) - 1 - ((0 : Nat) : Int) = (n : Int) - 1 by omega] at hr
    rw [ref17.Upper.L0_step, ltI_eq, decide_eq_true (show (j : Int) < (Q : Int) by omega), cond_true, w_i64_in (x := (n : Int) - 1) (by omega) (by omega)]
    exact hr.trans (ih (j + 1) F (by omega) (by omega))
end

theorem ref17.Upper.known : Known Tryz.prog 14 ref17.Upper.spec := ref17.Upper.known_of (.cons ref09.Div.known (.cons ref09.Mul.known (.cons ref09.Sub.known (.cons ref10.At.known (.cons ref10.With.known (.cons ref10.Zeros.known (.cons ref17.Check.known (.cons ref17.finite.known .nil)))))))) fun r c l p q m hp => by
  have hp : (allU64 l && allU64 m) = true := hp
  obtain ⟨al, am⟩ := and_true_iff.1 hp
  show ∃ N dv drops, _ = some dv ∧ Wk drops dv (outA (upX r c l p q m))
  unfold upX
  by_cases h : chkT r c l p q m = 0
  · obtain ⟨h1, h2, rfl, rfl⟩ := chkT_zero h
    have s1 := right_sizes h2
    obtain ⟨R, C, rfl, hC, r6, c6, hl⟩ := right_nat h1
    obtain ⟨P, Q, hP, rfl, p6, q6, hl2⟩ := right_nat h2
    obtain rfl : R = C := by omega
    obtain rfl : R = P := by omega
    have n := ref_up_cols (n := R) (Q := Q) (l := l) (m := m) 8 r6 q6 (by omega) hl hl2 al am Q 0 8 (by omega) (by omega)
    rw [upS_zero, upS_all, show ((0 : Nat) : Int) = 0 from rfl] at n
    rw [if_neg (by rw [h]; decide), Int.toNat_natCast, Int.toNat_natCast]
    refine ⟨8, _, [], ?_, wk_matA⟩
    rw [ref17.Upper.ev, al, am, Bool.and_self, cond_true, zeroI h, cond_false, s1.1, s1.2, Bool.and_self, cond_true, Int.toNat_natCast, Int.toNat_natCast]
    exact n
  · rw [if_pos h]
    exact ⟨0, _, [], by rw [ref17.Upper.ev, hp, cond_true, cond_true, neI h, cond_true]; rfl, wk_noA⟩

end Go.Proofs.S1
