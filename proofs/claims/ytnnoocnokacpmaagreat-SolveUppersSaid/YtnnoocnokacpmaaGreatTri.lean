/- Tri of the verified evaluator and its use for this seat (of my texts S1EqSol, S1PTri). -/
import Derived.Test.YtnnoocnokacpmaaGreatSpe
import Derived.Test.YtnnoocnokacpmaaGreatCmp
import Derived.Test.YtnnoocnokacpmaaGreatRefT
import Derived.Test.YtnnoocnokacpmaaGreatMat

/- The evaluator's equations: solve.check, (solve.order).up, solve.Upper$1, matrix.of.Zeros.own, matrix.Zeros.own, solve.triangle.Up, solve.Upper, solve.Flat. Printed by denpy.py. -/
namespace Go.Proofs.S1
open Go Go.Den Go.Rnd Go.Proofs
set_option linter.unusedVariables false
set_option maxRecDepth 100000
namespace EqSol
theorem tt0 (a b : Bool) : (bif a then true else b) = (a || b) := by cases a <;> cases b <;> rfl
theorem tt1 (a : Bool) : ((!(!a)) || (a == false)) = true := by cases a <;> rfl
theorem tt2 (a : Bool) : ((!(a == false)) || ((((!(a == false)) || (a == false)) && (((!(a == false)) || (a == false)) && true)) && true)) = true := by cases a <;> rfl
theorem tt3 (a : Bool) : ((!(a == false)) || ((((!(a == false)) || (a == false)) && true) && true)) = true := by cases a <;> rfl
theorem tt4 (a : Bool) : ((!(a == false)) || true) = true := by cases a <;> rfl
theorem tt5 (a : Bool) : (a && true) = a := by cases a <;> rfl
theorem tt6 (a b : Bool) : (bif (!a) then true else (!b)) = ((!a) || (!b)) := by cases a <;> cases b <;> rfl
theorem tt7 (a : Bool) : ((!(!(!a))) || ((!a) == false)) = true := by cases a <;> rfl
theorem tt8 (a : Bool) : ((!((!a) == false)) || ((((!((!a) == false)) || ((!a) == false)) && true) && true)) = true := by cases a <;> rfl
theorem tt9 (a : Bool) : ((!((!a) == false)) || true) = true := by cases a <;> rfl
theorem tt10 (a b : Bool) : ((a && b) && true) = (a && b) := by cases a <;> cases b <;> rfl
theorem tt11 (a b : Bool) : (bif a then b else false) = (a && b) := by cases a <;> cases b <;> rfl
theorem tt12 (a : Bool) : (((!a) || (a == true)) && true) = true := by cases a <;> rfl
theorem tt13 (a : Bool) : ((!(a == true)) || ((((!(a == true)) || (a == true)) && (((!(a == true)) || (a == true)) && true)) && true)) = true := by cases a <;> rfl
theorem tt14 (a : Bool) : ((!(a == true)) || ((((!(a == true)) || (a == true)) && true) && true)) = true := by cases a <;> rfl
theorem tt15 (a : Bool) : ((!(a == true)) || true) = true := by cases a <;> rfl
def solve.check.hint : Nat → Option LoopHint
  | 0 => some { keep := [2, 3, 11, 12], objs := [], boxes := [2, 3] }
  | 2 => some { keep := [2, 34, 35], objs := [], boxes := [2] }
  | _ => none
noncomputable def solve.check.tab : List (Nat × Entry) := [(60, certify.Check.spec), (116, soft.Kind.spec)]
noncomputable def solve.check.E : Env := envOf (tabOf solve.check.tab) (fun _ => false) solve.check.hint (fun _ => none)
noncomputable def solve.check.L0 (N M : Nat) (r : Int) (c : Int) (l : List Int) (p35 : Int) : Option DV := loopAt solve.check.E N Tryz.f47 (bodyOf Tryz.f47) [1, 1, 1, 0, 1, 0] [] M ⟨mkT 51 [(2, .ptr 2 0 0), (34, .int .i64 r), (35, .int .i64 p35)], [(2, false, .box [.int .i64 r, .int .i64 c, .ints .arg .u64 l])]⟩
theorem solve.check.L0_step (N M : Nat) (r : Int) (c : Int) (l : List Int) (p35 : Int) : solve.check.L0 (N + 4) (M + 1) r c l p35 =
  bif (ltI p35 r) then
  bif ((decide (0 ≤ (w_i64 ((w_i64 (p35 * c)) + p35)))) && (decide ((w_i64 ((w_i64 (p35 * c)) + p35)) < (List.length l : Int)))) then
  bif (inU64 (List.getD l (Int.toNat (w_i64 ((w_i64 (p35 * c)) + p35))) 0)) then
  bif ((kindI (List.getD l (Int.toNat (w_i64 ((w_i64 (p35 * c)) + p35))) 0)) == (0 : Int)) then
  some (.int .i64 (5 : Int))
  else solve.check.L0 (N + 4) M r c l (w_i64 (p35 + (1 : Int)))
  else none
  else none
  else some (.int .i64 (0 : Int)) := by kernel_rfl
theorem solve.check.ev (N : Nat) (r : Int) (c : Int) (l : List Int) (p : Int) (q : Int) (m : List Int) : funD solve.check.E (N + 4) Tryz.f47 (bodyOf Tryz.f47) [.agg [.int .i64 r, .int .i64 c, .ints .arg .u64 l], .agg [.int .i64 p, .int .i64 q, .ints .arg .u64 m]] =
  bif (allU64 l) then
  bif ((chkFI r c l) != (0 : Int)) then
  some (.int .i64 (chkFI r c l))
  else bif (allU64 m) then
  bif ((chkFI p q m) != (0 : Int)) then
  some (.int .i64 (chkFI p q m))
  else bif ((r != c) || (r != p)) then
  some (.int .i64 (3 : Int))
  else solve.check.L0 (N + 4) (N + 4) r c l (0 : Int)
  else none
  else none :=
  Eq.trans (by kernel_rfl)
  (ifE (ifE rfl (ifE (ifE rfl (ifTn (tt4 (r != c)) (ifTn (tt3 (r != c)) (ifTn (tt4 (r != c)) (ifTn (tt3 (r != c)) (ifTn (tt2 (r != c)) (ifTn (tt1 (r != c)) (ifS (tt0 (r != c) (r != p)) rfl rfl)))))))) rfl)) rfl)
theorem solve.check.known_of (hk : Knowns Tryz.prog solve.check.tab) (h : ∀ (r : Int) (c : Int) (l : List Int) (p : Int) (q : Int) (m : List Int), solve.check.pre [.i r, .i c, .l l, .i p, .i q, .l m] = true → ∃ N dv drops, funD solve.check.E N Tryz.f47 (bodyOf Tryz.f47) [.agg [.int .i64 r, .int .i64 c, .ints .arg .u64 l], .agg [.int .i64 p, .int .i64 q, .ints .arg .u64 m]] = some dv ∧ Wk drops dv (solve.check.out [.i r, .i c, .l l, .i p, .i q, .l m])) : Known Tryz.prog 47 solve.check.spec := by
  refine ⟨meets_entry (E := solve.check.E) (env_ok hk _ _ _) Tryz.func47 (show Tryz.f47.body = some (bodyOf Tryz.f47) by kernel_rfl) fun ats dvs he hp => ?_, call_enter Tryz.func47 (by kernel_rfl) (show Tryz.f47.body = some (bodyOf Tryz.f47) by kernel_rfl)⟩
  obtain ⟨_, _, _, _, rfl, rfl, hs0, he0⟩ := he.st_inv
  obtain ⟨r, _, _, rfl, rfl, he1⟩ := hs0.i_inv
  obtain ⟨c, _, _, rfl, rfl, he2⟩ := he1.i_inv
  obtain ⟨l, _, _, rfl, rfl, he3⟩ := he2.s_inv
  obtain ⟨rfl, rfl⟩ := he3.nil_inv
  obtain ⟨_, _, _, _, rfl, rfl, hs4, he4⟩ := he0.st_inv
  obtain ⟨p, _, _, rfl, rfl, he5⟩ := hs4.i_inv
  obtain ⟨q, _, _, rfl, rfl, he6⟩ := he5.i_inv
  obtain ⟨m, _, _, rfl, rfl, he7⟩ := he6.s_inv
  obtain ⟨rfl, rfl⟩ := he7.nil_inv
  obtain ⟨rfl, rfl⟩ := he4.nil_inv
  exact h r c l p q m hp

noncomputable def _solve.order_.up.tab : List (Nat × Entry) := []
noncomputable def _solve.order_.up.E : Env := envOf (tabOf _solve.order_.up.tab) (fun _ => false) (fun _ => none) (fun _ => none)
theorem _solve.order_.up.ev (N : Nat) (n : Int) (k : Int) : funD _solve.order_.up.E N Tryz.f49 (bodyOf Tryz.f49) [.int .i64 n, .int .i64 k] =
  some (.int .i64 (w_i64 ((w_i64 (n - (1 : Int))) - k))) := by kernel_rfl
theorem _solve.order_.up.known_of (hk : Knowns Tryz.prog _solve.order_.up.tab) (h : ∀ (n : Int) (k : Int), _solve.order_.up.pre [.i n, .i k] = true → ∃ N dv drops, funD _solve.order_.up.E N Tryz.f49 (bodyOf Tryz.f49) [.int .i64 n, .int .i64 k] = some dv ∧ Wk drops dv (_solve.order_.up.out [.i n, .i k])) : Known Tryz.prog 49 _solve.order_.up.spec := by
  refine ⟨meets_entry (E := _solve.order_.up.E) (env_ok hk _ _ _) Tryz.func49 (show Tryz.f49.body = some (bodyOf Tryz.f49) by kernel_rfl) fun ats dvs he hp => ?_, call_enter Tryz.func49 (by kernel_rfl) (show Tryz.f49.body = some (bodyOf Tryz.f49) by kernel_rfl)⟩
  obtain ⟨n, _, _, rfl, rfl, he0⟩ := he.i_inv
  obtain ⟨k, _, _, rfl, rfl, he1⟩ := he0.i_inv
  obtain ⟨rfl, rfl⟩ := he1.nil_inv
  exact h n k hp

noncomputable def solve.Upper_1.tab : List (Nat × Entry) := []
noncomputable def solve.Upper_1.E : Env := envOf (tabOf solve.Upper_1.tab) (fun _ => false) (fun _ => none) (fun _ => none)
theorem solve.Upper_1.ev (N : Nat) (i : Int) (k : Int) : funD solve.Upper_1.E N Tryz.f50 (bodyOf Tryz.f50) [.int .i64 i, .int .i64 k] =
  some (.bool (ltI i k)) := by kernel_rfl
theorem solve.Upper_1.known_of (hk : Knowns Tryz.prog solve.Upper_1.tab) (h : ∀ (i : Int) (k : Int), solve.Upper_1.pre [.i i, .i k] = true → ∃ N dv drops, funD solve.Upper_1.E N Tryz.f50 (bodyOf Tryz.f50) [.int .i64 i, .int .i64 k] = some dv ∧ Wk drops dv (solve.Upper_1.out [.i i, .i k])) : Known Tryz.prog 50 solve.Upper_1.spec := by
  refine ⟨meets_entry (E := solve.Upper_1.E) (env_ok hk _ _ _) Tryz.func50 (show Tryz.f50.body = some (bodyOf Tryz.f50) by kernel_rfl) fun ats dvs he hp => ?_, call_enter Tryz.func50 (by kernel_rfl) (show Tryz.f50.body = some (bodyOf Tryz.f50) by kernel_rfl)⟩
  obtain ⟨i, _, _, rfl, rfl, he0⟩ := he.i_inv
  obtain ⟨k, _, _, rfl, rfl, he1⟩ := he0.i_inv
  obtain ⟨rfl, rfl⟩ := he1.nil_inv
  exact h i k hp

def matrix.of.Zeros.own.hint : Nat → Option LoopHint
  | 0 => some { keep := [1, 2, 6, 7, 13, 14], objs := [(8, 2, 108002, .ints 37 .u64 [])], boxes := [6, 7] }
  | 2 => some { keep := [1, 2, 6, 7, 8, 13, 14, 17, 18], objs := [(8, 2, 108002, .ints 37 .u64 [])], boxes := [6, 7] }
  | _ => none
noncomputable def matrix.of.Zeros.own.tab : List (Nat × Entry) := [(163, matrix.Zeros_1.spec)]
noncomputable def matrix.of.Zeros.own.E : Env := envOf (tabOf matrix.of.Zeros.own.tab) (fun _ => false) matrix.of.Zeros.own.hint (fun _ => none)
noncomputable def matrix.of.Zeros.own.L0 (N M : Nat) (a : Int) (b : Int) (p14 : Int) (p2_1 : List Int) : Option DV := loopAt matrix.of.Zeros.own.E N Tryz.f144 (bodyOf Tryz.f144) [1, 1, 0, 1, 0] [] M ⟨mkT 33 [(1, .int .i64 b), (2, .fn 163 [] []), (6, .ptr 6 0 0), (7, .ptr 7 0 0), (13, .int .i64 a), (14, .int .i64 p14)], [(6, false, .box [.int .i64 (0 : Int), .int .i64 (0 : Int), .nil]), (7, false, .box [.int .i64 a, .int .i64 b, .oref 108002]), (108002, false, .ints 37 .u64 p2_1)]⟩
noncomputable def matrix.of.Zeros.own.L1 (N M0 M : Nat) (a : Int) (b : Int) (p8 : Int) (p14_1 : Int) (p18 : Int) (p2 : List Int) : Option DV := loopAt matrix.of.Zeros.own.E N Tryz.f144 (bodyOf Tryz.f144) [1, 1, 0, 1, 0, 0, 1, 1, 0, 0, 1, 1, 0] [M0] M ⟨mkT 33 [(1, .int .i64 b), (2, .fn 163 [] []), (6, .ptr 6 0 0), (7, .ptr 7 0 0), (8, .int .i64 p8), (13, .int .i64 a), (14, .int .i64 p14_1), (17, .int .i64 b), (18, .int .i64 p18)], [(6, false, .box [.int .i64 (0 : Int), .int .i64 (0 : Int), .nil]), (7, false, .box [.int .i64 a, .int .i64 b, .oref 108002]), (108002, false, .ints 37 .u64 p2)]⟩
theorem matrix.of.Zeros.own.L0_step (N M : Nat) (a : Int) (b : Int) (p14 : Int) (p2_1 : List Int) : matrix.of.Zeros.own.L0 N (M + 1) a b p14 p2_1 =
  bif (ltI p14 a) then
  matrix.of.Zeros.own.L1 N M N a b p14 p14 (0 : Int) p2_1
  else some (.agg [.int .i64 a, .int .i64 b, .ints (.own 108002 37) .u64 p2_1]) := by kernel_rfl
theorem matrix.of.Zeros.own.L1_step (N M0 M : Nat) (a : Int) (b : Int) (p8 : Int) (p14_1 : Int) (p18 : Int) (p2 : List Int) : matrix.of.Zeros.own.L1 N M0 (M + 1) a b p8 p14_1 p18 p2 =
  bif (ltI p18 b) then
  bif (decide ((List.length p2) + 1 ≤ lim)) then
  matrix.of.Zeros.own.L1 N M0 M a b p8 p14_1 (w_i64 (p18 + (1 : Int))) (p2 ++ [(0 : Int)])
  else none
  else matrix.of.Zeros.own.L0 N M0 a b (w_i64 (p14_1 + (1 : Int))) p2 :=
  Eq.trans (by kernel_rfl)
  (ifE (ifS (tt5 (decide ((List.length p2) + 1 ≤ lim))) rfl rfl) rfl)
theorem matrix.of.Zeros.own.ev (N : Nat) (a : Int) (b : Int) : funD matrix.of.Zeros.own.E N Tryz.f144 (bodyOf Tryz.f144) [.int .i64 a, .int .i64 b, .fn 163 [] []] =
  matrix.of.Zeros.own.L0 N N a b (0 : Int) [] := by kernel_rfl
theorem matrix.of.Zeros.own.known_of (hk : Knowns Tryz.prog matrix.of.Zeros.own.tab) (h : ∀ (a : Int) (b : Int), matrix.of.Zeros.own.pre [.i a, .i b] = true → ∃ N dv drops, funD matrix.of.Zeros.own.E N Tryz.f144 (bodyOf Tryz.f144) [.int .i64 a, .int .i64 b, .fn 163 [] []] = some dv ∧ Wk drops dv (matrix.of.Zeros.own.out [.i a, .i b])) : Known Tryz.prog 144 matrix.of.Zeros.own.spec := by
  refine ⟨meets_entry (E := matrix.of.Zeros.own.E) (env_ok hk _ _ _) Tryz.func144 (show Tryz.f144.body = some (bodyOf Tryz.f144) by kernel_rfl) fun ats dvs he hp => ?_, call_enter Tryz.func144 (by kernel_rfl) (show Tryz.f144.body = some (bodyOf Tryz.f144) by kernel_rfl)⟩
  obtain ⟨a, _, _, rfl, rfl, he0⟩ := he.i_inv
  obtain ⟨b, _, _, rfl, rfl, he1⟩ := he0.i_inv
  obtain ⟨_, _, _, _, rfl, rfl, hs2, he2⟩ := he1.fn_inv
  obtain ⟨rfl, rfl⟩ := hs2.nil_inv
  obtain ⟨rfl, rfl⟩ := he2.nil_inv
  exact h a b hp

noncomputable def matrix.Zeros.own.tab : List (Nat × Entry) := [(144, matrix.of.Zeros.own.spec), (162, matrix.size.spec)]
noncomputable def matrix.Zeros.own.E : Env := envOf (tabOf matrix.Zeros.own.tab) (fun n => Nat.beq n 17) (fun _ => none) (fun _ => none)
theorem matrix.Zeros.own.ev (N : Nat) (a : Int) (b : Int) : funD matrix.Zeros.own.E N Tryz.f111 (bodyOf Tryz.f111) [.int .i64 a, .int .i64 b] =
  bif ((!(sizeB a)) || (!(sizeB b))) then
  some (.tup [.agg [.int .i64 (0 : Int), .int .i64 (0 : Int), .nil], .int .i64 (3 : Int)])
  else bif (sizeB a && sizeB b) then
  some (.tup [.agg [.int .i64 a, .int .i64 b, .ints (.own 1136 37) .u64 (grid (Int.toNat a) (Int.toNat b) (fun _ _ => 0))], .int .i64 (0 : Int)])
  else none :=
  Eq.trans (by kernel_rfl)
  (ifTn (tt9 (sizeB a)) (ifTn (tt8 (sizeB a)) (ifTn (tt8 (sizeB a)) (ifTn (tt7 (sizeB a)) (ifS (tt6 (sizeB a) (sizeB b)) rfl rfl)))))
theorem matrix.Zeros.own.known_of (hk : Knowns Tryz.prog matrix.Zeros.own.tab) (h : ∀ (a : Int) (b : Int), matrix.Zeros.own.pre [.i a, .i b] = true → ∃ N dv drops, funD matrix.Zeros.own.E N Tryz.f111 (bodyOf Tryz.f111) [.int .i64 a, .int .i64 b] = some dv ∧ Wk drops dv (matrix.Zeros.own.out [.i a, .i b])) : Known Tryz.prog 111 matrix.Zeros.own.spec := by
  refine ⟨meets_entry (E := matrix.Zeros.own.E) (env_ok hk _ _ _) Tryz.func111 (show Tryz.f111.body = some (bodyOf Tryz.f111) by kernel_rfl) fun ats dvs he hp => ?_, call_enter Tryz.func111 (by kernel_rfl) (show Tryz.f111.body = some (bodyOf Tryz.f111) by kernel_rfl)⟩
  obtain ⟨a, _, _, rfl, rfl, he0⟩ := he.i_inv
  obtain ⟨b, _, _, rfl, rfl, he1⟩ := he0.i_inv
  obtain ⟨rfl, rfl⟩ := he1.nil_inv
  exact h a b hp

def solve.triangle.Up.hint : Nat → Option LoopHint
  | 0 => some { keep := [2, 3, 4, 5, 8, 10, 11, 28, 29], objs := [(12, 2, 112002, .ints 37 .u64 [])], boxes := [4, 5, 8, 11] }
  | 2 => some { keep := [2, 3, 4, 5, 8, 10, 11, 13, 28, 29, 32, 33], objs := [(12, 2, 112002, .ints 37 .u64 [])], boxes := [4, 5, 8, 11] }
  | 4 => some { keep := [2, 3, 4, 5, 8, 10, 11, 13, 15, 16, 28, 29, 32, 33, 49, 50], objs := [(12, 2, 112002, .ints 37 .u64 [])], boxes := [4, 5, 8, 11] }
  | _ => none
noncomputable def solve.triangle.Up.tab : List (Nat × Entry) := [(49, _solve.order_.up.spec), (111, matrix.Zeros.own.spec), (50, solve.Upper_1.spec), (119, vector.Div.spec), (110, vector.Finite.spec), (118, vector.Mul.spec), (117, vector.Sub.spec)]
noncomputable def solve.triangle.Up.E : Env := envOf (tabOf solve.triangle.Up.tab) (fun n => Nat.beq n 24) solve.triangle.Up.hint (fun _ => none)
noncomputable def solve.triangle.Up.L0 (N M : Nat) (r : Int) (c : Int) (l : List Int) (p : Int) (q : Int) (m : List Int) (n : Int) (p29 : Int) (p2_2 : List Int) : Option DV := loopAt solve.triangle.Up.E N Tryz.f48 (bodyOf Tryz.f48) [1, 1, 1, 0, 1, 0] [] M ⟨mkT 108 [(2, .fn 49 [.int .i64 n] []), (3, .fn 50 [] []), (4, .ptr 4 0 0), (5, .ptr 5 0 0), (8, .ptr 8 0 0), (10, .int .i64 r), (11, .ptr 11 0 0), (28, .int .i64 q), (29, .int .i64 p29)], [(4, false, .box [.int .i64 r, .int .i64 c, .ints .arg .u64 l]), (5, false, .box [.int .i64 p, .int .i64 q, .ints .arg .u64 m]), (8, false, .box [.int .i64 (0 : Int), .int .i64 (0 : Int), .nil]), (11, false, .box [.int .i64 r, .int .i64 q, .oref 112002]), (112002, false, .ints 37 .u64 p2_2)]⟩
noncomputable def solve.triangle.Up.L1 (N M0 M : Nat) (r : Int) (c : Int) (l : List Int) (p : Int) (q : Int) (m : List Int) (n : Int) (p33 : Int) (p2 : List Int) (p13 : Int) (p29_1 : Int) : Option DV := loopAt solve.triangle.Up.E N Tryz.f48 (bodyOf Tryz.f48) [1, 1, 1, 0, 1, 0, 0, 1, 1, 0, 0, 1, 0, 1, 1, 0] [M0] M ⟨mkT 108 [(2, .fn 49 [.int .i64 n] []), (3, .fn 50 [] []), (4, .ptr 4 0 0), (5, .ptr 5 0 0), (8, .ptr 8 0 0), (10, .int .i64 r), (11, .ptr 11 0 0), (13, .int .i64 p13), (28, .int .i64 q), (29, .int .i64 p29_1), (32, .int .i64 r), (33, .int .i64 p33)], [(4, false, .box [.int .i64 r, .int .i64 c, .ints .arg .u64 l]), (5, false, .box [.int .i64 p, .int .i64 q, .ints .arg .u64 m]), (8, false, .box [.int .i64 (0 : Int), .int .i64 (0 : Int), .nil]), (11, false, .box [.int .i64 r, .int .i64 q, .oref 112002]), (112002, false, .ints 37 .u64 p2)]⟩
noncomputable def solve.triangle.Up.L2 (N M0 M1 M : Nat) (r : Int) (c : Int) (l : List Int) (p : Int) (q : Int) (m : List Int) (n : Int) (p16 : Int) (p50 : Int) (p13_1 : Int) (p15 : Int) (p29_2 : Int) (p33_1 : Int) (p2_1 : List Int) : Option DV := loopAt solve.triangle.Up.E N Tryz.f48 (bodyOf Tryz.f48) [1, 1, 1, 0, 1, 0, 0, 1, 1, 0, 0, 1, 0, 1, 1, 0, 0, 1, 1, 0, 0, 1, 1, 1, 0, 1, 0] [M0, M1] M ⟨mkT 108 [(2, .fn 49 [.int .i64 n] []), (3, .fn 50 [] []), (4, .ptr 4 0 0), (5, .ptr 5 0 0), (8, .ptr 8 0 0), (10, .int .i64 r), (11, .ptr 11 0 0), (13, .int .i64 p13_1), (15, .int .i64 p15), (16, .int .u64 p16), (28, .int .i64 q), (29, .int .i64 p29_2), (32, .int .i64 r), (33, .int .i64 p33_1), (49, .int .i64 r), (50, .int .i64 p50)], [(4, false, .box [.int .i64 r, .int .i64 c, .ints .arg .u64 l]), (5, false, .box [.int .i64 p, .int .i64 q, .ints .arg .u64 m]), (8, false, .box [.int .i64 (0 : Int), .int .i64 (0 : Int), .nil]), (11, false, .box [.int .i64 r, .int .i64 q, .oref 112002]), (112002, false, .ints 37 .u64 p2_1)]⟩
theorem solve.triangle.Up.L0_step (N M : Nat) (r : Int) (c : Int) (l : List Int) (p : Int) (q : Int) (m : List Int) (n : Int) (p29 : Int) (p2_2 : List Int) : solve.triangle.Up.L0 N (M + 1) r c l p q m n p29 p2_2 =
  bif (ltI p29 q) then
  solve.triangle.Up.L1 N M N r c l p q m n (0 : Int) p2_2 p29 p29
  else bif (okU64 p2_2) then
  bif (!(finL p2_2)) then
  some (.tup [.agg [.int .i64 (0 : Int), .int .i64 (0 : Int), .nil], .int .i64 (2 : Int)])
  else some (.tup [.agg [.int .i64 r, .int .i64 q, .ints (.own 112002 37) .u64 p2_2], .int .i64 (0 : Int)])
  else none := by kernel_rfl
theorem solve.triangle.Up.L1_step (N M0 M : Nat) (r : Int) (c : Int) (l : List Int) (p : Int) (q : Int) (m : List Int) (n : Int) (p33 : Int) (p2 : List Int) (p13 : Int) (p29_1 : Int) : solve.triangle.Up.L1 N M0 (M + 1) r c l p q m n p33 p2 p13 p29_1 =
  bif (ltI p33 r) then
  bif (cdec (0 ≤ p33 ∧ p33 < n ∧ n ≤ 10)) then
  bif ((decide (0 ≤ (w_i64 ((w_i64 ((n - 1 - p33) * q)) + p13)))) && (decide ((w_i64 ((w_i64 ((n - 1 - p33) * q)) + p13)) < (List.length m : Int)))) then
  solve.triangle.Up.L2 N M0 M N r c l p q m n (List.getD m (Int.toNat (w_i64 ((w_i64 ((n - 1 - p33) * q)) + p13))) 0) (0 : Int) p13 (n - 1 - p33) p29_1 p33 p2
  else none
  else none
  else solve.triangle.Up.L0 N M0 r c l p q m n (w_i64 (p29_1 + (1 : Int))) p2 := by kernel_rfl
theorem solve.triangle.Up.L2_step (N M0 M1 M : Nat) (r : Int) (c : Int) (l : List Int) (p : Int) (q : Int) (m : List Int) (n : Int) (p16 : Int) (p50 : Int) (p13_1 : Int) (p15 : Int) (p29_2 : Int) (p33_1 : Int) (p2_1 : List Int) : solve.triangle.Up.L2 N M0 M1 (M + 1) r c l p q m n p16 p50 p13_1 p15 p29_2 p33_1 p2_1 =
  bif (ltI p50 r) then
  bif (decide (p15 < p50)) then
  bif ((decide (0 ≤ (w_i64 ((w_i64 (p15 * r)) + p50)))) && (decide ((w_i64 ((w_i64 (p15 * r)) + p50)) < (List.length l : Int)))) then
  bif ((decide (0 ≤ (w_i64 ((w_i64 (p50 * q)) + p13_1)))) && (decide ((w_i64 ((w_i64 (p50 * q)) + p13_1)) < (List.length p2_1 : Int)))) then
  bif (decide ((Int.toNat (w_i64 ((w_i64 (p50 * q)) + p13_1))) < (List.length p2_1))) then
  bif (inU64 (List.getD l (Int.toNat (w_i64 ((w_i64 (p15 * r)) + p50))) 0) && inU64 (List.getD p2_1 (Int.toNat (w_i64 ((w_i64 (p50 * q)) + p13_1))) 0)) then
  bif (inU64 p16 && inU64 (mulBI (List.getD l (Int.toNat (w_i64 ((w_i64 (p15 * r)) + p50))) 0) (List.getD p2_1 (Int.toNat (w_i64 ((w_i64 (p50 * q)) + p13_1))) 0))) then
  solve.triangle.Up.L2 N M0 M1 M r c l p q m n (subBI p16 (mulBI (List.getD l (Int.toNat (w_i64 ((w_i64 (p15 * r)) + p50))) 0) (List.getD p2_1 (Int.toNat (w_i64 ((w_i64 (p50 * q)) + p13_1))) 0))) (w_i64 (p50 + (1 : Int))) p13_1 p15 p29_2 p33_1 p2_1
  else none
  else none
  else none
  else none
  else none
  else solve.triangle.Up.L2 N M0 M1 M r c l p q m n p16 (w_i64 (p50 + (1 : Int))) p13_1 p15 p29_2 p33_1 p2_1
  else bif ((decide (0 ≤ (w_i64 ((w_i64 (p15 * r)) + p15)))) && (decide ((w_i64 ((w_i64 (p15 * r)) + p15)) < (List.length l : Int)))) then
  bif (inU64 p16 && inU64 (List.getD l (Int.toNat (w_i64 ((w_i64 (p15 * r)) + p15))) 0)) then
  bif ((decide (0 ≤ (w_i64 ((w_i64 (p15 * q)) + p13_1)))) && (decide ((w_i64 ((w_i64 (p15 * q)) + p13_1)) < (List.length p2_1 : Int)))) then
  bif (decide ((Int.toNat (w_i64 ((w_i64 (p15 * q)) + p13_1))) < (List.length p2_1))) then
  solve.triangle.Up.L1 N M0 M1 r c l p q m n (w_i64 (p33_1 + (1 : Int))) (List.set p2_1 (Int.toNat (w_i64 ((w_i64 (p15 * q)) + p13_1))) (divBI p16 (List.getD l (Int.toNat (w_i64 ((w_i64 (p15 * r)) + p15))) 0))) p13_1 p29_2
  else none
  else none
  else none
  else none :=
  Eq.trans (by kernel_rfl)
  (ifE (ifE (ifS (tt10 (decide (0 ≤ (w_i64 ((w_i64 (p15 * r)) + p50)))) (decide ((w_i64 ((w_i64 (p15 * r)) + p50)) < (List.length l : Int)))) (ifS (tt10 (decide (0 ≤ (w_i64 ((w_i64 (p50 * q)) + p13_1)))) (decide ((w_i64 ((w_i64 (p50 * q)) + p13_1)) < (List.length p2_1 : Int)))) (ifS (tt5 (decide ((Int.toNat (w_i64 ((w_i64 (p50 * q)) + p13_1))) < (List.length p2_1)))) (ifS (tt5 (inU64 (List.getD l (Int.toNat (w_i64 ((w_i64 (p15 * r)) + p50))) 0) && inU64 (List.getD p2_1 (Int.toNat (w_i64 ((w_i64 (p50 * q)) + p13_1))) 0))) (ifS (tt5 (inU64 p16 && inU64 (mulBI (List.getD l (Int.toNat (w_i64 ((w_i64 (p15 * r)) + p50))) 0) (List.getD p2_1 (Int.toNat (w_i64 ((w_i64 (p50 * q)) + p13_1))) 0)))) rfl rfl) rfl) rfl) rfl) rfl) rfl) (ifS (tt10 (decide (0 ≤ (w_i64 ((w_i64 (p15 * r)) + p15)))) (decide ((w_i64 ((w_i64 (p15 * r)) + p15)) < (List.length l : Int)))) (ifS (tt5 (inU64 p16 && inU64 (List.getD l (Int.toNat (w_i64 ((w_i64 (p15 * r)) + p15))) 0))) (ifS (tt10 (decide (0 ≤ (w_i64 ((w_i64 (p15 * q)) + p13_1)))) (decide ((w_i64 ((w_i64 (p15 * q)) + p13_1)) < (List.length p2_1 : Int)))) (ifS (tt5 (decide ((Int.toNat (w_i64 ((w_i64 (p15 * q)) + p13_1))) < (List.length p2_1)))) rfl rfl) rfl) rfl) rfl))
theorem solve.triangle.Up.ev (N : Nat) (r : Int) (c : Int) (l : List Int) (p : Int) (q : Int) (m : List Int) (n : Int) : funD solve.triangle.Up.E N Tryz.f48 (bodyOf Tryz.f48) [.agg [.int .i64 r, .int .i64 c, .ints .arg .u64 l], .agg [.int .i64 p, .int .i64 q, .ints .arg .u64 m], .fn 49 [.int .i64 n] [], .fn 50 [] []] =
  bif (sizeB r && sizeB q) then
  solve.triangle.Up.L0 N N r c l p q m n (0 : Int) (grid (Int.toNat r) (Int.toNat q) (fun _ _ => 0))
  else none := by kernel_rfl
theorem solve.triangle.Up.known_of (hk : Knowns Tryz.prog solve.triangle.Up.tab) (h : ∀ (r : Int) (c : Int) (l : List Int) (p : Int) (q : Int) (m : List Int) (n : Int), solve.triangle.Up.pre [.i r, .i c, .l l, .i p, .i q, .l m, .i n] = true → ∃ N dv drops, funD solve.triangle.Up.E N Tryz.f48 (bodyOf Tryz.f48) [.agg [.int .i64 r, .int .i64 c, .ints .arg .u64 l], .agg [.int .i64 p, .int .i64 q, .ints .arg .u64 m], .fn 49 [.int .i64 n] [], .fn 50 [] []] = some dv ∧ Wk drops dv (solve.triangle.Up.out [.i r, .i c, .l l, .i p, .i q, .l m, .i n])) : Known Tryz.prog 48 solve.triangle.Up.spec := by
  refine ⟨meets_entry (E := solve.triangle.Up.E) (env_ok hk _ _ _) Tryz.func48 (show Tryz.f48.body = some (bodyOf Tryz.f48) by kernel_rfl) fun ats dvs he hp => ?_, call_enter Tryz.func48 (by kernel_rfl) (show Tryz.f48.body = some (bodyOf Tryz.f48) by kernel_rfl)⟩
  obtain ⟨_, _, _, _, rfl, rfl, hs0, he0⟩ := he.st_inv
  obtain ⟨r, _, _, rfl, rfl, he1⟩ := hs0.i_inv
  obtain ⟨c, _, _, rfl, rfl, he2⟩ := he1.i_inv
  obtain ⟨l, _, _, rfl, rfl, he3⟩ := he2.s_inv
  obtain ⟨rfl, rfl⟩ := he3.nil_inv
  obtain ⟨_, _, _, _, rfl, rfl, hs4, he4⟩ := he0.st_inv
  obtain ⟨p, _, _, rfl, rfl, he5⟩ := hs4.i_inv
  obtain ⟨q, _, _, rfl, rfl, he6⟩ := he5.i_inv
  obtain ⟨m, _, _, rfl, rfl, he7⟩ := he6.s_inv
  obtain ⟨rfl, rfl⟩ := he7.nil_inv
  obtain ⟨_, _, _, _, rfl, rfl, hs8, he8⟩ := he4.fm_inv
  obtain ⟨n, _, _, rfl, rfl, he9⟩ := hs8.i_inv
  obtain ⟨rfl, rfl⟩ := he9.nil_inv
  obtain ⟨_, _, _, _, rfl, rfl, hs10, he10⟩ := he8.fn_inv
  obtain ⟨rfl, rfl⟩ := hs10.nil_inv
  obtain ⟨rfl, rfl⟩ := he10.nil_inv
  exact h r c l p q m n hp

noncomputable def solve.Upper.tab : List (Nat × Entry) := [(47, solve.check.spec), (48, solve.triangle.Up.spec)]
noncomputable def solve.Upper.E : Env := envOf (tabOf solve.Upper.tab) (fun _ => false) (fun _ => none) (fun _ => none)
theorem solve.Upper.ev (N : Nat) (r : Int) (c : Int) (l : List Int) (p : Int) (q : Int) (m : List Int) : funD solve.Upper.E N Tryz.f13 (bodyOf Tryz.f13) [.agg [.int .i64 r, .int .i64 c, .ints .arg .u64 l], .agg [.int .i64 p, .int .i64 q, .ints .arg .u64 m]] =
  bif (allU64 l && allU64 m) then
  bif ((chkT r c l p q m) != (0 : Int)) then
  some (.tup [.agg [.int .i64 (0 : Int), .int .i64 (0 : Int), .nil], .int .i64 (chkT r c l p q m)])
  else bif (triPre r c l p q m && decide (r = r)) then
  some (.tup [.agg [.int .i64 ((finX r q (upG c l q m (Int.toNat r) (Int.toNat q))).1), .int .i64 ((finX r q (upG c l q m (Int.toNat r) (Int.toNat q))).2.1), .ints .fresh .u64 ((finX r q (upG c l q m (Int.toNat r) (Int.toNat q))).2.2.1)], .int .i64 ((finX r q (upG c l q m (Int.toNat r) (Int.toNat q))).2.2.2)])
  else none
  else none := by kernel_rfl
theorem solve.Upper.known_of (hk : Knowns Tryz.prog solve.Upper.tab) (h : ∀ (r : Int) (c : Int) (l : List Int) (p : Int) (q : Int) (m : List Int), solve.Upper.pre [.i r, .i c, .l l, .i p, .i q, .l m] = true → ∃ N dv drops, funD solve.Upper.E N Tryz.f13 (bodyOf Tryz.f13) [.agg [.int .i64 r, .int .i64 c, .ints .arg .u64 l], .agg [.int .i64 p, .int .i64 q, .ints .arg .u64 m]] = some dv ∧ Wk drops dv (solve.Upper.out [.i r, .i c, .l l, .i p, .i q, .l m])) : Known Tryz.prog 13 solve.Upper.spec := by
  refine ⟨meets_entry (E := solve.Upper.E) (env_ok hk _ _ _) Tryz.func13 (show Tryz.f13.body = some (bodyOf Tryz.f13) by kernel_rfl) fun ats dvs he hp => ?_, call_enter Tryz.func13 (by kernel_rfl) (show Tryz.f13.body = some (bodyOf Tryz.f13) by kernel_rfl)⟩
  obtain ⟨_, _, _, _, rfl, rfl, hs0, he0⟩ := he.st_inv
  obtain ⟨r, _, _, rfl, rfl, he1⟩ := hs0.i_inv
  obtain ⟨c, _, _, rfl, rfl, he2⟩ := he1.i_inv
  obtain ⟨l, _, _, rfl, rfl, he3⟩ := he2.s_inv
  obtain ⟨rfl, rfl⟩ := he3.nil_inv
  obtain ⟨_, _, _, _, rfl, rfl, hs4, he4⟩ := he0.st_inv
  obtain ⟨p, _, _, rfl, rfl, he5⟩ := hs4.i_inv
  obtain ⟨q, _, _, rfl, rfl, he6⟩ := he5.i_inv
  obtain ⟨m, _, _, rfl, rfl, he7⟩ := he6.s_inv
  obtain ⟨rfl, rfl⟩ := he7.nil_inv
  obtain ⟨rfl, rfl⟩ := he4.nil_inv
  exact h r c l p q m hp

def solve.Flat.hint : Nat → Option LoopHint
  | 0 => some { keep := [1, 5, 6], objs := [(0, 5, 100005, .ints 37 .u64 [])], boxes := [1] }
  | 2 => some { keep := [7, 44, 45, 46], objs := [(0, 44, 100044, .ints 37 .u64 [])], boxes := [] }
  | _ => none
noncomputable def solve.Flat.tab : List (Nat × Entry) := [(60, certify.Check.spec), (61, compare.Abs.spec), (64, compare.Less.spec), (63, vector.Biggest.spec), (62, vector.Shift.spec)]
noncomputable def solve.Flat.E : Env := envOf (tabOf solve.Flat.tab) (fun _ => false) solve.Flat.hint (fun _ => none)
noncomputable def solve.Flat.L0 (N M : Nat) (r : Int) (c : Int) (l : List Int) (p6 : Int) (p5 : List Int) : Option DV := loopAt solve.Flat.E N Tryz.f19 (bodyOf Tryz.f19) [1, 1, 1, 0, 1, 0] [] M ⟨mkT 55 [(1, .ptr 1 0 0), (5, .oref 100005), (6, .int .i64 p6)], [(1, false, .box [.int .i64 r, .int .i64 c, .ints .arg .u64 l]), (100005, false, .ints 37 .u64 p5)]⟩
noncomputable def solve.Flat.L1 (N M : Nat) (p5 : List Int) (p46 : Int) : Option DV := loopAt solve.Flat.E N Tryz.f19 (bodyOf Tryz.f19) [1, 1, 1, 1, 1, 0, 1, 0] [] M ⟨mkT 55 [(7, .int .u64 (scaleBI (bigI p5) (-40 : Int))), (44, .oref 100044), (45, .int .i64 (List.length p5 : Int)), (46, .int .i64 p46)], [(100044, false, .ints 37 .u64 p5)]⟩
theorem solve.Flat.L0_step (N M : Nat) (r : Int) (c : Int) (l : List Int) (p6 : Int) (p5 : List Int) : solve.Flat.L0 N (M + 1) r c l p6 p5 =
  bif ((ltI p6 r) && (ltI p6 c)) then
  bif ((decide (0 ≤ (w_i64 ((w_i64 (p6 * c)) + p6)))) && (decide ((w_i64 ((w_i64 (p6 * c)) + p6)) < (List.length l : Int)))) then
  bif (inU64 (List.getD l (Int.toNat (w_i64 ((w_i64 (p6 * c)) + p6))) 0)) then
  bif (decide ((List.length p5) + 1 ≤ lim)) then
  solve.Flat.L0 N M r c l (w_i64 (p6 + (1 : Int))) (p5 ++ [(magI (List.getD l (Int.toNat (w_i64 ((w_i64 (p6 * c)) + p6))) 0))])
  else none
  else none
  else none
  else bif (okU64 p5) then
  bif (scalePre (bigI p5) (-40 : Int)) then
  solve.Flat.L1 N N p5 (0 : Int)
  else none
  else none :=
  Eq.trans (by kernel_rfl)
  (ifTn (tt15 (ltI p6 r)) (ifTn (tt15 (ltI p6 r)) (ifTn (tt14 (ltI p6 r)) (ifTn (tt13 (ltI p6 r)) (ifTn (tt12 (ltI p6 r)) (ifS (tt11 (ltI p6 r) (ltI p6 c)) rfl rfl))))))
theorem solve.Flat.L1_step (N M : Nat) (p5 : List Int) (p46 : Int) : solve.Flat.L1 N (M + 1) p5 p46 =
  bif (ltI p46 (List.length p5 : Int)) then
  bif ((decide (0 ≤ p46)) && (decide (p46 < (List.length p5 : Int)))) then
  bif (decide ((Int.toNat p46) < (List.length p5))) then
  bif (inU64 (scaleBI (bigI p5) (-40 : Int)) && inU64 (List.getD p5 (Int.toNat p46) 0)) then
  bif (!(decide (ordI (scaleBI (bigI p5) (-40 : Int)) (List.getD p5 (Int.toNat p46) 0) < 0))) then
  some (.tup [.bool true, .int .i64 (0 : Int)])
  else solve.Flat.L1 N M p5 (w_i64 (p46 + (1 : Int)))
  else none
  else none
  else none
  else some (.tup [.bool false, .int .i64 (0 : Int)]) := by kernel_rfl
theorem solve.Flat.ev (N : Nat) (r : Int) (c : Int) (l : List Int) : funD solve.Flat.E N Tryz.f19 (bodyOf Tryz.f19) [.agg [.int .i64 r, .int .i64 c, .ints .arg .u64 l]] =
  bif (allU64 l) then
  bif ((chkFI r c l) != (0 : Int)) then
  some (.tup [.bool false, .int .i64 (chkFI r c l)])
  else solve.Flat.L0 N N r c l (0 : Int) []
  else none := by kernel_rfl
theorem solve.Flat.known_of (hk : Knowns Tryz.prog solve.Flat.tab) (h : ∀ (r : Int) (c : Int) (l : List Int), solve.Flat.pre [.i r, .i c, .l l] = true → ∃ N dv drops, funD solve.Flat.E N Tryz.f19 (bodyOf Tryz.f19) [.agg [.int .i64 r, .int .i64 c, .ints .arg .u64 l]] = some dv ∧ Wk drops dv (solve.Flat.out [.i r, .i c, .l l])) : Known Tryz.prog 19 solve.Flat.spec := by
  refine ⟨meets_entry (E := solve.Flat.E) (env_ok hk _ _ _) Tryz.func19 (show Tryz.f19.body = some (bodyOf Tryz.f19) by kernel_rfl) fun ats dvs he hp => ?_, call_enter Tryz.func19 (by kernel_rfl) (show Tryz.f19.body = some (bodyOf Tryz.f19) by kernel_rfl)⟩
  obtain ⟨_, _, _, _, rfl, rfl, hs0, he0⟩ := he.st_inv
  obtain ⟨r, _, _, rfl, rfl, he1⟩ := hs0.i_inv
  obtain ⟨c, _, _, rfl, rfl, he2⟩ := he1.i_inv
  obtain ⟨l, _, _, rfl, rfl, he3⟩ := he2.s_inv
  obtain ⟨rfl, rfl⟩ := he3.nil_inv
  obtain ⟨rfl, rfl⟩ := he0.nil_inv
  exact h r c l hp
end EqSol
end Go.Proofs.S1

/- Package solve: triangles. -/
namespace Go.Proofs.S1
open Go Go.Den Go.Rnd Go.Proofs
open EqSol

theorem solve.Upper_1.known : Known Tryz.prog 50 solve.Upper_1.spec := solve.Upper_1.known_of .nil fun i k _ => by
  refine ⟨0, solve.Upper_1.out [.i i, .i k], [], ?_, .bool⟩
  rw [solve.Upper_1.ev, ltI_eq]; rfl
theorem order_up.known : Known Tryz.prog 49 _solve.order_.up.spec := _solve.order_.up.known_of .nil fun n k hp => by
  have hp := cdec_eq.1 (show cdec (0 ≤ k ∧ k < n ∧ n ≤ 10) = true from hp)
  refine ⟨0, _solve.order_.up.out [.i n, .i k], [], ?_, .int⟩
  rw [_solve.order_.up.ev, w_i64_in (x := n - 1) (by omega) (by omega), w_i64_in (by omega) (by omega)]; rfl

theorem matrix.of.Zeros.own.known : Known Tryz.prog 144 matrix.of.Zeros.own.spec := matrix.of.Zeros.own.known_of (.cons matrix.Zeros_1.known .nil) fun a b hp => by
  have h1 : (sizeB a && sizeB b) = true := hp
  obtain ⟨ha, hb⟩ := and_true_iff.1 h1
  obtain ⟨A, rfl, hA⟩ := size_nat ha
  obtain ⟨B, rfl, hB⟩ := size_nat hb
  refine ⟨8, .agg [.int .i64 (A : Int), .int .i64 (B : Int), .ints (.own 108002 37) .u64 (grid A B fun (i j : Nat) => (0 : Int))], [], ?_, Wk.aggL (.cons .int (.cons .int (.cons (.keep _ _ _ _ List.not_mem_nil) .nil)))⟩
  have n := of.Zeros.outer 8 hA hB (by omega) (F := fun (i j : Nat) => (0 : Int)) (fun _ _ => rfl) A 0 8 (by omega) (by omega)
  rw [grid_zero] at n
  exact (EqOf.matrix.of.Zeros.ev 8 (A : Int) (B : Int)).trans n

theorem matrix.Zeros.own.known : Known Tryz.prog 111 matrix.Zeros.own.spec := matrix.Zeros.own.known_of (.cons matrix.of.Zeros.own.known (.cons matrix.size.known .nil)) fun a b hp => by
  have hp : (sizeB a && sizeB b) = true := hp
  obtain ⟨ha, hb⟩ := and_true_iff.1 hp
  refine ⟨0, matrix.Zeros.own.out [.i a, .i b], [], ?_, ?_⟩
  · rw [matrix.Zeros.own.ev, ha, hb]; rfl
  · exact Wk.tupL (.cons (Wk.aggL (.cons .int (.cons .int (.cons (.keep _ _ _ _ List.not_mem_nil) .nil)))) (.cons .int .nil))

section
variable {n Q : Nat} {l m : List Int}

/-- The answer's number. -/
def upF (n Q : Nat) (l m : List Int) (i j : Nat) : Int := (upL (n : Int) l (fun i => atI (Q : Int) m (i : Int) (j : Int)) n n).getD i 0
def upD (n j k a b : Nat) : Bool := decide (b < j ∨ (b = j ∧ n - k ≤ a))
def upS (n Q : Nat) (l m : List Int) (j k : Nat) : List Int := grid n Q fun a b => if upD n j k a b = true then upF n Q l m a b else 0

theorem upF_in (i j : Nat) : inU64 (upF n Q l m i j) = true := getD_in (upL_in _ _ _ _ _) i
theorem upS_in (j k : Nat) : allU64 (upS n Q l m j k) = true := grid_in fun a b => by
  split
  · exact upF_in _ _
  · exact inU64_of (n := 0) (by decide)
theorem upS_get {j k t : Nat} (ht : t < n) (hj : j < Q) (hk : n - k ≤ t) : atI (Q : Int) (upS n Q l m j k) (t : Int) (j : Int) = upF n Q l m t j := by
  unfold upS
  have hd : upD n j k t j = true := decide_eq_true (.inr ⟨rfl, hk⟩)
  rw [grid_at ht hj, hd, if_pos rfl]
theorem upS_len (j k : Nat) : (upS n Q l m j k).length = n * Q := grid_length _ _ _

theorem toNat_at (c : Nat) (i k : Nat) : ((i : Int) * (c : Int) + (k : Int)).toNat = i * c + k := by rw [← Int.natCast_mul, ← Int.natCast_add, Int.toNat_natCast]

theorem up_round (N : Nat) (n6 : n ≤ 6) (q6 : Q ≤ 6) (hl : l.length = n * n) (al : allU64 l = true) {i j k : Nat} (hi : i + k + 1 = n) (hj : j < Q) (M0 M1 : Nat) (p29 p33 : Int) :
    ∀ (cnt t F : Nat) (s : Int), t + cnt = n → cnt < F → i + 1 ≤ t → inU64 s = true →
    solve.triangle.Up.L2 N M0 M1 F (n : Int) (n : Int) l (n : Int) (Q : Int) m (n : Int) s (t : Int) (j : Int) (i : Int) p29 p33 (upS n Q l m j k) =
    solve.triangle.Up.L1 N M0 M1 (n : Int) (n : Int) l (n : Int) (Q : Int) m (n : Int) (w_i64 (p33 + (1 : Int))) (List.set (upS n Q l m j k) (Int.toNat ((i : Int) * (Q : Int) + (j : Int))) (divBI (lessR (n : Int) l (i : Int) s (t : Int) ((upL (n : Int) l (fun i => atI (Q : Int) m (i : Int) (j : Int)) n n).drop t)) (atI (n : Int) l (i : Int) (i : Int)))) (j : Int) p29 := by
  intro cnt
  induction cnt with
  | zero =>
    intro t F s ht hF hit hs
    obtain ⟨F, rfl⟩ : ∃ G, F = G + 1 := ⟨F - 1, by omega⟩
    obtain ⟨e1, g1, g2⟩ := at_code (R := (n : Int)) (atPre_of n6 n6 hl (show i < n by omega) (show i < n by omega))
    obtain ⟨e2, g3, g4⟩ := at_code (R := (n : Int)) (atPre_of n6 q6 (upS_len (l := l) (m := m) j k) (show i < n by omega) hj)
    rw [List.drop_of_length_le (by rw [upL_length]; omega), lessR]
    rw [solve.triangle.Up.L2_step, ltI_eq, decide_eq_false (show ¬ (t : Int) < (n : Int) by omega), cond_false, e1, decide_eq_true g1, decide_eq_true g2, Bool.and_self, cond_true, hs, show inU64 (List.getD l (Int.toNat ((i : Int) * (n : Int) + (i : Int))) 0) = true from at_all (c := (n : Int)) al, Bool.and_self, cond_true,
      e2, decide_eq_true g3, decide_eq_true g4, Bool.and_self, cond_true, decide_eq_true (show Int.toNat ((i : Int) * (Q : Int) + (j : Int)) < (upS n Q l m j k).length by omega), cond_true]
    rfl
  | succ cnt ih =>
    intro t F s ht hF hit hs
    obtain ⟨F, rfl⟩ : ∃ G, F = G + 1 := ⟨F - 1, by omega⟩
    obtain ⟨e1, g1, g2⟩ := at_code (R := (n : Int)) (atPre_of n6 n6 hl (show i < n by omega) (show t < n by omega))
    obtain ⟨e2, g3, g4⟩ := at_code (R := (n : Int)) (atPre_of n6 q6 (upS_len (l := l) (m := m) j k) (show t < n by omega) hj)
    have hx : List.getD (upS n Q l m j k) (Int.toNat ((t : Int) * (Q : Int) + (j : Int))) 0 = upF n Q l m t j := upS_get (by omega) hj (by omega)
    rw [solve.triangle.Up.L2_step, ltI_eq, decide_eq_true (show (t : Int) < (n : Int) by omega), cond_true, decide_eq_true (show (i : Int) < (t : Int) by omega), cond_true, e1, decide_eq_true g1, decide_eq_true g2, Bool.and_self, cond_true,
      e2, decide_eq_true g3, decide_eq_true g4, Bool.and_self, cond_true, decide_eq_true (show Int.toNat ((t : Int) * (Q : Int) + (j : Int)) < (upS n Q l m j k).length by omega), cond_true, hx,
      show inU64 (List.getD l (Int.toNat ((i : Int) * (n : Int) + (t : Int))) 0) = true from at_all (c := (n : Int)) al, upF_in, Bool.and_self, cond_true, hs, mul_in, Bool.and_self, cond_true, w_i64_in (x := (t : Int) + 1) (by omega) (by omega)]
    have := ih (t + 1) F (subBI s (mulBI (atI (n : Int) l (i : Int) (t : Int)) (upF n Q l m t j))) (by omega) (by omega) (by omega) (sub_in hs (mul_in _ _))
    rw [less_step (by rw [upL_length]; omega)]
    exact this

theorem up_skip (N : Nat) (n6 : n ≤ 6) {i j k : Nat} (hi : i < n) (M0 M1 : Nat) (p29 p33 s : Int) : ∀ (cnt t F : Nat), t + cnt = i + 1 →
    solve.triangle.Up.L2 N M0 M1 (F + cnt) (n : Int) (n : Int) l (n : Int) (Q : Int) m (n : Int) s (t : Int) (j : Int) (i : Int) p29 p33 (upS n Q l m j k) =
    solve.triangle.Up.L2 N M0 M1 F (n : Int) (n : Int) l (n : Int) (Q : Int) m (n : Int) s ((i + 1 : Nat) : Int) (j : Int) (i : Int) p29 p33 (upS n Q l m j k) := by
  intro cnt
  induction cnt with
  | zero =>
    intro t F ht
    obtain rfl : t = i + 1 := by omega
    rfl
  | succ cnt ih =>
    intro t F ht
    rw [← Nat.add_assoc, solve.triangle.Up.L2_step, ltI_eq, decide_eq_true (show (t : Int) < (n : Int) by omega), cond_true, decide_eq_false (show ¬ (i : Int) < (t : Int) by omega), cond_false, w_i64_in (by omega) (by omega)]
    exact ih (t + 1) F (by omega)

theorem upS_set {i j k : Nat} (hi : i + k + 1 = n) (hj : j < Q) {x : Int} (hx : x = upF n Q l m i j) : List.set (upS n Q l m j k) (Int.toNat ((i : Int) * (Q : Int) + (j : Int))) x = upS n Q l m j (k + 1) := by
  refine done_set hj hx fun a b ha hb => ?_
  unfold upD
  rw [decide_eq_true_eq, decide_eq_true_eq]
  omega

theorem up_rows (N : Nat) (n6 : n ≤ 6) (q6 : Q ≤ 6) (hN : 7 < N) (hl : l.length = n * n) (hm : m.length = n * Q) (al : allU64 l = true) (am : allU64 m = true) {j : Nat} (hj : j < Q) (M0 : Nat) : ∀ (cnt k F : Nat), k + cnt = n → cnt < F →
    solve.triangle.Up.L1 N M0 F (n : Int) (n : Int) l (n : Int) (Q : Int) m (n : Int) (k : Int) (upS n Q l m j k) (j : Int) (j : Int) =
    solve.triangle.Up.L0 N M0 (n : Int) (n : Int) l (n : Int) (Q : Int) m (n : Int) ((j + 1 : Nat) : Int) (upS n Q l m j n) := by
  intro cnt
  induction cnt with
  | zero =>
    intro k F hk hF
    obtain ⟨F, rfl⟩ : ∃ G, F = G + 1 := ⟨F - 1, by omega⟩
    obtain rfl : k = n := by omega
    rw [solve.triangle.Up.L1_step, ltI_eq, decide_eq_false (by omega), cond_false, w_i64_in (by omega) (by omega)]
    rfl
  | succ cnt ih =>
    intro k F hk hF
    obtain ⟨F, rfl⟩ : ∃ G, F = G + 1 := ⟨F - 1, by omega⟩
    obtain ⟨i, hi⟩ : ∃ i : Nat, i + k + 1 = n := ⟨n - k - 1, by omega⟩
    have ei : (n : Int) - 1 - (k : Int) = (i : Int) := by omega
    obtain ⟨e2, g3, g4⟩ := at_code (R := (n : Int)) (atPre_of n6 q6 hm (show i < n by omega) hj)
    rw [solve.triangle.Up.L1_step, ltI_eq, decide_eq_true (show (k : Int) < (n : Int) by omega), cond_true, cdec_eq.2 (show 0 ≤ (k : Int) ∧ (k : Int) < (n : Int) ∧ (n : Int) ≤ 10 by omega), cond_true, ei, e2, decide_eq_true g3, decide_eq_true g4, Bool.and_self, cond_true]
    obtain ⟨G, rfl⟩ : ∃ G, N = G + (i + 1) := ⟨N - (i + 1), by omega⟩
    have hs := up_skip (n := n) (Q := Q) (l := l) (m := m) (G + (i + 1)) n6 (i := i) (j := j) (k := k) (by omega) M0 F (j : Int) (k : Int) (atI (Q : Int) m (i : Int) (j : Int)) (i + 1) 0 G (by omega)
    have hr := up_round (n := n) (Q := Q) (l := l) (m := m) (G + (i + 1)) n6 q6 hl al hi hj M0 F (j : Int) (k : Int) (n - (i + 1)) (i + 1) G (atI (Q : Int) m (i : Int) (j : Int)) (by omega) (by omega) (by omega) (at_all (c := (Q : Int)) am)
    rw [upS_set hi hj (upL_row (show i < n by omega)).symm, w_i64_in (by omega) (by omega)] at hr
    exact (hs.trans hr).trans (ih (k + 1) F (by omega) (by omega))

theorem upS_next (j : Nat) : upS n Q l m j n = upS n Q l m (j + 1) 0 := by
  unfold upS
  refine grid_congr fun a b ha hb => ?_
  have : upD n j n a b = upD n (j + 1) 0 a b := by
    unfold upD
    rw [decide_eq_decide]
    omega
  rw [this]
theorem upS_zero : upS n Q l m 0 0 = grid n Q fun _ _ => 0 := by
  unfold upS
  refine grid_congr fun a b ha hb => ?_
  have : upD n 0 0 a b = false := decide_eq_false (by omega)
  rw [this]; rfl
theorem upS_all : upS n Q l m Q 0 = upG (n : Int) l (Q : Int) m n Q := by
  unfold upS upG
  refine grid_congr fun a b ha hb => ?_
  have : upD n Q 0 a b = true := decide_eq_true (.inl hb)
  rw [this]; rfl

theorem up_cols (N : Nat) (n6 : n ≤ 6) (q6 : Q ≤ 6) (hN : 7 < N) (hl : l.length = n * n) (hm : m.length = n * Q) (al : allU64 l = true) (am : allU64 m = true) : ∀ (cnt j F : Nat), j + cnt = Q → cnt < F →
    solve.triangle.Up.L0 N F (n : Int) (n : Int) l (n : Int) (Q : Int) m (n : Int) (j : Int) (upS n Q l m j 0) =
    bif finL (upS n Q l m Q 0) then some (.tup [.agg [.int .i64 (n : Int), .int .i64 (Q : Int), .ints (.own 112002 37) .u64 (upS n Q l m Q 0)], .int .i64 (0 : Int)]) else some (nilX 2) := by
  intro cnt
  induction cnt with
  | zero =>
    intro j F hj hF
    obtain ⟨F, rfl⟩ : ∃ G, F = G + 1 := ⟨F - 1, by omega⟩
    obtain rfl : j = Q := by omega
    have h36 := Nat.mul_le_mul n6 q6
    rw [solve.triangle.Up.L0_step, ltI_eq, decide_eq_false (by omega), cond_false, okU_of (upS_in _ _) (by rw [upS_len]; omega), cond_true]
    cases finL (upS n j l m j 0) <;> rfl
  | succ cnt ih =>
    intro j F hj hF
    obtain ⟨F, rfl⟩ : ∃ G, F = G + 1 := ⟨F - 1, by omega⟩
    have hr := up_rows N n6 q6 hN hl hm al am (show j < Q by omega) F n 0 N (by omega) (by omega)
    rw [upS_next] at hr
    rw [solve.triangle.Up.L0_step, ltI_eq, decide_eq_true (show (j : Int) < (Q : Int) by omega), cond_true]
    exact hr.trans (ih (j + 1) F (by omega) (by omega))
end

theorem solve.triangle.Up.known : Known Tryz.prog 48 solve.triangle.Up.spec := solve.triangle.Up.known_of (.cons order_up.known (.cons matrix.Zeros.own.known (.cons solve.Upper_1.known (.cons vector.Div.known (.cons vector.Finite.known (.cons vector.Mul.known (.cons vector.Sub.known .nil))))))) fun r c l p q m n hp => by
  show ∃ N dv drops, _ = some dv ∧ Wk drops dv (outX (finX r q (upG c l q m (Int.toNat r) (Int.toNat q))))
  obtain ⟨h1, hn⟩ := and_true_iff.1 (show (triPre r c l p q m && decide (n = r)) = true from hp)
  obtain ⟨h2, h3⟩ := and_true_iff.1 h1
  obtain ⟨hr, hm⟩ := and_true_iff.1 h2
  obtain ⟨h4, h5⟩ := and_true_iff.1 h3
  obtain ⟨al, am⟩ := and_true_iff.1 h4
  obtain ⟨rfl, rfl⟩ := cdec_eq.1 h5
  obtain rfl := of_decide_eq_true hn
  have s1 := (right_sizes hr).1
  have s2 := (right_sizes hm).2
  obtain ⟨R, C, rfl, hC, r6, c6, hl⟩ := right_nat hr
  obtain ⟨P, Q, hP, rfl, p6, q6, hl2⟩ := right_nat hm
  obtain rfl : R = C := by omega
  obtain rfl : R = P := by omega
  have h := up_cols (n := R) (Q := Q) (l := l) (m := m) 8 r6 q6 (by omega) hl hl2 al am Q 0 8 (by omega) (by omega)
  rw [upS_zero, upS_all, show ((0 : Nat) : Int) = 0 from rfl] at h
  rw [Int.toNat_natCast, Int.toNat_natCast]
  unfold finX
  cases hf : finL (upG (R : Int) l (Q : Int) m R Q) with
  | true =>
    rw [hf, cond_true] at h
    rw [if_pos rfl]
    refine ⟨8, .tup [.agg [.int .i64 (R : Int), .int .i64 (Q : Int), .ints (.own 112002 37) .u64 (upG (R : Int) l (Q : Int) m R Q)], .int .i64 0], [112002], ?_, Wk.tupL (.cons (wk_own (List.mem_singleton.2 rfl)) (.cons .int .nil))⟩
    rw [solve.triangle.Up.ev, s1, s2, Bool.and_self, cond_true, Int.toNat_natCast, Int.toNat_natCast]
    exact h
  | false =>
    rw [hf, cond_false] at h
    rw [if_neg (by decide)]
    refine ⟨8, nilX 2, [], ?_, wk_no⟩
    rw [solve.triangle.Up.ev, s1, s2, Bool.and_self, cond_true, Int.toNat_natCast, Int.toNat_natCast]
    exact h
end Go.Proofs.S1
