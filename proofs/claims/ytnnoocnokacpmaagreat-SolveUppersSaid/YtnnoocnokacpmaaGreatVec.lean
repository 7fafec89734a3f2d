/- Vec of the verified evaluator and its use for this seat (of my texts S1EqVec, S1PVec). -/
import Derived.Test.YtnnoocnokacpmaaGreatSpe
import Derived.Test.YtnnoocnokacpmaaGreatTim
import Derived.Test.YtnnoocnokacpmaaGreatRef
import Derived.Test.YtnnoocnokacpmaaGreatMat

/- The evaluator's equations: vector.Add, vector.Sub, vector.Mul, vector.fit, vector.Dot, dioptraref09.F, dioptraref09.B, dioptraref09.Add, dioptraref09.Sub, dioptraref09.Mul, dioptraref09.Dot, dioptraref09.Same. Printed by denpy.py. -/
namespace Go.Proofs.S1
open Go Go.Den Go.Rnd Go.Proofs
set_option linter.unusedVariables false
set_option maxRecDepth 100000
namespace EqVec
theorem tt0 (a : Bool) : (((!a) || (a == true)) && true) = true := by cases a <;> rfl
theorem tt1 (a : Bool) : ((!(a == true)) || ((((!(a == true)) || (a == true)) && true) && true)) = true := by cases a <;> rfl
theorem tt2 (a : Bool) : ((!(a == true)) || true) = true := by cases a <;> rfl
theorem tt3 (a : Bool) : (a && true) = a := by cases a <;> rfl
theorem tt4 (a b : Bool) : ((a && b) && true) = (a && b) := by cases a <;> cases b <;> rfl
noncomputable def vector.Add.tab : List (Nat × Entry) := [(200, sum.Add.spec)]
noncomputable def vector.Add.E : Env := envOf (tabOf vector.Add.tab) (fun _ => false) (fun _ => none) (fun _ => none)
theorem vector.Add.ev (N : Nat) (a : Int) (b : Int) : funD vector.Add.E N Tryz.f193 (bodyOf Tryz.f193) [.int .u64 a, .int .u64 b] =
  bif (inU64 a && inU64 b) then
  some (.int .u64 (addBI a b))
  else none := by kernel_rfl
theorem vector.Add.known_of (hk : Knowns Tryz.prog vector.Add.tab) (h : ∀ (a : Int) (b : Int), vector.Add.pre [.i a, .i b] = true → ∃ N dv drops, funD vector.Add.E N Tryz.f193 (bodyOf Tryz.f193) [.int .u64 a, .int .u64 b] = some dv ∧ Wk drops dv (vector.Add.out [.i a, .i b])) : Known Tryz.prog 193 vector.Add.spec := by
  refine ⟨meets_entry (E := vector.Add.E) (env_ok hk _ _ _) Tryz.func193 (show Tryz.f193.body = some (bodyOf Tryz.f193) by kernel_rfl) fun ats dvs he hp => ?_, call_enter Tryz.func193 (by kernel_rfl) (show Tryz.f193.body = some (bodyOf Tryz.f193) by kernel_rfl)⟩
  obtain ⟨a, _, _, rfl, rfl, he0⟩ := he.i_inv
  obtain ⟨b, _, _, rfl, rfl, he1⟩ := he0.i_inv
  obtain ⟨rfl, rfl⟩ := he1.nil_inv
  exact h a b hp

noncomputable def vector.Sub.tab : List (Nat × Entry) := [(167, sum.Sub.spec)]
noncomputable def vector.Sub.E : Env := envOf (tabOf vector.Sub.tab) (fun _ => false) (fun _ => none) (fun _ => none)
theorem vector.Sub.ev (N : Nat) (a : Int) (b : Int) : funD vector.Sub.E N Tryz.f117 (bodyOf Tryz.f117) [.int .u64 a, .int .u64 b] =
  bif (inU64 a && inU64 b) then
  some (.int .u64 (subBI a b))
  else none := by kernel_rfl
theorem vector.Sub.known_of (hk : Knowns Tryz.prog vector.Sub.tab) (h : ∀ (a : Int) (b : Int), vector.Sub.pre [.i a, .i b] = true → ∃ N dv drops, funD vector.Sub.E N Tryz.f117 (bodyOf Tryz.f117) [.int .u64 a, .int .u64 b] = some dv ∧ Wk drops dv (vector.Sub.out [.i a, .i b])) : Known Tryz.prog 117 vector.Sub.spec := by
  refine ⟨meets_entry (E := vector.Sub.E) (env_ok hk _ _ _) Tryz.func117 (show Tryz.f117.body = some (bodyOf Tryz.f117) by kernel_rfl) fun ats dvs he hp => ?_, call_enter Tryz.func117 (by kernel_rfl) (show Tryz.f117.body = some (bodyOf Tryz.f117) by kernel_rfl)⟩
  obtain ⟨a, _, _, rfl, rfl, he0⟩ := he.i_inv
  obtain ⟨b, _, _, rfl, rfl, he1⟩ := he0.i_inv
  obtain ⟨rfl, rfl⟩ := he1.nil_inv
  exact h a b hp

noncomputable def vector.Mul.tab : List (Nat × Entry) := [(168, times.Mul.spec)]
noncomputable def vector.Mul.E : Env := envOf (tabOf vector.Mul.tab) (fun _ => false) (fun _ => none) (fun _ => none)
theorem vector.Mul.ev (N : Nat) (a : Int) (b : Int) : funD vector.Mul.E N Tryz.f118 (bodyOf Tryz.f118) [.int .u64 a, .int .u64 b] =
  bif (inU64 a && inU64 b) then
  some (.int .u64 (mulBI a b))
  else none := by kernel_rfl
theorem vector.Mul.known_of (hk : Knowns Tryz.prog vector.Mul.tab) (h : ∀ (a : Int) (b : Int), vector.Mul.pre [.i a, .i b] = true → ∃ N dv drops, funD vector.Mul.E N Tryz.f118 (bodyOf Tryz.f118) [.int .u64 a, .int .u64 b] = some dv ∧ Wk drops dv (vector.Mul.out [.i a, .i b])) : Known Tryz.prog 118 vector.Mul.spec := by
  refine ⟨meets_entry (E := vector.Mul.E) (env_ok hk _ _ _) Tryz.func118 (show Tryz.f118.body = some (bodyOf Tryz.f118) by kernel_rfl) fun ats dvs he hp => ?_, call_enter Tryz.func118 (by kernel_rfl) (show Tryz.f118.body = some (bodyOf Tryz.f118) by kernel_rfl)⟩
  obtain ⟨a, _, _, rfl, rfl, he0⟩ := he.i_inv
  obtain ⟨b, _, _, rfl, rfl, he1⟩ := he0.i_inv
  obtain ⟨rfl, rfl⟩ := he1.nil_inv
  exact h a b hp

noncomputable def vector.fit.tab : List (Nat × Entry) := []
noncomputable def vector.fit.E : Env := envOf (tabOf vector.fit.tab) (fun _ => false) (fun _ => none) (fun _ => none)
theorem vector.fit.ev (N : Nat) (x : List Int) (y : List Int) : funD vector.fit.E N Tryz.f192 (bodyOf Tryz.f192) [.ints .arg .u64 x, .ints .arg .u64 y] =
  some (.bool (bif ((List.length x : Int) == (List.length y : Int)) then (leI (List.length x : Int) (64 : Int)) else false)) :=
  Eq.trans (by kernel_rfl)
  (ifTn (tt2 ((List.length x : Int) == (List.length y : Int))) (ifTn (tt1 ((List.length x : Int) == (List.length y : Int))) (ifTn (tt1 ((List.length x : Int) == (List.length y : Int))) (ifTn (tt0 ((List.length x : Int) == (List.length y : Int))) rfl))))
theorem vector.fit.known_of (hk : Knowns Tryz.prog vector.fit.tab) (h : ∀ (x : List Int) (y : List Int), vector.fit.pre [.l x, .l y] = true → ∃ N dv drops, funD vector.fit.E N Tryz.f192 (bodyOf Tryz.f192) [.ints .arg .u64 x, .ints .arg .u64 y] = some dv ∧ Wk drops dv (vector.fit.out [.l x, .l y])) : Known Tryz.prog 192 vector.fit.spec := by
  refine ⟨meets_entry (E := vector.fit.E) (env_ok hk _ _ _) Tryz.func192 (show Tryz.f192.body = some (bodyOf Tryz.f192) by kernel_rfl) fun ats dvs he hp => ?_, call_enter Tryz.func192 (by kernel_rfl) (show Tryz.f192.body = some (bodyOf Tryz.f192) by kernel_rfl)⟩
  obtain ⟨x, _, _, rfl, rfl, he0⟩ := he.s_inv
  obtain ⟨y, _, _, rfl, rfl, he1⟩ := he0.s_inv
  obtain ⟨rfl, rfl⟩ := he1.nil_inv
  exact h x y hp

def vector.Dot.hint : Nat → Option LoopHint
  | 0 => some { keep := [0, 1, 6, 13, 14], objs := [], boxes := [] }
  | _ => none
noncomputable def vector.Dot.tab : List (Nat × Entry) := [(193, vector.Add.spec), (118, vector.Mul.spec), (192, vector.fit.spec)]
noncomputable def vector.Dot.E : Env := envOf (tabOf vector.Dot.tab) (fun _ => false) vector.Dot.hint (fun _ => none)
noncomputable def vector.Dot.L0 (N M : Nat) (x : List Int) (y : List Int) (p6 : Int) (p14 : Int) : Option DV := loopAt vector.Dot.E N Tryz.f146 (bodyOf Tryz.f146) [1, 1, 1, 0, 1, 0] [] M ⟨mkT 30 [(0, .ints .arg .u64 x), (1, .ints .arg .u64 y), (6, .int .u64 p6), (13, .int .i64 (List.length x : Int)), (14, .int .i64 p14)], []⟩
theorem vector.Dot.L0_step (N M : Nat) (x : List Int) (y : List Int) (p6 : Int) (p14 : Int) : vector.Dot.L0 N (M + 1) x y p6 p14 =
  bif (ltI p14 (List.length x : Int)) then
  bif ((decide (0 ≤ p14)) && (decide (p14 < (List.length x : Int)))) then
  bif ((decide (0 ≤ p14)) && (decide (p14 < (List.length y : Int)))) then
  bif (inU64 (List.getD x (Int.toNat p14) 0) && inU64 (List.getD y (Int.toNat p14) 0)) then
  bif (inU64 p6 && inU64 (mulBI (List.getD x (Int.toNat p14) 0) (List.getD y (Int.toNat p14) 0))) then
  vector.Dot.L0 N M x y (addBI p6 (mulBI (List.getD x (Int.toNat p14) 0) (List.getD y (Int.toNat p14) 0))) (w_i64 (p14 + (1 : Int)))
  else none
  else none
  else none
  else none
  else some (.tup [.int .u64 p6, .int .i64 (0 : Int)]) :=
  Eq.trans (by kernel_rfl)
  (ifE (ifS (tt4 (decide (0 ≤ p14)) (decide (p14 < (List.length x : Int)))) (ifS (tt4 (decide (0 ≤ p14)) (decide (p14 < (List.length y : Int)))) (ifS (tt3 (inU64 (List.getD x (Int.toNat p14) 0) && inU64 (List.getD y (Int.toNat p14) 0))) (ifS (tt3 (inU64 p6 && inU64 (mulBI (List.getD x (Int.toNat p14) 0) (List.getD y (Int.toNat p14) 0)))) rfl rfl) rfl) rfl) rfl) rfl)
theorem vector.Dot.ev (N : Nat) (x : List Int) (y : List Int) : funD vector.Dot.E N Tryz.f146 (bodyOf Tryz.f146) [.ints .arg .u64 x, .ints .arg .u64 y] =
  bif (!(fitB x y)) then
  some (.tup [.int .u64 (0 : Int), .int .i64 (3 : Int)])
  else vector.Dot.L0 N N x y (0 : Int) (0 : Int) := by kernel_rfl
theorem vector.Dot.known_of (hk : Knowns Tryz.prog vector.Dot.tab) (h : ∀ (x : List Int) (y : List Int), vector.Dot.pre [.l x, .l y] = true → ∃ N dv drops, funD vector.Dot.E N Tryz.f146 (bodyOf Tryz.f146) [.ints .arg .u64 x, .ints .arg .u64 y] = some dv ∧ Wk drops dv (vector.Dot.out [.l x, .l y])) : Known Tryz.prog 146 vector.Dot.spec := by
  refine ⟨meets_entry (E := vector.Dot.E) (env_ok hk _ _ _) Tryz.func146 (show Tryz.f146.body = some (bodyOf Tryz.f146) by kernel_rfl) fun ats dvs he hp => ?_, call_enter Tryz.func146 (by kernel_rfl) (show Tryz.f146.body = some (bodyOf Tryz.f146) by kernel_rfl)⟩
  obtain ⟨x, _, _, rfl, rfl, he0⟩ := he.s_inv
  obtain ⟨y, _, _, rfl, rfl, he1⟩ := he0.s_inv
  obtain ⟨rfl, rfl⟩ := he1.nil_inv
  exact h x y hp

noncomputable def ref09.F.tab : List (Nat × Entry) := []
noncomputable def ref09.F.E : Env := envOf (tabOf ref09.F.tab) (fun _ => false) (fun _ => none) (fun _ => none)
theorem ref09.F.ev (N : Nat) (x : Int) : funD ref09.F.E N Tryz.f120 (bodyOf Tryz.f120) [.int .u64 x] =
  bif (decide (0 ≤ x)) then
  some (.fl (Int.toNat x))
  else none := by kernel_rfl
theorem ref09.F.known_of (hk : Knowns Tryz.prog ref09.F.tab) (h : ∀ (x : Int), ref09.F.pre [.i x] = true → ∃ N dv drops, funD ref09.F.E N Tryz.f120 (bodyOf Tryz.f120) [.int .u64 x] = some dv ∧ Wk drops dv (ref09.F.out [.i x])) : Known Tryz.prog 120 ref09.F.spec := by
  refine ⟨meets_entry (E := ref09.F.E) (env_ok hk _ _ _) Tryz.func120 (show Tryz.f120.body = some (bodyOf Tryz.f120) by kernel_rfl) fun ats dvs he hp => ?_, call_enter Tryz.func120 (by kernel_rfl) (show Tryz.f120.body = some (bodyOf Tryz.f120) by kernel_rfl)⟩
  obtain ⟨x, _, _, rfl, rfl, he0⟩ := he.i_inv
  obtain ⟨rfl, rfl⟩ := he0.nil_inv
  exact h x hp

noncomputable def ref09.B.tab : List (Nat × Entry) := [(133, ref05.Canon.nb.spec)]
noncomputable def ref09.B.E : Env := envOf (tabOf ref09.B.tab) (fun _ => false) (fun _ => none) (fun _ => none)
theorem ref09.B.ev (N : Nat) (x : Nat) : funD ref09.B.E N Tryz.f76 (bodyOf Tryz.f76) [.fl x] =
  some (.int .u64 (canonNI x)) := by kernel_rfl
theorem ref09.B.known_of (hk : Knowns Tryz.prog ref09.B.tab) (h : ∀ (x : Nat), ref09.B.pre [.f x] = true → ∃ N dv drops, funD ref09.B.E N Tryz.f76 (bodyOf Tryz.f76) [.fl x] = some dv ∧ Wk drops dv (ref09.B.out [.f x])) : Known Tryz.prog 76 ref09.B.spec := by
  refine ⟨meets_entry (E := ref09.B.E) (env_ok hk _ _ _) Tryz.func76 (show Tryz.f76.body = some (bodyOf Tryz.f76) by kernel_rfl) fun ats dvs he hp => ?_, call_enter Tryz.func76 (by kernel_rfl) (show Tryz.f76.body = some (bodyOf Tryz.f76) by kernel_rfl)⟩
  obtain ⟨x, _, _, rfl, rfl, he0⟩ := he.fl_inv
  obtain ⟨rfl, rfl⟩ := he0.nil_inv
  exact h x hp

noncomputable def ref09.Add.tab : List (Nat × Entry) := [(76, ref09.B.spec), (120, ref09.F.spec)]
noncomputable def ref09.Add.E : Env := envOf (tabOf ref09.Add.tab) (fun _ => false) (fun _ => none) (fun _ => none)
theorem ref09.Add.ev (N : Nat) (a : Int) (b : Int) : funD ref09.Add.E N Tryz.f183 (bodyOf Tryz.f183) [.int .u64 a, .int .u64 b] =
  bif (inU64 a) then
  bif (inU64 b) then
  some (.int .u64 (canonNI ((Ieee.double.add (Int.toNat a) (Int.toNat b)).getD nanBits)))
  else none
  else none := by kernel_rfl
theorem ref09.Add.known_of (hk : Knowns Tryz.prog ref09.Add.tab) (h : ∀ (a : Int) (b : Int), ref09.Add.pre [.i a, .i b] = true → ∃ N dv drops, funD ref09.Add.E N Tryz.f183 (bodyOf Tryz.f183) [.int .u64 a, .int .u64 b] = some dv ∧ Wk drops dv (ref09.Add.out [.i a, .i b])) : Known Tryz.prog 183 ref09.Add.spec := by
  refine ⟨meets_entry (E := ref09.Add.E) (env_ok hk _ _ _) Tryz.func183 (show Tryz.f183.body = some (bodyOf Tryz.f183) by kernel_rfl) fun ats dvs he hp => ?_, call_enter Tryz.func183 (by kernel_rfl) (show Tryz.f183.body = some (bodyOf Tryz.f183) by kernel_rfl)⟩
  obtain ⟨a, _, _, rfl, rfl, he0⟩ := he.i_inv
  obtain ⟨b, _, _, rfl, rfl, he1⟩ := he0.i_inv
  obtain ⟨rfl, rfl⟩ := he1.nil_inv
  exact h a b hp

noncomputable def ref09.Sub.tab : List (Nat × Entry) := [(76, ref09.B.spec), (120, ref09.F.spec)]
noncomputable def ref09.Sub.E : Env := envOf (tabOf ref09.Sub.tab) (fun _ => false) (fun _ => none) (fun _ => none)
theorem ref09.Sub.ev (N : Nat) (a : Int) (b : Int) : funD ref09.Sub.E N Tryz.f53 (bodyOf Tryz.f53) [.int .u64 a, .int .u64 b] =
  bif (inU64 a) then
  bif (inU64 b) then
  some (.int .u64 (canonNI ((Ieee.double.sub (Int.toNat a) (Int.toNat b)).getD nanBits)))
  else none
  else none := by kernel_rfl
theorem ref09.Sub.known_of (hk : Knowns Tryz.prog ref09.Sub.tab) (h : ∀ (a : Int) (b : Int), ref09.Sub.pre [.i a, .i b] = true → ∃ N dv drops, funD ref09.Sub.E N Tryz.f53 (bodyOf Tryz.f53) [.int .u64 a, .int .u64 b] = some dv ∧ Wk drops dv (ref09.Sub.out [.i a, .i b])) : Known Tryz.prog 53 ref09.Sub.spec := by
  refine ⟨meets_entry (E := ref09.Sub.E) (env_ok hk _ _ _) Tryz.func53 (show Tryz.f53.body = some (bodyOf Tryz.f53) by kernel_rfl) fun ats dvs he hp => ?_, call_enter Tryz.func53 (by kernel_rfl) (show Tryz.f53.body = some (bodyOf Tryz.f53) by kernel_rfl)⟩
  obtain ⟨a, _, _, rfl, rfl, he0⟩ := he.i_inv
  obtain ⟨b, _, _, rfl, rfl, he1⟩ := he0.i_inv
  obtain ⟨rfl, rfl⟩ := he1.nil_inv
  exact h a b hp

noncomputable def ref09.Mul.tab : List (Nat × Entry) := [(76, ref09.B.spec), (120, ref09.F.spec)]
noncomputable def ref09.Mul.E : Env := envOf (tabOf ref09.Mul.tab) (fun _ => false) (fun _ => none) (fun _ => none)
theorem ref09.Mul.ev (N : Nat) (a : Int) (b : Int) : funD ref09.Mul.E N Tryz.f54 (bodyOf Tryz.f54) [.int .u64 a, .int .u64 b] =
  bif (inU64 a) then
  bif (inU64 b) then
  some (.int .u64 (canonNI ((Ieee.double.mul (Int.toNat a) (Int.toNat b)).getD nanBits)))
  else none
  else none := by kernel_rfl
theorem ref09.Mul.known_of (hk : Knowns Tryz.prog ref09.Mul.tab) (h : ∀ (a : Int) (b : Int), ref09.Mul.pre [.i a, .i b] = true → ∃ N dv drops, funD ref09.Mul.E N Tryz.f54 (bodyOf Tryz.f54) [.int .u64 a, .int .u64 b] = some dv ∧ Wk drops dv (ref09.Mul.out [.i a, .i b])) : Known Tryz.prog 54 ref09.Mul.spec := by
  refine ⟨meets_entry (E := ref09.Mul.E) (env_ok hk _ _ _) Tryz.func54 (show Tryz.f54.body = some (bodyOf Tryz.f54) by kernel_rfl) fun ats dvs he hp => ?_, call_enter Tryz.func54 (by kernel_rfl) (show Tryz.f54.body = some (bodyOf Tryz.f54) by kernel_rfl)⟩
  obtain ⟨a, _, _, rfl, rfl, he0⟩ := he.i_inv
  obtain ⟨b, _, _, rfl, rfl, he1⟩ := he0.i_inv
  obtain ⟨rfl, rfl⟩ := he1.nil_inv
  exact h a b hp

def ref09.Dot.hint : Nat → Option LoopHint
  | 0 => some { keep := [0, 1, 5, 6], objs := [], boxes := [] }
  | _ => none
noncomputable def ref09.Dot.tab : List (Nat × Entry) := [(183, ref09.Add.spec), (54, ref09.Mul.spec)]
noncomputable def ref09.Dot.E : Env := envOf (tabOf ref09.Dot.tab) (fun _ => false) ref09.Dot.hint (fun _ => none)
noncomputable def ref09.Dot.L0 (N M : Nat) (x : List Int) (y : List Int) (p5 : Int) (p6 : Int) : Option DV := loopAt ref09.Dot.E N Tryz.f132 (bodyOf Tryz.f132) [1, 1, 0, 1, 0] [] M ⟨mkT 25 [(0, .ints .arg .u64 x), (1, .ints .arg .u64 y), (5, .int .u64 p5), (6, .int .i64 p6)], []⟩
theorem ref09.Dot.L0_step (N M : Nat) (x : List Int) (y : List Int) (p5 : Int) (p6 : Int) : ref09.Dot.L0 N (M + 1) x y p5 p6 =
  bif (ltI p6 (List.length x : Int)) then
  bif ((decide (0 ≤ p6)) && (decide (p6 < (List.length x : Int)))) then
  bif ((decide (0 ≤ p6)) && (decide (p6 < (List.length y : Int)))) then
  bif (inU64 (List.getD x (Int.toNat p6) 0) && inU64 (List.getD y (Int.toNat p6) 0)) then
  bif (inU64 p5 && inU64 (mulBI (List.getD x (Int.toNat p6) 0) (List.getD y (Int.toNat p6) 0))) then
  ref09.Dot.L0 N M x y (addBI p5 (mulBI (List.getD x (Int.toNat p6) 0) (List.getD y (Int.toNat p6) 0))) (w_i64 (p6 + (1 : Int)))
  else none
  else none
  else none
  else none
  else some (.int .u64 p5) :=
  Eq.trans (by kernel_rfl)
  (ifE (ifS (tt4 (decide (0 ≤ p6)) (decide (p6 < (List.length x : Int)))) (ifS (tt4 (decide (0 ≤ p6)) (decide (p6 < (List.length y : Int)))) (ifS (tt3 (inU64 (List.getD x (Int.toNat p6) 0) && inU64 (List.getD y (Int.toNat p6) 0))) (ifS (tt3 (inU64 p5 && inU64 (mulBI (List.getD x (Int.toNat p6) 0) (List.getD y (Int.toNat p6) 0)))) rfl rfl) rfl) rfl) rfl) rfl)
theorem ref09.Dot.ev (N : Nat) (x : List Int) (y : List Int) : funD ref09.Dot.E N Tryz.f132 (bodyOf Tryz.f132) [.ints .arg .u64 x, .ints .arg .u64 y] =
  ref09.Dot.L0 N N x y (0 : Int) (0 : Int) := by kernel_rfl
theorem ref09.Dot.known_of (hk : Knowns Tryz.prog ref09.Dot.tab) (h : ∀ (x : List Int) (y : List Int), ref09.Dot.pre [.l x, .l y] = true → ∃ N dv drops, funD ref09.Dot.E N Tryz.f132 (bodyOf Tryz.f132) [.ints .arg .u64 x, .ints .arg .u64 y] = some dv ∧ Wk drops dv (ref09.Dot.out [.l x, .l y])) : Known Tryz.prog 132 ref09.Dot.spec := by
  refine ⟨meets_entry (E := ref09.Dot.E) (env_ok hk _ _ _) Tryz.func132 (show Tryz.f132.body = some (bodyOf Tryz.f132) by kernel_rfl) fun ats dvs he hp => ?_, call_enter Tryz.func132 (by kernel_rfl) (show Tryz.f132.body = some (bodyOf Tryz.f132) by kernel_rfl)⟩
  obtain ⟨x, _, _, rfl, rfl, he0⟩ := he.s_inv
  obtain ⟨y, _, _, rfl, rfl, he1⟩ := he0.s_inv
  obtain ⟨rfl, rfl⟩ := he1.nil_inv
  exact h x y hp

def ref09.Same.hint : Nat → Option LoopHint
  | 0 => some { keep := [0, 1, 5], objs := [], boxes := [] }
  | _ => none
noncomputable def ref09.Same.tab : List (Nat × Entry) := []
noncomputable def ref09.Same.E : Env := envOf (tabOf ref09.Same.tab) (fun _ => false) ref09.Same.hint (fun _ => none)
noncomputable def ref09.Same.L0 (N M : Nat) (x : List Int) (y : List Int) (p5 : Int) : Option DV := loopAt ref09.Same.E N Tryz.f73 (bodyOf Tryz.f73) [1, 1, 0, 1, 0] [] M ⟨mkT 26 [(0, .ints .arg .u64 x), (1, .ints .arg .u64 y), (5, .int .i64 p5)], []⟩
theorem ref09.Same.L0_step (N M : Nat) (x : List Int) (y : List Int) (p5 : Int) : ref09.Same.L0 N (M + 1) x y p5 =
  bif (ltI p5 (List.length x : Int)) then
  bif ((decide (0 ≤ p5)) && (decide (p5 < (List.length x : Int)))) then
  bif ((decide (0 ≤ p5)) && (decide (p5 < (List.length y : Int)))) then
  bif ((List.getD x (Int.toNat p5) 0) != (List.getD y (Int.toNat p5) 0)) then
  some (.bool false)
  else ref09.Same.L0 N M x y (w_i64 (p5 + (1 : Int)))
  else none
  else none
  else some (.bool true) :=
  Eq.trans (by kernel_rfl)
  (ifE (ifS (tt4 (decide (0 ≤ p5)) (decide (p5 < (List.length x : Int)))) (ifS (tt4 (decide (0 ≤ p5)) (decide (p5 < (List.length y : Int)))) rfl rfl) rfl) rfl)
theorem ref09.Same.ev (N : Nat) (x : List Int) (y : List Int) : funD ref09.Same.E N Tryz.f73 (bodyOf Tryz.f73) [.ints .arg .u64 x, .ints .arg .u64 y] =
  bif ((List.length x : Int) != (List.length y : Int)) then
  some (.bool false)
  else ref09.Same.L0 N N x y (0 : Int) := by kernel_rfl
theorem ref09.Same.known_of (hk : Knowns Tryz.prog ref09.Same.tab) (h : ∀ (x : List Int) (y : List Int), ref09.Same.pre [.l x, .l y] = true → ∃ N dv drops, funD ref09.Same.E N Tryz.f73 (bodyOf Tryz.f73) [.ints .arg .u64 x, .ints .arg .u64 y] = some dv ∧ Wk drops dv (ref09.Same.out [.l x, .l y])) : Known Tryz.prog 73 ref09.Same.spec := by
  refine ⟨meets_entry (E := ref09.Same.E) (env_ok hk _ _ _) Tryz.func73 (show Tryz.f73.body = some (bodyOf Tryz.f73) by kernel_rfl) fun ats dvs he hp => ?_, call_enter Tryz.func73 (by kernel_rfl) (show Tryz.f73.body = some (bodyOf Tryz.f73) by kernel_rfl)⟩
  obtain ⟨x, _, _, rfl, rfl, he0⟩ := he.s_inv
  obtain ⟨y, _, _, rfl, rfl, he1⟩ := he0.s_inv
  obtain ⟨rfl, rfl⟩ := he1.nil_inv
  exact h x y hp
end EqVec
end Go.Proofs.S1

/- Packages vector and dioptraref09: what their functions answer. -/
namespace Go.Proofs.S1
open Go Go.Den Go.Rnd Go.Proofs Ieee
open EqVec

theorem num_zero {b : Nat} (h3 : kindN b ≠ 3) (h4 : kindN b ≠ 4) : partM b = 0 ↔ kindN b = 0 :=
  ⟨fun h => by
    by_cases h0 : kindN b = 0
    · exact h0
    · exact absurd h (partM_pos h0 h3 h4), partM_nil⟩

theorem canon_inf (s : Bool) : canonN (signN s infR) = signN s infR := canon_sign s (Nat.le_refl _)

theorem mul_ieee {a b : Nat} (ha : a < 2 ^ 64) (hb : b < 2 ^ 64) {d : Nat} (hd : kindN d = 4) : canonN ((Ieee.double.mul a b).getD d) = (mulN a b).1 := by
  have cd : canonN d = NaN := if_pos hd
  have ex : ∀ s t : Bool, (s ^^ t) = (s != t) := fun s t => by cases s <;> cases t <;> rfl
  unfold Format.mul
  rw [read_eq ha, read_eq hb]
  unfold mulN
  by_cases a4 : kindN a = 4
  · rw [if_pos (.inl a4), readN_nan a4]; exact cd
  · by_cases b4 : kindN b = 4
    · rw [if_pos (.inr b4), readN_nan b4]
      by_cases a3 : kindN a = 3
      · rw [readN_inf a3]; exact cd
      · rw [readN_num a3 a4]; exact cd
    · rw [if_neg (fun h => h.elim a4 b4)]
      by_cases a3 : kindN a = 3
      · rw [if_pos (.inl a3), readN_inf a3]
        by_cases b3 : kindN b = 3
        · rw [readN_inf b3, if_neg (by omega)]
          show canonN (signN (negN a ^^ negN b) infR) = _
          rw [canon_inf, ex]
        · rw [readN_num b3 b4]
          have z := num_zero b3 b4
          by_cases b0 : kindN b = 0
          · have e : (Datum.infinity (negN a)).product (.number (negN b) (partM b) (partE b)) = none := if_pos (z.2 b0)
            rw [e, if_pos (.inr b0)]; exact cd
          · have e : (Datum.infinity (negN a)).product (.number (negN b) (partM b) (partE b)) = some (.infinity (negN a ^^ negN b)) := if_neg (fun k => b0 (z.1 k))
            rw [e, if_neg (by omega)]
            show canonN (signN (negN a ^^ negN b) infR) = _
            rw [canon_inf, ex]
      · rw [readN_num a3 a4]
        have z := num_zero a3 a4
        by_cases b3 : kindN b = 3
        · rw [if_pos (.inr b3), readN_inf b3]
          have sw : ∀ s t : Bool, (t ^^ s) = (s != t) := fun s t => by cases s <;> cases t <;> rfl
          by_cases a0 : kindN a = 0
          · have e : (Datum.number (negN a) (partM a) (partE a)).product (.infinity (negN b)) = none := if_pos (z.2 a0)
            rw [e, if_pos (.inl a0)]; exact cd
          · have e : (Datum.number (negN a) (partM a) (partE a)).product (.infinity (negN b)) = some (.infinity (negN b ^^ negN a)) := if_neg (fun k => a0 (z.1 k))
            rw [e, if_neg (by omega)]
            show canonN (signN (negN b ^^ negN a) infR) = _
            rw [canon_inf, sw]
        · rw [readN_num b3 b4, if_neg (by omega)]
          show canonN (Ieee.double.write (.number (negN a ^^ negN b) (partM a * partM b) (partE a + partE b))) = _
          rw [write_num, canon_sign _ (rung_le _ _), ex]


theorem nanBits_kind : kindN nanBits = 4 := by decide +kernel

theorem vector.Add.known : Known Tryz.prog 193 vector.Add.spec := vector.Add.known_of (.cons sum.Add.known .nil) fun a b hp => by
  have hp : (inU64 a && inU64 b) = true := hp
  refine ⟨0, vector.Add.out [.i a, .i b], [], ?_, .int⟩
  rw [vector.Add.ev, hp]; rfl

theorem vector.Sub.known : Known Tryz.prog 117 vector.Sub.spec := vector.Sub.known_of (.cons sum.Sub.known .nil) fun a b hp => by
  have hp : (inU64 a && inU64 b) = true := hp
  refine ⟨0, vector.Sub.out [.i a, .i b], [], ?_, .int⟩
  rw [vector.Sub.ev, hp]; rfl

theorem vector.Mul.known : Known Tryz.prog 118 vector.Mul.spec := vector.Mul.known_of (.cons times.Mul.known .nil) fun a b hp => by
  have hp : (inU64 a && inU64 b) = true := hp
  refine ⟨0, vector.Mul.out [.i a, .i b], [], ?_, .int⟩
  rw [vector.Mul.ev, hp]; rfl

theorem fit_code (x y : List Int) : (bif ((List.length x : Int) == (List.length y : Int)) then (leI (List.length x : Int) (64 : Int)) else false) = fitB x y := by
  unfold fitB
  rw [leI_eq, Bool.eq_iff_iff]
  by_cases h : x.length = y.length
  · have : ((x.length : Int) == (y.length : Int)) = true := by rw [beq_iff_eq]; omega
    rw [this, cond_true, decide_eq_true h, Bool.true_and, decide_eq_true_eq, decide_eq_true_eq]; omega
  · have : ((x.length : Int) == (y.length : Int)) = false := by rw [beq_eq_false_iff_ne]; omega
    rw [this, cond_false, decide_eq_false h, Bool.false_and]

theorem vector.fit.known : Known Tryz.prog 192 vector.fit.spec := vector.fit.known_of .nil fun x y _ => by
  refine ⟨0, vector.fit.out [.l x, .l y], [], ?_, .bool⟩
  rw [vector.fit.ev, fit_code]; rfl

theorem fit_iff {x y : List Int} : fitB x y = true ↔ x.length = y.length ∧ x.length ≤ 64 := by unfold fitB; simp

theorem drop_get {l : List Int} {i : Nat} (h : i < l.length) : l.drop i = l.getD i 0 :: l.drop (i + 1) := by
  rw [List.drop_eq_getElem_cons h, List.getD_eq_getElem?_getD, List.getElem?_eq_getElem h]; rfl

theorem dot_step {x y : List Int} {i : Nat} (s : Nat) (hx : i < x.length) (hy : i < y.length) :
    dotP s (x.drop i) (y.drop i) = dotP (addN s (mulN (x.getD i 0).toNat (y.getD i 0).toNat).1).1 (x.drop (i + 1)) (y.drop (i + 1)) := by
  rw [drop_get hx, drop_get hy]; rfl

theorem dot_loop (N : Nat) {x y : List Int} (hf : fitB x y = true) (hx : allU64 x = true) (hy : allU64 y = true) : ∀ (k i F s : Nat), i + k = x.length → k < F → s < 2 ^ 64 →
    vector.Dot.L0 N F x y (s : Int) (i : Int) = some (.tup [.int .u64 ((dotP s (x.drop i) (y.drop i) : Nat) : Int), .int .i64 (0 : Int)]) := by
  obtain ⟨h1, h2⟩ := fit_iff.1 hf
  intro k
  induction k with
  | zero =>
    intro i F s hi hF hs
    obtain ⟨F, rfl⟩ : ∃ G, F = G + 1 := ⟨F - 1, by omega⟩
    rw [vector.Dot.L0_step, ltI_eq, decide_eq_false (by omega), cond_false, List.drop_of_length_le (by omega)]
    rfl
  | succ k ih =>
    intro i F s hi hF hs
    obtain ⟨F, rfl⟩ : ∃ G, F = G + 1 := ⟨F - 1, by omega⟩
    have c1 : decide ((i : Int) < (x.length : Int)) = true := decide_eq_true (by omega)
    have c2 : decide ((i : Int) < (y.length : Int)) = true := decide_eq_true (by omega)
    have c3 : decide ((0 : Int) ≤ (i : Int)) = true := decide_eq_true (by omega)
    have g1 := all_get hx (show i < x.length by omega)
    have g2 := all_get hy (show i < y.length by omega)
    have em : mulBI (x.getD i 0) (y.getD i 0) = (((mulN (x.getD i 0).toNat (y.getD i 0).toNat).1 : Nat) : Int) := rfl
    have ea : ∀ t : Nat, addBI (s : Int) (t : Int) = (((addN s t).1 : Nat) : Int) := fun t => rfl
    rw [vector.Dot.L0_step, ltI_eq, c1, c2, c3, Int.toNat_natCast, g1, g2, em, ea, inU64_of hs, inU64_of mulN_lt, Bool.and_self, cond_true, cond_true, cond_true, cond_true, cond_true, w_i64_in (by omega) (by omega), dot_step s (by omega) (by omega)]
    exact ih (i + 1) F _ (by omega) (by omega) (addN_lt hs mulN_lt).1

theorem vector.Dot.known : Known Tryz.prog 146 vector.Dot.spec := vector.Dot.known_of (.cons vector.Add.known (.cons vector.Mul.known (.cons vector.fit.known .nil))) fun x y hp => by
  obtain ⟨h1, hy⟩ := and_true_iff.1 hp
  obtain ⟨hf, hx⟩ := and_true_iff.1 h1
  refine ⟨x.length + 1, vector.Dot.out [.l x, .l y], [], ?_, Wk.tupL (.cons .int (.cons .int .nil))⟩
  rw [vector.Dot.ev, hf, Bool.not_true, cond_false]
  exact dot_loop _ hf hx hy x.length 0 _ 0 (by omega) (by omega) (by decide)

theorem ref09.F.known : Known Tryz.prog 120 ref09.F.spec := ref09.F.known_of .nil fun x hp => by
  obtain ⟨n, rfl, hn⟩ := inU64_nat (x := x) hp
  refine ⟨0, ref09.F.out [.i n], [], ?_, .fl⟩
  rw [ref09.F.ev, decide_eq_true (Int.natCast_nonneg n)]; rfl

theorem ref09.B.known : Known Tryz.prog 76 ref09.B.spec := ref09.B.known_of (.cons ref05.Canon.nb_known .nil) fun x _ => by
  refine ⟨0, ref09.B.out [.f x], [], ?_, .int⟩
  rw [ref09.B.ev]; rfl

theorem ref09.Add.known : Known Tryz.prog 183 ref09.Add.spec := ref09.Add.known_of (.cons ref09.B.known (.cons ref09.F.known .nil)) fun a b hp => by
  obtain ⟨ha, hb⟩ := and_true_iff.1 hp
  obtain ⟨a, rfl, hn⟩ := inU64_nat ha
  obtain ⟨b, rfl, hm⟩ := inU64_nat hb
  refine ⟨0, ref09.Add.out [.i a, .i b], [], ?_, .int⟩
  rw [ref09.Add.ev, ha, hb, Int.toNat_natCast, Int.toNat_natCast]
  unfold canonNI
  rw [add_ieee hn hm nanBits_kind]; rfl

theorem ref09.Sub.known : Known Tryz.prog 53 ref09.Sub.spec := ref09.Sub.known_of (.cons ref09.B.known (.cons ref09.F.known .nil)) fun a b hp => by
  obtain ⟨ha, hb⟩ := and_true_iff.1 hp
  obtain ⟨a, rfl, hn⟩ := inU64_nat ha
  obtain ⟨b, rfl, hm⟩ := inU64_nat hb
  refine ⟨0, ref09.Sub.out [.i a, .i b], [], ?_, .int⟩
  rw [ref09.Sub.ev, ha, hb, Int.toNat_natCast, Int.toNat_natCast]
  unfold canonNI
  rw [sub_ieee hn hm nanBits_kind]; rfl

theorem ref09.Mul.known : Known Tryz.prog 54 ref09.Mul.spec := ref09.Mul.known_of (.cons ref09.B.known (.cons ref09.F.known .nil)) fun a b hp => by
  obtain ⟨ha, hb⟩ := and_true_iff.1 hp
  obtain ⟨a, rfl, hn⟩ := inU64_nat ha
  obtain ⟨b, rfl, hm⟩ := inU64_nat hb
  refine ⟨0, ref09.Mul.out [.i a, .i b], [], ?_, .int⟩
  rw [ref09.Mul.ev, ha, hb, Int.toNat_natCast, Int.toNat_natCast]
  unfold canonNI
  rw [mul_ieee hn hm nanBits_kind]; rfl

theorem ref_dot_loop (N : Nat) {x y : List Int} (hf : fitB x y = true) (hx : allU64 x = true) (hy : allU64 y = true) : ∀ (k i F s : Nat), i + k = x.length → k < F → s < 2 ^ 64 →
    ref09.Dot.L0 N F x y (s : Int) (i : Int) = some (.int .u64 ((dotP s (x.drop i) (y.drop i) : Nat) : Int)) := by
  obtain ⟨h1, h2⟩ := fit_iff.1 hf
  intro k
  induction k with
  | zero =>
    intro i F s hi hF hs
    obtain ⟨F, rfl⟩ : ∃ G, F = G + 1 := ⟨F - 1, by omega⟩
    rw [ref09.Dot.L0_step, ltI_eq, decide_eq_false (by omega), cond_false, List.drop_of_length_le (by omega)]
    rfl
  | succ k ih =>
    intro i F s hi hF hs
    obtain ⟨F, rfl⟩ : ∃ G, F = G + 1 := ⟨F - 1, by omega⟩
    have c1 : decide ((i : Int) < (x.length : Int)) = true := decide_eq_true (by omega)
    have c2 : decide ((i : Int) < (y.length : Int)) = true := decide_eq_true (by omega)
    have c3 : decide ((0 : Int) ≤ (i : Int)) = true := decide_eq_true (by omega)
    have g1 := all_get hx (show i < x.length by omega)
    have g2 := all_get hy (show i < y.length by omega)
    have em : mulBI (x.getD i 0) (y.getD i 0) = (((mulN (x.getD i 0).toNat (y.getD i 0).toNat).1 : Nat) : Int) := rfl
    have ea : ∀ t : Nat, addBI (s : Int) (t : Int) = (((addN s t).1 : Nat) : Int) := fun t => rfl
    rw [ref09.Dot.L0_step, ltI_eq, c1, c2, c3, Int.toNat_natCast, g1, g2, em, ea, inU64_of hs, inU64_of mulN_lt, Bool.and_self, cond_true, cond_true, cond_true, cond_true, cond_true, w_i64_in (by omega) (by omega), dot_step s (by omega) (by omega)]
    exact ih (i + 1) F _ (by omega) (by omega) (addN_lt hs mulN_lt).1

theorem ref09.Dot.known : Known Tryz.prog 132 ref09.Dot.spec := ref09.Dot.known_of (.cons ref09.Add.known (.cons ref09.Mul.known .nil)) fun x y hp => by
  obtain ⟨h1, hy⟩ := and_true_iff.1 hp
  obtain ⟨hf, hx⟩ := and_true_iff.1 h1
  refine ⟨x.length + 1, ref09.Dot.out [.l x, .l y], [], ?_, .int⟩
  rw [ref09.Dot.ev]
  exact ref_dot_loop _ hf hx hy x.length 0 _ 0 (by omega) (by omega) (by decide)

theorem same_loop (N : Nat) (x y : List Int) (hl : x.length = y.length) (hb : x.length < 2 ^ 62) : ∀ (k i F : Nat), i + k = x.length → k < F →
    ref09.Same.L0 N F x y (i : Int) = some (.bool (sameL (x.drop i) (y.drop i))) := by
  intro k
  induction k with
  | zero =>
    intro i F hi hF
    obtain ⟨F, rfl⟩ : ∃ G, F = G + 1 := ⟨F - 1, by omega⟩
    rw [ref09.Same.L0_step, ltI_eq, decide_eq_false (by omega), cond_false, List.drop_of_length_le (by omega), List.drop_of_length_le (by omega)]
    rfl
  | succ k ih =>
    intro i F hi hF
    obtain ⟨F, rfl⟩ : ∃ G, F = G + 1 := ⟨F - 1, by omega⟩
    have c1 : decide ((i : Int) < (x.length : Int)) = true := decide_eq_true (by omega)
    have c2 : decide ((i : Int) < (y.length : Int)) = true := decide_eq_true (by omega)
    have c3 : decide ((0 : Int) ≤ (i : Int)) = true := decide_eq_true (by omega)
    rw [ref09.Same.L0_step, ltI_eq, c1, c2, c3, Int.toNat_natCast, drop_get (show i < x.length by omega), drop_get (show i < y.length by omega)]
    unfold sameL
    by_cases h : x.getD i 0 = y.getD i 0
    · have : (x.getD i 0 != y.getD i 0) = false := by rw [h]; simp
      have ih := ih (i + 1) F (by omega) (by omega)
      unfold sameL at ih
      rw [this, Bool.and_self, cond_true, cond_true, cond_true, cond_false, w_i64_in (by omega) (by omega)]
      refine ih.trans ?_
      rw [h]
      simp
    · have : (x.getD i 0 != y.getD i 0) = true := by simpa using h
      rw [this, Bool.and_self, cond_true, cond_true, cond_true, cond_true]
      simp only [List.cons.injEq, h, false_and, decide_false]

theorem ref09.Same.known : Known Tryz.prog 73 ref09.Same.spec := ref09.Same.known_of .nil fun x y hp => by
  have hp := cdec_eq.1 (show okLen x = true from hp)
  refine ⟨x.length + 1, ref09.Same.out [.l x, .l y], [], ?_, .bool⟩
  rw [ref09.Same.ev]
  by_cases h : x.length = y.length
  · have : ((x.length : Int) != (y.length : Int)) = false := by rw [h]; simp
    rw [this, cond_false]
    exact same_loop _ x y h (by omega) x.length 0 _ (by omega) (by omega)
  · have : ((x.length : Int) != (y.length : Int)) = true := by simp only [bne_iff_ne, ne_eq]; omega
    rw [this, cond_true]
    have e : sameL x y = false := decide_eq_false fun k => h (by rw [k])
    show _ = some (DV.bool (sameL x y))
    rw [e]

end Go.Proofs.S1
