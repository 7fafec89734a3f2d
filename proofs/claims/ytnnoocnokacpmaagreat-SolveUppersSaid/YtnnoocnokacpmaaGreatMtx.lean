/- Mtx of the verified evaluator and its use for this seat (of my texts S1EqMat, S1PMat, S1EqOf, S1POf, S1PMatA). -/
import Derived.Test.YtnnoocnokacpmaaGreatSpe
import Derived.Test.YtnnoocnokacpmaaGreatVec

/- The evaluator's equations: matrix.size, matrix.Check, matrix.get, matrix.two, matrix.Row, matrix.Column, matrix.Zeros$1, matrix.Eye$1, matrix.Turn$1, matrix.Part$1, matrix.Sub$1, matrix.Stack$1, matrix.Mul$1. Printed by denpy.py. -/
namespace Go.Proofs.S1
open Go Go.Den Go.Rnd Go.Proofs
set_option linter.unusedVariables false
set_option maxRecDepth 100000
namespace EqMat
theorem tt0 (a : Bool) : (((!a) || (a == true)) && true) = true := by cases a <;> rfl
theorem tt1 (a : Bool) : ((!(a == true)) || ((((!(a == true)) || (a == true)) && true) && true)) = true := by cases a <;> rfl
theorem tt2 (a : Bool) : ((!(a == true)) || true) = true := by cases a <;> rfl
theorem tt3 (a b c : Bool) : (bif (bif (!a) then true else (!b)) then true else c) = (((!a) || (!b)) || c) := by cases a <;> cases b <;> cases c <;> rfl
theorem tt4 (a b : Bool) : ((!(!(bif (!a) then true else (!b)))) || ((bif (!a) then true else (!b)) == false)) = true := by cases a <;> cases b <;> rfl
theorem tt5 (a b : Bool) : ((!((bif (!a) then true else (!b)) == false)) || ((((!((bif (!a) then true else (!b)) == false)) || ((bif (!a) then true else (!b)) == false)) && (((!((bif (!a) then true else (!b)) == false)) || ((bif (!a) then true else (!b)) == false)) && true)) && true)) = true := by cases a <;> cases b <;> rfl
theorem tt6 (a b : Bool) : ((!((bif (!a) then true else (!b)) == false)) || ((((!((bif (!a) then true else (!b)) == false)) || ((bif (!a) then true else (!b)) == false)) && true) && true)) = true := by cases a <;> cases b <;> rfl
theorem tt7 (a b : Bool) : ((!((bif (!a) then true else (!b)) == false)) || true) = true := by cases a <;> cases b <;> rfl
theorem tt8 (a : Bool) : ((!(!(!a))) || ((!a) == false)) = true := by cases a <;> rfl
theorem tt9 (a : Bool) : ((!((!a) == false)) || ((((!((!a) == false)) || ((!a) == false)) && true) && true)) = true := by cases a <;> rfl
theorem tt10 (a : Bool) : ((!((!a) == false)) || true) = true := by cases a <;> rfl
theorem tt11 (a b : Bool) : (bif a then true else b) = (a || b) := by cases a <;> cases b <;> rfl
theorem tt12 (a : Bool) : ((!(!a)) || (a == false)) = true := by cases a <;> rfl
theorem tt13 (a : Bool) : ((!(a == false)) || ((((!(a == false)) || (a == false)) && true) && true)) = true := by cases a <;> rfl
theorem tt14 (a : Bool) : ((!(a == false)) || true) = true := by cases a <;> rfl
theorem tt15 (a b c d : Bool) : (((a && b) && (c && d)) && true) = ((a && b) && (c && d)) := by cases a <;> cases b <;> cases c <;> cases d <;> rfl
theorem tt16 (a : Bool) : (a && true) = a := by cases a <;> rfl
noncomputable def matrix.size.tab : List (Nat × Entry) := []
noncomputable def matrix.size.E : Env := envOf (tabOf matrix.size.tab) (fun _ => false) (fun _ => none) (fun _ => none)
theorem matrix.size.ev (N : Nat) (n : Int) : funD matrix.size.E N Tryz.f162 (bodyOf Tryz.f162) [.int .i64 n] =
  some (.bool (bif (leI (0 : Int) n) then (leI n (6 : Int)) else false)) :=
  Eq.trans (by kernel_rfl)
  (ifTn (tt2 (leI (0 : Int) n)) (ifTn (tt1 (leI (0 : Int) n)) (ifTn (tt0 (leI (0 : Int) n)) rfl)))
theorem matrix.size.known_of (hk : Knowns Tryz.prog matrix.size.tab) (h : ∀ (n : Int), matrix.size.pre [.i n] = true → ∃ N dv drops, funD matrix.size.E N Tryz.f162 (bodyOf Tryz.f162) [.int .i64 n] = some dv ∧ Wk drops dv (matrix.size.out [.i n])) : Known Tryz.prog 162 matrix.size.spec := by
  refine ⟨meets_entry (E := matrix.size.E) (env_ok hk _ _ _) Tryz.func162 (show Tryz.f162.body = some (bodyOf Tryz.f162) by kernel_rfl) fun ats dvs he hp => ?_, call_enter Tryz.func162 (by kernel_rfl) (show Tryz.f162.body = some (bodyOf Tryz.f162) by kernel_rfl)⟩
  obtain ⟨n, _, _, rfl, rfl, he0⟩ := he.i_inv
  obtain ⟨rfl, rfl⟩ := he0.nil_inv
  exact h n hp

noncomputable def matrix.Check.tab : List (Nat × Entry) := [(162, matrix.size.spec)]
noncomputable def matrix.Check.E : Env := envOf (tabOf matrix.Check.tab) (fun _ => false) (fun _ => none) (fun _ => none)
theorem matrix.Check.ev (N : Nat) (r : Int) (c : Int) (l : List Int) : funD matrix.Check.E N Tryz.f121 (bodyOf Tryz.f121) [.agg [.int .i64 r, .int .i64 c, .ints .arg .u64 l]] =
  bif (((!(sizeB r)) || (!(sizeB c))) || ((List.length l : Int) != (w_i64 (r * c)))) then
  some (.int .i64 (1 : Int))
  else some (.int .i64 (0 : Int)) :=
  Eq.trans (by kernel_rfl)
  (ifTn (tt10 (sizeB r)) (ifTn (tt9 (sizeB r)) (ifTn (tt9 (sizeB r)) (ifTn (tt9 (sizeB r)) (ifTn (tt8 (sizeB r)) (ifTn (tt7 (sizeB r) (sizeB c)) (ifTn (tt6 (sizeB r) (sizeB c)) (ifTn (tt6 (sizeB r) (sizeB c)) (ifTn (tt7 (sizeB r) (sizeB c)) (ifTn (tt6 (sizeB r) (sizeB c)) (ifTn (tt7 (sizeB r) (sizeB c)) (ifTn (tt6 (sizeB r) (sizeB c)) (ifTn (tt5 (sizeB r) (sizeB c)) (ifTn (tt5 (sizeB r) (sizeB c)) (ifTn (tt4 (sizeB r) (sizeB c)) (ifS (tt3 (sizeB r) (sizeB c) ((List.length l : Int) != (w_i64 (r * c)))) rfl rfl))))))))))))))))
theorem matrix.Check.known_of (hk : Knowns Tryz.prog matrix.Check.tab) (h : ∀ (r : Int) (c : Int) (l : List Int), matrix.Check.pre [.i r, .i c, .l l] = true → ∃ N dv drops, funD matrix.Check.E N Tryz.f121 (bodyOf Tryz.f121) [.agg [.int .i64 r, .int .i64 c, .ints .arg .u64 l]] = some dv ∧ Wk drops dv (matrix.Check.out [.i r, .i c, .l l])) : Known Tryz.prog 121 matrix.Check.spec := by
  refine ⟨meets_entry (E := matrix.Check.E) (env_ok hk _ _ _) Tryz.func121 (show Tryz.f121.body = some (bodyOf Tryz.f121) by kernel_rfl) fun ats dvs he hp => ?_, call_enter Tryz.func121 (by kernel_rfl) (show Tryz.f121.body = some (bodyOf Tryz.f121) by kernel_rfl)⟩
  obtain ⟨_, _, _, _, rfl, rfl, hs0, he0⟩ := he.st_inv
  obtain ⟨r, _, _, rfl, rfl, he1⟩ := hs0.i_inv
  obtain ⟨c, _, _, rfl, rfl, he2⟩ := he1.i_inv
  obtain ⟨l, _, _, rfl, rfl, he3⟩ := he2.s_inv
  obtain ⟨rfl, rfl⟩ := he3.nil_inv
  obtain ⟨rfl, rfl⟩ := he0.nil_inv
  exact h r c l hp

noncomputable def matrix.get.tab : List (Nat × Entry) := []
noncomputable def matrix.get.E : Env := envOf (tabOf matrix.get.tab) (fun _ => false) (fun _ => none) (fun _ => none)
theorem matrix.get.ev (N : Nat) (r : Int) (c : Int) (l : List Int) (i : Int) (k : Int) : funD matrix.get.E N Tryz.f150 (bodyOf Tryz.f150) [.agg [.int .i64 r, .int .i64 c, .ints .arg .u64 l], .int .i64 i, .int .i64 k] =
  bif ((decide (0 ≤ (w_i64 ((w_i64 (i * c)) + k)))) && (decide ((w_i64 ((w_i64 (i * c)) + k)) < (List.length l : Int)))) then
  some (.int .u64 (List.getD l (Int.toNat (w_i64 ((w_i64 (i * c)) + k))) 0))
  else none := by kernel_rfl
theorem matrix.get.known_of (hk : Knowns Tryz.prog matrix.get.tab) (h : ∀ (r : Int) (c : Int) (l : List Int) (i : Int) (k : Int), matrix.get.pre [.i r, .i c, .l l, .i i, .i k] = true → ∃ N dv drops, funD matrix.get.E N Tryz.f150 (bodyOf Tryz.f150) [.agg [.int .i64 r, .int .i64 c, .ints .arg .u64 l], .int .i64 i, .int .i64 k] = some dv ∧ Wk drops dv (matrix.get.out [.i r, .i c, .l l, .i i, .i k])) : Known Tryz.prog 150 matrix.get.spec := by
  refine ⟨meets_entry (E := matrix.get.E) (env_ok hk _ _ _) Tryz.func150 (show Tryz.f150.body = some (bodyOf Tryz.f150) by kernel_rfl) fun ats dvs he hp => ?_, call_enter Tryz.func150 (by kernel_rfl) (show Tryz.f150.body = some (bodyOf Tryz.f150) by kernel_rfl)⟩
  obtain ⟨_, _, _, _, rfl, rfl, hs0, he0⟩ := he.st_inv
  obtain ⟨r, _, _, rfl, rfl, he1⟩ := hs0.i_inv
  obtain ⟨c, _, _, rfl, rfl, he2⟩ := he1.i_inv
  obtain ⟨l, _, _, rfl, rfl, he3⟩ := he2.s_inv
  obtain ⟨rfl, rfl⟩ := he3.nil_inv
  obtain ⟨i, _, _, rfl, rfl, he4⟩ := he0.i_inv
  obtain ⟨k, _, _, rfl, rfl, he5⟩ := he4.i_inv
  obtain ⟨rfl, rfl⟩ := he5.nil_inv
  exact h r c l i k hp

noncomputable def matrix.two.tab : List (Nat × Entry) := [(121, matrix.Check.spec)]
noncomputable def matrix.two.E : Env := envOf (tabOf matrix.two.tab) (fun _ => false) (fun _ => none) (fun _ => none)
theorem matrix.two.ev (N : Nat) (r : Int) (c : Int) (l : List Int) (p : Int) (q : Int) (m : List Int) : funD matrix.two.E N Tryz.f143 (bodyOf Tryz.f143) [.agg [.int .i64 r, .int .i64 c, .ints .arg .u64 l], .agg [.int .i64 p, .int .i64 q, .ints .arg .u64 m]] =
  bif (((chkI r c l) != (0 : Int)) || ((chkI p q m) != (0 : Int))) then
  some (.int .i64 (1 : Int))
  else some (.int .i64 (0 : Int)) :=
  Eq.trans (by kernel_rfl)
  (ifTn (tt14 ((chkI r c l) != (0 : Int))) (ifTn (tt13 ((chkI r c l) != (0 : Int))) (ifTn (tt13 ((chkI r c l) != (0 : Int))) (ifTn (tt12 ((chkI r c l) != (0 : Int))) (ifS (tt11 ((chkI r c l) != (0 : Int)) ((chkI p q m) != (0 : Int))) rfl rfl)))))
theorem matrix.two.known_of (hk : Knowns Tryz.prog matrix.two.tab) (h : ∀ (r : Int) (c : Int) (l : List Int) (p : Int) (q : Int) (m : List Int), matrix.two.pre [.i r, .i c, .l l, .i p, .i q, .l m] = true → ∃ N dv drops, funD matrix.two.E N Tryz.f143 (bodyOf Tryz.f143) [.agg [.int .i64 r, .int .i64 c, .ints .arg .u64 l], .agg [.int .i64 p, .int .i64 q, .ints .arg .u64 m]] = some dv ∧ Wk drops dv (matrix.two.out [.i r, .i c, .l l, .i p, .i q, .l m])) : Known Tryz.prog 143 matrix.two.spec := by
  refine ⟨meets_entry (E := matrix.two.E) (env_ok hk _ _ _) Tryz.func143 (show Tryz.f143.body = some (bodyOf Tryz.f143) by kernel_rfl) fun ats dvs he hp => ?_, call_enter Tryz.func143 (by kernel_rfl) (show Tryz.f143.body = some (bodyOf Tryz.f143) by kernel_rfl)⟩
  obtain ⟨_, _, _, _, rfl, rfl, hs0, he0⟩ := he.st_inv
  obtain ⟨r, _, _, rfl, rfl, he1⟩ := hs0.i_inv
  obtain ⟨c, _, _, rfl, rfl, he2⟩ := he1.i_inv
  obtain ⟨l, _, _, rfl, rfl, he3⟩ := he2.s_inv
  obtain ⟨rfl, rfl⟩ := he3.nil_inv
  obtain ⟨_, _, _, _, rfl, rfl, hs4, he4⟩ := he0.st_inv
  obtain ⟨p, _, _, rfl, rfl, he5⟩ := hs4.i_inv
  obtain ⟨q, _, _, rfl, rfl, he6⟩ := he5.i_inv
  obtain ⟨m, _, _, rfl, rfl, he7⟩ := he6.s_inv
  obtain ⟨rfl, rfl⟩ := he7.nil_inv
  obtain ⟨rfl, rfl⟩ := he4.nil_inv
  exact h r c l p q m hp

noncomputable def matrix.Row.tab : List (Nat × Entry) := []
noncomputable def matrix.Row.E : Env := envOf (tabOf matrix.Row.tab) (fun _ => false) (fun _ => none) (fun _ => none)
theorem matrix.Row.ev (N : Nat) (r : Int) (c : Int) (l : List Int) (i : Int) (f : Int) : funD matrix.Row.E N Tryz.f147 (bodyOf Tryz.f147) [.agg [.int .i64 r, .int .i64 c, .ints .arg .u64 l], .int .i64 i, .int .i64 f] =
  bif (((decide ((0 : Int) ≤ (w_i64 ((w_i64 (i * c)) + f)))) && (decide ((w_i64 ((w_i64 (i * c)) + f)) ≤ (w_i64 ((w_i64 (i + (1 : Int))) * c))))) && ((decide ((0 : Int) ≤ (w_i64 ((w_i64 (i + (1 : Int))) * c)))) && (decide ((w_i64 ((w_i64 (i + (1 : Int))) * c)) ≤ (List.length l : Int))))) then
  bif (decide (0 + (List.length (List.drop (Int.toNat (w_i64 ((w_i64 (i * c)) + f))) (List.take (Int.toNat (w_i64 ((w_i64 (i + (1 : Int))) * c))) l))) ≤ lim)) then
  some (.ints (.own 22 37) .u64 ([] ++ (List.drop (Int.toNat (w_i64 ((w_i64 (i * c)) + f))) (List.take (Int.toNat (w_i64 ((w_i64 (i + (1 : Int))) * c))) l))))
  else none
  else none :=
  Eq.trans (by kernel_rfl)
  (ifS (tt15 (decide ((0 : Int) ≤ (w_i64 ((w_i64 (i * c)) + f)))) (decide ((w_i64 ((w_i64 (i * c)) + f)) ≤ (w_i64 ((w_i64 (i + (1 : Int))) * c)))) (decide ((0 : Int) ≤ (w_i64 ((w_i64 (i + (1 : Int))) * c)))) (decide ((w_i64 ((w_i64 (i + (1 : Int))) * c)) ≤ (List.length l : Int)))) rfl rfl)
theorem matrix.Row.known_of (hk : Knowns Tryz.prog matrix.Row.tab) (h : ∀ (r : Int) (c : Int) (l : List Int) (i : Int) (f : Int), matrix.Row.pre [.i r, .i c, .l l, .i i, .i f] = true → ∃ N dv drops, funD matrix.Row.E N Tryz.f147 (bodyOf Tryz.f147) [.agg [.int .i64 r, .int .i64 c, .ints .arg .u64 l], .int .i64 i, .int .i64 f] = some dv ∧ Wk drops dv (matrix.Row.out [.i r, .i c, .l l, .i i, .i f])) : Known Tryz.prog 147 matrix.Row.spec := by
  refine ⟨meets_entry (E := matrix.Row.E) (env_ok hk _ _ _) Tryz.func147 (show Tryz.f147.body = some (bodyOf Tryz.f147) by kernel_rfl) fun ats dvs he hp => ?_, call_enter Tryz.func147 (by kernel_rfl) (show Tryz.f147.body = some (bodyOf Tryz.f147) by kernel_rfl)⟩
  obtain ⟨_, _, _, _, rfl, rfl, hs0, he0⟩ := he.st_inv
  obtain ⟨r, _, _, rfl, rfl, he1⟩ := hs0.i_inv
  obtain ⟨c, _, _, rfl, rfl, he2⟩ := he1.i_inv
  obtain ⟨l, _, _, rfl, rfl, he3⟩ := he2.s_inv
  obtain ⟨rfl, rfl⟩ := he3.nil_inv
  obtain ⟨i, _, _, rfl, rfl, he4⟩ := he0.i_inv
  obtain ⟨f, _, _, rfl, rfl, he5⟩ := he4.i_inv
  obtain ⟨rfl, rfl⟩ := he5.nil_inv
  exact h r c l i f hp

def matrix.Column.hint : Nat → Option LoopHint
  | 0 => some { keep := [1, 3, 7, 8], objs := [(0, 7, 100007, .ints 37 .u64 [])], boxes := [3] }
  | _ => none
noncomputable def matrix.Column.tab : List (Nat × Entry) := [(150, matrix.get.spec)]
noncomputable def matrix.Column.E : Env := envOf (tabOf matrix.Column.tab) (fun _ => false) matrix.Column.hint (fun _ => none)
noncomputable def matrix.Column.L0 (N M : Nat) (r : Int) (c : Int) (l : List Int) (k : Int) (p8 : Int) (p7 : List Int) : Option DV := loopAt matrix.Column.E N Tryz.f148 (bodyOf Tryz.f148) [1, 1, 0, 1, 0] [] M ⟨mkT 24 [(1, .int .i64 k), (3, .ptr 3 0 0), (7, .oref 100007), (8, .int .i64 p8)], [(3, false, .box [.int .i64 r, .int .i64 c, .ints .arg .u64 l]), (100007, false, .ints 37 .u64 p7)]⟩
theorem matrix.Column.L0_step (N M : Nat) (r : Int) (c : Int) (l : List Int) (k : Int) (p8 : Int) (p7 : List Int) : matrix.Column.L0 N (M + 1) r c l k p8 p7 =
  bif (ltI p8 r) then
  bif (atPre r c l p8 k) then
  bif (decide ((List.length p7) + 1 ≤ lim)) then
  matrix.Column.L0 N M r c l k (w_i64 (p8 + (1 : Int))) (p7 ++ [(atI c l p8 k)])
  else none
  else none
  else some (.ints (.own 100007 37) .u64 p7) := by kernel_rfl
theorem matrix.Column.ev (N : Nat) (r : Int) (c : Int) (l : List Int) (k : Int) (f : Int) : funD matrix.Column.E N Tryz.f148 (bodyOf Tryz.f148) [.agg [.int .i64 r, .int .i64 c, .ints .arg .u64 l], .int .i64 k, .int .i64 f] =
  matrix.Column.L0 N N r c l k f [] := by kernel_rfl
theorem matrix.Column.known_of (hk : Knowns Tryz.prog matrix.Column.tab) (h : ∀ (r : Int) (c : Int) (l : List Int) (k : Int) (f : Int), matrix.Column.pre [.i r, .i c, .l l, .i k, .i f] = true → ∃ N dv drops, funD matrix.Column.E N Tryz.f148 (bodyOf Tryz.f148) [.agg [.int .i64 r, .int .i64 c, .ints .arg .u64 l], .int .i64 k, .int .i64 f] = some dv ∧ Wk drops dv (matrix.Column.out [.i r, .i c, .l l, .i k, .i f])) : Known Tryz.prog 148 matrix.Column.spec := by
  refine ⟨meets_entry (E := matrix.Column.E) (env_ok hk _ _ _) Tryz.func148 (show Tryz.f148.body = some (bodyOf Tryz.f148) by kernel_rfl) fun ats dvs he hp => ?_, call_enter Tryz.func148 (by kernel_rfl) (show Tryz.f148.body = some (bodyOf Tryz.f148) by kernel_rfl)⟩
  obtain ⟨_, _, _, _, rfl, rfl, hs0, he0⟩ := he.st_inv
  obtain ⟨r, _, _, rfl, rfl, he1⟩ := hs0.i_inv
  obtain ⟨c, _, _, rfl, rfl, he2⟩ := he1.i_inv
  obtain ⟨l, _, _, rfl, rfl, he3⟩ := he2.s_inv
  obtain ⟨rfl, rfl⟩ := he3.nil_inv
  obtain ⟨k, _, _, rfl, rfl, he4⟩ := he0.i_inv
  obtain ⟨f, _, _, rfl, rfl, he5⟩ := he4.i_inv
  obtain ⟨rfl, rfl⟩ := he5.nil_inv
  exact h r c l k f hp

noncomputable def matrix.Zeros_1.tab : List (Nat × Entry) := []
noncomputable def matrix.Zeros_1.E : Env := envOf (tabOf matrix.Zeros_1.tab) (fun _ => false) (fun _ => none) (fun _ => none)
theorem matrix.Zeros_1.ev (N : Nat) (i : Int) (k : Int) : funD matrix.Zeros_1.E N Tryz.f163 (bodyOf Tryz.f163) [.int .i64 i, .int .i64 k] =
  some (.int .u64 (0 : Int)) := by kernel_rfl
theorem matrix.Zeros_1.known_of (hk : Knowns Tryz.prog matrix.Zeros_1.tab) (h : ∀ (i : Int) (k : Int), matrix.Zeros_1.pre [.i i, .i k] = true → ∃ N dv drops, funD matrix.Zeros_1.E N Tryz.f163 (bodyOf Tryz.f163) [.int .i64 i, .int .i64 k] = some dv ∧ Wk drops dv (matrix.Zeros_1.out [.i i, .i k])) : Known Tryz.prog 163 matrix.Zeros_1.spec := by
  refine ⟨meets_entry (E := matrix.Zeros_1.E) (env_ok hk _ _ _) Tryz.func163 (show Tryz.f163.body = some (bodyOf Tryz.f163) by kernel_rfl) fun ats dvs he hp => ?_, call_enter Tryz.func163 (by kernel_rfl) (show Tryz.f163.body = some (bodyOf Tryz.f163) by kernel_rfl)⟩
  obtain ⟨i, _, _, rfl, rfl, he0⟩ := he.i_inv
  obtain ⟨k, _, _, rfl, rfl, he1⟩ := he0.i_inv
  obtain ⟨rfl, rfl⟩ := he1.nil_inv
  exact h i k hp

noncomputable def matrix.Eye_1.tab : List (Nat × Entry) := []
noncomputable def matrix.Eye_1.E : Env := envOf (tabOf matrix.Eye_1.tab) (fun _ => false) (fun _ => none) (fun _ => none)
theorem matrix.Eye_1.ev (N : Nat) (i : Int) (k : Int) : funD matrix.Eye_1.E N Tryz.f215 (bodyOf Tryz.f215) [.int .i64 i, .int .i64 k] =
  bif (i == k) then
  some (.int .u64 (4607182418800017408 : Int))
  else some (.int .u64 (0 : Int)) := by kernel_rfl
theorem matrix.Eye_1.known_of (hk : Knowns Tryz.prog matrix.Eye_1.tab) (h : ∀ (i : Int) (k : Int), matrix.Eye_1.pre [.i i, .i k] = true → ∃ N dv drops, funD matrix.Eye_1.E N Tryz.f215 (bodyOf Tryz.f215) [.int .i64 i, .int .i64 k] = some dv ∧ Wk drops dv (matrix.Eye_1.out [.i i, .i k])) : Known Tryz.prog 215 matrix.Eye_1.spec := by
  refine ⟨meets_entry (E := matrix.Eye_1.E) (env_ok hk _ _ _) Tryz.func215 (show Tryz.f215.body = some (bodyOf Tryz.f215) by kernel_rfl) fun ats dvs he hp => ?_, call_enter Tryz.func215 (by kernel_rfl) (show Tryz.f215.body = some (bodyOf Tryz.f215) by kernel_rfl)⟩
  obtain ⟨i, _, _, rfl, rfl, he0⟩ := he.i_inv
  obtain ⟨k, _, _, rfl, rfl, he1⟩ := he0.i_inv
  obtain ⟨rfl, rfl⟩ := he1.nil_inv
  exact h i k hp

noncomputable def matrix.Turn_1.tab : List (Nat × Entry) := [(150, matrix.get.spec)]
noncomputable def matrix.Turn_1.E : Env := envOf (tabOf matrix.Turn_1.tab) (fun _ => false) (fun _ => none) (fun _ => none)
theorem matrix.Turn_1.ev (N : Nat) (i : Int) (k : Int) (r : Int) (c : Int) (l : List Int) : funD matrix.Turn_1.E N Tryz.f182 (bodyOf Tryz.f182) [.int .i64 i, .int .i64 k, .cellp [.int .i64 r, .int .i64 c, .ints .arg .u64 l]] =
  bif (atPre r c l k i) then
  some (.int .u64 (atI c l k i))
  else none := by kernel_rfl
theorem matrix.Turn_1.known_of (hk : Knowns Tryz.prog matrix.Turn_1.tab) (h : ∀ (i : Int) (k : Int) (r : Int) (c : Int) (l : List Int), matrix.Turn_1.pre [.i i, .i k, .i r, .i c, .l l] = true → ∃ N dv drops, funD matrix.Turn_1.E N Tryz.f182 (bodyOf Tryz.f182) [.int .i64 i, .int .i64 k, .cellp [.int .i64 r, .int .i64 c, .ints .arg .u64 l]] = some dv ∧ Wk drops dv (matrix.Turn_1.out [.i i, .i k, .i r, .i c, .l l])) : Known Tryz.prog 182 matrix.Turn_1.spec := by
  refine ⟨meets_entry (E := matrix.Turn_1.E) (env_ok hk _ _ _) Tryz.func182 (show Tryz.f182.body = some (bodyOf Tryz.f182) by kernel_rfl) fun ats dvs he hp => ?_, call_enter Tryz.func182 (by kernel_rfl) (show Tryz.f182.body = some (bodyOf Tryz.f182) by kernel_rfl)⟩
  obtain ⟨i, _, _, rfl, rfl, he0⟩ := he.i_inv
  obtain ⟨k, _, _, rfl, rfl, he1⟩ := he0.i_inv
  obtain ⟨_, _, _, _, rfl, rfl, hs2, he2⟩ := he1.cp_inv
  obtain ⟨r, _, _, rfl, rfl, he3⟩ := hs2.i_inv
  obtain ⟨c, _, _, rfl, rfl, he4⟩ := he3.i_inv
  obtain ⟨l, _, _, rfl, rfl, he5⟩ := he4.s_inv
  obtain ⟨rfl, rfl⟩ := he5.nil_inv
  obtain ⟨rfl, rfl⟩ := he2.nil_inv
  exact h i k r c l hp

noncomputable def matrix.Part_1.tab : List (Nat × Entry) := [(150, matrix.get.spec)]
noncomputable def matrix.Part_1.E : Env := envOf (tabOf matrix.Part_1.tab) (fun _ => false) (fun _ => none) (fun _ => none)
theorem matrix.Part_1.ev (N : Nat) (i : Int) (k : Int) (r : Int) (c : Int) (l : List Int) (x : Int) (y : Int) : funD matrix.Part_1.E N Tryz.f149 (bodyOf Tryz.f149) [.int .i64 i, .int .i64 k, .cellp [.int .i64 r, .int .i64 c, .ints .arg .u64 l], .cellp [.int .i64 x], .cellp [.int .i64 y]] =
  bif (atPre r c l (w_i64 (x + i)) (w_i64 (y + k))) then
  some (.int .u64 (atI c l (w_i64 (x + i)) (w_i64 (y + k))))
  else none := by kernel_rfl
theorem matrix.Part_1.known_of (hk : Knowns Tryz.prog matrix.Part_1.tab) (h : ∀ (i : Int) (k : Int) (r : Int) (c : Int) (l : List Int) (x : Int) (y : Int), matrix.Part_1.pre [.i i, .i k, .i r, .i c, .l l, .i x, .i y] = true → ∃ N dv drops, funD matrix.Part_1.E N Tryz.f149 (bodyOf Tryz.f149) [.int .i64 i, .int .i64 k, .cellp [.int .i64 r, .int .i64 c, .ints .arg .u64 l], .cellp [.int .i64 x], .cellp [.int .i64 y]] = some dv ∧ Wk drops dv (matrix.Part_1.out [.i i, .i k, .i r, .i c, .l l, .i x, .i y])) : Known Tryz.prog 149 matrix.Part_1.spec := by
  refine ⟨meets_entry (E := matrix.Part_1.E) (env_ok hk _ _ _) Tryz.func149 (show Tryz.f149.body = some (bodyOf Tryz.f149) by kernel_rfl) fun ats dvs he hp => ?_, call_enter Tryz.func149 (by kernel_rfl) (show Tryz.f149.body = some (bodyOf Tryz.f149) by kernel_rfl)⟩
  obtain ⟨i, _, _, rfl, rfl, he0⟩ := he.i_inv
  obtain ⟨k, _, _, rfl, rfl, he1⟩ := he0.i_inv
  obtain ⟨_, _, _, _, rfl, rfl, hs2, he2⟩ := he1.cp_inv
  obtain ⟨r, _, _, rfl, rfl, he3⟩ := hs2.i_inv
  obtain ⟨c, _, _, rfl, rfl, he4⟩ := he3.i_inv
  obtain ⟨l, _, _, rfl, rfl, he5⟩ := he4.s_inv
  obtain ⟨rfl, rfl⟩ := he5.nil_inv
  obtain ⟨_, _, _, _, rfl, rfl, hs6, he6⟩ := he2.cp_inv
  obtain ⟨x, _, _, rfl, rfl, he7⟩ := hs6.i_inv
  obtain ⟨rfl, rfl⟩ := he7.nil_inv
  obtain ⟨_, _, _, _, rfl, rfl, hs8, he8⟩ := he6.cp_inv
  obtain ⟨y, _, _, rfl, rfl, he9⟩ := hs8.i_inv
  obtain ⟨rfl, rfl⟩ := he9.nil_inv
  obtain ⟨rfl, rfl⟩ := he8.nil_inv
  exact h i k r c l x y hp

noncomputable def matrix.Sub_1.tab : List (Nat × Entry) := [(150, matrix.get.spec), (117, vector.Sub.spec)]
noncomputable def matrix.Sub_1.E : Env := envOf (tabOf matrix.Sub_1.tab) (fun _ => false) (fun _ => none) (fun _ => none)
theorem matrix.Sub_1.ev (N : Nat) (i : Int) (k : Int) (r : Int) (c : Int) (l : List Int) (p : Int) (q : Int) (m : List Int) : funD matrix.Sub_1.E N Tryz.f151 (bodyOf Tryz.f151) [.int .i64 i, .int .i64 k, .cellp [.int .i64 r, .int .i64 c, .ints .arg .u64 l], .cellp [.int .i64 p, .int .i64 q, .ints .arg .u64 m]] =
  bif (atPre r c l i k) then
  bif (atPre p q m i k) then
  bif (inU64 (atI c l i k) && inU64 (atI q m i k)) then
  some (.int .u64 (subBI (atI c l i k) (atI q m i k)))
  else none
  else none
  else none :=
  Eq.trans (by kernel_rfl)
  (ifS (tt16 (atPre r c l i k)) (ifS (tt16 (atPre p q m i k)) (ifS (tt16 (inU64 (atI c l i k) && inU64 (atI q m i k))) rfl rfl) rfl) rfl)
theorem matrix.Sub_1.known_of (hk : Knowns Tryz.prog matrix.Sub_1.tab) (h : ∀ (i : Int) (k : Int) (r : Int) (c : Int) (l : List Int) (p : Int) (q : Int) (m : List Int), matrix.Sub_1.pre [.i i, .i k, .i r, .i c, .l l, .i p, .i q, .l m] = true → ∃ N dv drops, funD matrix.Sub_1.E N Tryz.f151 (bodyOf Tryz.f151) [.int .i64 i, .int .i64 k, .cellp [.int .i64 r, .int .i64 c, .ints .arg .u64 l], .cellp [.int .i64 p, .int .i64 q, .ints .arg .u64 m]] = some dv ∧ Wk drops dv (matrix.Sub_1.out [.i i, .i k, .i r, .i c, .l l, .i p, .i q, .l m])) : Known Tryz.prog 151 matrix.Sub_1.spec := by
  refine ⟨meets_entry (E := matrix.Sub_1.E) (env_ok hk _ _ _) Tryz.func151 (show Tryz.f151.body = some (bodyOf Tryz.f151) by kernel_rfl) fun ats dvs he hp => ?_, call_enter Tryz.func151 (by kernel_rfl) (show Tryz.f151.body = some (bodyOf Tryz.f151) by kernel_rfl)⟩
  obtain ⟨i, _, _, rfl, rfl, he0⟩ := he.i_inv
  obtain ⟨k, _, _, rfl, rfl, he1⟩ := he0.i_inv
  obtain ⟨_, _, _, _, rfl, rfl, hs2, he2⟩ := he1.cp_inv
  obtain ⟨r, _, _, rfl, rfl, he3⟩ := hs2.i_inv
  obtain ⟨c, _, _, rfl, rfl, he4⟩ := he3.i_inv
  obtain ⟨l, _, _, rfl, rfl, he5⟩ := he4.s_inv
  obtain ⟨rfl, rfl⟩ := he5.nil_inv
  obtain ⟨_, _, _, _, rfl, rfl, hs6, he6⟩ := he2.cp_inv
  obtain ⟨p, _, _, rfl, rfl, he7⟩ := hs6.i_inv
  obtain ⟨q, _, _, rfl, rfl, he8⟩ := he7.i_inv
  obtain ⟨m, _, _, rfl, rfl, he9⟩ := he8.s_inv
  obtain ⟨rfl, rfl⟩ := he9.nil_inv
  obtain ⟨rfl, rfl⟩ := he6.nil_inv
  exact h i k r c l p q m hp

noncomputable def matrix.Stack_1.tab : List (Nat × Entry) := [(150, matrix.get.spec)]
noncomputable def matrix.Stack_1.E : Env := envOf (tabOf matrix.Stack_1.tab) (fun _ => false) (fun _ => none) (fun _ => none)
theorem matrix.Stack_1.ev (N : Nat) (i : Int) (k : Int) (r : Int) (c : Int) (l : List Int) (p : Int) (q : Int) (m : List Int) : funD matrix.Stack_1.E N Tryz.f152 (bodyOf Tryz.f152) [.int .i64 i, .int .i64 k, .cellp [.int .i64 r, .int .i64 c, .ints .arg .u64 l], .cellp [.int .i64 p, .int .i64 q, .ints .arg .u64 m]] =
  bif (ltI i r) then
  bif (atPre r c l i k) then
  some (.int .u64 (atI c l i k))
  else none
  else bif (atPre p q m (w_i64 (i - r)) k) then
  some (.int .u64 (atI q m (w_i64 (i - r)) k))
  else none := by kernel_rfl
theorem matrix.Stack_1.known_of (hk : Knowns Tryz.prog matrix.Stack_1.tab) (h : ∀ (i : Int) (k : Int) (r : Int) (c : Int) (l : List Int) (p : Int) (q : Int) (m : List Int), matrix.Stack_1.pre [.i i, .i k, .i r, .i c, .l l, .i p, .i q, .l m] = true → ∃ N dv drops, funD matrix.Stack_1.E N Tryz.f152 (bodyOf Tryz.f152) [.int .i64 i, .int .i64 k, .cellp [.int .i64 r, .int .i64 c, .ints .arg .u64 l], .cellp [.int .i64 p, .int .i64 q, .ints .arg .u64 m]] = some dv ∧ Wk drops dv (matrix.Stack_1.out [.i i, .i k, .i r, .i c, .l l, .i p, .i q, .l m])) : Known Tryz.prog 152 matrix.Stack_1.spec := by
  refine ⟨meets_entry (E := matrix.Stack_1.E) (env_ok hk _ _ _) Tryz.func152 (show Tryz.f152.body = some (bodyOf Tryz.f152) by kernel_rfl) fun ats dvs he hp => ?_, call_enter Tryz.func152 (by kernel_rfl) (show Tryz.f152.body = some (bodyOf Tryz.f152) by kernel_rfl)⟩
  obtain ⟨i, _, _, rfl, rfl, he0⟩ := he.i_inv
  obtain ⟨k, _, _, rfl, rfl, he1⟩ := he0.i_inv
  obtain ⟨_, _, _, _, rfl, rfl, hs2, he2⟩ := he1.cp_inv
  obtain ⟨r, _, _, rfl, rfl, he3⟩ := hs2.i_inv
  obtain ⟨c, _, _, rfl, rfl, he4⟩ := he3.i_inv
  obtain ⟨l, _, _, rfl, rfl, he5⟩ := he4.s_inv
  obtain ⟨rfl, rfl⟩ := he5.nil_inv
  obtain ⟨_, _, _, _, rfl, rfl, hs6, he6⟩ := he2.cp_inv
  obtain ⟨p, _, _, rfl, rfl, he7⟩ := hs6.i_inv
  obtain ⟨q, _, _, rfl, rfl, he8⟩ := he7.i_inv
  obtain ⟨m, _, _, rfl, rfl, he9⟩ := he8.s_inv
  obtain ⟨rfl, rfl⟩ := he9.nil_inv
  obtain ⟨rfl, rfl⟩ := he6.nil_inv
  exact h i k r c l p q m hp

noncomputable def matrix.Mul_1.tab : List (Nat × Entry) := [(148, matrix.Column.spec), (147, matrix.Row.spec), (146, vector.Dot.spec)]
noncomputable def matrix.Mul_1.E : Env := envOf (tabOf matrix.Mul_1.tab) (fun _ => false) (fun _ => none) (fun _ => none)
theorem matrix.Mul_1.ev (N : Nat) (i : Int) (k : Int) (r : Int) (c : Int) (l : List Int) (p : Int) (q : Int) (m : List Int) : funD matrix.Mul_1.E N Tryz.f145 (bodyOf Tryz.f145) [.int .i64 i, .int .i64 k, .cellp [.int .i64 r, .int .i64 c, .ints .arg .u64 l], .cellp [.int .i64 p, .int .i64 q, .ints .arg .u64 m]] =
  bif (rowPre r c l i && decide ((0 : Int) = 0)) then
  bif (colPre p q m k && decide ((0 : Int) = 0)) then
  bif ((fitB (rowI c l i) (colI p q m k) && allU64 (rowI c l i)) && allU64 (colI p q m k)) then
  some (.int .u64 (dotI (rowI c l i) (colI p q m k)))
  else none
  else none
  else none :=
  Eq.trans (by kernel_rfl)
  (ifS (tt16 (rowPre r c l i && decide ((0 : Int) = 0))) (ifS (tt16 (colPre p q m k && decide ((0 : Int) = 0))) (ifS (tt16 ((fitB (rowI c l i) (colI p q m k) && allU64 (rowI c l i)) && allU64 (colI p q m k))) rfl rfl) rfl) rfl)
theorem matrix.Mul_1.known_of (hk : Knowns Tryz.prog matrix.Mul_1.tab) (h : ∀ (i : Int) (k : Int) (r : Int) (c : Int) (l : List Int) (p : Int) (q : Int) (m : List Int), matrix.Mul_1.pre [.i i, .i k, .i r, .i c, .l l, .i p, .i q, .l m] = true → ∃ N dv drops, funD matrix.Mul_1.E N Tryz.f145 (bodyOf Tryz.f145) [.int .i64 i, .int .i64 k, .cellp [.int .i64 r, .int .i64 c, .ints .arg .u64 l], .cellp [.int .i64 p, .int .i64 q, .ints .arg .u64 m]] = some dv ∧ Wk drops dv (matrix.Mul_1.out [.i i, .i k, .i r, .i c, .l l, .i p, .i q, .l m])) : Known Tryz.prog 145 matrix.Mul_1.spec := by
  refine ⟨meets_entry (E := matrix.Mul_1.E) (env_ok hk _ _ _) Tryz.func145 (show Tryz.f145.body = some (bodyOf Tryz.f145) by kernel_rfl) fun ats dvs he hp => ?_, call_enter Tryz.func145 (by kernel_rfl) (show Tryz.f145.body = some (bodyOf Tryz.f145) by kernel_rfl)⟩
  obtain ⟨i, _, _, rfl, rfl, he0⟩ := he.i_inv
  obtain ⟨k, _, _, rfl, rfl, he1⟩ := he0.i_inv
  obtain ⟨_, _, _, _, rfl, rfl, hs2, he2⟩ := he1.cp_inv
  obtain ⟨r, _, _, rfl, rfl, he3⟩ := hs2.i_inv
  obtain ⟨c, _, _, rfl, rfl, he4⟩ := he3.i_inv
  obtain ⟨l, _, _, rfl, rfl, he5⟩ := he4.s_inv
  obtain ⟨rfl, rfl⟩ := he5.nil_inv
  obtain ⟨_, _, _, _, rfl, rfl, hs6, he6⟩ := he2.cp_inv
  obtain ⟨p, _, _, rfl, rfl, he7⟩ := hs6.i_inv
  obtain ⟨q, _, _, rfl, rfl, he8⟩ := he7.i_inv
  obtain ⟨m, _, _, rfl, rfl, he9⟩ := he8.s_inv
  obtain ⟨rfl, rfl⟩ := he9.nil_inv
  obtain ⟨rfl, rfl⟩ := he6.nil_inv
  exact h i k r c l p q m hp
end EqMat
end Go.Proofs.S1

/- Package matrix: sizes, places, rows, columns, and what is made of each place. -/
namespace Go.Proofs.S1
open Go Go.Den Go.Rnd Go.Proofs
open EqMat

theorem small_mul {a b : Int} (h1 : 0 ≤ a) (h2 : a < 20) (h3 : 0 ≤ b) (h4 : b < 20) : 0 ≤ a * b ∧ a * b < 400 := by
  have := Int.mul_nonneg h1 h3
  have h5 : a * b ≤ 19 * 19 := Int.mul_le_mul (by omega) (by omega) h3 (by omega)
  omega

theorem matrix.size.known : Known Tryz.prog 162 matrix.size.spec := matrix.size.known_of .nil fun n _ => by
  refine ⟨0, matrix.size.out [.i n], [], ?_, .bool⟩
  have e : (bif (leI (0 : Int) n) then (leI n (6 : Int)) else false) = sizeB n := by
    unfold sizeB
    rw [leI_eq, leI_eq]
    cases decide (0 ≤ n) <;> rfl
  rw [matrix.size.ev, e]; rfl

theorem chk_code (r c : Int) (l : List Int) : (((!(sizeB r)) || (!(sizeB c))) || ((List.length l : Int) != (w_i64 (r * c)))) = !(rightB r c l) := by
  unfold rightB
  cases h1 : sizeB r with
  | false => rfl
  | true =>
    cases h2 : sizeB c with
    | false => rfl
    | true =>
      obtain ⟨r1, r2⟩ := size_iff.1 h1
      obtain ⟨c1, c2⟩ := size_iff.1 h2
      have := small_mul (a := r) (b := c) r1 (by omega) c1 (by omega)
      rw [w_i64_in (by omega) (by omega), Bool.eq_iff_iff]
      simp

theorem matrix.Check.known : Known Tryz.prog 121 matrix.Check.spec := matrix.Check.known_of (.cons matrix.size.known .nil) fun r c l _ => by
  refine ⟨0, matrix.Check.out [.i r, .i c, .l l], [], ?_, .int⟩
  rw [matrix.Check.ev, chk_code]
  show _ = some (DV.int .i64 (chkI r c l))
  unfold chkI
  cases rightB r c l <;> rfl

theorem at_code {c i k : Int} {l : List Int} {R : Int} (h : atPre R c l i k = true) : w_i64 (w_i64 (i * c) + k) = i * c + k ∧ 0 ≤ i * c + k ∧ i * c + k < l.length := by
  obtain ⟨h1, h2, h3, h4, h5, h6, h7, _⟩ := cdec_eq.1 h
  have := small_mul h1 (by omega) h5 (by omega)
  rw [w_i64_in (x := i * c) (by omega) (by omega), w_i64_in (by omega) (by omega)]
  omega

theorem matrix.get.known : Known Tryz.prog 150 matrix.get.spec := matrix.get.known_of .nil fun r c l i k hp => by
  obtain ⟨e, h1, h2⟩ := at_code (R := r) (show atPre r c l i k = true from hp)
  refine ⟨0, matrix.get.out [.i r, .i c, .l l, .i i, .i k], [], ?_, .int⟩
  rw [matrix.get.ev, e, decide_eq_true h1, decide_eq_true h2]
  rfl

theorem chk_ne (r c : Int) (l : List Int) : ((chkI r c l) != (0 : Int)) = !(rightB r c l) := by
  unfold chkI
  cases rightB r c l <;> rfl

theorem matrix.two.known : Known Tryz.prog 143 matrix.two.spec := matrix.two.known_of (.cons matrix.Check.known .nil) fun r c l p q m _ => by
  refine ⟨0, matrix.two.out [.i r, .i c, .l l, .i p, .i q, .l m], [], ?_, .int⟩
  rw [matrix.two.ev, chk_ne, chk_ne]
  show _ = some (DV.int .i64 (twoI r c l p q m))
  unfold twoI
  cases rightB r c l <;> cases rightB p q m <;> rfl

theorem matrix.Row.known : Known Tryz.prog 147 matrix.Row.spec := matrix.Row.known_of .nil fun r c l i f hp => by
  obtain ⟨h0, hf⟩ := and_true_iff.1 hp
  obtain rfl := of_decide_eq_true hf
  obtain ⟨hr, hi⟩ := and_true_iff.1 h0
  have hi := cdec_eq.1 hi
  obtain ⟨R, C, rfl, rfl, r6, c6, hl⟩ := right_nat hr
  obtain ⟨I, rfl⟩ : ∃ k : Nat, i = k := ⟨i.toNat, by omega⟩
  have hm := small_mul (a := (I : Int)) (b := (C : Int)) (by omega) (by omega) (by omega) (by omega)
  have hm2 := small_mul (a := (I : Int) + 1) (b := (C : Int)) (by omega) (by omega) (by omega) (by omega)
  have hle : (I + 1) * C ≤ R * C := Nat.mul_le_mul_right C (by omega)
  have hle2 : I * C ≤ (I + 1) * C := Nat.mul_le_mul_right C (by omega)
  have e1 : (I : Int) * (C : Int) = ((I * C : Nat) : Int) := (Int.natCast_mul _ _).symm
  have e2 : ((I : Int) + 1) * (C : Int) = (((I + 1) * C : Nat) : Int) := by rw [Int.natCast_mul]; rfl
  refine ⟨0, .ints (.own 22 37) .u64 (rowI (C : Int) l (I : Int)), [22], ?_, .drop _ _ _ _ (List.mem_singleton.2 rfl)⟩
  rw [matrix.Row.ev, w_i64_in (x := (I : Int) + 1) (by omega) (by omega), w_i64_in (x := (I : Int) * (C : Int)) (by omega) (by omega), Int.add_zero, w_i64_in (x := (I : Int) * (C : Int)) (by omega) (by omega), w_i64_in (x := ((I : Int) + 1) * (C : Int)) (by omega) (by omega)]
  unfold rowI
  have d1 : decide ((0 : Int) ≤ (I : Int) * (C : Int)) = true := decide_eq_true (by omega)
  have d2 : decide ((I : Int) * (C : Int) ≤ ((I : Int) + 1) * (C : Int)) = true := decide_eq_true (by rw [e1, e2]; omega)
  have d3 : decide ((0 : Int) ≤ ((I : Int) + 1) * (C : Int)) = true := decide_eq_true (by omega)
  have d4 : decide (((I : Int) + 1) * (C : Int) ≤ (l.length : Int)) = true := decide_eq_true (by rw [e2]; omega)
  have d5 : decide (0 + (List.drop ((I : Int) * (C : Int)).toNat (List.take (((I : Int) + 1) * (C : Int)).toNat l)).length ≤ lim) = true := by
    refine decide_eq_true ?_
    rw [List.length_drop, List.length_take]
    unfold lim
    omega
  rw [d1, d2, d3, d4, d5]
  rfl

theorem col_loop (N : Nat) {R C K : Nat} {l : List Int} (r6 : R ≤ 6) (c6 : C ≤ 6) (hl : l.length = R * C) (hk : K < C) : ∀ (k i F : Nat), i + k = R → k < F →
    matrix.Column.L0 N F (R : Int) (C : Int) l (K : Int) (i : Int) ((List.range i).map fun j : Nat => atI (C : Int) l (j : Int) (K : Int)) = some (.ints (.own 100007 37) .u64 (colI (R : Int) (C : Int) l (K : Int))) := by
  intro k
  induction k with
  | zero =>
    intro i F hi hF
    obtain ⟨F, rfl⟩ : ∃ G, F = G + 1 := ⟨F - 1, by omega⟩
    rw [matrix.Column.L0_step, ltI_eq, decide_eq_false (by omega), cond_false]
    unfold colI
    rw [Int.toNat_natCast, show i = R by omega]
  | succ k ih =>
    intro i F hi hF
    obtain ⟨F, rfl⟩ : ∃ G, F = G + 1 := ⟨F - 1, by omega⟩
    have d : decide (((List.range i).map fun j : Nat => atI (C : Int) l (j : Int) (K : Int)).length + 1 ≤ lim) = true := by
      refine decide_eq_true ?_
      rw [List.length_map, List.length_range]; unfold lim; omega
    rw [matrix.Column.L0_step, ltI_eq, decide_eq_true (by omega), cond_true, atPre_of r6 c6 hl (show i < R by omega) hk, cond_true, d, cond_true, w_i64_in (by omega) (by omega)]
    have := ih (i + 1) F (by omega) (by omega)
    rw [List.range_succ, List.map_append] at this
    exact this

theorem matrix.Column.known : Known Tryz.prog 148 matrix.Column.spec := matrix.Column.known_of (.cons matrix.get.known .nil) fun r c l k f hp => by
  obtain ⟨h0, hf⟩ := and_true_iff.1 hp
  obtain rfl := of_decide_eq_true hf
  obtain ⟨hr, hi⟩ := and_true_iff.1 h0
  have hi := cdec_eq.1 hi
  obtain ⟨R, C, rfl, rfl, r6, c6, hl⟩ := right_nat hr
  obtain ⟨K, rfl⟩ : ∃ j : Nat, k = j := ⟨k.toNat, by omega⟩
  refine ⟨8, .ints (.own 100007 37) .u64 (colI (R : Int) (C : Int) l (K : Int)), [100007], ?_, .drop _ _ _ _ (List.mem_singleton.2 rfl)⟩
  rw [matrix.Column.ev]
  exact col_loop 8 r6 c6 hl (by omega) R 0 8 (by omega) (by omega)

theorem at_of_right {r c i k : Int} {l : List Int} (h : rightB r c l = true) (h1 : 0 ≤ i) (h2 : i < r) (h3 : 0 ≤ k) (h4 : k < c) (R : Int) : atPre R c l i k = true := by
  obtain ⟨R', C, rfl, rfl, r6, c6, hl⟩ := right_nat h
  obtain ⟨I, rfl⟩ : ∃ j : Nat, i = j := ⟨i.toNat, by omega⟩
  obtain ⟨K, rfl⟩ : ∃ j : Nat, k = j := ⟨k.toNat, by omega⟩
  exact atPre_of r6 c6 hl (by omega) (by omega)

theorem matrix.Zeros_1.known : Known Tryz.prog 163 matrix.Zeros_1.spec := matrix.Zeros_1.known_of .nil fun i k _ => by
  refine ⟨0, matrix.Zeros_1.out [.i i, .i k], [], ?_, .int⟩
  rw [matrix.Zeros_1.ev]; rfl

theorem matrix.Eye_1.known : Known Tryz.prog 215 matrix.Eye_1.spec := matrix.Eye_1.known_of .nil fun i k _ => by
  refine ⟨0, matrix.Eye_1.out [.i i, .i k], [], ?_, .int⟩
  rw [matrix.Eye_1.ev]
  show _ = some (DV.int .u64 (eyeI i k))
  unfold eyeI
  by_cases h : i = k
  · have : (i == k) = true := by rw [h]; simp
    rw [this, if_pos h]; rfl
  · have : (i == k) = false := by simpa using h
    rw [this, if_neg h]; rfl

theorem matrix.Turn_1.known : Known Tryz.prog 182 matrix.Turn_1.spec := matrix.Turn_1.known_of (.cons matrix.get.known .nil) fun i k r c l hp => by
  have hp : atPre r c l k i = true := hp
  refine ⟨0, matrix.Turn_1.out [.i i, .i k, .i r, .i c, .l l], [], ?_, .int⟩
  rw [matrix.Turn_1.ev, hp]; rfl

theorem matrix.Part_1.known : Known Tryz.prog 149 matrix.Part_1.spec := matrix.Part_1.known_of (.cons matrix.get.known .nil) fun i k r c l x y hp => by
  obtain ⟨h1, h2⟩ := and_true_iff.1 hp
  have h2 := cdec_eq.1 h2
  refine ⟨0, matrix.Part_1.out [.i i, .i k, .i r, .i c, .l l, .i x, .i y], [], ?_, .int⟩
  rw [matrix.Part_1.ev, w_i64_in (x := x + i) (by omega) (by omega), w_i64_in (x := y + k) (by omega) (by omega), h1]; rfl

theorem matrix.Stack_1.known : Known Tryz.prog 152 matrix.Stack_1.spec := matrix.Stack_1.known_of (.cons matrix.get.known .nil) fun i k r c l p q m hp => by
  obtain ⟨h1, h2, h3, h4, h5⟩ := cdec_eq.1 (show stackPre r c l p q m i k = true from hp)
  refine ⟨0, matrix.Stack_1.out [.i i, .i k, .i r, .i c, .l l, .i p, .i q, .l m], [], ?_, .int⟩
  show _ = some (DV.int .u64 (stackI r c l q m i k))
  rw [matrix.Stack_1.ev, ltI_eq, w_i64_in (x := i - r) (by omega) (by omega)]
  unfold stackI
  by_cases h : i < r
  · rw [if_pos h] at h5
    rw [decide_eq_true h, cond_true, h5, cond_true, if_pos h]
  · rw [if_neg h] at h5
    rw [decide_eq_false h, cond_false, h5, cond_true, if_neg h]

theorem row_length {R C : Nat} {l : List Int} (hl : l.length = R * C) {I : Nat} (hi : I < R) : (rowI (C : Int) l (I : Int)).length = C := by
  have hle : (I + 1) * C ≤ R * C := Nat.mul_le_mul_right C (by omega)
  have e1 : ((I : Int) * (C : Int)).toNat = I * C := by rw [← Int.natCast_mul, Int.toNat_natCast]
  have e2 : (((I : Int) + 1) * (C : Int)).toNat = (I + 1) * C := by
    have : ((I : Int) + 1) * (C : Int) = (((I + 1) * C : Nat) : Int) := by rw [Int.natCast_mul]; rfl
    rw [this, Int.toNat_natCast]
  unfold rowI
  rw [List.length_drop, List.length_take, e1, e2]
  rw [Nat.add_mul, Nat.one_mul] at hle ⊢
  omega

theorem col_length (R : Nat) (C : Int) (l : List Int) (K : Int) : (colI (R : Int) C l K).length = R := by
  unfold colI
  rw [List.length_map, List.length_range, Int.toNat_natCast]

theorem row_all {c i : Int} {l : List Int} (h : allU64 l = true) : allU64 (rowI c l i) = true := by
  have h := cdec_eq.1 h
  exact cdec_eq.2 fun x hx => h x (List.mem_of_mem_take (List.mem_of_mem_drop hx))

theorem at_all {c i k : Int} {l : List Int} (h : allU64 l = true) : inU64 (atI c l i k) = true := by
  unfold atI
  by_cases hj : (i * c + k).toNat < l.length
  · exact all_get h hj
  · rw [List.getD_eq_getElem?_getD, List.getElem?_eq_none (by omega)]
    exact inU64_of (n := 0) (by decide)

theorem col_all {r c k : Int} {l : List Int} (h : allU64 l = true) : allU64 (colI r c l k) = true := by
  refine cdec_eq.2 fun x hx => ?_
  obtain ⟨j, _, rfl⟩ := List.mem_map.1 hx
  exact at_all h

theorem matrix.Mul_1.known : Known Tryz.prog 145 matrix.Mul_1.spec := matrix.Mul_1.known_of (.cons matrix.Column.known (.cons matrix.Row.known (.cons vector.Dot.known .nil))) fun i k r c l p q m hp => by
  obtain ⟨h1, h2⟩ := and_true_iff.1 (show mulPre r c l p q m i k = true from hp)
  obtain ⟨h3, h4⟩ := and_true_iff.1 h1
  obtain ⟨h5, h6⟩ := and_true_iff.1 h2
  obtain ⟨hl, hm⟩ := and_true_iff.1 h5
  obtain rfl := cdec_eq.1 h6
  obtain ⟨hr, hi⟩ := and_true_iff.1 h3
  have hi := cdec_eq.1 hi
  obtain ⟨R, C, rfl, rfl, r6, c6, ll⟩ := right_nat hr
  obtain ⟨I, rfl⟩ : ∃ j : Nat, i = j := ⟨i.toNat, by omega⟩
  refine ⟨0, matrix.Mul_1.out [.i I, .i k, .i R, .i C, .l l, .i C, .i q, .l m], [], ?_, .int⟩
  have hf : fitB (rowI (C : Int) l (I : Int)) (colI (C : Int) q m k) = true := fit_iff.2 ⟨by rw [row_length ll (by omega), col_length], by rw [row_length ll (by omega)]; omega⟩
  rw [matrix.Mul_1.ev, h3, h4, hf, row_all hl, col_all hm]
  rfl

end Go.Proofs.S1

/- The evaluator's equations: matrix.of.Zeros, matrix.of.Eye, matrix.of.Turn, matrix.of.Part, matrix.of.Sub, matrix.of.Stack, matrix.of.Mul, matrix.Zeros, matrix.Eye, matrix.Turn, matrix.Part, matrix.Sub, matrix.Stack, matrix.Mul. Printed by denpy.py. -/
namespace Go.Proofs.S1
open Go Go.Den Go.Rnd Go.Proofs
set_option linter.unusedVariables false
set_option maxRecDepth 100000
namespace EqOf
theorem tt0 (a : Bool) : (a && true) = a := by cases a <;> rfl
theorem tt1 (a b : Bool) : (bif (!a) then true else (!b)) = ((!a) || (!b)) := by cases a <;> cases b <;> rfl
theorem tt2 (a : Bool) : ((!(!(!a))) || ((!a) == false)) = true := by cases a <;> rfl
theorem tt3 (a : Bool) : ((!((!a) == false)) || ((((!((!a) == false)) || ((!a) == false)) && true) && true)) = true := by cases a <;> rfl
theorem tt4 (a : Bool) : ((!((!a) == false)) || true) = true := by cases a <;> rfl
theorem tt5 (a b c d e f g h : Bool) : (bif (bif (bif (bif (bif (bif (bif a then true else b) then true else c) then true else d) then true else e) then true else f) then true else g) then true else h) = (((((((a || b) || c) || d) || e) || f) || g) || h) := by cases a <;> cases b <;> cases c <;> cases d <;> cases e <;> cases f <;> cases g <;> cases h <;> rfl
theorem tt6 (a b c d e f g : Bool) : ((!(!(bif (bif (bif (bif (bif (bif a then true else b) then true else c) then true else d) then true else e) then true else f) then true else g))) || ((bif (bif (bif (bif (bif (bif a then true else b) then true else c) then true else d) then true else e) then true else f) then true else g) == false)) = true := by cases a <;> cases b <;> cases c <;> cases d <;> cases e <;> cases f <;> cases g <;> rfl
theorem tt7 (a b c d e f g : Bool) : ((!((bif (bif (bif (bif (bif (bif a then true else b) then true else c) then true else d) then true else e) then true else f) then true else g) == false)) || ((((!((bif (bif (bif (bif (bif (bif a then true else b) then true else c) then true else d) then true else e) then true else f) then true else g) == false)) || ((bif (bif (bif (bif (bif (bif a then true else b) then true else c) then true else d) then true else e) then true else f) then true else g) == false)) && (((!((bif (bif (bif (bif (bif (bif a then true else b) then true else c) then true else d) then true else e) then true else f) then true else g) == false)) || ((bif (bif (bif (bif (bif (bif a then true else b) then true else c) then true else d) then true else e) then true else f) then true else g) == false)) && true)) && true)) = true := by cases a <;> cases b <;> cases c <;> cases d <;> cases e <;> cases f <;> cases g <;> rfl
theorem tt8 (a b c d e f g : Bool) : ((!((bif (bif (bif (bif (bif (bif a then true else b) then true else c) then true else d) then true else e) then true else f) then true else g) == false)) || true) = true := by cases a <;> cases b <;> cases c <;> cases d <;> cases e <;> cases f <;> cases g <;> rfl
theorem tt9 (a b c d e f g : Bool) : ((!((bif (bif (bif (bif (bif (bif a then true else b) then true else c) then true else d) then true else e) then true else f) then true else g) == false)) || ((((!((bif (bif (bif (bif (bif (bif a then true else b) then true else c) then true else d) then true else e) then true else f) then true else g) == false)) || ((bif (bif (bif (bif (bif (bif a then true else b) then true else c) then true else d) then true else e) then true else f) then true else g) == false)) && true) && true)) = true := by cases a <;> cases b <;> cases c <;> cases d <;> cases e <;> cases f <;> cases g <;> rfl
theorem tt10 (a b c d e f : Bool) : ((!(!(bif (bif (bif (bif (bif a then true else b) then true else c) then true else d) then true else e) then true else f))) || ((bif (bif (bif (bif (bif a then true else b) then true else c) then true else d) then true else e) then true else f) == false)) = true := by cases a <;> cases b <;> cases c <;> cases d <;> cases e <;> cases f <;> rfl
theorem tt11 (a b c d e f : Bool) : ((!((bif (bif (bif (bif (bif a then true else b) then true else c) then true else d) then true else e) then true else f) == false)) || ((((!((bif (bif (bif (bif (bif a then true else b) then true else c) then true else d) then true else e) then true else f) == false)) || ((bif (bif (bif (bif (bif a then true else b) then true else c) then true else d) then true else e) then true else f) == false)) && (((!((bif (bif (bif (bif (bif a then true else b) then true else c) then true else d) then true else e) then true else f) == false)) || ((bif (bif (bif (bif (bif a then true else b) then true else c) then true else d) then true else e) then true else f) == false)) && true)) && true)) = true := by cases a <;> cases b <;> cases c <;> cases d <;> cases e <;> cases f <;> rfl
theorem tt12 (a b c d e f : Bool) : ((!((bif (bif (bif (bif (bif a then true else b) then true else c) then true else d) then true else e) then true else f) == false)) || true) = true := by cases a <;> cases b <;> cases c <;> cases d <;> cases e <;> cases f <;> rfl
theorem tt13 (a b c d e f : Bool) : ((!((bif (bif (bif (bif (bif a then true else b) then true else c) then true else d) then true else e) then true else f) == false)) || ((((!((bif (bif (bif (bif (bif a then true else b) then true else c) then true else d) then true else e) then true else f) == false)) || ((bif (bif (bif (bif (bif a then true else b) then true else c) then true else d) then true else e) then true else f) == false)) && true) && true)) = true := by cases a <;> cases b <;> cases c <;> cases d <;> cases e <;> cases f <;> rfl
theorem tt14 (a b c d e : Bool) : ((!(!(bif (bif (bif (bif a then true else b) then true else c) then true else d) then true else e))) || ((bif (bif (bif (bif a then true else b) then true else c) then true else d) then true else e) == false)) = true := by cases a <;> cases b <;> cases c <;> cases d <;> cases e <;> rfl
theorem tt15 (a b c d e : Bool) : ((!((bif (bif (bif (bif a then true else b) then true else c) then true else d) then true else e) == false)) || ((((!((bif (bif (bif (bif a then true else b) then true else c) then true else d) then true else e) == false)) || ((bif (bif (bif (bif a then true else b) then true else c) then true else d) then true else e) == false)) && (((!((bif (bif (bif (bif a then true else b) then true else c) then true else d) then true else e) == false)) || ((bif (bif (bif (bif a then true else b) then true else c) then true else d) then true else e) == false)) && true)) && true)) = true := by cases a <;> cases b <;> cases c <;> cases d <;> cases e <;> rfl
theorem tt16 (a b c d e : Bool) : ((!((bif (bif (bif (bif a then true else b) then true else c) then true else d) then true else e) == false)) || ((((!((bif (bif (bif (bif a then true else b) then true else c) then true else d) then true else e) == false)) || ((bif (bif (bif (bif a then true else b) then true else c) then true else d) then true else e) == false)) && true) && true)) = true := by cases a <;> cases b <;> cases c <;> cases d <;> cases e <;> rfl
theorem tt17 (a b c d e : Bool) : ((!((bif (bif (bif (bif a then true else b) then true else c) then true else d) then true else e) == false)) || true) = true := by cases a <;> cases b <;> cases c <;> cases d <;> cases e <;> rfl
theorem tt18 (a b c d : Bool) : ((!(!(bif (bif (bif a then true else b) then true else c) then true else d))) || ((bif (bif (bif a then true else b) then true else c) then true else d) == false)) = true := by cases a <;> cases b <;> cases c <;> cases d <;> rfl
theorem tt19 (a b c d : Bool) : ((!((bif (bif (bif a then true else b) then true else c) then true else d) == false)) || ((((!((bif (bif (bif a then true else b) then true else c) then true else d) == false)) || ((bif (bif (bif a then true else b) then true else c) then true else d) == false)) && (((!((bif (bif (bif a then true else b) then true else c) then true else d) == false)) || ((bif (bif (bif a then true else b) then true else c) then true else d) == false)) && true)) && true)) = true := by cases a <;> cases b <;> cases c <;> cases d <;> rfl
theorem tt20 (a b c d : Bool) : ((!((bif (bif (bif a then true else b) then true else c) then true else d) == false)) || ((((!((bif (bif (bif a then true else b) then true else c) then true else d) == false)) || ((bif (bif (bif a then true else b) then true else c) then true else d) == false)) && true) && true)) = true := by cases a <;> cases b <;> cases c <;> cases d <;> rfl
theorem tt21 (a b c d : Bool) : ((!((bif (bif (bif a then true else b) then true else c) then true else d) == false)) || true) = true := by cases a <;> cases b <;> cases c <;> cases d <;> rfl
theorem tt22 (a b c : Bool) : ((!(!(bif (bif a then true else b) then true else c))) || ((bif (bif a then true else b) then true else c) == false)) = true := by cases a <;> cases b <;> cases c <;> rfl
theorem tt23 (a b c : Bool) : ((!((bif (bif a then true else b) then true else c) == false)) || ((((!((bif (bif a then true else b) then true else c) == false)) || ((bif (bif a then true else b) then true else c) == false)) && true) && true)) = true := by cases a <;> cases b <;> cases c <;> rfl
theorem tt24 (a b c : Bool) : ((!((bif (bif a then true else b) then true else c) == false)) || true) = true := by cases a <;> cases b <;> cases c <;> rfl
theorem tt25 (a b : Bool) : ((!(!(bif a then true else b))) || ((bif a then true else b) == false)) = true := by cases a <;> cases b <;> rfl
theorem tt26 (a b : Bool) : ((!((bif a then true else b) == false)) || ((((!((bif a then true else b) == false)) || ((bif a then true else b) == false)) && true) && true)) = true := by cases a <;> cases b <;> rfl
theorem tt27 (a b : Bool) : ((!((bif a then true else b) == false)) || true) = true := by cases a <;> cases b <;> rfl
theorem tt28 (a : Bool) : ((!(!a)) || (a == false)) = true := by cases a <;> rfl
theorem tt29 (a : Bool) : ((!(a == false)) || ((((!(a == false)) || (a == false)) && true) && true)) = true := by cases a <;> rfl
theorem tt30 (a : Bool) : ((!(a == false)) || true) = true := by cases a <;> rfl
theorem tt31 (a b : Bool) : (!(a && (b && true))) = (!(a && b)) := by cases a <;> cases b <;> rfl
theorem tt32 (a b : Bool) : (bif a then true else b) = (a || b) := by cases a <;> cases b <;> rfl
theorem tt33 (a : Bool) : ((!(a == false)) || ((((!(a == false)) || (a == false)) && (((!(a == false)) || (a == false)) && true)) && true)) = true := by cases a <;> rfl
def matrix.of.Zeros.hint : Nat → Option LoopHint
  | 0 => some { keep := [1, 2, 6, 7, 13, 14], objs := [(8, 2, 108002, .ints 37 .u64 [])], boxes := [6, 7] }
  | 2 => some { keep := [1, 2, 6, 7, 8, 13, 14, 17, 18], objs := [(8, 2, 108002, .ints 37 .u64 [])], boxes := [6, 7] }
  | _ => none
noncomputable def matrix.of.Zeros.tab : List (Nat × Entry) := [(163, matrix.Zeros_1.spec)]
noncomputable def matrix.of.Zeros.E : Env := envOf (tabOf matrix.of.Zeros.tab) (fun _ => false) matrix.of.Zeros.hint (fun _ => none)
noncomputable def matrix.of.Zeros.L0 (N M : Nat) (a : Int) (b : Int) (p14 : Int) (p2_1 : List Int) : Option DV := loopAt matrix.of.Zeros.E N Tryz.f144 (bodyOf Tryz.f144) [1, 1, 0, 1, 0] [] M ⟨mkT 33 [(1, .int .i64 b), (2, .fn 163 [] []), (6, .ptr 6 0 0), (7, .ptr 7 0 0), (13, .int .i64 a), (14, .int .i64 p14)], [(6, false, .box [.int .i64 (0 : Int), .int .i64 (0 : Int), .nil]), (7, false, .box [.int .i64 a, .int .i64 b, .oref 108002]), (108002, false, .ints 37 .u64 p2_1)]⟩
noncomputable def matrix.of.Zeros.L1 (N M0 M : Nat) (a : Int) (b : Int) (p8 : Int) (p14_1 : Int) (p18 : Int) (p2 : List Int) : Option DV := loopAt matrix.of.Zeros.E N Tryz.f144 (bodyOf Tryz.f144) [1, 1, 0, 1, 0, 0, 1, 1, 0, 0, 1, 1, 0] [M0] M ⟨mkT 33 [(1, .int .i64 b), (2, .fn 163 [] []), (6, .ptr 6 0 0), (7, .ptr 7 0 0), (8, .int .i64 p8), (13, .int .i64 a), (14, .int .i64 p14_1), (17, .int .i64 b), (18, .int .i64 p18)], [(6, false, .box [.int .i64 (0 : Int), .int .i64 (0 : Int), .nil]), (7, false, .box [.int .i64 a, .int .i64 b, .oref 108002]), (108002, false, .ints 37 .u64 p2)]⟩
theorem matrix.of.Zeros.L0_step (N M : Nat) (a : Int) (b : Int) (p14 : Int) (p2_1 : List Int) : matrix.of.Zeros.L0 N (M + 1) a b p14 p2_1 =
  bif (ltI p14 a) then
  matrix.of.Zeros.L1 N M N a b p14 p14 (0 : Int) p2_1
  else some (.agg [.int .i64 a, .int .i64 b, .ints (.own 108002 37) .u64 p2_1]) := by kernel_rfl
theorem matrix.of.Zeros.L1_step (N M0 M : Nat) (a : Int) (b : Int) (p8 : Int) (p14_1 : Int) (p18 : Int) (p2 : List Int) : matrix.of.Zeros.L1 N M0 (M + 1) a b p8 p14_1 p18 p2 =
  bif (ltI p18 b) then
  bif (decide ((List.length p2) + 1 ≤ lim)) then
  matrix.of.Zeros.L1 N M0 M a b p8 p14_1 (w_i64 (p18 + (1 : Int))) (p2 ++ [(0 : Int)])
  else none
  else matrix.of.Zeros.L0 N M0 a b (w_i64 (p14_1 + (1 : Int))) p2 :=
  Eq.trans (by kernel_rfl)
  (ifE (ifS (tt0 (decide ((List.length p2) + 1 ≤ lim))) rfl rfl) rfl)
theorem matrix.of.Zeros.ev (N : Nat) (a : Int) (b : Int) : funD matrix.of.Zeros.E N Tryz.f144 (bodyOf Tryz.f144) [.int .i64 a, .int .i64 b, .fn 163 [] []] =
  matrix.of.Zeros.L0 N N a b (0 : Int) [] := by kernel_rfl
theorem matrix.of.Zeros.known_of (hk : Knowns Tryz.prog matrix.of.Zeros.tab) (h : ∀ (a : Int) (b : Int), matrix.of.Zeros.pre [.i a, .i b] = true → ∃ N dv drops, funD matrix.of.Zeros.E N Tryz.f144 (bodyOf Tryz.f144) [.int .i64 a, .int .i64 b, .fn 163 [] []] = some dv ∧ Wk drops dv (matrix.of.Zeros.out [.i a, .i b])) : Known Tryz.prog 144 matrix.of.Zeros.spec := by
  refine ⟨meets_entry (E := matrix.of.Zeros.E) (env_ok hk _ _ _) Tryz.func144 (show Tryz.f144.body = some (bodyOf Tryz.f144) by kernel_rfl) fun ats dvs he hp => ?_, call_enter Tryz.func144 (by kernel_rfl) (show Tryz.f144.body = some (bodyOf Tryz.f144) by kernel_rfl)⟩
  obtain ⟨a, _, _, rfl, rfl, he0⟩ := he.i_inv
  obtain ⟨b, _, _, rfl, rfl, he1⟩ := he0.i_inv
  obtain ⟨_, _, _, _, rfl, rfl, hs2, he2⟩ := he1.fn_inv
  obtain ⟨rfl, rfl⟩ := hs2.nil_inv
  obtain ⟨rfl, rfl⟩ := he2.nil_inv
  exact h a b hp

def matrix.of.Eye.hint : Nat → Option LoopHint
  | 0 => some { keep := [1, 2, 6, 7, 13, 14], objs := [(8, 2, 108002, .ints 37 .u64 [])], boxes := [6, 7] }
  | 2 => some { keep := [1, 2, 6, 7, 8, 13, 14, 17, 18], objs := [(8, 2, 108002, .ints 37 .u64 [])], boxes := [6, 7] }
  | _ => none
noncomputable def matrix.of.Eye.tab : List (Nat × Entry) := [(215, matrix.Eye_1.spec)]
noncomputable def matrix.of.Eye.E : Env := envOf (tabOf matrix.of.Eye.tab) (fun _ => false) matrix.of.Eye.hint (fun _ => none)
noncomputable def matrix.of.Eye.L0 (N M : Nat) (a : Int) (b : Int) (p14 : Int) (p2_1 : List Int) : Option DV := loopAt matrix.of.Eye.E N Tryz.f144 (bodyOf Tryz.f144) [1, 1, 0, 1, 0] [] M ⟨mkT 33 [(1, .int .i64 b), (2, .fn 215 [] []), (6, .ptr 6 0 0), (7, .ptr 7 0 0), (13, .int .i64 a), (14, .int .i64 p14)], [(6, false, .box [.int .i64 (0 : Int), .int .i64 (0 : Int), .nil]), (7, false, .box [.int .i64 a, .int .i64 b, .oref 108002]), (108002, false, .ints 37 .u64 p2_1)]⟩
noncomputable def matrix.of.Eye.L1 (N M0 M : Nat) (a : Int) (b : Int) (p8 : Int) (p14_1 : Int) (p18 : Int) (p2 : List Int) : Option DV := loopAt matrix.of.Eye.E N Tryz.f144 (bodyOf Tryz.f144) [1, 1, 0, 1, 0, 0, 1, 1, 0, 0, 1, 1, 0] [M0] M ⟨mkT 33 [(1, .int .i64 b), (2, .fn 215 [] []), (6, .ptr 6 0 0), (7, .ptr 7 0 0), (8, .int .i64 p8), (13, .int .i64 a), (14, .int .i64 p14_1), (17, .int .i64 b), (18, .int .i64 p18)], [(6, false, .box [.int .i64 (0 : Int), .int .i64 (0 : Int), .nil]), (7, false, .box [.int .i64 a, .int .i64 b, .oref 108002]), (108002, false, .ints 37 .u64 p2)]⟩
theorem matrix.of.Eye.L0_step (N M : Nat) (a : Int) (b : Int) (p14 : Int) (p2_1 : List Int) : matrix.of.Eye.L0 N (M + 1) a b p14 p2_1 =
  bif (ltI p14 a) then
  matrix.of.Eye.L1 N M N a b p14 p14 (0 : Int) p2_1
  else some (.agg [.int .i64 a, .int .i64 b, .ints (.own 108002 37) .u64 p2_1]) := by kernel_rfl
theorem matrix.of.Eye.L1_step (N M0 M : Nat) (a : Int) (b : Int) (p8 : Int) (p14_1 : Int) (p18 : Int) (p2 : List Int) : matrix.of.Eye.L1 N M0 (M + 1) a b p8 p14_1 p18 p2 =
  bif (ltI p18 b) then
  bif (decide ((List.length p2) + 1 ≤ lim)) then
  matrix.of.Eye.L1 N M0 M a b p8 p14_1 (w_i64 (p18 + (1 : Int))) (p2 ++ [(eyeI p8 p18)])
  else none
  else matrix.of.Eye.L0 N M0 a b (w_i64 (p14_1 + (1 : Int))) p2 :=
  Eq.trans (by kernel_rfl)
  (ifE (ifS (tt0 (decide ((List.length p2) + 1 ≤ lim))) rfl rfl) rfl)
theorem matrix.of.Eye.ev (N : Nat) (a : Int) (b : Int) : funD matrix.of.Eye.E N Tryz.f144 (bodyOf Tryz.f144) [.int .i64 a, .int .i64 b, .fn 215 [] []] =
  matrix.of.Eye.L0 N N a b (0 : Int) [] := by kernel_rfl
theorem matrix.of.Eye.known_of (hk : Knowns Tryz.prog matrix.of.Eye.tab) (h : ∀ (a : Int) (b : Int), matrix.of.Eye.pre [.i a, .i b] = true → ∃ N dv drops, funD matrix.of.Eye.E N Tryz.f144 (bodyOf Tryz.f144) [.int .i64 a, .int .i64 b, .fn 215 [] []] = some dv ∧ Wk drops dv (matrix.of.Eye.out [.i a, .i b])) : Known Tryz.prog 144 matrix.of.Eye.spec := by
  refine ⟨meets_entry (E := matrix.of.Eye.E) (env_ok hk _ _ _) Tryz.func144 (show Tryz.f144.body = some (bodyOf Tryz.f144) by kernel_rfl) fun ats dvs he hp => ?_, call_enter Tryz.func144 (by kernel_rfl) (show Tryz.f144.body = some (bodyOf Tryz.f144) by kernel_rfl)⟩
  obtain ⟨a, _, _, rfl, rfl, he0⟩ := he.i_inv
  obtain ⟨b, _, _, rfl, rfl, he1⟩ := he0.i_inv
  obtain ⟨_, _, _, _, rfl, rfl, hs2, he2⟩ := he1.fn_inv
  obtain ⟨rfl, rfl⟩ := hs2.nil_inv
  obtain ⟨rfl, rfl⟩ := he2.nil_inv
  exact h a b hp

def matrix.of.Turn.hint : Nat → Option LoopHint
  | 0 => some { keep := [1, 2, 6, 7, 13, 14], objs := [(8, 2, 108002, .ints 37 .u64 [])], boxes := [6, 7] }
  | 2 => some { keep := [1, 2, 6, 7, 8, 13, 14, 17, 18], objs := [(8, 2, 108002, .ints 37 .u64 [])], boxes := [6, 7] }
  | _ => none
noncomputable def matrix.of.Turn.tab : List (Nat × Entry) := [(182, matrix.Turn_1.spec)]
noncomputable def matrix.of.Turn.E : Env := envOf (tabOf matrix.of.Turn.tab) (fun _ => false) matrix.of.Turn.hint (fun _ => none)
noncomputable def matrix.of.Turn.L0 (N M : Nat) (a : Int) (b : Int) (r : Int) (c : Int) (l : List Int) (p14 : Int) (p2_1 : List Int) : Option DV := loopAt matrix.of.Turn.E N Tryz.f144 (bodyOf Tryz.f144) [1, 1, 0, 1, 0] [] M ⟨mkT 33 [(1, .int .i64 b), (2, .fn 182 [] [.cellp [.int .i64 r, .int .i64 c, .ints .arg .u64 l]]), (6, .ptr 6 0 0), (7, .ptr 7 0 0), (13, .int .i64 a), (14, .int .i64 p14)], [(6, false, .box [.int .i64 (0 : Int), .int .i64 (0 : Int), .nil]), (7, false, .box [.int .i64 a, .int .i64 b, .oref 108002]), (108002, false, .ints 37 .u64 p2_1)]⟩
noncomputable def matrix.of.Turn.L1 (N M0 M : Nat) (a : Int) (b : Int) (r : Int) (c : Int) (l : List Int) (p8 : Int) (p14_1 : Int) (p18 : Int) (p2 : List Int) : Option DV := loopAt matrix.of.Turn.E N Tryz.f144 (bodyOf Tryz.f144) [1, 1, 0, 1, 0, 0, 1, 1, 0, 0, 1, 1, 0] [M0] M ⟨mkT 33 [(1, .int .i64 b), (2, .fn 182 [] [.cellp [.int .i64 r, .int .i64 c, .ints .arg .u64 l]]), (6, .ptr 6 0 0), (7, .ptr 7 0 0), (8, .int .i64 p8), (13, .int .i64 a), (14, .int .i64 p14_1), (17, .int .i64 b), (18, .int .i64 p18)], [(6, false, .box [.int .i64 (0 : Int), .int .i64 (0 : Int), .nil]), (7, false, .box [.int .i64 a, .int .i64 b, .oref 108002]), (108002, false, .ints 37 .u64 p2)]⟩
theorem matrix.of.Turn.L0_step (N M : Nat) (a : Int) (b : Int) (r : Int) (c : Int) (l : List Int) (p14 : Int) (p2_1 : List Int) : matrix.of.Turn.L0 N (M + 1) a b r c l p14 p2_1 =
  bif (ltI p14 a) then
  matrix.of.Turn.L1 N M N a b r c l p14 p14 (0 : Int) p2_1
  else some (.agg [.int .i64 a, .int .i64 b, .ints (.own 108002 37) .u64 p2_1]) := by kernel_rfl
theorem matrix.of.Turn.L1_step (N M0 M : Nat) (a : Int) (b : Int) (r : Int) (c : Int) (l : List Int) (p8 : Int) (p14_1 : Int) (p18 : Int) (p2 : List Int) : matrix.of.Turn.L1 N M0 (M + 1) a b r c l p8 p14_1 p18 p2 =
  bif (ltI p18 b) then
  bif (atPre r c l p18 p8) then
  bif (decide ((List.length p2) + 1 ≤ lim)) then
  matrix.of.Turn.L1 N M0 M a b r c l p8 p14_1 (w_i64 (p18 + (1 : Int))) (p2 ++ [(atI c l p18 p8)])
  else none
  else none
  else matrix.of.Turn.L0 N M0 a b r c l (w_i64 (p14_1 + (1 : Int))) p2 :=
  Eq.trans (by kernel_rfl)
  (ifE (ifS (tt0 (atPre r c l p18 p8)) (ifS (tt0 (decide ((List.length p2) + 1 ≤ lim))) rfl rfl) rfl) rfl)
theorem matrix.of.Turn.ev (N : Nat) (a : Int) (b : Int) (r : Int) (c : Int) (l : List Int) : funD matrix.of.Turn.E N Tryz.f144 (bodyOf Tryz.f144) [.int .i64 a, .int .i64 b, .fn 182 [] [.cellp [.int .i64 r, .int .i64 c, .ints .arg .u64 l]]] =
  matrix.of.Turn.L0 N N a b r c l (0 : Int) [] := by kernel_rfl
theorem matrix.of.Turn.known_of (hk : Knowns Tryz.prog matrix.of.Turn.tab) (h : ∀ (a : Int) (b : Int) (r : Int) (c : Int) (l : List Int), matrix.of.Turn.pre [.i a, .i b, .i r, .i c, .l l] = true → ∃ N dv drops, funD matrix.of.Turn.E N Tryz.f144 (bodyOf Tryz.f144) [.int .i64 a, .int .i64 b, .fn 182 [] [.cellp [.int .i64 r, .int .i64 c, .ints .arg .u64 l]]] = some dv ∧ Wk drops dv (matrix.of.Turn.out [.i a, .i b, .i r, .i c, .l l])) : Known Tryz.prog 144 matrix.of.Turn.spec := by
  refine ⟨meets_entry (E := matrix.of.Turn.E) (env_ok hk _ _ _) Tryz.func144 (show Tryz.f144.body = some (bodyOf Tryz.f144) by kernel_rfl) fun ats dvs he hp => ?_, call_enter Tryz.func144 (by kernel_rfl) (show Tryz.f144.body = some (bodyOf Tryz.f144) by kernel_rfl)⟩
  obtain ⟨a, _, _, rfl, rfl, he0⟩ := he.i_inv
  obtain ⟨b, _, _, rfl, rfl, he1⟩ := he0.i_inv
  obtain ⟨_, _, _, _, rfl, rfl, hs2, he2⟩ := he1.fn_inv
  obtain ⟨_, _, _, _, rfl, rfl, hs3, he3⟩ := hs2.cp_inv
  obtain ⟨r, _, _, rfl, rfl, he4⟩ := hs3.i_inv
  obtain ⟨c, _, _, rfl, rfl, he5⟩ := he4.i_inv
  obtain ⟨l, _, _, rfl, rfl, he6⟩ := he5.s_inv
  obtain ⟨rfl, rfl⟩ := he6.nil_inv
  obtain ⟨rfl, rfl⟩ := he3.nil_inv
  obtain ⟨rfl, rfl⟩ := he2.nil_inv
  exact h a b r c l hp

def matrix.of.Part.hint : Nat → Option LoopHint
  | 0 => some { keep := [1, 2, 6, 7, 13, 14], objs := [(8, 2, 108002, .ints 37 .u64 [])], boxes := [6, 7] }
  | 2 => some { keep := [1, 2, 6, 7, 8, 13, 14, 17, 18], objs := [(8, 2, 108002, .ints 37 .u64 [])], boxes := [6, 7] }
  | _ => none
noncomputable def matrix.of.Part.tab : List (Nat × Entry) := [(149, matrix.Part_1.spec)]
noncomputable def matrix.of.Part.E : Env := envOf (tabOf matrix.of.Part.tab) (fun _ => false) matrix.of.Part.hint (fun _ => none)
noncomputable def matrix.of.Part.L0 (N M : Nat) (a : Int) (b : Int) (r : Int) (c : Int) (l : List Int) (x : Int) (y : Int) (p14 : Int) (p2_1 : List Int) : Option DV := loopAt matrix.of.Part.E N Tryz.f144 (bodyOf Tryz.f144) [1, 1, 0, 1, 0] [] M ⟨mkT 33 [(1, .int .i64 b), (2, .fn 149 [] [.cellp [.int .i64 r, .int .i64 c, .ints .arg .u64 l], .cellp [.int .i64 x], .cellp [.int .i64 y]]), (6, .ptr 6 0 0), (7, .ptr 7 0 0), (13, .int .i64 a), (14, .int .i64 p14)], [(6, false, .box [.int .i64 (0 : Int), .int .i64 (0 : Int), .nil]), (7, false, .box [.int .i64 a, .int .i64 b, .oref 108002]), (108002, false, .ints 37 .u64 p2_1)]⟩
noncomputable def matrix.of.Part.L1 (N M0 M : Nat) (a : Int) (b : Int) (r : Int) (c : Int) (l : List Int) (x : Int) (y : Int) (p8 : Int) (p14_1 : Int) (p18 : Int) (p2 : List Int) : Option DV := loopAt matrix.of.Part.E N Tryz.f144 (bodyOf Tryz.f144) [1, 1, 0, 1, 0, 0, 1, 1, 0, 0, 1, 1, 0] [M0] M ⟨mkT 33 [(1, .int .i64 b), (2, .fn 149 [] [.cellp [.int .i64 r, .int .i64 c, .ints .arg .u64 l], .cellp [.int .i64 x], .cellp [.int .i64 y]]), (6, .ptr 6 0 0), (7, .ptr 7 0 0), (8, .int .i64 p8), (13, .int .i64 a), (14, .int .i64 p14_1), (17, .int .i64 b), (18, .int .i64 p18)], [(6, false, .box [.int .i64 (0 : Int), .int .i64 (0 : Int), .nil]), (7, false, .box [.int .i64 a, .int .i64 b, .oref 108002]), (108002, false, .ints 37 .u64 p2)]⟩
theorem matrix.of.Part.L0_step (N M : Nat) (a : Int) (b : Int) (r : Int) (c : Int) (l : List Int) (x : Int) (y : Int) (p14 : Int) (p2_1 : List Int) : matrix.of.Part.L0 N (M + 1) a b r c l x y p14 p2_1 =
  bif (ltI p14 a) then
  matrix.of.Part.L1 N M N a b r c l x y p14 p14 (0 : Int) p2_1
  else some (.agg [.int .i64 a, .int .i64 b, .ints (.own 108002 37) .u64 p2_1]) := by kernel_rfl
theorem matrix.of.Part.L1_step (N M0 M : Nat) (a : Int) (b : Int) (r : Int) (c : Int) (l : List Int) (x : Int) (y : Int) (p8 : Int) (p14_1 : Int) (p18 : Int) (p2 : List Int) : matrix.of.Part.L1 N M0 (M + 1) a b r c l x y p8 p14_1 p18 p2 =
  bif (ltI p18 b) then
  bif (atPre r c l (x + p8) (y + p18) && smallI x y p8 p18) then
  bif (decide ((List.length p2) + 1 ≤ lim)) then
  matrix.of.Part.L1 N M0 M a b r c l x y p8 p14_1 (w_i64 (p18 + (1 : Int))) (p2 ++ [(atI c l (x + p8) (y + p18))])
  else none
  else none
  else matrix.of.Part.L0 N M0 a b r c l x y (w_i64 (p14_1 + (1 : Int))) p2 :=
  Eq.trans (by kernel_rfl)
  (ifE (ifS (tt0 (atPre r c l (x + p8) (y + p18) && smallI x y p8 p18)) (ifS (tt0 (decide ((List.length p2) + 1 ≤ lim))) rfl rfl) rfl) rfl)
theorem matrix.of.Part.ev (N : Nat) (a : Int) (b : Int) (r : Int) (c : Int) (l : List Int) (x : Int) (y : Int) : funD matrix.of.Part.E N Tryz.f144 (bodyOf Tryz.f144) [.int .i64 a, .int .i64 b, .fn 149 [] [.cellp [.int .i64 r, .int .i64 c, .ints .arg .u64 l], .cellp [.int .i64 x], .cellp [.int .i64 y]]] =
  matrix.of.Part.L0 N N a b r c l x y (0 : Int) [] := by kernel_rfl
theorem matrix.of.Part.known_of (hk : Knowns Tryz.prog matrix.of.Part.tab) (h : ∀ (a : Int) (b : Int) (r : Int) (c : Int) (l : List Int) (x : Int) (y : Int), matrix.of.Part.pre [.i a, .i b, .i r, .i c, .l l, .i x, .i y] = true → ∃ N dv drops, funD matrix.of.Part.E N Tryz.f144 (bodyOf Tryz.f144) [.int .i64 a, .int .i64 b, .fn 149 [] [.cellp [.int .i64 r, .int .i64 c, .ints .arg .u64 l], .cellp [.int .i64 x], .cellp [.int .i64 y]]] = some dv ∧ Wk drops dv (matrix.of.Part.out [.i a, .i b, .i r, .i c, .l l, .i x, .i y])) : Known Tryz.prog 144 matrix.of.Part.spec := by
  refine ⟨meets_entry (E := matrix.of.Part.E) (env_ok hk _ _ _) Tryz.func144 (show Tryz.f144.body = some (bodyOf Tryz.f144) by kernel_rfl) fun ats dvs he hp => ?_, call_enter Tryz.func144 (by kernel_rfl) (show Tryz.f144.body = some (bodyOf Tryz.f144) by kernel_rfl)⟩
  obtain ⟨a, _, _, rfl, rfl, he0⟩ := he.i_inv
  obtain ⟨b, _, _, rfl, rfl, he1⟩ := he0.i_inv
  obtain ⟨_, _, _, _, rfl, rfl, hs2, he2⟩ := he1.fn_inv
  obtain ⟨_, _, _, _, rfl, rfl, hs3, he3⟩ := hs2.cp_inv
  obtain ⟨r, _, _, rfl, rfl, he4⟩ := hs3.i_inv
  obtain ⟨c, _, _, rfl, rfl, he5⟩ := he4.i_inv
  obtain ⟨l, _, _, rfl, rfl, he6⟩ := he5.s_inv
  obtain ⟨rfl, rfl⟩ := he6.nil_inv
  obtain ⟨_, _, _, _, rfl, rfl, hs7, he7⟩ := he3.cp_inv
  obtain ⟨x, _, _, rfl, rfl, he8⟩ := hs7.i_inv
  obtain ⟨rfl, rfl⟩ := he8.nil_inv
  obtain ⟨_, _, _, _, rfl, rfl, hs9, he9⟩ := he7.cp_inv
  obtain ⟨y, _, _, rfl, rfl, he10⟩ := hs9.i_inv
  obtain ⟨rfl, rfl⟩ := he10.nil_inv
  obtain ⟨rfl, rfl⟩ := he9.nil_inv
  obtain ⟨rfl, rfl⟩ := he2.nil_inv
  exact h a b r c l x y hp

def matrix.of.Sub.hint : Nat → Option LoopHint
  | 0 => some { keep := [1, 2, 6, 7, 13, 14], objs := [(8, 2, 108002, .ints 37 .u64 [])], boxes := [6, 7] }
  | 2 => some { keep := [1, 2, 6, 7, 8, 13, 14, 17, 18], objs := [(8, 2, 108002, .ints 37 .u64 [])], boxes := [6, 7] }
  | _ => none
noncomputable def matrix.of.Sub.tab : List (Nat × Entry) := [(151, matrix.Sub_1.spec)]
noncomputable def matrix.of.Sub.E : Env := envOf (tabOf matrix.of.Sub.tab) (fun _ => false) matrix.of.Sub.hint (fun _ => none)
noncomputable def matrix.of.Sub.L0 (N M : Nat) (a : Int) (b : Int) (r : Int) (c : Int) (l : List Int) (p : Int) (q : Int) (m : List Int) (p14 : Int) (p2_1 : List Int) : Option DV := loopAt matrix.of.Sub.E N Tryz.f144 (bodyOf Tryz.f144) [1, 1, 0, 1, 0] [] M ⟨mkT 33 [(1, .int .i64 b), (2, .fn 151 [] [.cellp [.int .i64 r, .int .i64 c, .ints .arg .u64 l], .cellp [.int .i64 p, .int .i64 q, .ints .arg .u64 m]]), (6, .ptr 6 0 0), (7, .ptr 7 0 0), (13, .int .i64 a), (14, .int .i64 p14)], [(6, false, .box [.int .i64 (0 : Int), .int .i64 (0 : Int), .nil]), (7, false, .box [.int .i64 a, .int .i64 b, .oref 108002]), (108002, false, .ints 37 .u64 p2_1)]⟩
noncomputable def matrix.of.Sub.L1 (N M0 M : Nat) (a : Int) (b : Int) (r : Int) (c : Int) (l : List Int) (p : Int) (q : Int) (m : List Int) (p8 : Int) (p14_1 : Int) (p18 : Int) (p2 : List Int) : Option DV := loopAt matrix.of.Sub.E N Tryz.f144 (bodyOf Tryz.f144) [1, 1, 0, 1, 0, 0, 1, 1, 0, 0, 1, 1, 0] [M0] M ⟨mkT 33 [(1, .int .i64 b), (2, .fn 151 [] [.cellp [.int .i64 r, .int .i64 c, .ints .arg .u64 l], .cellp [.int .i64 p, .int .i64 q, .ints .arg .u64 m]]), (6, .ptr 6 0 0), (7, .ptr 7 0 0), (8, .int .i64 p8), (13, .int .i64 a), (14, .int .i64 p14_1), (17, .int .i64 b), (18, .int .i64 p18)], [(6, false, .box [.int .i64 (0 : Int), .int .i64 (0 : Int), .nil]), (7, false, .box [.int .i64 a, .int .i64 b, .oref 108002]), (108002, false, .ints 37 .u64 p2)]⟩
theorem matrix.of.Sub.L0_step (N M : Nat) (a : Int) (b : Int) (r : Int) (c : Int) (l : List Int) (p : Int) (q : Int) (m : List Int) (p14 : Int) (p2_1 : List Int) : matrix.of.Sub.L0 N (M + 1) a b r c l p q m p14 p2_1 =
  bif (ltI p14 a) then
  matrix.of.Sub.L1 N M N a b r c l p q m p14 p14 (0 : Int) p2_1
  else some (.agg [.int .i64 a, .int .i64 b, .ints (.own 108002 37) .u64 p2_1]) := by kernel_rfl
theorem matrix.of.Sub.L1_step (N M0 M : Nat) (a : Int) (b : Int) (r : Int) (c : Int) (l : List Int) (p : Int) (q : Int) (m : List Int) (p8 : Int) (p14_1 : Int) (p18 : Int) (p2 : List Int) : matrix.of.Sub.L1 N M0 (M + 1) a b r c l p q m p8 p14_1 p18 p2 =
  bif (ltI p18 b) then
  bif (((atPre r c l p8 p18 && atPre p q m p8 p18) && allU64 l) && allU64 m) then
  bif (decide ((List.length p2) + 1 ≤ lim)) then
  matrix.of.Sub.L1 N M0 M a b r c l p q m p8 p14_1 (w_i64 (p18 + (1 : Int))) (p2 ++ [(subBI (atI c l p8 p18) (atI q m p8 p18))])
  else none
  else none
  else matrix.of.Sub.L0 N M0 a b r c l p q m (w_i64 (p14_1 + (1 : Int))) p2 :=
  Eq.trans (by kernel_rfl)
  (ifE (ifS (tt0 (((atPre r c l p8 p18 && atPre p q m p8 p18) && allU64 l) && allU64 m)) (ifS (tt0 (decide ((List.length p2) + 1 ≤ lim))) rfl rfl) rfl) rfl)
theorem matrix.of.Sub.ev (N : Nat) (a : Int) (b : Int) (r : Int) (c : Int) (l : List Int) (p : Int) (q : Int) (m : List Int) : funD matrix.of.Sub.E N Tryz.f144 (bodyOf Tryz.f144) [.int .i64 a, .int .i64 b, .fn 151 [] [.cellp [.int .i64 r, .int .i64 c, .ints .arg .u64 l], .cellp [.int .i64 p, .int .i64 q, .ints .arg .u64 m]]] =
  matrix.of.Sub.L0 N N a b r c l p q m (0 : Int) [] := by kernel_rfl
theorem matrix.of.Sub.known_of (hk : Knowns Tryz.prog matrix.of.Sub.tab) (h : ∀ (a : Int) (b : Int) (r : Int) (c : Int) (l : List Int) (p : Int) (q : Int) (m : List Int), matrix.of.Sub.pre [.i a, .i b, .i r, .i c, .l l, .i p, .i q, .l m] = true → ∃ N dv drops, funD matrix.of.Sub.E N Tryz.f144 (bodyOf Tryz.f144) [.int .i64 a, .int .i64 b, .fn 151 [] [.cellp [.int .i64 r, .int .i64 c, .ints .arg .u64 l], .cellp [.int .i64 p, .int .i64 q, .ints .arg .u64 m]]] = some dv ∧ Wk drops dv (matrix.of.Sub.out [.i a, .i b, .i r, .i c, .l l, .i p, .i q, .l m])) : Known Tryz.prog 144 matrix.of.Sub.spec := by
  refine ⟨meets_entry (E := matrix.of.Sub.E) (env_ok hk _ _ _) Tryz.func144 (show Tryz.f144.body = some (bodyOf Tryz.f144) by kernel_rfl) fun ats dvs he hp => ?_, call_enter Tryz.func144 (by kernel_rfl) (show Tryz.f144.body = some (bodyOf Tryz.f144) by kernel_rfl)⟩
  obtain ⟨a, _, _, rfl, rfl, he0⟩ := he.i_inv
  obtain ⟨b, _, _, rfl, rfl, he1⟩ := he0.i_inv
  obtain ⟨_, _, _, _, rfl, rfl, hs2, he2⟩ := he1.fn_inv
  obtain ⟨_, _, _, _, rfl, rfl, hs3, he3⟩ := hs2.cp_inv
  obtain ⟨r, _, _, rfl, rfl, he4⟩ := hs3.i_inv
  obtain ⟨c, _, _, rfl, rfl, he5⟩ := he4.i_inv
  obtain ⟨l, _, _, rfl, rfl, he6⟩ := he5.s_inv
  obtain ⟨rfl, rfl⟩ := he6.nil_inv
  obtain ⟨_, _, _, _, rfl, rfl, hs7, he7⟩ := he3.cp_inv
  obtain ⟨p, _, _, rfl, rfl, he8⟩ := hs7.i_inv
  obtain ⟨q, _, _, rfl, rfl, he9⟩ := he8.i_inv
  obtain ⟨m, _, _, rfl, rfl, he10⟩ := he9.s_inv
  obtain ⟨rfl, rfl⟩ := he10.nil_inv
  obtain ⟨rfl, rfl⟩ := he7.nil_inv
  obtain ⟨rfl, rfl⟩ := he2.nil_inv
  exact h a b r c l p q m hp

def matrix.of.Stack.hint : Nat → Option LoopHint
  | 0 => some { keep := [1, 2, 6, 7, 13, 14], objs := [(8, 2, 108002, .ints 37 .u64 [])], boxes := [6, 7] }
  | 2 => some { keep := [1, 2, 6, 7, 8, 13, 14, 17, 18], objs := [(8, 2, 108002, .ints 37 .u64 [])], boxes := [6, 7] }
  | _ => none
noncomputable def matrix.of.Stack.tab : List (Nat × Entry) := [(152, matrix.Stack_1.spec)]
noncomputable def matrix.of.Stack.E : Env := envOf (tabOf matrix.of.Stack.tab) (fun _ => false) matrix.of.Stack.hint (fun _ => none)
noncomputable def matrix.of.Stack.L0 (N M : Nat) (a : Int) (b : Int) (r : Int) (c : Int) (l : List Int) (p : Int) (q : Int) (m : List Int) (p14 : Int) (p2_1 : List Int) : Option DV := loopAt matrix.of.Stack.E N Tryz.f144 (bodyOf Tryz.f144) [1, 1, 0, 1, 0] [] M ⟨mkT 33 [(1, .int .i64 b), (2, .fn 152 [] [.cellp [.int .i64 r, .int .i64 c, .ints .arg .u64 l], .cellp [.int .i64 p, .int .i64 q, .ints .arg .u64 m]]), (6, .ptr 6 0 0), (7, .ptr 7 0 0), (13, .int .i64 a), (14, .int .i64 p14)], [(6, false, .box [.int .i64 (0 : Int), .int .i64 (0 : Int), .nil]), (7, false, .box [.int .i64 a, .int .i64 b, .oref 108002]), (108002, false, .ints 37 .u64 p2_1)]⟩
noncomputable def matrix.of.Stack.L1 (N M0 M : Nat) (a : Int) (b : Int) (r : Int) (c : Int) (l : List Int) (p : Int) (q : Int) (m : List Int) (p8 : Int) (p14_1 : Int) (p18 : Int) (p2 : List Int) : Option DV := loopAt matrix.of.Stack.E N Tryz.f144 (bodyOf Tryz.f144) [1, 1, 0, 1, 0, 0, 1, 1, 0, 0, 1, 1, 0] [M0] M ⟨mkT 33 [(1, .int .i64 b), (2, .fn 152 [] [.cellp [.int .i64 r, .int .i64 c, .ints .arg .u64 l], .cellp [.int .i64 p, .int .i64 q, .ints .arg .u64 m]]), (6, .ptr 6 0 0), (7, .ptr 7 0 0), (8, .int .i64 p8), (13, .int .i64 a), (14, .int .i64 p14_1), (17, .int .i64 b), (18, .int .i64 p18)], [(6, false, .box [.int .i64 (0 : Int), .int .i64 (0 : Int), .nil]), (7, false, .box [.int .i64 a, .int .i64 b, .oref 108002]), (108002, false, .ints 37 .u64 p2)]⟩
theorem matrix.of.Stack.L0_step (N M : Nat) (a : Int) (b : Int) (r : Int) (c : Int) (l : List Int) (p : Int) (q : Int) (m : List Int) (p14 : Int) (p2_1 : List Int) : matrix.of.Stack.L0 N (M + 1) a b r c l p q m p14 p2_1 =
  bif (ltI p14 a) then
  matrix.of.Stack.L1 N M N a b r c l p q m p14 p14 (0 : Int) p2_1
  else some (.agg [.int .i64 a, .int .i64 b, .ints (.own 108002 37) .u64 p2_1]) := by kernel_rfl
theorem matrix.of.Stack.L1_step (N M0 M : Nat) (a : Int) (b : Int) (r : Int) (c : Int) (l : List Int) (p : Int) (q : Int) (m : List Int) (p8 : Int) (p14_1 : Int) (p18 : Int) (p2 : List Int) : matrix.of.Stack.L1 N M0 (M + 1) a b r c l p q m p8 p14_1 p18 p2 =
  bif (ltI p18 b) then
  bif (stackPre r c l p q m p8 p18) then
  bif (decide ((List.length p2) + 1 ≤ lim)) then
  matrix.of.Stack.L1 N M0 M a b r c l p q m p8 p14_1 (w_i64 (p18 + (1 : Int))) (p2 ++ [(stackI r c l q m p8 p18)])
  else none
  else none
  else matrix.of.Stack.L0 N M0 a b r c l p q m (w_i64 (p14_1 + (1 : Int))) p2 :=
  Eq.trans (by kernel_rfl)
  (ifE (ifS (tt0 (stackPre r c l p q m p8 p18)) (ifS (tt0 (decide ((List.length p2) + 1 ≤ lim))) rfl rfl) rfl) rfl)
theorem matrix.of.Stack.ev (N : Nat) (a : Int) (b : Int) (r : Int) (c : Int) (l : List Int) (p : Int) (q : Int) (m : List Int) : funD matrix.of.Stack.E N Tryz.f144 (bodyOf Tryz.f144) [.int .i64 a, .int .i64 b, .fn 152 [] [.cellp [.int .i64 r, .int .i64 c, .ints .arg .u64 l], .cellp [.int .i64 p, .int .i64 q, .ints .arg .u64 m]]] =
  matrix.of.Stack.L0 N N a b r c l p q m (0 : Int) [] := by kernel_rfl
theorem matrix.of.Stack.known_of (hk : Knowns Tryz.prog matrix.of.Stack.tab) (h : ∀ (a : Int) (b : Int) (r : Int) (c : Int) (l : List Int) (p : Int) (q : Int) (m : List Int), matrix.of.Stack.pre [.i a, .i b, .i r, .i c, .l l, .i p, .i q, .l m] = true → ∃ N dv drops, funD matrix.of.Stack.E N Tryz.f144 (bodyOf Tryz.f144) [.int .i64 a, .int .i64 b, .fn 152 [] [.cellp [.int .i64 r, .int .i64 c, .ints .arg .u64 l], .cellp [.int .i64 p, .int .i64 q, .ints .arg .u64 m]]] = some dv ∧ Wk drops dv (matrix.of.Stack.out [.i a, .i b, .i r, .i c, .l l, .i p, .i q, .l m])) : Known Tryz.prog 144 matrix.of.Stack.spec := by
  refine ⟨meets_entry (E := matrix.of.Stack.E) (env_ok hk _ _ _) Tryz.func144 (show Tryz.f144.body = some (bodyOf Tryz.f144) by kernel_rfl) fun ats dvs he hp => ?_, call_enter Tryz.func144 (by kernel_rfl) (show Tryz.f144.body = some (bodyOf Tryz.f144) by kernel_rfl)⟩
  obtain ⟨a, _, _, rfl, rfl, he0⟩ := he.i_inv
  obtain ⟨b, _, _, rfl, rfl, he1⟩ := he0.i_inv
  obtain ⟨_, _, _, _, rfl, rfl, hs2, he2⟩ := he1.fn_inv
  obtain ⟨_, _, _, _, rfl, rfl, hs3, he3⟩ := hs2.cp_inv
  obtain ⟨r, _, _, rfl, rfl, he4⟩ := hs3.i_inv
  obtain ⟨c, _, _, rfl, rfl, he5⟩ := he4.i_inv
  obtain ⟨l, _, _, rfl, rfl, he6⟩ := he5.s_inv
  obtain ⟨rfl, rfl⟩ := he6.nil_inv
  obtain ⟨_, _, _, _, rfl, rfl, hs7, he7⟩ := he3.cp_inv
  obtain ⟨p, _, _, rfl, rfl, he8⟩ := hs7.i_inv
  obtain ⟨q, _, _, rfl, rfl, he9⟩ := he8.i_inv
  obtain ⟨m, _, _, rfl, rfl, he10⟩ := he9.s_inv
  obtain ⟨rfl, rfl⟩ := he10.nil_inv
  obtain ⟨rfl, rfl⟩ := he7.nil_inv
  obtain ⟨rfl, rfl⟩ := he2.nil_inv
  exact h a b r c l p q m hp

def matrix.of.Mul.hint : Nat → Option LoopHint
  | 0 => some { keep := [1, 2, 6, 7, 13, 14], objs := [(8, 2, 108002, .ints 37 .u64 [])], boxes := [6, 7] }
  | 2 => some { keep := [1, 2, 6, 7, 8, 13, 14, 17, 18], objs := [(8, 2, 108002, .ints 37 .u64 [])], boxes := [6, 7] }
  | _ => none
noncomputable def matrix.of.Mul.tab : List (Nat × Entry) := [(145, matrix.Mul_1.spec)]
noncomputable def matrix.of.Mul.E : Env := envOf (tabOf matrix.of.Mul.tab) (fun _ => false) matrix.of.Mul.hint (fun _ => none)
noncomputable def matrix.of.Mul.L0 (N M : Nat) (a : Int) (b : Int) (r : Int) (c : Int) (l : List Int) (p : Int) (q : Int) (m : List Int) (p14 : Int) (p2_1 : List Int) : Option DV := loopAt matrix.of.Mul.E N Tryz.f144 (bodyOf Tryz.f144) [1, 1, 0, 1, 0] [] M ⟨mkT 33 [(1, .int .i64 b), (2, .fn 145 [] [.cellp [.int .i64 r, .int .i64 c, .ints .arg .u64 l], .cellp [.int .i64 p, .int .i64 q, .ints .arg .u64 m]]), (6, .ptr 6 0 0), (7, .ptr 7 0 0), (13, .int .i64 a), (14, .int .i64 p14)], [(6, false, .box [.int .i64 (0 : Int), .int .i64 (0 : Int), .nil]), (7, false, .box [.int .i64 a, .int .i64 b, .oref 108002]), (108002, false, .ints 37 .u64 p2_1)]⟩
noncomputable def matrix.of.Mul.L1 (N M0 M : Nat) (a : Int) (b : Int) (r : Int) (c : Int) (l : List Int) (p : Int) (q : Int) (m : List Int) (p8 : Int) (p14_1 : Int) (p18 : Int) (p2 : List Int) : Option DV := loopAt matrix.of.Mul.E N Tryz.f144 (bodyOf Tryz.f144) [1, 1, 0, 1, 0, 0, 1, 1, 0, 0, 1, 1, 0] [M0] M ⟨mkT 33 [(1, .int .i64 b), (2, .fn 145 [] [.cellp [.int .i64 r, .int .i64 c, .ints .arg .u64 l], .cellp [.int .i64 p, .int .i64 q, .ints .arg .u64 m]]), (6, .ptr 6 0 0), (7, .ptr 7 0 0), (8, .int .i64 p8), (13, .int .i64 a), (14, .int .i64 p14_1), (17, .int .i64 b), (18, .int .i64 p18)], [(6, false, .box [.int .i64 (0 : Int), .int .i64 (0 : Int), .nil]), (7, false, .box [.int .i64 a, .int .i64 b, .oref 108002]), (108002, false, .ints 37 .u64 p2)]⟩
theorem matrix.of.Mul.L0_step (N M : Nat) (a : Int) (b : Int) (r : Int) (c : Int) (l : List Int) (p : Int) (q : Int) (m : List Int) (p14 : Int) (p2_1 : List Int) : matrix.of.Mul.L0 N (M + 1) a b r c l p q m p14 p2_1 =
  bif (ltI p14 a) then
  matrix.of.Mul.L1 N M N a b r c l p q m p14 p14 (0 : Int) p2_1
  else some (.agg [.int .i64 a, .int .i64 b, .ints (.own 108002 37) .u64 p2_1]) := by kernel_rfl
theorem matrix.of.Mul.L1_step (N M0 M : Nat) (a : Int) (b : Int) (r : Int) (c : Int) (l : List Int) (p : Int) (q : Int) (m : List Int) (p8 : Int) (p14_1 : Int) (p18 : Int) (p2 : List Int) : matrix.of.Mul.L1 N M0 (M + 1) a b r c l p q m p8 p14_1 p18 p2 =
  bif (ltI p18 b) then
  bif (mulPre r c l p q m p8 p18) then
  bif (decide ((List.length p2) + 1 ≤ lim)) then
  matrix.of.Mul.L1 N M0 M a b r c l p q m p8 p14_1 (w_i64 (p18 + (1 : Int))) (p2 ++ [(dotI (rowI c l p8) (colI p q m p18))])
  else none
  else none
  else matrix.of.Mul.L0 N M0 a b r c l p q m (w_i64 (p14_1 + (1 : Int))) p2 :=
  Eq.trans (by kernel_rfl)
  (ifE (ifS (tt0 (mulPre r c l p q m p8 p18)) (ifS (tt0 (decide ((List.length p2) + 1 ≤ lim))) rfl rfl) rfl) rfl)
theorem matrix.of.Mul.ev (N : Nat) (a : Int) (b : Int) (r : Int) (c : Int) (l : List Int) (p : Int) (q : Int) (m : List Int) : funD matrix.of.Mul.E N Tryz.f144 (bodyOf Tryz.f144) [.int .i64 a, .int .i64 b, .fn 145 [] [.cellp [.int .i64 r, .int .i64 c, .ints .arg .u64 l], .cellp [.int .i64 p, .int .i64 q, .ints .arg .u64 m]]] =
  matrix.of.Mul.L0 N N a b r c l p q m (0 : Int) [] := by kernel_rfl
theorem matrix.of.Mul.known_of (hk : Knowns Tryz.prog matrix.of.Mul.tab) (h : ∀ (a : Int) (b : Int) (r : Int) (c : Int) (l : List Int) (p : Int) (q : Int) (m : List Int), matrix.of.Mul.pre [.i a, .i b, .i r, .i c, .l l, .i p, .i q, .l m] = true → ∃ N dv drops, funD matrix.of.Mul.E N Tryz.f144 (bodyOf Tryz.f144) [.int .i64 a, .int .i64 b, .fn 145 [] [.cellp [.int .i64 r, .int .i64 c, .ints .arg .u64 l], .cellp [.int .i64 p, .int .i64 q, .ints .arg .u64 m]]] = some dv ∧ Wk drops dv (matrix.of.Mul.out [.i a, .i b, .i r, .i c, .l l, .i p, .i q, .l m])) : Known Tryz.prog 144 matrix.of.Mul.spec := by
  refine ⟨meets_entry (E := matrix.of.Mul.E) (env_ok hk _ _ _) Tryz.func144 (show Tryz.f144.body = some (bodyOf Tryz.f144) by kernel_rfl) fun ats dvs he hp => ?_, call_enter Tryz.func144 (by kernel_rfl) (show Tryz.f144.body = some (bodyOf Tryz.f144) by kernel_rfl)⟩
  obtain ⟨a, _, _, rfl, rfl, he0⟩ := he.i_inv
  obtain ⟨b, _, _, rfl, rfl, he1⟩ := he0.i_inv
  obtain ⟨_, _, _, _, rfl, rfl, hs2, he2⟩ := he1.fn_inv
  obtain ⟨_, _, _, _, rfl, rfl, hs3, he3⟩ := hs2.cp_inv
  obtain ⟨r, _, _, rfl, rfl, he4⟩ := hs3.i_inv
  obtain ⟨c, _, _, rfl, rfl, he5⟩ := he4.i_inv
  obtain ⟨l, _, _, rfl, rfl, he6⟩ := he5.s_inv
  obtain ⟨rfl, rfl⟩ := he6.nil_inv
  obtain ⟨_, _, _, _, rfl, rfl, hs7, he7⟩ := he3.cp_inv
  obtain ⟨p, _, _, rfl, rfl, he8⟩ := hs7.i_inv
  obtain ⟨q, _, _, rfl, rfl, he9⟩ := he8.i_inv
  obtain ⟨m, _, _, rfl, rfl, he10⟩ := he9.s_inv
  obtain ⟨rfl, rfl⟩ := he10.nil_inv
  obtain ⟨rfl, rfl⟩ := he7.nil_inv
  obtain ⟨rfl, rfl⟩ := he2.nil_inv
  exact h a b r c l p q m hp

noncomputable def matrix.Zeros.tab : List (Nat × Entry) := [(144, matrix.of.Zeros.spec), (162, matrix.size.spec)]
noncomputable def matrix.Zeros.E : Env := envOf (tabOf matrix.Zeros.tab) (fun _ => false) (fun _ => none) (fun _ => none)
theorem matrix.Zeros.ev (N : Nat) (a : Int) (b : Int) : funD matrix.Zeros.E N Tryz.f111 (bodyOf Tryz.f111) [.int .i64 a, .int .i64 b] =
  bif ((!(sizeB a)) || (!(sizeB b))) then
  some (.tup [.agg [.int .i64 (0 : Int), .int .i64 (0 : Int), .nil], .int .i64 (3 : Int)])
  else bif ((sizeB a && sizeB b)) then
  some (.tup [.agg [.int .i64 a, .int .i64 b, .ints .fresh .u64 (grid (Int.toNat a) (Int.toNat b) (fun _ _ => 0))], .int .i64 (0 : Int)])
  else none :=
  Eq.trans (by kernel_rfl)
  (ifTn (tt4 (sizeB a)) (ifTn (tt3 (sizeB a)) (ifTn (tt3 (sizeB a)) (ifTn (tt2 (sizeB a)) (ifS (tt1 (sizeB a) (sizeB b)) rfl rfl)))))
theorem matrix.Zeros.known_of (hk : Knowns Tryz.prog matrix.Zeros.tab) (h : ∀ (a : Int) (b : Int), matrix.Zeros.pre [.i a, .i b] = true → ∃ N dv drops, funD matrix.Zeros.E N Tryz.f111 (bodyOf Tryz.f111) [.int .i64 a, .int .i64 b] = some dv ∧ Wk drops dv (matrix.Zeros.out [.i a, .i b])) : Known Tryz.prog 111 matrix.Zeros.spec := by
  refine ⟨meets_entry (E := matrix.Zeros.E) (env_ok hk _ _ _) Tryz.func111 (show Tryz.f111.body = some (bodyOf Tryz.f111) by kernel_rfl) fun ats dvs he hp => ?_, call_enter Tryz.func111 (by kernel_rfl) (show Tryz.f111.body = some (bodyOf Tryz.f111) by kernel_rfl)⟩
  obtain ⟨a, _, _, rfl, rfl, he0⟩ := he.i_inv
  obtain ⟨b, _, _, rfl, rfl, he1⟩ := he0.i_inv
  obtain ⟨rfl, rfl⟩ := he1.nil_inv
  exact h a b hp

noncomputable def matrix.Eye.tab : List (Nat × Entry) := [(144, matrix.of.Eye.spec), (162, matrix.size.spec)]
noncomputable def matrix.Eye.E : Env := envOf (tabOf matrix.Eye.tab) (fun _ => false) (fun _ => none) (fun _ => none)
theorem matrix.Eye.ev (N : Nat) (n : Int) : funD matrix.Eye.E N Tryz.f180 (bodyOf Tryz.f180) [.int .i64 n] =
  bif (!(sizeB n)) then
  some (.tup [.agg [.int .i64 (0 : Int), .int .i64 (0 : Int), .nil], .int .i64 (3 : Int)])
  else bif ((sizeB n && sizeB n)) then
  some (.tup [.agg [.int .i64 n, .int .i64 n, .ints .fresh .u64 (grid (Int.toNat n) (Int.toNat n) (fun j1 j2 => eyeI j1 j2))], .int .i64 (0 : Int)])
  else none := by kernel_rfl
theorem matrix.Eye.known_of (hk : Knowns Tryz.prog matrix.Eye.tab) (h : ∀ (n : Int), matrix.Eye.pre [.i n] = true → ∃ N dv drops, funD matrix.Eye.E N Tryz.f180 (bodyOf Tryz.f180) [.int .i64 n] = some dv ∧ Wk drops dv (matrix.Eye.out [.i n])) : Known Tryz.prog 180 matrix.Eye.spec := by
  refine ⟨meets_entry (E := matrix.Eye.E) (env_ok hk _ _ _) Tryz.func180 (show Tryz.f180.body = some (bodyOf Tryz.f180) by kernel_rfl) fun ats dvs he hp => ?_, call_enter Tryz.func180 (by kernel_rfl) (show Tryz.f180.body = some (bodyOf Tryz.f180) by kernel_rfl)⟩
  obtain ⟨n, _, _, rfl, rfl, he0⟩ := he.i_inv
  obtain ⟨rfl, rfl⟩ := he0.nil_inv
  exact h n hp

noncomputable def matrix.Turn.tab : List (Nat × Entry) := [(121, matrix.Check.spec), (144, matrix.of.Turn.spec)]
noncomputable def matrix.Turn.E : Env := envOf (tabOf matrix.Turn.tab) (fun _ => false) (fun _ => none) (fun _ => none)
theorem matrix.Turn.ev (N : Nat) (r : Int) (c : Int) (l : List Int) : funD matrix.Turn.E N Tryz.f131 (bodyOf Tryz.f131) [.agg [.int .i64 r, .int .i64 c, .ints .arg .u64 l]] =
  bif ((chkI r c l) != (0 : Int)) then
  some (.tup [.agg [.int .i64 (0 : Int), .int .i64 (0 : Int), .nil], .int .i64 (chkI r c l)])
  else bif ((sizeB c && sizeB r) && rightB r c l && decide (c = c ∧ r = r)) then
  some (.tup [.agg [.int .i64 c, .int .i64 r, .ints .fresh .u64 (grid (Int.toNat c) (Int.toNat r) (fun j1 j2 => atI c l j2 j1))], .int .i64 (0 : Int)])
  else none := by kernel_rfl
theorem matrix.Turn.known_of (hk : Knowns Tryz.prog matrix.Turn.tab) (h : ∀ (r : Int) (c : Int) (l : List Int), matrix.Turn.pre [.i r, .i c, .l l] = true → ∃ N dv drops, funD matrix.Turn.E N Tryz.f131 (bodyOf Tryz.f131) [.agg [.int .i64 r, .int .i64 c, .ints .arg .u64 l]] = some dv ∧ Wk drops dv (matrix.Turn.out [.i r, .i c, .l l])) : Known Tryz.prog 131 matrix.Turn.spec := by
  refine ⟨meets_entry (E := matrix.Turn.E) (env_ok hk _ _ _) Tryz.func131 (show Tryz.f131.body = some (bodyOf Tryz.f131) by kernel_rfl) fun ats dvs he hp => ?_, call_enter Tryz.func131 (by kernel_rfl) (show Tryz.f131.body = some (bodyOf Tryz.f131) by kernel_rfl)⟩
  obtain ⟨_, _, _, _, rfl, rfl, hs0, he0⟩ := he.st_inv
  obtain ⟨r, _, _, rfl, rfl, he1⟩ := hs0.i_inv
  obtain ⟨c, _, _, rfl, rfl, he2⟩ := he1.i_inv
  obtain ⟨l, _, _, rfl, rfl, he3⟩ := he2.s_inv
  obtain ⟨rfl, rfl⟩ := he3.nil_inv
  obtain ⟨rfl, rfl⟩ := he0.nil_inv
  exact h r c l hp

noncomputable def matrix.Part.tab : List (Nat × Entry) := [(121, matrix.Check.spec), (144, matrix.of.Part.spec)]
noncomputable def matrix.Part.E : Env := envOf (tabOf matrix.Part.tab) (fun _ => false) (fun _ => none) (fun _ => none)
theorem matrix.Part.ev (N : Nat) (r : Int) (c : Int) (l : List Int) (x : Int) (y : Int) (a : Int) (b : Int) : funD matrix.Part.E N Tryz.f88 (bodyOf Tryz.f88) [.agg [.int .i64 r, .int .i64 c, .ints .arg .u64 l], .int .i64 x, .int .i64 y, .int .i64 a, .int .i64 b] =
  bif ((chkI r c l) != (0 : Int)) then
  some (.tup [.agg [.int .i64 (0 : Int), .int .i64 (0 : Int), .nil], .int .i64 (chkI r c l)])
  else bif ((((((((ltI x (0 : Int)) || (ltI y (0 : Int))) || (ltI a (0 : Int))) || (ltI b (0 : Int))) || (ltI r x)) || (ltI c y)) || (ltI (w_i64 (r - x)) a)) || (ltI (w_i64 (c - y)) b)) then
  some (.tup [.agg [.int .i64 (0 : Int), .int .i64 (0 : Int), .nil], .int .i64 (3 : Int)])
  else bif ((sizeB a && sizeB b) && rightB r c l && partB r c x y a b) then
  some (.tup [.agg [.int .i64 a, .int .i64 b, .ints .fresh .u64 (grid (Int.toNat a) (Int.toNat b) (fun j1 j2 => atI c l (x + j1) (y + j2)))], .int .i64 (0 : Int)])
  else none :=
  Eq.trans (by kernel_rfl)
  (ifE rfl (ifTn (tt30 (ltI x (0 : Int))) (ifTn (tt29 (ltI x (0 : Int))) (ifTn (tt28 (ltI x (0 : Int))) (ifTn (tt27 (ltI x (0 : Int)) (ltI y (0 : Int))) (ifTn (tt26 (ltI x (0 : Int)) (ltI y (0 : Int))) (ifTn (tt25 (ltI x (0 : Int)) (ltI y (0 : Int))) (ifTn (tt24 (ltI x (0 : Int)) (ltI y (0 : Int)) (ltI a (0 : Int))) (ifTn (tt23 (ltI x (0 : Int)) (ltI y (0 : Int)) (ltI a (0 : Int))) (ifTn (tt22 (ltI x (0 : Int)) (ltI y (0 : Int)) (ltI a (0 : Int))) (ifTn (tt21 (ltI x (0 : Int)) (ltI y (0 : Int)) (ltI a (0 : Int)) (ltI b (0 : Int))) (ifTn (tt21 (ltI x (0 : Int)) (ltI y (0 : Int)) (ltI a (0 : Int)) (ltI b (0 : Int))) (ifTn (tt20 (ltI x (0 : Int)) (ltI y (0 : Int)) (ltI a (0 : Int)) (ltI b (0 : Int))) (ifTn (tt19 (ltI x (0 : Int)) (ltI y (0 : Int)) (ltI a (0 : Int)) (ltI b (0 : Int))) (ifTn (tt18 (ltI x (0 : Int)) (ltI y (0 : Int)) (ltI a (0 : Int)) (ltI b (0 : Int))) (ifTn (tt17 (ltI x (0 : Int)) (ltI y (0 : Int)) (ltI a (0 : Int)) (ltI b (0 : Int)) (ltI r x)) (ifTn (tt17 (ltI x (0 : Int)) (ltI y (0 : Int)) (ltI a (0 : Int)) (ltI b (0 : Int)) (ltI r x)) (ifTn (tt16 (ltI x (0 : Int)) (ltI y (0 : Int)) (ltI a (0 : Int)) (ltI b (0 : Int)) (ltI r x)) (ifTn (tt15 (ltI x (0 : Int)) (ltI y (0 : Int)) (ltI a (0 : Int)) (ltI b (0 : Int)) (ltI r x)) (ifTn (tt14 (ltI x (0 : Int)) (ltI y (0 : Int)) (ltI a (0 : Int)) (ltI b (0 : Int)) (ltI r x)) (ifTn (tt12 (ltI x (0 : Int)) (ltI y (0 : Int)) (ltI a (0 : Int)) (ltI b (0 : Int)) (ltI r x) (ltI c y)) (ifTn (tt12 (ltI x (0 : Int)) (ltI y (0 : Int)) (ltI a (0 : Int)) (ltI b (0 : Int)) (ltI r x) (ltI c y)) (ifTn (tt13 (ltI x (0 : Int)) (ltI y (0 : Int)) (ltI a (0 : Int)) (ltI b (0 : Int)) (ltI r x) (ltI c y)) (ifTn (tt12 (ltI x (0 : Int)) (ltI y (0 : Int)) (ltI a (0 : Int)) (ltI b (0 : Int)) (ltI r x) (ltI c y)) (ifTn (tt11 (ltI x (0 : Int)) (ltI y (0 : Int)) (ltI a (0 : Int)) (ltI b (0 : Int)) (ltI r x) (ltI c y)) (ifTn (tt11 (ltI x (0 : Int)) (ltI y (0 : Int)) (ltI a (0 : Int)) (ltI b (0 : Int)) (ltI r x) (ltI c y)) (ifTn (tt10 (ltI x (0 : Int)) (ltI y (0 : Int)) (ltI a (0 : Int)) (ltI b (0 : Int)) (ltI r x) (ltI c y)) (ifTn (tt8 (ltI x (0 : Int)) (ltI y (0 : Int)) (ltI a (0 : Int)) (ltI b (0 : Int)) (ltI r x) (ltI c y) (ltI (w_i64 (r - x)) a)) (ifTn (tt8 (ltI x (0 : Int)) (ltI y (0 : Int)) (ltI a (0 : Int)) (ltI b (0 : Int)) (ltI r x) (ltI c y) (ltI (w_i64 (r - x)) a)) (ifTn (tt9 (ltI x (0 : Int)) (ltI y (0 : Int)) (ltI a (0 : Int)) (ltI b (0 : Int)) (ltI r x) (ltI c y) (ltI (w_i64 (r - x)) a)) (ifTn (tt8 (ltI x (0 : Int)) (ltI y (0 : Int)) (ltI a (0 : Int)) (ltI b (0 : Int)) (ltI r x) (ltI c y) (ltI (w_i64 (r - x)) a)) (ifTn (tt7 (ltI x (0 : Int)) (ltI y (0 : Int)) (ltI a (0 : Int)) (ltI b (0 : Int)) (ltI r x) (ltI c y) (ltI (w_i64 (r - x)) a)) (ifTn (tt7 (ltI x (0 : Int)) (ltI y (0 : Int)) (ltI a (0 : Int)) (ltI b (0 : Int)) (ltI r x) (ltI c y) (ltI (w_i64 (r - x)) a)) (ifTn (tt6 (ltI x (0 : Int)) (ltI y (0 : Int)) (ltI a (0 : Int)) (ltI b (0 : Int)) (ltI r x) (ltI c y) (ltI (w_i64 (r - x)) a)) (ifS (tt5 (ltI x (0 : Int)) (ltI y (0 : Int)) (ltI a (0 : Int)) (ltI b (0 : Int)) (ltI r x) (ltI c y) (ltI (w_i64 (r - x)) a) (ltI (w_i64 (c - y)) b)) rfl rfl)))))))))))))))))))))))))))))))))))
theorem matrix.Part.known_of (hk : Knowns Tryz.prog matrix.Part.tab) (h : ∀ (r : Int) (c : Int) (l : List Int) (x : Int) (y : Int) (a : Int) (b : Int), matrix.Part.pre [.i r, .i c, .l l, .i x, .i y, .i a, .i b] = true → ∃ N dv drops, funD matrix.Part.E N Tryz.f88 (bodyOf Tryz.f88) [.agg [.int .i64 r, .int .i64 c, .ints .arg .u64 l], .int .i64 x, .int .i64 y, .int .i64 a, .int .i64 b] = some dv ∧ Wk drops dv (matrix.Part.out [.i r, .i c, .l l, .i x, .i y, .i a, .i b])) : Known Tryz.prog 88 matrix.Part.spec := by
  refine ⟨meets_entry (E := matrix.Part.E) (env_ok hk _ _ _) Tryz.func88 (show Tryz.f88.body = some (bodyOf Tryz.f88) by kernel_rfl) fun ats dvs he hp => ?_, call_enter Tryz.func88 (by kernel_rfl) (show Tryz.f88.body = some (bodyOf Tryz.f88) by kernel_rfl)⟩
  obtain ⟨_, _, _, _, rfl, rfl, hs0, he0⟩ := he.st_inv
  obtain ⟨r, _, _, rfl, rfl, he1⟩ := hs0.i_inv
  obtain ⟨c, _, _, rfl, rfl, he2⟩ := he1.i_inv
  obtain ⟨l, _, _, rfl, rfl, he3⟩ := he2.s_inv
  obtain ⟨rfl, rfl⟩ := he3.nil_inv
  obtain ⟨x, _, _, rfl, rfl, he4⟩ := he0.i_inv
  obtain ⟨y, _, _, rfl, rfl, he5⟩ := he4.i_inv
  obtain ⟨a, _, _, rfl, rfl, he6⟩ := he5.i_inv
  obtain ⟨b, _, _, rfl, rfl, he7⟩ := he6.i_inv
  obtain ⟨rfl, rfl⟩ := he7.nil_inv
  exact h r c l x y a b hp

noncomputable def matrix.Sub.tab : List (Nat × Entry) := [(144, matrix.of.Sub.spec), (143, matrix.two.spec)]
noncomputable def matrix.Sub.E : Env := envOf (tabOf matrix.Sub.tab) (fun _ => false) (fun _ => none) (fun _ => none)
theorem matrix.Sub.ev (N : Nat) (r : Int) (c : Int) (l : List Int) (p : Int) (q : Int) (m : List Int) : funD matrix.Sub.E N Tryz.f89 (bodyOf Tryz.f89) [.agg [.int .i64 r, .int .i64 c, .ints .arg .u64 l], .agg [.int .i64 p, .int .i64 q, .ints .arg .u64 m]] =
  bif ((twoI r c l p q m) != (0 : Int)) then
  some (.tup [.agg [.int .i64 (0 : Int), .int .i64 (0 : Int), .nil], .int .i64 (twoI r c l p q m)])
  else bif (!((r == p) && (c == q))) then
  some (.tup [.agg [.int .i64 (0 : Int), .int .i64 (0 : Int), .nil], .int .i64 (3 : Int)])
  else bif ((sizeB r && sizeB c) && ((rightB r c l && rightB p q m) && (allU64 l && allU64 m)) && decide (r = r ∧ c = c ∧ p = r ∧ q = c)) then
  some (.tup [.agg [.int .i64 r, .int .i64 c, .ints .fresh .u64 (grid (Int.toNat r) (Int.toNat c) (fun j1 j2 => subBI (atI c l j1 j2) (atI q m j1 j2)))], .int .i64 (0 : Int)])
  else none :=
  Eq.trans (by kernel_rfl)
  (ifE rfl (ifS (tt31 (r == p) (c == q)) rfl rfl))
theorem matrix.Sub.known_of (hk : Knowns Tryz.prog matrix.Sub.tab) (h : ∀ (r : Int) (c : Int) (l : List Int) (p : Int) (q : Int) (m : List Int), matrix.Sub.pre [.i r, .i c, .l l, .i p, .i q, .l m] = true → ∃ N dv drops, funD matrix.Sub.E N Tryz.f89 (bodyOf Tryz.f89) [.agg [.int .i64 r, .int .i64 c, .ints .arg .u64 l], .agg [.int .i64 p, .int .i64 q, .ints .arg .u64 m]] = some dv ∧ Wk drops dv (matrix.Sub.out [.i r, .i c, .l l, .i p, .i q, .l m])) : Known Tryz.prog 89 matrix.Sub.spec := by
  refine ⟨meets_entry (E := matrix.Sub.E) (env_ok hk _ _ _) Tryz.func89 (show Tryz.f89.body = some (bodyOf Tryz.f89) by kernel_rfl) fun ats dvs he hp => ?_, call_enter Tryz.func89 (by kernel_rfl) (show Tryz.f89.body = some (bodyOf Tryz.f89) by kernel_rfl)⟩
  obtain ⟨_, _, _, _, rfl, rfl, hs0, he0⟩ := he.st_inv
  obtain ⟨r, _, _, rfl, rfl, he1⟩ := hs0.i_inv
  obtain ⟨c, _, _, rfl, rfl, he2⟩ := he1.i_inv
  obtain ⟨l, _, _, rfl, rfl, he3⟩ := he2.s_inv
  obtain ⟨rfl, rfl⟩ := he3.nil_inv
  obtain ⟨_, _, _, _, rfl, rfl, hs4, he4⟩ := he0.st_inv
  obtain ⟨p, _, _, rfl, rfl, he5⟩ := hs4.i_inv
  obtain ⟨q, _, _, rfl, rfl, he6⟩ := he5.i_inv
  obtain ⟨m, _, _, rfl, rfl, he7⟩ := he6.s_inv
  obtain ⟨rfl, rfl⟩ := he7.nil_inv
  obtain ⟨rfl, rfl⟩ := he4.nil_inv
  exact h r c l p q m hp

noncomputable def matrix.Stack.tab : List (Nat × Entry) := [(144, matrix.of.Stack.spec), (143, matrix.two.spec)]
noncomputable def matrix.Stack.E : Env := envOf (tabOf matrix.Stack.tab) (fun _ => false) (fun _ => none) (fun _ => none)
theorem matrix.Stack.ev (N : Nat) (r : Int) (c : Int) (l : List Int) (p : Int) (q : Int) (m : List Int) : funD matrix.Stack.E N Tryz.f90 (bodyOf Tryz.f90) [.agg [.int .i64 r, .int .i64 c, .ints .arg .u64 l], .agg [.int .i64 p, .int .i64 q, .ints .arg .u64 m]] =
  bif ((twoI r c l p q m) != (0 : Int)) then
  some (.tup [.agg [.int .i64 (0 : Int), .int .i64 (0 : Int), .nil], .int .i64 (twoI r c l p q m)])
  else bif ((c != q) || (ltI (6 : Int) (w_i64 (r + p)))) then
  some (.tup [.agg [.int .i64 (0 : Int), .int .i64 (0 : Int), .nil], .int .i64 (3 : Int)])
  else bif ((sizeB (w_i64 (r + p)) && sizeB c) && (rightB r c l && rightB p q m) && decide ((w_i64 (r + p)) = r + p ∧ c = c ∧ q = c)) then
  some (.tup [.agg [.int .i64 (w_i64 (r + p)), .int .i64 c, .ints .fresh .u64 (grid (Int.toNat (w_i64 (r + p))) (Int.toNat c) (fun j1 j2 => stackI r c l q m j1 j2))], .int .i64 (0 : Int)])
  else none :=
  Eq.trans (by kernel_rfl)
  (ifE rfl (ifTn (tt30 (c != q)) (ifTn (tt29 (c != q)) (ifTn (tt30 (c != q)) (ifTn (tt29 (c != q)) (ifTn (tt33 (c != q)) (ifTn (tt29 (c != q)) (ifTn (tt28 (c != q)) (ifS (tt32 (c != q) (ltI (6 : Int) (w_i64 (r + p)))) rfl rfl)))))))))
theorem matrix.Stack.known_of (hk : Knowns Tryz.prog matrix.Stack.tab) (h : ∀ (r : Int) (c : Int) (l : List Int) (p : Int) (q : Int) (m : List Int), matrix.Stack.pre [.i r, .i c, .l l, .i p, .i q, .l m] = true → ∃ N dv drops, funD matrix.Stack.E N Tryz.f90 (bodyOf Tryz.f90) [.agg [.int .i64 r, .int .i64 c, .ints .arg .u64 l], .agg [.int .i64 p, .int .i64 q, .ints .arg .u64 m]] = some dv ∧ Wk drops dv (matrix.Stack.out [.i r, .i c, .l l, .i p, .i q, .l m])) : Known Tryz.prog 90 matrix.Stack.spec := by
  refine ⟨meets_entry (E := matrix.Stack.E) (env_ok hk _ _ _) Tryz.func90 (show Tryz.f90.body = some (bodyOf Tryz.f90) by kernel_rfl) fun ats dvs he hp => ?_, call_enter Tryz.func90 (by kernel_rfl) (show Tryz.f90.body = some (bodyOf Tryz.f90) by kernel_rfl)⟩
  obtain ⟨_, _, _, _, rfl, rfl, hs0, he0⟩ := he.st_inv
  obtain ⟨r, _, _, rfl, rfl, he1⟩ := hs0.i_inv
  obtain ⟨c, _, _, rfl, rfl, he2⟩ := he1.i_inv
  obtain ⟨l, _, _, rfl, rfl, he3⟩ := he2.s_inv
  obtain ⟨rfl, rfl⟩ := he3.nil_inv
  obtain ⟨_, _, _, _, rfl, rfl, hs4, he4⟩ := he0.st_inv
  obtain ⟨p, _, _, rfl, rfl, he5⟩ := hs4.i_inv
  obtain ⟨q, _, _, rfl, rfl, he6⟩ := he5.i_inv
  obtain ⟨m, _, _, rfl, rfl, he7⟩ := he6.s_inv
  obtain ⟨rfl, rfl⟩ := he7.nil_inv
  obtain ⟨rfl, rfl⟩ := he4.nil_inv
  exact h r c l p q m hp

noncomputable def matrix.Mul.tab : List (Nat × Entry) := [(144, matrix.of.Mul.spec), (143, matrix.two.spec)]
noncomputable def matrix.Mul.E : Env := envOf (tabOf matrix.Mul.tab) (fun _ => false) (fun _ => none) (fun _ => none)
theorem matrix.Mul.ev (N : Nat) (r : Int) (c : Int) (l : List Int) (p : Int) (q : Int) (m : List Int) : funD matrix.Mul.E N Tryz.f87 (bodyOf Tryz.f87) [.agg [.int .i64 r, .int .i64 c, .ints .arg .u64 l], .agg [.int .i64 p, .int .i64 q, .ints .arg .u64 m]] =
  bif ((twoI r c l p q m) != (0 : Int)) then
  some (.tup [.agg [.int .i64 (0 : Int), .int .i64 (0 : Int), .nil], .int .i64 (twoI r c l p q m)])
  else bif (c != p) then
  some (.tup [.agg [.int .i64 (0 : Int), .int .i64 (0 : Int), .nil], .int .i64 (3 : Int)])
  else bif ((sizeB r && sizeB q) && ((rightB r c l && rightB p q m) && (allU64 l && allU64 m)) && decide (r = r ∧ q = q ∧ c = p)) then
  some (.tup [.agg [.int .i64 r, .int .i64 q, .ints .fresh .u64 (grid (Int.toNat r) (Int.toNat q) (fun j1 j2 => dotI (rowI c l j1) (colI p q m j2)))], .int .i64 (0 : Int)])
  else none := by kernel_rfl
theorem matrix.Mul.known_of (hk : Knowns Tryz.prog matrix.Mul.tab) (h : ∀ (r : Int) (c : Int) (l : List Int) (p : Int) (q : Int) (m : List Int), matrix.Mul.pre [.i r, .i c, .l l, .i p, .i q, .l m] = true → ∃ N dv drops, funD matrix.Mul.E N Tryz.f87 (bodyOf Tryz.f87) [.agg [.int .i64 r, .int .i64 c, .ints .arg .u64 l], .agg [.int .i64 p, .int .i64 q, .ints .arg .u64 m]] = some dv ∧ Wk drops dv (matrix.Mul.out [.i r, .i c, .l l, .i p, .i q, .l m])) : Known Tryz.prog 87 matrix.Mul.spec := by
  refine ⟨meets_entry (E := matrix.Mul.E) (env_ok hk _ _ _) Tryz.func87 (show Tryz.f87.body = some (bodyOf Tryz.f87) by kernel_rfl) fun ats dvs he hp => ?_, call_enter Tryz.func87 (by kernel_rfl) (show Tryz.f87.body = some (bodyOf Tryz.f87) by kernel_rfl)⟩
  obtain ⟨_, _, _, _, rfl, rfl, hs0, he0⟩ := he.st_inv
  obtain ⟨r, _, _, rfl, rfl, he1⟩ := hs0.i_inv
  obtain ⟨c, _, _, rfl, rfl, he2⟩ := he1.i_inv
  obtain ⟨l, _, _, rfl, rfl, he3⟩ := he2.s_inv
  obtain ⟨rfl, rfl⟩ := he3.nil_inv
  obtain ⟨_, _, _, _, rfl, rfl, hs4, he4⟩ := he0.st_inv
  obtain ⟨p, _, _, rfl, rfl, he5⟩ := hs4.i_inv
  obtain ⟨q, _, _, rfl, rfl, he6⟩ := he5.i_inv
  obtain ⟨m, _, _, rfl, rfl, he7⟩ := he6.s_inv
  obtain ⟨rfl, rfl⟩ := he7.nil_inv
  obtain ⟨rfl, rfl⟩ := he4.nil_inv
  exact h r c l p q m hp
end EqOf
end Go.Proofs.S1

/- matrix.of, for each function that it is called with; the functions that call it. Printed by gen_of.py. -/
namespace Go.Proofs.S1
open Go Go.Den Go.Rnd Go.Proofs
open EqOf

theorem of.Zeros.inner (N : Nat)  {A B : Nat} (hA : A ≤ 6) (hB : B ≤ 6) {F : Nat → Nat → Int} (hF : ∀ i j : Nat, F i j = (0 : Int)) {i : Nat} (hi : i < A) : ∀ (k j M0 M : Nat), j + k = B → k < M →
    matrix.of.Zeros.L1 N M0 M (A : Int) (B : Int) (i : Int) (i : Int) (j : Int) (grid i B F ++ (List.range j).map (F i)) = matrix.of.Zeros.L0 N M0 (A : Int) (B : Int) ((i + 1 : Nat) : Int) (grid (i + 1) B F) := by
  intro k
  induction k with
  | zero =>
    intro j M0 M hj hM
    obtain ⟨M, rfl⟩ : ∃ G, M = G + 1 := ⟨M - 1, by omega⟩
    obtain rfl : j = B := by omega
    rw [matrix.of.Zeros.L1_step, ltI_eq, decide_eq_false (by omega), cond_false, w_i64_in (by omega) (by omega), ← grid_succ]
    rfl
  | succ k ih =>
    intro j M0 M hj hM
    obtain ⟨M, rfl⟩ : ∃ G, M = G + 1 := ⟨M - 1, by omega⟩
    have d : decide ((grid i B F ++ (List.range j).map (F i)).length + 1 ≤ lim) = true := by
      refine decide_eq_true ?_
      have := Nat.mul_le_mul (show i ≤ 6 by omega) hB
      rw [List.length_append, grid_length, List.length_map, List.length_range]; unfold lim; omega
    rw [matrix.of.Zeros.L1_step, ltI_eq, decide_eq_true (by omega), cond_true, d, cond_true, w_i64_in (by omega) (by omega), ← hF i j]
    have := ih (j + 1) M0 M (by omega) (by omega)
    rw [row_succ, ← List.append_assoc] at this
    exact this

theorem of.Zeros.outer (N : Nat)  {A B : Nat} (hA : A ≤ 6) (hB : B ≤ 6) (hN : 6 < N) {F : Nat → Nat → Int} (hF : ∀ i j : Nat, F i j = (0 : Int)) : ∀ (k i M : Nat), i + k = A → k < M →
    matrix.of.Zeros.L0 N M (A : Int) (B : Int) (i : Int) (grid i B F) = some (.agg [.int .i64 (A : Int), .int .i64 (B : Int), .ints (.own 108002 37) .u64 (grid A B F)]) := by
  intro k
  induction k with
  | zero =>
    intro i M hi hM
    obtain ⟨M, rfl⟩ : ∃ G, M = G + 1 := ⟨M - 1, by omega⟩
    obtain rfl : i = A := by omega
    rw [matrix.of.Zeros.L0_step, ltI_eq, decide_eq_false (by omega), cond_false]
  | succ k ih =>
    intro i M hi hM
    obtain ⟨M, rfl⟩ : ∃ G, M = G + 1 := ⟨M - 1, by omega⟩
    have n := of.Zeros.inner N hA hB hF (show i < A by omega) B 0 M N (by omega) (by omega)
    rw [List.range_zero, List.map_nil, List.append_nil] at n
    rw [matrix.of.Zeros.L0_step, ltI_eq, decide_eq_true (by omega), cond_true]
    exact n.trans (ih (i + 1) M (by omega) (by omega))

theorem matrix.of.Zeros.known : Known Tryz.prog 144 matrix.of.Zeros.spec := matrix.of.Zeros.known_of (.cons matrix.Zeros_1.known .nil) fun a b hp => by
  have h1 : (sizeB a && sizeB b) = true := hp
  obtain ⟨ha, hb⟩ := and_true_iff.1 h1
  obtain ⟨A, rfl, hA⟩ := size_nat ha
  obtain ⟨B, rfl, hB⟩ := size_nat hb
  refine ⟨8, .agg [.int .i64 (A : Int), .int .i64 (B : Int), .ints (.own 108002 37) .u64 (grid A B fun (i j : Nat) => (0 : Int))], [108002], ?_, Wk.aggL (.cons .int (.cons .int (.cons (.drop _ _ _ _ (List.mem_singleton.2 rfl)) .nil)))⟩
  rw [matrix.of.Zeros.ev]
  have n := of.Zeros.outer 8 hA hB (by omega) (F := fun (i j : Nat) => (0 : Int)) (fun _ _ => rfl) A 0 8 (by omega) (by omega)
  rw [grid_zero] at n
  exact n

theorem of.Eye.inner (N : Nat)  {A B : Nat} (hA : A ≤ 6) (hB : B ≤ 6) {F : Nat → Nat → Int} (hF : ∀ i j : Nat, F i j = eyeI (i : Int) (j : Int)) {i : Nat} (hi : i < A) : ∀ (k j M0 M : Nat), j + k = B → k < M →
    matrix.of.Eye.L1 N M0 M (A : Int) (B : Int) (i : Int) (i : Int) (j : Int) (grid i B F ++ (List.range j).map (F i)) = matrix.of.Eye.L0 N M0 (A : Int) (B : Int) ((i + 1 : Nat) : Int) (grid (i + 1) B F) := by
  intro k
  induction k with
  | zero =>
    intro j M0 M hj hM
    obtain ⟨M, rfl⟩ : ∃ G, M = G + 1 := ⟨M - 1, by omega⟩
    obtain rfl : j = B := by omega
    rw [matrix.of.Eye.L1_step, ltI_eq, decide_eq_false (by omega), cond_false, w_i64_in (by omega) (by omega), ← grid_succ]
    rfl
  | succ k ih =>
    intro j M0 M hj hM
    obtain ⟨M, rfl⟩ : ∃ G, M = G + 1 := ⟨M - 1, by omega⟩
    have d : decide ((grid i B F ++ (List.range j).map (F i)).length + 1 ≤ lim) = true := by
      refine decide_eq_true ?_
      have := Nat.mul_le_mul (show i ≤ 6 by omega) hB
      rw [List.length_append, grid_length, List.length_map, List.length_range]; unfold lim; omega
    rw [matrix.of.Eye.L1_step, ltI_eq, decide_eq_true (by omega), cond_true, d, cond_true, w_i64_in (by omega) (by omega), ← hF i j]
    have := ih (j + 1) M0 M (by omega) (by omega)
    rw [row_succ, ← List.append_assoc] at this
    exact this

theorem of.Eye.outer (N : Nat)  {A B : Nat} (hA : A ≤ 6) (hB : B ≤ 6) (hN : 6 < N) {F : Nat → Nat → Int} (hF : ∀ i j : Nat, F i j = eyeI (i : Int) (j : Int)) : ∀ (k i M : Nat), i + k = A → k < M →
    matrix.of.Eye.L0 N M (A : Int) (B : Int) (i : Int) (grid i B F) = some (.agg [.int .i64 (A : Int), .int .i64 (B : Int), .ints (.own 108002 37) .u64 (grid A B F)]) := by
  intro k
  induction k with
  | zero =>
    intro i M hi hM
    obtain ⟨M, rfl⟩ : ∃ G, M = G + 1 := ⟨M - 1, by omega⟩
    obtain rfl : i = A := by omega
    rw [matrix.of.Eye.L0_step, ltI_eq, decide_eq_false (by omega), cond_false]
  | succ k ih =>
    intro i M hi hM
    obtain ⟨M, rfl⟩ : ∃ G, M = G + 1 := ⟨M - 1, by omega⟩
    have n := of.Eye.inner N hA hB hF (show i < A by omega) B 0 M N (by omega) (by omega)
    rw [List.range_zero, List.map_nil, List.append_nil] at n
    rw [matrix.of.Eye.L0_step, ltI_eq, decide_eq_true (by omega), cond_true]
    exact n.trans (ih (i + 1) M (by omega) (by omega))

theorem matrix.of.Eye.known : Known Tryz.prog 144 matrix.of.Eye.spec := matrix.of.Eye.known_of (.cons matrix.Eye_1.known .nil) fun a b hp => by
  have h1 : (sizeB a && sizeB b) = true := hp
  obtain ⟨ha, hb⟩ := and_true_iff.1 h1
  obtain ⟨A, rfl, hA⟩ := size_nat ha
  obtain ⟨B, rfl, hB⟩ := size_nat hb
  refine ⟨8, .agg [.int .i64 (A : Int), .int .i64 (B : Int), .ints (.own 108002 37) .u64 (grid A B fun (i j : Nat) => eyeI (i : Int) (j : Int))], [108002], ?_, Wk.aggL (.cons .int (.cons .int (.cons (.drop _ _ _ _ (List.mem_singleton.2 rfl)) .nil)))⟩
  rw [matrix.of.Eye.ev]
  have n := of.Eye.outer 8 hA hB (by omega) (F := fun (i j : Nat) => eyeI (i : Int) (j : Int)) (fun _ _ => rfl) A 0 8 (by omega) (by omega)
  rw [grid_zero] at n
  exact n

theorem of.Turn.inner (N : Nat) (r c : Int) (l : List Int) {A B : Nat} (hA : A ≤ 6) (hB : B ≤ 6) {F : Nat → Nat → Int} (hF : ∀ i j : Nat, F i j = atI c l (j : Int) (i : Int)) {i : Nat} (hi : i < A) (hp : ∀ j : Nat, j < B → atPre r c l (j : Int) (i : Int) = true) : ∀ (k j M0 M : Nat), j + k = B → k < M →
    matrix.of.Turn.L1 N M0 M (A : Int) (B : Int) r c l (i : Int) (i : Int) (j : Int) (grid i B F ++ (List.range j).map (F i)) = matrix.of.Turn.L0 N M0 (A : Int) (B : Int) r c l ((i + 1 : Nat) : Int) (grid (i + 1) B F) := by
  intro k
  induction k with
  | zero =>
    intro j M0 M hj hM
    obtain ⟨M, rfl⟩ : ∃ G, M = G + 1 := ⟨M - 1, by omega⟩
    obtain rfl : j = B := by omega
    rw [matrix.of.Turn.L1_step, ltI_eq, decide_eq_false (by omega), cond_false, w_i64_in (by omega) (by omega), ← grid_succ]
    rfl
  | succ k ih =>
    intro j M0 M hj hM
    obtain ⟨M, rfl⟩ : ∃ G, M = G + 1 := ⟨M - 1, by omega⟩
    have d : decide ((grid i B F ++ (List.range j).map (F i)).length + 1 ≤ lim) = true := by
      refine decide_eq_true ?_
      have := Nat.mul_le_mul (show i ≤ 6 by omega) hB
      rw [List.length_append, grid_length, List.length_map, List.length_range]; unfold lim; omega
    rw [matrix.of.Turn.L1_step, ltI_eq, decide_eq_true (by omega), cond_true, hp j (by omega), cond_true, d, cond_true, w_i64_in (by omega) (by omega), ← hF i j]
    have := ih (j + 1) M0 M (by omega) (by omega)
    rw [row_succ, ← List.append_assoc] at this
    exact this

theorem of.Turn.outer (N : Nat) (r c : Int) (l : List Int) {A B : Nat} (hA : A ≤ 6) (hB : B ≤ 6) (hN : 6 < N) {F : Nat → Nat → Int} (hF : ∀ i j : Nat, F i j = atI c l (j : Int) (i : Int)) (hp : ∀ i j : Nat, i < A → j < B → atPre r c l (j : Int) (i : Int) = true) : ∀ (k i M : Nat), i + k = A → k < M →
    matrix.of.Turn.L0 N M (A : Int) (B : Int) r c l (i : Int) (grid i B F) = some (.agg [.int .i64 (A : Int), .int .i64 (B : Int), .ints (.own 108002 37) .u64 (grid A B F)]) := by
  intro k
  induction k with
  | zero =>
    intro i M hi hM
    obtain ⟨M, rfl⟩ : ∃ G, M = G + 1 := ⟨M - 1, by omega⟩
    obtain rfl : i = A := by omega
    rw [matrix.of.Turn.L0_step, ltI_eq, decide_eq_false (by omega), cond_false]
  | succ k ih =>
    intro i M hi hM
    obtain ⟨M, rfl⟩ : ∃ G, M = G + 1 := ⟨M - 1, by omega⟩
    have n := of.Turn.inner N r c l hA hB hF (show i < A by omega) (fun j hj => hp i j (by omega) hj) B 0 M N (by omega) (by omega)
    rw [List.range_zero, List.map_nil, List.append_nil] at n
    rw [matrix.of.Turn.L0_step, ltI_eq, decide_eq_true (by omega), cond_true]
    exact n.trans (ih (i + 1) M (by omega) (by omega))

theorem matrix.of.Turn.known : Known Tryz.prog 144 matrix.of.Turn.spec := matrix.of.Turn.known_of (.cons matrix.Turn_1.known .nil) fun a b r c l hp => by
  obtain ⟨h12, hy⟩ := and_true_iff.1 (show (((sizeB a && sizeB b) && rightB r c l) && decide (a = c ∧ b = r)) = true from hp)
  obtain ⟨h1, hx⟩ := and_true_iff.1 h12
  have h2 := and_true_iff.2 ⟨hx, hy⟩
  obtain ⟨ha, hb⟩ := and_true_iff.1 h1
  obtain ⟨A, rfl, hA⟩ := size_nat ha
  obtain ⟨B, rfl, hB⟩ := size_nat hb
  obtain ⟨hr, he⟩ := and_true_iff.1 h2
  obtain ⟨e1, e2⟩ := of_decide_eq_true he
  have hp : ∀ i j : Nat, i < A → j < B → atPre r c l (j : Int) (i : Int) = true := fun i j hi hj => at_of_right hr (by omega) (by omega) (by omega) (by omega) r
  refine ⟨8, .agg [.int .i64 (A : Int), .int .i64 (B : Int), .ints (.own 108002 37) .u64 (grid A B fun (i j : Nat) => atI c l (j : Int) (i : Int))], [108002], ?_, Wk.aggL (.cons .int (.cons .int (.cons (.drop _ _ _ _ (List.mem_singleton.2 rfl)) .nil)))⟩
  rw [matrix.of.Turn.ev]
  have n := of.Turn.outer 8 r c l hA hB (by omega) (F := fun (i j : Nat) => atI c l (j : Int) (i : Int)) (fun _ _ => rfl) hp A 0 8 (by omega) (by omega)
  rw [grid_zero] at n
  exact n

theorem of.Part.inner (N : Nat) (r c : Int) (l : List Int) (x y : Int) {A B : Nat} (hA : A ≤ 6) (hB : B ≤ 6) {F : Nat → Nat → Int} (hF : ∀ i j : Nat, F i j = atI c l (x + (i : Int)) (y + (j : Int))) {i : Nat} (hi : i < A) (hp : ∀ j : Nat, j < B → (atPre r c l (x + (i : Int)) (y + (j : Int)) && smallI x y (i : Int) (j : Int)) = true) : ∀ (k j M0 M : Nat), j + k = B → k < M →
    matrix.of.Part.L1 N M0 M (A : Int) (B : Int) r c l x y (i : Int) (i : Int) (j : Int) (grid i B F ++ (List.range j).map (F i)) = matrix.of.Part.L0 N M0 (A : Int) (B : Int) r c l x y ((i + 1 : Nat) : Int) (grid (i + 1) B F) := by
  intro k
  induction k with
  | zero =>
    intro j M0 M hj hM
    obtain ⟨M, rfl⟩ : ∃ G, M = G + 1 := ⟨M - 1, by omega⟩
    obtain rfl : j = B := by omega
    rw [matrix.of.Part.L1_step, ltI_eq, decide_eq_false (by omega), cond_false, w_i64_in (by omega) (by omega), ← grid_succ]
    rfl
  | succ k ih =>
    intro j M0 M hj hM
    obtain ⟨M, rfl⟩ : ∃ G, M = G + 1 := ⟨M - 1, by omega⟩
    have d : decide ((grid i B F ++ (List.range j).map (F i)).length + 1 ≤ lim) = true := by
      refine decide_eq_true ?_
      have := Nat.mul_le_mul (show i ≤ 6 by omega) hB
      rw [List.length_append, grid_length, List.length_map, List.length_range]; unfold lim; omega
    rw [matrix.of.Part.L1_step, ltI_eq, decide_eq_true (by omega), cond_true, hp j (by omega), cond_true, d, cond_true, w_i64_in (by omega) (by omega), ← hF i j]
    have := ih (j + 1) M0 M (by omega) (by omega)
    rw [row_succ, ← List.append_assoc] at this
    exact this

theorem of.Part.outer (N : Nat) (r c : Int) (l : List Int) (x y : Int) {A B : Nat} (hA : A ≤ 6) (hB : B ≤ 6) (hN : 6 < N) {F : Nat → Nat → Int} (hF : ∀ i j : Nat, F i j = atI c l (x + (i : Int)) (y + (j : Int))) (hp : ∀ i j : Nat, i < A → j < B → (atPre r c l (x + (i : Int)) (y + (j : Int)) && smallI x y (i : Int) (j : Int)) = true) : ∀ (k i M : Nat), i + k = A → k < M →
    matrix.of.Part.L0 N M (A : Int) (B : Int) r c l x y (i : Int) (grid i B F) = some (.agg [.int .i64 (A : Int), .int .i64 (B : Int), .ints (.own 108002 37) .u64 (grid A B F)]) := by
  intro k
  induction k with
  | zero =>
    intro i M hi hM
    obtain ⟨M, rfl⟩ : ∃ G, M = G + 1 := ⟨M - 1, by omega⟩
    obtain rfl : i = A := by omega
    rw [matrix.of.Part.L0_step, ltI_eq, decide_eq_false (by omega), cond_false]
  | succ k ih =>
    intro i M hi hM
    obtain ⟨M, rfl⟩ : ∃ G, M = G + 1 := ⟨M - 1, by omega⟩
    have n := of.Part.inner N r c l x y hA hB hF (show i < A by omega) (fun j hj => hp i j (by omega) hj) B 0 M N (by omega) (by omega)
    rw [List.range_zero, List.map_nil, List.append_nil] at n
    rw [matrix.of.Part.L0_step, ltI_eq, decide_eq_true (by omega), cond_true]
    exact n.trans (ih (i + 1) M (by omega) (by omega))

theorem matrix.of.Part.known : Known Tryz.prog 144 matrix.of.Part.spec := matrix.of.Part.known_of (.cons matrix.Part_1.known .nil) fun a b r c l x y hp => by
  obtain ⟨h12, hy⟩ := and_true_iff.1 (show (((sizeB a && sizeB b) && rightB r c l) && partB r c x y a b) = true from hp)
  obtain ⟨h1, hx⟩ := and_true_iff.1 h12
  have h2 := and_true_iff.2 ⟨hx, hy⟩
  obtain ⟨ha, hb⟩ := and_true_iff.1 h1
  obtain ⟨A, rfl, hA⟩ := size_nat ha
  obtain ⟨B, rfl, hB⟩ := size_nat hb
  obtain ⟨hr, he⟩ := and_true_iff.1 h2
  have he := of_decide_eq_true he
  have hs := right_iff.1 hr
  have hp : ∀ i j : Nat, i < A → j < B → (atPre r c l (x + (i : Int)) (y + (j : Int)) && smallI x y (i : Int) (j : Int)) = true := fun i j hi hj =>
    and_true_iff.2 ⟨at_of_right hr (by omega) (by omega) (by omega) (by omega) r, cdec_eq.2 (by omega)⟩
  refine ⟨8, .agg [.int .i64 (A : Int), .int .i64 (B : Int), .ints (.own 108002 37) .u64 (grid A B fun (i j : Nat) => atI c l (x + (i : Int)) (y + (j : Int)))], [108002], ?_, Wk.aggL (.cons .int (.cons .int (.cons (.drop _ _ _ _ (List.mem_singleton.2 rfl)) .nil)))⟩
  rw [matrix.of.Part.ev]
  have n := of.Part.outer 8 r c l x y hA hB (by omega) (F := fun (i j : Nat) => atI c l (x + (i : Int)) (y + (j : Int))) (fun _ _ => rfl) hp A 0 8 (by omega) (by omega)
  rw [grid_zero] at n
  exact n

theorem of.Stack.inner (N : Nat) (r c : Int) (l : List Int) (p q : Int) (m : List Int) {A B : Nat} (hA : A ≤ 6) (hB : B ≤ 6) {F : Nat → Nat → Int} (hF : ∀ i j : Nat, F i j = stackI r c l q m (i : Int) (j : Int)) {i : Nat} (hi : i < A) (hp : ∀ j : Nat, j < B → stackPre r c l p q m (i : Int) (j : Int) = true) : ∀ (k j M0 M : Nat), j + k = B → k < M →
    matrix.of.Stack.L1 N M0 M (A : Int) (B : Int) r c l p q m (i : Int) (i : Int) (j : Int) (grid i B F ++ (List.range j).map (F i)) = matrix.of.Stack.L0 N M0 (A : Int) (B : Int) r c l p q m ((i + 1 : Nat) : Int) (grid (i + 1) B F) := by
  intro k
  induction k with
  | zero =>
    intro j M0 M hj hM
    obtain ⟨M, rfl⟩ : ∃ G, M = G + 1 := ⟨M - 1, by omega⟩
    obtain rfl : j = B := by omega
    rw [matrix.of.Stack.L1_step, ltI_eq, decide_eq_false (by omega), cond_false, w_i64_in (by omega) (by omega), ← grid_succ]
    rfl
  | succ k ih =>
    intro j M0 M hj hM
    obtain ⟨M, rfl⟩ : ∃ G, M = G + 1 := ⟨M - 1, by omega⟩
    have d : decide ((grid i B F ++ (List.range j).map (F i)).length + 1 ≤ lim) = true := by
      refine decide_eq_true ?_
      have := Nat.mul_le_mul (show i ≤ 6 by omega) hB
      rw [List.length_append, grid_length, List.length_map, List.length_range]; unfold lim; omega
    rw [matrix.of.Stack.L1_step, ltI_eq, decide_eq_true (by omega), cond_true, hp j (by omega), cond_true, d, cond_true, w_i64_in (by omega) (by omega), ← hF i j]
    have := ih (j + 1) M0 M (by omega) (by omega)
    rw [row_succ, ← List.append_assoc] at this
    exact this

theorem of.Stack.outer (N : Nat) (r c : Int) (l : List Int) (p q : Int) (m : List Int) {A B : Nat} (hA : A ≤ 6) (hB : B ≤ 6) (hN : 6 < N) {F : Nat → Nat → Int} (hF : ∀ i j : Nat, F i j = stackI r c l q m (i : Int) (j : Int)) (hp : ∀ i j : Nat, i < A → j < B → stackPre r c l p q m (i : Int) (j : Int) = true) : ∀ (k i M : Nat), i + k = A → k < M →
    matrix.of.Stack.L0 N M (A : Int) (B : Int) r c l p q m (i : Int) (grid i B F) = some (.agg [.int .i64 (A : Int), .int .i64 (B : Int), .ints (.own 108002 37) .u64 (grid A B F)]) := by
  intro k
  induction k with
  | zero =>
    intro i M hi hM
    obtain ⟨M, rfl⟩ : ∃ G, M = G + 1 := ⟨M - 1, by omega⟩
    obtain rfl : i = A := by omega
    rw [matrix.of.Stack.L0_step, ltI_eq, decide_eq_false (by omega), cond_false]
  | succ k ih =>
    intro i M hi hM
    obtain ⟨M, rfl⟩ : ∃ G, M = G + 1 := ⟨M - 1, by omega⟩
    have n := of.Stack.inner N r c l p q m hA hB hF (show i < A by omega) (fun j hj => hp i j (by omega) hj) B 0 M N (by omega) (by omega)
    rw [List.range_zero, List.map_nil, List.append_nil] at n
    rw [matrix.of.Stack.L0_step, ltI_eq, decide_eq_true (by omega), cond_true]
    exact n.trans (ih (i + 1) M (by omega) (by omega))

theorem matrix.of.Stack.known : Known Tryz.prog 144 matrix.of.Stack.spec := matrix.of.Stack.known_of (.cons matrix.Stack_1.known .nil) fun a b r c l p q m hp => by
  obtain ⟨h12, hy⟩ := and_true_iff.1 (show (((sizeB a && sizeB b) && (rightB r c l && rightB p q m)) && decide (a = r + p ∧ b = c ∧ q = c)) = true from hp)
  obtain ⟨h1, hx⟩ := and_true_iff.1 h12
  have h2 := and_true_iff.2 ⟨hx, hy⟩
  obtain ⟨ha, hb⟩ := and_true_iff.1 h1
  obtain ⟨A, rfl, hA⟩ := size_nat ha
  obtain ⟨B, rfl, hB⟩ := size_nat hb
  obtain ⟨h3, he⟩ := and_true_iff.1 h2
  obtain ⟨hr, hm⟩ := and_true_iff.1 h3
  obtain ⟨e1, e2, e3⟩ := of_decide_eq_true he
  have hs := right_iff.1 hr
  have hp : ∀ i j : Nat, i < A → j < B → stackPre r c l p q m (i : Int) (j : Int) = true := fun i j hi hj => by
    refine cdec_eq.2 ⟨by omega, by omega, by omega, by omega, ?_⟩
    by_cases h : (i : Int) < r
    · rw [if_pos h]; exact at_of_right hr (by omega) (by omega) (by omega) (by omega) r
    · rw [if_neg h]; exact at_of_right hm (by omega) (by omega) (by omega) (by omega) p
  refine ⟨8, .agg [.int .i64 (A : Int), .int .i64 (B : Int), .ints (.own 108002 37) .u64 (grid A B fun (i j : Nat) => stackI r c l q m (i : Int) (j : Int))], [108002], ?_, Wk.aggL (.cons .int (.cons .int (.cons (.drop _ _ _ _ (List.mem_singleton.2 rfl)) .nil)))⟩
  rw [matrix.of.Stack.ev]
  have n := of.Stack.outer 8 r c l p q m hA hB (by omega) (F := fun (i j : Nat) => stackI r c l q m (i : Int) (j : Int)) (fun _ _ => rfl) hp A 0 8 (by omega) (by omega)
  rw [grid_zero] at n
  exact n

theorem of.Mul.inner (N : Nat) (r c : Int) (l : List Int) (p q : Int) (m : List Int) {A B : Nat} (hA : A ≤ 6) (hB : B ≤ 6) {F : Nat → Nat → Int} (hF : ∀ i j : Nat, F i j = dotI (rowI c l (i : Int)) (colI p q m (j : Int))) {i : Nat} (hi : i < A) (hp : ∀ j : Nat, j < B → mulPre r c l p q m (i : Int) (j : Int) = true) : ∀ (k j M0 M : Nat), j + k = B → k < M →
    matrix.of.Mul.L1 N M0 M (A : Int) (B : Int) r c l p q m (i : Int) (i : Int) (j : Int) (grid i B F ++ (List.range j).map (F i)) = matrix.of.Mul.L0 N M0 (A : Int) (B : Int) r c l p q m ((i + 1 : Nat) : Int) (grid (i + 1) B F) := by
  intro k
  induction k with
  | zero =>
    intro j M0 M hj hM
    obtain ⟨M, rfl⟩ : ∃ G, M = G + 1 := ⟨M - 1, by omega⟩
    obtain rfl : j = B := by omega
    rw [matrix.of.Mul.L1_step, ltI_eq, decide_eq_false (by omega), cond_false, w_i64_in (by omega) (by omega), ← grid_succ]
    rfl
  | succ k ih =>
    intro j M0 M hj hM
    obtain ⟨M, rfl⟩ : ∃ G, M = G + 1 := ⟨M - 1, by omega⟩
    have d : decide ((grid i B F ++ (List.range j).map (F i)).length + 1 ≤ lim) = true := by
      refine decide_eq_true ?_
      have := Nat.mul_le_mul (show i ≤ 6 by omega) hB
      rw [List.length_append, grid_length, List.length_map, List.length_range]; unfold lim; omega
    rw [matrix.of.Mul.L1_step, ltI_eq, decide_eq_true (by omega), cond_true, hp j (by omega), cond_true, d, cond_true, w_i64_in (by omega) (by omega), ← hF i j]
    have := ih (j + 1) M0 M (by omega) (by omega)
    rw [row_succ, ← List.append_assoc] at this
    exact this

theorem of.Mul.outer (N : Nat) (r c : Int) (l : List Int) (p q : Int) (m : List Int) {A B : Nat} (hA : A ≤ 6) (hB : B ≤ 6) (hN : 6 < N) {F : Nat → Nat → Int} (hF : ∀ i j : Nat, F i j = dotI (rowI c l (i : Int)) (colI p q m (j : Int))) (hp : ∀ i j : Nat, i < A → j < B → mulPre r c l p q m (i : Int) (j : Int) = true) : ∀ (k i M : Nat), i + k = A → k < M →
    matrix.of.Mul.L0 N M (A : Int) (B : Int) r c l p q m (i : Int) (grid i B F) = some (.agg [.int .i64 (A : Int), .int .i64 (B : Int), .ints (.own 108002 37) .u64 (grid A B F)]) := by
  intro k
  induction k with
  | zero =>
    intro i M hi hM
    obtain ⟨M, rfl⟩ : ∃ G, M = G + 1 := ⟨M - 1, by omega⟩
    obtain rfl : i = A := by omega
    rw [matrix.of.Mul.L0_step, ltI_eq, decide_eq_false (by omega), cond_false]
  | succ k ih =>
    intro i M hi hM
    obtain ⟨M, rfl⟩ : ∃ G, M = G + 1 := ⟨M - 1, by omega⟩
    have n := of.Mul.inner N r c l p q m hA hB hF (show i < A by omega) (fun j hj => hp i j (by omega) hj) B 0 M N (by omega) (by omega)
    rw [List.range_zero, List.map_nil, List.append_nil] at n
    rw [matrix.of.Mul.L0_step, ltI_eq, decide_eq_true (by omega), cond_true]
    exact n.trans (ih (i + 1) M (by omega) (by omega))

theorem matrix.of.Mul.known : Known Tryz.prog 144 matrix.of.Mul.spec := matrix.of.Mul.known_of (.cons matrix.Mul_1.known .nil) fun a b r c l p q m hp => by
  obtain ⟨h12, hy⟩ := and_true_iff.1 (show (((sizeB a && sizeB b) && ((rightB r c l && rightB p q m) && (allU64 l && allU64 m))) && decide (a = r ∧ b = q ∧ c = p)) = true from hp)
  obtain ⟨h1, hx⟩ := and_true_iff.1 h12
  have h2 := and_true_iff.2 ⟨hx, hy⟩
  obtain ⟨ha, hb⟩ := and_true_iff.1 h1
  obtain ⟨A, rfl, hA⟩ := size_nat ha
  obtain ⟨B, rfl, hB⟩ := size_nat hb
  obtain ⟨h3, he⟩ := and_true_iff.1 h2
  obtain ⟨h4, h5⟩ := and_true_iff.1 h3
  obtain ⟨hr, hm⟩ := and_true_iff.1 h4
  obtain ⟨e1, e2, e3⟩ := of_decide_eq_true he
  have hp : ∀ i j : Nat, i < A → j < B → mulPre r c l p q m (i : Int) (j : Int) = true := fun i j hi hj =>
    and_true_iff.2 ⟨and_true_iff.2 ⟨and_true_iff.2 ⟨hr, cdec_eq.2 (by omega)⟩, and_true_iff.2 ⟨hm, cdec_eq.2 (by omega)⟩⟩, and_true_iff.2 ⟨h5, cdec_eq.2 e3⟩⟩
  refine ⟨8, .agg [.int .i64 (A : Int), .int .i64 (B : Int), .ints (.own 108002 37) .u64 (grid A B fun (i j : Nat) => dotI (rowI c l (i : Int)) (colI p q m (j : Int)))], [108002], ?_, Wk.aggL (.cons .int (.cons .int (.cons (.drop _ _ _ _ (List.mem_singleton.2 rfl)) .nil)))⟩
  rw [matrix.of.Mul.ev]
  have n := of.Mul.outer 8 r c l p q m hA hB (by omega) (F := fun (i j : Nat) => dotI (rowI c l (i : Int)) (colI p q m (j : Int))) (fun _ _ => rfl) hp A 0 8 (by omega) (by omega)
  rw [grid_zero] at n
  exact n

end Go.Proofs.S1

/- Package matrix: what its own functions answer. -/
namespace Go.Proofs.S1
open Go Go.Den Go.Rnd Go.Proofs
open EqOf

/-- A matrix and an error; the empty one is nil. -/
def outX (x : MX) : DV := .tup [.agg [.int .i64 x.1, .int .i64 x.2.1, .ints .fresh .u64 x.2.2.1], .int .i64 x.2.2.2]
def nilX (e : Int) : DV := .tup [.agg [.int .i64 0, .int .i64 0, .nil], .int .i64 e]
theorem wk_mat {drops : List Nat} {x : MX} : Wk drops (outX x) (outX x) :=
  Wk.tupL (.cons (Wk.aggL (.cons .int (.cons .int (.cons .freshL .nil)))) (.cons .int .nil))
theorem wk_no {drops : List Nat} {e : Int} : Wk drops (nilX e) (outX (noX e)) :=
  Wk.tupL (.cons (Wk.aggL (.cons .int (.cons .int (.cons (.nil _ _) .nil)))) (.cons .int .nil))

theorem matrix.Zeros.known : Known Tryz.prog 111 matrix.Zeros.spec := matrix.Zeros.known_of (.cons matrix.of.Zeros.known (.cons matrix.size.known .nil)) fun a b _ => by
  show ∃ N dv drops, _ = some dv ∧ Wk drops dv (outX (zerosX a b))
  unfold zerosX
  by_cases h : (sizeB a && sizeB b) = true
  · obtain ⟨h1, h2⟩ := and_true_iff.1 h
    rw [if_pos h]
    exact ⟨0, _, [], by rw [matrix.Zeros.ev, h1, h2]; rfl, wk_mat⟩
  · have e : ((!(sizeB a)) || (!(sizeB b))) = true := by
      cases h1 : sizeB a <;> cases h2 : sizeB b <;> simp_all
    rw [if_neg h]
    exact ⟨0, _, [], by rw [matrix.Zeros.ev, e]; rfl, wk_no⟩

theorem matrix.Eye.known : Known Tryz.prog 180 matrix.Eye.spec := matrix.Eye.known_of (.cons matrix.of.Eye.known (.cons matrix.size.known .nil)) fun n _ => by
  show ∃ N dv drops, _ = some dv ∧ Wk drops dv (outX (eyeX n))
  unfold eyeX
  by_cases h : sizeB n = true
  · rw [if_pos h]
    exact ⟨0, _, [], by rw [matrix.Eye.ev, h]; rfl, wk_mat⟩
  · have e : sizeB n = false := by simpa using h
    rw [if_neg h]
    exact ⟨0, _, [], by rw [matrix.Eye.ev, e]; rfl, wk_no⟩

theorem right_sizes {r c : Int} {l : List Int} (h : rightB r c l = true) : sizeB r = true ∧ sizeB c = true := by
  obtain ⟨h1, h2, _⟩ := right_iff.1 h
  exact ⟨size_iff.2 h1, size_iff.2 h2⟩

theorem matrix.Turn.known : Known Tryz.prog 131 matrix.Turn.spec := matrix.Turn.known_of (.cons matrix.Check.known (.cons matrix.of.Turn.known .nil)) fun r c l _ => by
  show ∃ N dv drops, _ = some dv ∧ Wk drops dv (outX (turnX r c l))
  unfold turnX
  by_cases h : rightB r c l = true
  · obtain ⟨h1, h2⟩ := right_sizes h
    rw [if_pos h]
    exact ⟨0, _, [], by rw [matrix.Turn.ev, chk_ne, h, h1, h2, decide_eq_true ⟨rfl, rfl⟩]; rfl, wk_mat⟩
  · have e : rightB r c l = false := by simpa using h
    have ec : chkI r c l = 1 := by unfold chkI; rw [e]; rfl
    rw [if_neg h]
    exact ⟨0, _, [], by rw [matrix.Turn.ev, chk_ne, e, ec]; rfl, wk_no⟩

theorem part_code {r c x y a b : Int} (hr : 0 ≤ r ∧ r ≤ 6) (hc : 0 ≤ c ∧ c ≤ 6) :
    ((((((((ltI x (0 : Int)) || (ltI y (0 : Int))) || (ltI a (0 : Int))) || (ltI b (0 : Int))) || (ltI r x)) || (ltI c y)) || (ltI (w_i64 (r - x)) a)) || (ltI (w_i64 (c - y)) b)) = !(partB r c x y a b) := by
  unfold partB
  simp only [ltI_eq]
  by_cases h : 0 ≤ x ∧ 0 ≤ y ∧ x ≤ r ∧ y ≤ c
  · rw [w_i64_in (x := r - x) (by omega) (by omega), w_i64_in (x := c - y) (by omega) (by omega), Bool.eq_iff_iff]
    simp only [Bool.or_eq_true, decide_eq_true_eq, Bool.not_eq_true', decide_eq_false_iff_not]
    omega
  · have e : decide (0 ≤ x ∧ 0 ≤ y ∧ 0 ≤ a ∧ 0 ≤ b ∧ x ≤ r ∧ y ≤ c ∧ a ≤ r - x ∧ b ≤ c - y) = false := decide_eq_false (by omega)
    rw [e, Bool.eq_iff_iff]
    simp only [Bool.or_eq_true, decide_eq_true_eq, Bool.not_false, iff_true]
    omega

theorem part_sizes {r c x y a b : Int} {l : List Int} (h : rightB r c l = true) (hp : partB r c x y a b = true) : sizeB a = true ∧ sizeB b = true := by
  obtain ⟨h1, h2, _⟩ := right_iff.1 h
  have := of_decide_eq_true hp
  exact ⟨size_iff.2 (by omega), size_iff.2 (by omega)⟩

theorem matrix.Part.known : Known Tryz.prog 88 matrix.Part.spec := matrix.Part.known_of (.cons matrix.Check.known (.cons matrix.of.Part.known .nil)) fun r c l x y a b _ => by
  show ∃ N dv drops, _ = some dv ∧ Wk drops dv (outX (partX r c l x y a b))
  unfold partX
  by_cases h : rightB r c l = true
  · obtain ⟨h1, h2, _⟩ := right_iff.1 h
    by_cases hp : partB r c x y a b = true
    · obtain ⟨s1, s2⟩ := part_sizes h hp
      rw [if_pos h, if_pos hp]
      exact ⟨0, _, [], by rw [matrix.Part.ev, chk_ne, part_code h1 h2, h, hp, s1, s2]; rfl, wk_mat⟩
    · have e : partB r c x y a b = false := by simpa using hp
      rw [if_pos h, if_neg hp]
      exact ⟨0, _, [], by rw [matrix.Part.ev, chk_ne, part_code h1 h2, h, e]; rfl, wk_no⟩
  · have e : rightB r c l = false := by simpa using h
    have ec : chkI r c l = 1 := by unfold chkI; rw [e]; rfl
    rw [if_neg h]
    exact ⟨0, _, [], by rw [matrix.Part.ev, chk_ne, e, ec]; rfl, wk_no⟩

theorem two_ne (r c : Int) (l : List Int) (p q : Int) (m : List Int) : ((twoI r c l p q m) != (0 : Int)) = !(rightB r c l && rightB p q m) := by
  unfold twoI
  cases rightB r c l && rightB p q m <;> rfl
theorem two_no {r c : Int} {l : List Int} {p q : Int} {m : List Int} (h : (rightB r c l && rightB p q m) = false) : twoI r c l p q m = 1 := by
  unfold twoI; rw [h]; rfl

theorem matrix.Mul.known : Known Tryz.prog 87 matrix.Mul.spec := matrix.Mul.known_of (.cons matrix.of.Mul.known (.cons matrix.two.known .nil)) fun r c l p q m hp => by
  show ∃ N dv drops, _ = some dv ∧ Wk drops dv (outX (mulX r c l p q m))
  unfold mulX
  have hp : (allU64 l && allU64 m) = true := hp
  by_cases h : (rightB r c l && rightB p q m) = true
  · obtain ⟨h1, h2⟩ := and_true_iff.1 h
    by_cases hc : c = p
    · have e : (c != p) = false := by rw [hc]; simp
      rw [if_pos h, if_pos hc]
      exact ⟨0, _, [], by rw [matrix.Mul.ev, two_ne, h, e, (right_sizes h1).1, (right_sizes h2).2, hp, decide_eq_true ⟨rfl, rfl, hc⟩]; rfl, wk_mat⟩
    · have e : (c != p) = true := by simpa using hc
      rw [if_pos h, if_neg hc]
      exact ⟨0, _, [], by rw [matrix.Mul.ev, two_ne, h, e]; rfl, wk_no⟩
  · have e : (rightB r c l && rightB p q m) = false := by simpa using h
    rw [if_neg h]
    exact ⟨0, _, [], by rw [matrix.Mul.ev, two_ne, e, two_no e]; rfl, wk_no⟩

theorem matrix.Stack.known : Known Tryz.prog 90 matrix.Stack.spec := matrix.Stack.known_of (.cons matrix.of.Stack.known (.cons matrix.two.known .nil)) fun r c l p q m _ => by
  show ∃ N dv drops, _ = some dv ∧ Wk drops dv (outX (stackX r c l p q m))
  unfold stackX
  by_cases h : (rightB r c l && rightB p q m) = true
  · obtain ⟨h1, h2⟩ := and_true_iff.1 h
    obtain ⟨r1, c1, _⟩ := right_iff.1 h1
    obtain ⟨p1, q1, _⟩ := right_iff.1 h2
    have ew : w_i64 (r + p) = r + p := w_i64_in (by omega) (by omega)
    by_cases hc : c = q ∧ r + p ≤ 6
    · have e : ((c != q) || (ltI (6 : Int) (r + p))) = false := by rw [ltI_eq, hc.1]; simp; omega
      rw [if_pos h, if_pos hc]
      exact ⟨0, _, [], by rw [matrix.Stack.ev, ew, two_ne, h, e, (right_sizes h1).2, size_iff.2 (show 0 ≤ r + p ∧ r + p ≤ 6 by omega), decide_eq_true ⟨rfl, rfl, hc.1.symm⟩]; rfl, wk_mat⟩
    · have e : ((c != q) || (ltI (6 : Int) (r + p))) = true := by rw [ltI_eq]; simp; omega
      rw [if_pos h, if_neg hc]
      exact ⟨0, _, [], by rw [matrix.Stack.ev, ew, two_ne, h, e]; rfl, wk_no⟩
  · have e : (rightB r c l && rightB p q m) = false := by simpa using h
    rw [if_neg h]
    exact ⟨0, _, [], by rw [matrix.Stack.ev, two_ne, e, two_no e]; rfl, wk_no⟩

end Go.Proofs.S1
