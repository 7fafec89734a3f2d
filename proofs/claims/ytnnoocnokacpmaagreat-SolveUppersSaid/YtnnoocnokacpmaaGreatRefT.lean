/- RefT of the verified evaluator and its use for this seat (of my texts S1EqRef10, S1PRef10, S1PFill). -/
import Derived.Test.YtnnoocnokacpmaaGreatSpe
import Derived.Test.YtnnoocnokacpmaaGreatMtx

/- The evaluator's equations: dioptraref10.Right, dioptraref10.At, dioptraref10.Zeros, dioptraref10.With, dioptraref10.Eye, dioptraref10.Same, dioptraref10.Copy, dioptraref10.Row, dioptraref10.Col, dioptraref10.Mul, dioptraref10.Turn, dioptraref10.Part. Printed by denpy.py. -/
namespace Go.Proofs.S1
open Go Go.Den Go.Rnd Go.Proofs
set_option linter.unusedVariables false
set_option maxRecDepth 100000
namespace EqRef10
theorem tt0 (a b c d : Bool) : (((!(bif (bif (bif a then b else false) then c else false) then d else false)) || ((bif (bif (bif a then b else false) then c else false) then d else false) == true)) && true) = true := by cases a <;> cases b <;> cases c <;> cases d <;> rfl
theorem tt1 (a b c d : Bool) : ((!((bif (bif (bif a then b else false) then c else false) then d else false) == true)) || ((((!((bif (bif (bif a then b else false) then c else false) then d else false) == true)) || ((bif (bif (bif a then b else false) then c else false) then d else false) == true)) && (((!((bif (bif (bif a then b else false) then c else false) then d else false) == true)) || ((bif (bif (bif a then b else false) then c else false) then d else false) == true)) && true)) && true)) = true := by cases a <;> cases b <;> cases c <;> cases d <;> rfl
theorem tt2 (a b c d : Bool) : ((!((bif (bif (bif a then b else false) then c else false) then d else false) == true)) || ((((!((bif (bif (bif a then b else false) then c else false) then d else false) == true)) || ((bif (bif (bif a then b else false) then c else false) then d else false) == true)) && true) && true)) = true := by cases a <;> cases b <;> cases c <;> cases d <;> rfl
theorem tt3 (a b c d : Bool) : ((!((bif (bif (bif a then b else false) then c else false) then d else false) == true)) || true) = true := by cases a <;> cases b <;> cases c <;> cases d <;> rfl
theorem tt4 (a b c : Bool) : (((!(bif (bif a then b else false) then c else false)) || ((bif (bif a then b else false) then c else false) == true)) && true) = true := by cases a <;> cases b <;> cases c <;> rfl
theorem tt5 (a b c : Bool) : ((!((bif (bif a then b else false) then c else false) == true)) || ((((!((bif (bif a then b else false) then c else false) == true)) || ((bif (bif a then b else false) then c else false) == true)) && true) && true)) = true := by cases a <;> cases b <;> cases c <;> rfl
theorem tt6 (a b c : Bool) : ((!((bif (bif a then b else false) then c else false) == true)) || true) = true := by cases a <;> cases b <;> cases c <;> rfl
theorem tt7 (a b : Bool) : (((!(bif a then b else false)) || ((bif a then b else false) == true)) && true) = true := by cases a <;> cases b <;> rfl
theorem tt8 (a b : Bool) : ((!((bif a then b else false) == true)) || ((((!((bif a then b else false) == true)) || ((bif a then b else false) == true)) && true) && true)) = true := by cases a <;> cases b <;> rfl
theorem tt9 (a b : Bool) : ((!((bif a then b else false) == true)) || true) = true := by cases a <;> cases b <;> rfl
theorem tt10 (a : Bool) : (((!a) || (a == true)) && true) = true := by cases a <;> rfl
theorem tt11 (a : Bool) : ((!(a == true)) || ((((!(a == true)) || (a == true)) && true) && true)) = true := by cases a <;> rfl
theorem tt12 (a : Bool) : ((!(a == true)) || true) = true := by cases a <;> rfl
theorem tt13 (a b c : Bool) : ((!((bif a then b else false) == true)) || ((((!((bif a then b else false) == true)) || ((bif a then b else false) == true)) && (((!((bif a then b else false) == true)) || ((bif a then b else false) == true)) && true)) && c)) = ((!(a && b)) || c) := by cases a <;> cases b <;> cases c <;> rfl
theorem tt14 (a : Bool) : ((!(a == true)) || ((((!(a == true)) || (a == true)) && (((!(a == true)) || (a == true)) && true)) && true)) = true := by cases a <;> rfl
theorem tt15 (a : Bool) : (a && true) = a := by cases a <;> rfl
theorem tt16 (a b c d : Bool) : (((a && b) && (c && d)) && true) = ((a && b) && (c && d)) := by cases a <;> cases b <;> cases c <;> cases d <;> rfl
noncomputable def ref10.Right.tab : List (Nat × Entry) := []
noncomputable def ref10.Right.E : Env := envOf (tabOf ref10.Right.tab) (fun _ => false) (fun _ => none) (fun _ => none)
theorem ref10.Right.ev (N : Nat) (r : Int) (c : Int) (l : List Int) : funD ref10.Right.E N Tryz.f65 (bodyOf Tryz.f65) [.agg [.int .i64 r, .int .i64 c, .ints .arg .u64 l]] =
  some (.bool (bif (bif (bif (bif (leI (0 : Int) r) then (leI r (6 : Int)) else false) then (leI (0 : Int) c) else false) then (leI c (6 : Int)) else false) then ((List.length l : Int) == (w_i64 (r * c))) else false)) :=
  Eq.trans (by kernel_rfl)
  (ifTn (tt12 (leI (0 : Int) r)) (ifTn (tt11 (leI (0 : Int) r)) (ifTn (tt11 (leI (0 : Int) r)) (ifTn (tt10 (leI (0 : Int) r)) (ifTn (tt9 (leI (0 : Int) r) (leI r (6 : Int))) (ifTn (tt8 (leI (0 : Int) r) (leI r (6 : Int))) (ifTn (tt8 (leI (0 : Int) r) (leI r (6 : Int))) (ifTn (tt7 (leI (0 : Int) r) (leI r (6 : Int))) (ifTn (tt6 (leI (0 : Int) r) (leI r (6 : Int)) (leI (0 : Int) c)) (ifTn (tt5 (leI (0 : Int) r) (leI r (6 : Int)) (leI (0 : Int) c)) (ifTn (tt5 (leI (0 : Int) r) (leI r (6 : Int)) (leI (0 : Int) c)) (ifTn (tt4 (leI (0 : Int) r) (leI r (6 : Int)) (leI (0 : Int) c)) (ifTn (tt3 (leI (0 : Int) r) (leI r (6 : Int)) (leI (0 : Int) c) (leI c (6 : Int))) (ifTn (tt2 (leI (0 : Int) r) (leI r (6 : Int)) (leI (0 : Int) c) (leI c (6 : Int))) (ifTn (tt2 (leI (0 : Int) r) (leI r (6 : Int)) (leI (0 : Int) c) (leI c (6 : Int))) (ifTn (tt3 (leI (0 : Int) r) (leI r (6 : Int)) (leI (0 : Int) c) (leI c (6 : Int))) (ifTn (tt2 (leI (0 : Int) r) (leI r (6 : Int)) (leI (0 : Int) c) (leI c (6 : Int))) (ifTn (tt3 (leI (0 : Int) r) (leI r (6 : Int)) (leI (0 : Int) c) (leI c (6 : Int))) (ifTn (tt2 (leI (0 : Int) r) (leI r (6 : Int)) (leI (0 : Int) c) (leI c (6 : Int))) (ifTn (tt1 (leI (0 : Int) r) (leI r (6 : Int)) (leI (0 : Int) c) (leI c (6 : Int))) (ifTn (tt1 (leI (0 : Int) r) (leI r (6 : Int)) (leI (0 : Int) c) (leI c (6 : Int))) (ifTn (tt0 (leI (0 : Int) r) (leI r (6 : Int)) (leI (0 : Int) c) (leI c (6 : Int))) rfl))))))))))))))))))))))
theorem ref10.Right.known_of (hk : Knowns Tryz.prog ref10.Right.tab) (h : ∀ (r : Int) (c : Int) (l : List Int), ref10.Right.pre [.i r, .i c, .l l] = true → ∃ N dv drops, funD ref10.Right.E N Tryz.f65 (bodyOf Tryz.f65) [.agg [.int .i64 r, .int .i64 c, .ints .arg .u64 l]] = some dv ∧ Wk drops dv (ref10.Right.out [.i r, .i c, .l l])) : Known Tryz.prog 65 ref10.Right.spec := by
  refine ⟨meets_entry (E := ref10.Right.E) (env_ok hk _ _ _) Tryz.func65 (show Tryz.f65.body = some (bodyOf Tryz.f65) by kernel_rfl) fun ats dvs he hp => ?_, call_enter Tryz.func65 (by kernel_rfl) (show Tryz.f65.body = some (bodyOf Tryz.f65) by kernel_rfl)⟩
  obtain ⟨_, _, _, _, rfl, rfl, hs0, he0⟩ := he.st_inv
  obtain ⟨r, _, _, rfl, rfl, he1⟩ := hs0.i_inv
  obtain ⟨c, _, _, rfl, rfl, he2⟩ := he1.i_inv
  obtain ⟨l, _, _, rfl, rfl, he3⟩ := he2.s_inv
  obtain ⟨rfl, rfl⟩ := he3.nil_inv
  obtain ⟨rfl, rfl⟩ := he0.nil_inv
  exact h r c l hp

noncomputable def ref10.At.tab : List (Nat × Entry) := []
noncomputable def ref10.At.E : Env := envOf (tabOf ref10.At.tab) (fun _ => false) (fun _ => none) (fun _ => none)
theorem ref10.At.ev (N : Nat) (r : Int) (c : Int) (l : List Int) (i : Int) (k : Int) : funD ref10.At.E N Tryz.f52 (bodyOf Tryz.f52) [.agg [.int .i64 r, .int .i64 c, .ints .arg .u64 l], .int .i64 i, .int .i64 k] =
  bif ((decide (0 ≤ (w_i64 ((w_i64 (i * c)) + k)))) && (decide ((w_i64 ((w_i64 (i * c)) + k)) < (List.length l : Int)))) then
  some (.int .u64 (List.getD l (Int.toNat (w_i64 ((w_i64 (i * c)) + k))) 0))
  else none := by kernel_rfl
theorem ref10.At.known_of (hk : Knowns Tryz.prog ref10.At.tab) (h : ∀ (r : Int) (c : Int) (l : List Int) (i : Int) (k : Int), ref10.At.pre [.i r, .i c, .l l, .i i, .i k] = true → ∃ N dv drops, funD ref10.At.E N Tryz.f52 (bodyOf Tryz.f52) [.agg [.int .i64 r, .int .i64 c, .ints .arg .u64 l], .int .i64 i, .int .i64 k] = some dv ∧ Wk drops dv (ref10.At.out [.i r, .i c, .l l, .i i, .i k])) : Known Tryz.prog 52 ref10.At.spec := by
  refine ⟨meets_entry (E := ref10.At.E) (env_ok hk _ _ _) Tryz.func52 (show Tryz.f52.body = some (bodyOf Tryz.f52) by kernel_rfl) fun ats dvs he hp => ?_, call_enter Tryz.func52 (by kernel_rfl) (show Tryz.f52.body = some (bodyOf Tryz.f52) by kernel_rfl)⟩
  obtain ⟨_, _, _, _, rfl, rfl, hs0, he0⟩ := he.st_inv
  obtain ⟨r, _, _, rfl, rfl, he1⟩ := hs0.i_inv
  obtain ⟨c, _, _, rfl, rfl, he2⟩ := he1.i_inv
  obtain ⟨l, _, _, rfl, rfl, he3⟩ := he2.s_inv
  obtain ⟨rfl, rfl⟩ := he3.nil_inv
  obtain ⟨i, _, _, rfl, rfl, he4⟩ := he0.i_inv
  obtain ⟨k, _, _, rfl, rfl, he5⟩ := he4.i_inv
  obtain ⟨rfl, rfl⟩ := he5.nil_inv
  exact h r c l i k hp

noncomputable def ref10.Zeros.tab : List (Nat × Entry) := []
noncomputable def ref10.Zeros.E : Env := envOf (tabOf ref10.Zeros.tab) (fun _ => false) (fun _ => none) (fun _ => none)
theorem ref10.Zeros.ev (N : Nat) (a : Int) (b : Int) : funD ref10.Zeros.E N Tryz.f28 (bodyOf Tryz.f28) [.int .i64 a, .int .i64 b] =
  bif (((decide ((0 : Int) ≤ (w_i64 (a * b)))) && (decide ((w_i64 (a * b)) ≤ (w_i64 (a * b))))) && (decide ((w_i64 (a * b)) ≤ lim))) then
  some (.agg [.int .i64 a, .int .i64 b, .ints (.own 10 37) .u64 (List.replicate (Int.toNat (w_i64 (a * b))) (0 : Int))])
  else none := by kernel_rfl
theorem ref10.Zeros.known_of (hk : Knowns Tryz.prog ref10.Zeros.tab) (h : ∀ (a : Int) (b : Int), ref10.Zeros.pre [.i a, .i b] = true → ∃ N dv drops, funD ref10.Zeros.E N Tryz.f28 (bodyOf Tryz.f28) [.int .i64 a, .int .i64 b] = some dv ∧ Wk drops dv (ref10.Zeros.out [.i a, .i b])) : Known Tryz.prog 28 ref10.Zeros.spec := by
  refine ⟨meets_entry (E := ref10.Zeros.E) (env_ok hk _ _ _) Tryz.func28 (show Tryz.f28.body = some (bodyOf Tryz.f28) by kernel_rfl) fun ats dvs he hp => ?_, call_enter Tryz.func28 (by kernel_rfl) (show Tryz.f28.body = some (bodyOf Tryz.f28) by kernel_rfl)⟩
  obtain ⟨a, _, _, rfl, rfl, he0⟩ := he.i_inv
  obtain ⟨b, _, _, rfl, rfl, he1⟩ := he0.i_inv
  obtain ⟨rfl, rfl⟩ := he1.nil_inv
  exact h a b hp

noncomputable def ref10.With.tab : List (Nat × Entry) := []
noncomputable def ref10.With.E : Env := envOf (tabOf ref10.With.tab) (fun _ => false) (fun _ => none) (fun _ => none)
theorem ref10.With.ev (N : Nat) (r : Int) (c : Int) (l : List Int) (i : Int) (k : Int) (b : Int) : funD ref10.With.E N Tryz.f55 (bodyOf Tryz.f55) [.agg [.int .i64 r, .int .i64 c, .ints .arg .u64 l], .int .i64 i, .int .i64 k, .int .u64 b] =
  bif (decide (0 + (List.length l) ≤ lim)) then
  bif ((decide (0 ≤ (w_i64 ((w_i64 (i * c)) + k)))) && (decide ((w_i64 ((w_i64 (i * c)) + k)) < (List.length ([] ++ l) : Int)))) then
  bif (decide ((Int.toNat (w_i64 ((w_i64 (i * c)) + k))) < (List.length ([] ++ l)))) then
  some (.agg [.int .i64 r, .int .i64 c, .ints (.own 13 37) .u64 (List.set ([] ++ l) (Int.toNat (w_i64 ((w_i64 (i * c)) + k))) b)])
  else none
  else none
  else none := by kernel_rfl
theorem ref10.With.known_of (hk : Knowns Tryz.prog ref10.With.tab) (h : ∀ (r : Int) (c : Int) (l : List Int) (i : Int) (k : Int) (b : Int), ref10.With.pre [.i r, .i c, .l l, .i i, .i k, .i b] = true → ∃ N dv drops, funD ref10.With.E N Tryz.f55 (bodyOf Tryz.f55) [.agg [.int .i64 r, .int .i64 c, .ints .arg .u64 l], .int .i64 i, .int .i64 k, .int .u64 b] = some dv ∧ Wk drops dv (ref10.With.out [.i r, .i c, .l l, .i i, .i k, .i b])) : Known Tryz.prog 55 ref10.With.spec := by
  refine ⟨meets_entry (E := ref10.With.E) (env_ok hk _ _ _) Tryz.func55 (show Tryz.f55.body = some (bodyOf Tryz.f55) by kernel_rfl) fun ats dvs he hp => ?_, call_enter Tryz.func55 (by kernel_rfl) (show Tryz.f55.body = some (bodyOf Tryz.f55) by kernel_rfl)⟩
  obtain ⟨_, _, _, _, rfl, rfl, hs0, he0⟩ := he.st_inv
  obtain ⟨r, _, _, rfl, rfl, he1⟩ := hs0.i_inv
  obtain ⟨c, _, _, rfl, rfl, he2⟩ := he1.i_inv
  obtain ⟨l, _, _, rfl, rfl, he3⟩ := he2.s_inv
  obtain ⟨rfl, rfl⟩ := he3.nil_inv
  obtain ⟨i, _, _, rfl, rfl, he4⟩ := he0.i_inv
  obtain ⟨k, _, _, rfl, rfl, he5⟩ := he4.i_inv
  obtain ⟨b, _, _, rfl, rfl, he6⟩ := he5.i_inv
  obtain ⟨rfl, rfl⟩ := he6.nil_inv
  exact h r c l i k b hp

def ref10.Eye.hint : Nat → Option LoopHint
  | 0 => some { keep := [0, 2, 3, 4], objs := [], boxes := [2, 3] }
  | _ => none
noncomputable def ref10.Eye.tab : List (Nat × Entry) := [(55, ref10.With.spec), (28, ref10.Zeros.spec)]
noncomputable def ref10.Eye.E : Env := envOf (tabOf ref10.Eye.tab) (fun _ => false) ref10.Eye.hint (fun _ => none)
noncomputable def ref10.Eye.L0 (N M : Nat) (n : Int) (p4 : Int) (p3 : List Int) : Option DV := loopAt ref10.Eye.E N Tryz.f26 (bodyOf Tryz.f26) [1, 1, 0, 1, 0] [] M ⟨mkT 18 [(0, .int .i64 n), (2, .ptr 2 0 0), (3, .ptr 3 0 0), (4, .int .i64 p4)], [(2, false, .box [.int .i64 (0 : Int), .int .i64 (0 : Int), .nil]), (3, false, .box [.int .i64 n, .int .i64 n, .ints .fresh .u64 p3])]⟩
theorem ref10.Eye.L0_step (N M : Nat) (n : Int) (p4 : Int) (p3 : List Int) : ref10.Eye.L0 N (M + 1) n p4 p3 =
  bif (ltI p4 n) then
  bif (atPre n n p3 p4 p4) then
  ref10.Eye.L0 N M n (w_i64 (p4 + (1 : Int))) (List.set p3 (Int.toNat (p4 * n + p4)) (4607182418800017408 : Int))
  else none
  else some (.agg [.int .i64 n, .int .i64 n, .ints .fresh .u64 p3]) := by kernel_rfl
theorem ref10.Eye.ev (N : Nat) (n : Int) : funD ref10.Eye.E N Tryz.f26 (bodyOf Tryz.f26) [.int .i64 n] =
  bif (sizeB n && sizeB n) then
  ref10.Eye.L0 N N n (0 : Int) (grid (Int.toNat n) (Int.toNat n) (fun _ _ => 0))
  else none := by kernel_rfl
theorem ref10.Eye.known_of (hk : Knowns Tryz.prog ref10.Eye.tab) (h : ∀ (n : Int), ref10.Eye.pre [.i n] = true → ∃ N dv drops, funD ref10.Eye.E N Tryz.f26 (bodyOf Tryz.f26) [.int .i64 n] = some dv ∧ Wk drops dv (ref10.Eye.out [.i n])) : Known Tryz.prog 26 ref10.Eye.spec := by
  refine ⟨meets_entry (E := ref10.Eye.E) (env_ok hk _ _ _) Tryz.func26 (show Tryz.f26.body = some (bodyOf Tryz.f26) by kernel_rfl) fun ats dvs he hp => ?_, call_enter Tryz.func26 (by kernel_rfl) (show Tryz.f26.body = some (bodyOf Tryz.f26) by kernel_rfl)⟩
  obtain ⟨n, _, _, rfl, rfl, he0⟩ := he.i_inv
  obtain ⟨rfl, rfl⟩ := he0.nil_inv
  exact h n hp

noncomputable def ref10.Same.tab : List (Nat × Entry) := [(73, ref09.Same.spec)]
noncomputable def ref10.Same.E : Env := envOf (tabOf ref10.Same.tab) (fun _ => false) (fun _ => none) (fun _ => none)
theorem ref10.Same.ev (N : Nat) (r : Int) (c : Int) (l : List Int) (p : Int) (q : Int) (m : List Int) : funD ref10.Same.E N Tryz.f24 (bodyOf Tryz.f24) [.agg [.int .i64 r, .int .i64 c, .ints .arg .u64 l], .agg [.int .i64 p, .int .i64 q, .ints .arg .u64 m]] =
  bif ((!((r == p) && (c == q))) || (okLen l)) then
  some (.bool (bif (bif (r == p) then (c == q) else false) then (sameL l m) else false))
  else none :=
  Eq.trans (by kernel_rfl)
  (ifTn (tt12 (r == p)) (ifTn (tt11 (r == p)) (ifTn (tt12 (r == p)) (ifTn (tt11 (r == p)) (ifTn (tt14 (r == p)) (ifTn (tt10 (r == p)) (ifTn (tt9 (r == p) (c == q)) (ifTn (tt8 (r == p) (c == q)) (ifTn (tt9 (r == p) (c == q)) (ifTn (tt8 (r == p) (c == q)) (ifS (tt13 (r == p) (c == q) (okLen l)) (ifTn (tt7 (r == p) (c == q)) rfl) rfl)))))))))))
theorem ref10.Same.known_of (hk : Knowns Tryz.prog ref10.Same.tab) (h : ∀ (r : Int) (c : Int) (l : List Int) (p : Int) (q : Int) (m : List Int), ref10.Same.pre [.i r, .i c, .l l, .i p, .i q, .l m] = true → ∃ N dv drops, funD ref10.Same.E N Tryz.f24 (bodyOf Tryz.f24) [.agg [.int .i64 r, .int .i64 c, .ints .arg .u64 l], .agg [.int .i64 p, .int .i64 q, .ints .arg .u64 m]] = some dv ∧ Wk drops dv (ref10.Same.out [.i r, .i c, .l l, .i p, .i q, .l m])) : Known Tryz.prog 24 ref10.Same.spec := by
  refine ⟨meets_entry (E := ref10.Same.E) (env_ok hk _ _ _) Tryz.func24 (show Tryz.f24.body = some (bodyOf Tryz.f24) by kernel_rfl) fun ats dvs he hp => ?_, call_enter Tryz.func24 (by kernel_rfl) (show Tryz.f24.body = some (bodyOf Tryz.f24) by kernel_rfl)⟩
  obtain ⟨_, _, _, _, rfl, rfl, hs0, he0⟩ := he.st_inv
  obtain ⟨r, _, _, rfl, rfl, he1⟩ := hs0.i_inv
  obtain ⟨c, _, _, rfl, rfl, he2⟩ := he1.i_inv
  obtain ⟨l, _, _, rfl, rfl, he3⟩ := he2.s_inv
  obtain ⟨rfl, rfl⟩ := he3.nil_inv
  obtain ⟨_, _, _, _, rfl, rfl, hs4, he4⟩ := he0.st_inv
  obtain ⟨p, _, _, rfl, rfl, he5⟩ := hs4.i_inv
  obtain ⟨q, _, _, rfl, rfl, he6⟩ := he5.i_inv
  obtain ⟨m, _, _, rfl, rfl, he7⟩ := he6.s_inv
  obtain ⟨rfl, rfl⟩ := he7.nil_inv
  obtain ⟨rfl, rfl⟩ := he4.nil_inv
  exact h r c l p q m hp

noncomputable def ref10.Copy.tab : List (Nat × Entry) := []
noncomputable def ref10.Copy.E : Env := envOf (tabOf ref10.Copy.tab) (fun _ => false) (fun _ => none) (fun _ => none)
theorem ref10.Copy.ev (N : Nat) (r : Int) (c : Int) (l : List Int) : funD ref10.Copy.E N Tryz.f22 (bodyOf Tryz.f22) [.agg [.int .i64 r, .int .i64 c, .ints .arg .u64 l]] =
  bif (decide (0 + (List.length l) ≤ lim)) then
  some (.agg [.int .i64 r, .int .i64 c, .ints (.own 10 37) .u64 ([] ++ l)])
  else none :=
  Eq.trans (by kernel_rfl)
  (ifS (tt15 (decide (0 + (List.length l) ≤ lim))) rfl rfl)
theorem ref10.Copy.known_of (hk : Knowns Tryz.prog ref10.Copy.tab) (h : ∀ (r : Int) (c : Int) (l : List Int), ref10.Copy.pre [.i r, .i c, .l l] = true → ∃ N dv drops, funD ref10.Copy.E N Tryz.f22 (bodyOf Tryz.f22) [.agg [.int .i64 r, .int .i64 c, .ints .arg .u64 l]] = some dv ∧ Wk drops dv (ref10.Copy.out [.i r, .i c, .l l])) : Known Tryz.prog 22 ref10.Copy.spec := by
  refine ⟨meets_entry (E := ref10.Copy.E) (env_ok hk _ _ _) Tryz.func22 (show Tryz.f22.body = some (bodyOf Tryz.f22) by kernel_rfl) fun ats dvs he hp => ?_, call_enter Tryz.func22 (by kernel_rfl) (show Tryz.f22.body = some (bodyOf Tryz.f22) by kernel_rfl)⟩
  obtain ⟨_, _, _, _, rfl, rfl, hs0, he0⟩ := he.st_inv
  obtain ⟨r, _, _, rfl, rfl, he1⟩ := hs0.i_inv
  obtain ⟨c, _, _, rfl, rfl, he2⟩ := he1.i_inv
  obtain ⟨l, _, _, rfl, rfl, he3⟩ := he2.s_inv
  obtain ⟨rfl, rfl⟩ := he3.nil_inv
  obtain ⟨rfl, rfl⟩ := he0.nil_inv
  exact h r c l hp

noncomputable def ref10.Row.tab : List (Nat × Entry) := []
noncomputable def ref10.Row.E : Env := envOf (tabOf ref10.Row.tab) (fun _ => false) (fun _ => none) (fun _ => none)
theorem ref10.Row.ev (N : Nat) (r : Int) (c : Int) (l : List Int) (i : Int) : funD ref10.Row.E N Tryz.f80 (bodyOf Tryz.f80) [.agg [.int .i64 r, .int .i64 c, .ints .arg .u64 l], .int .i64 i] =
  bif (((decide ((0 : Int) ≤ (w_i64 (i * c)))) && (decide ((w_i64 (i * c)) ≤ (w_i64 ((w_i64 (i + (1 : Int))) * c))))) && ((decide ((0 : Int) ≤ (w_i64 ((w_i64 (i + (1 : Int))) * c)))) && (decide ((w_i64 ((w_i64 (i + (1 : Int))) * c)) ≤ (List.length l : Int))))) then
  some (.ints .arg .u64 (List.drop (Int.toNat (w_i64 (i * c))) (List.take (Int.toNat (w_i64 ((w_i64 (i + (1 : Int))) * c))) l)))
  else none :=
  Eq.trans (by kernel_rfl)
  (ifS (tt16 (decide ((0 : Int) ≤ (w_i64 (i * c)))) (decide ((w_i64 (i * c)) ≤ (w_i64 ((w_i64 (i + (1 : Int))) * c)))) (decide ((0 : Int) ≤ (w_i64 ((w_i64 (i + (1 : Int))) * c)))) (decide ((w_i64 ((w_i64 (i + (1 : Int))) * c)) ≤ (List.length l : Int)))) rfl rfl)
theorem ref10.Row.known_of (hk : Knowns Tryz.prog ref10.Row.tab) (h : ∀ (r : Int) (c : Int) (l : List Int) (i : Int), ref10.Row.pre [.i r, .i c, .l l, .i i] = true → ∃ N dv drops, funD ref10.Row.E N Tryz.f80 (bodyOf Tryz.f80) [.agg [.int .i64 r, .int .i64 c, .ints .arg .u64 l], .int .i64 i] = some dv ∧ Wk drops dv (ref10.Row.out [.i r, .i c, .l l, .i i])) : Known Tryz.prog 80 ref10.Row.spec := by
  refine ⟨meets_entry (E := ref10.Row.E) (env_ok hk _ _ _) Tryz.func80 (show Tryz.f80.body = some (bodyOf Tryz.f80) by kernel_rfl) fun ats dvs he hp => ?_, call_enter Tryz.func80 (by kernel_rfl) (show Tryz.f80.body = some (bodyOf Tryz.f80) by kernel_rfl)⟩
  obtain ⟨_, _, _, _, rfl, rfl, hs0, he0⟩ := he.st_inv
  obtain ⟨r, _, _, rfl, rfl, he1⟩ := hs0.i_inv
  obtain ⟨c, _, _, rfl, rfl, he2⟩ := he1.i_inv
  obtain ⟨l, _, _, rfl, rfl, he3⟩ := he2.s_inv
  obtain ⟨rfl, rfl⟩ := he3.nil_inv
  obtain ⟨i, _, _, rfl, rfl, he4⟩ := he0.i_inv
  obtain ⟨rfl, rfl⟩ := he4.nil_inv
  exact h r c l i hp

def ref10.Col.hint : Nat → Option LoopHint
  | 0 => some { keep := [1, 3, 7, 8], objs := [(0, 7, 100007, .ints 37 .u64 [])], boxes := [3] }
  | _ => none
noncomputable def ref10.Col.tab : List (Nat × Entry) := [(52, ref10.At.spec)]
noncomputable def ref10.Col.E : Env := envOf (tabOf ref10.Col.tab) (fun _ => false) ref10.Col.hint (fun _ => none)
noncomputable def ref10.Col.L0 (N M : Nat) (r : Int) (c : Int) (l : List Int) (k : Int) (p8 : Int) (p7 : List Int) : Option DV := loopAt ref10.Col.E N Tryz.f81 (bodyOf Tryz.f81) [1, 1, 0, 1, 0] [] M ⟨mkT 25 [(1, .int .i64 k), (3, .ptr 3 0 0), (7, .oref 100007), (8, .int .i64 p8)], [(3, false, .box [.int .i64 r, .int .i64 c, .ints .arg .u64 l]), (100007, false, .ints 37 .u64 p7)]⟩
theorem ref10.Col.L0_step (N M : Nat) (r : Int) (c : Int) (l : List Int) (k : Int) (p8 : Int) (p7 : List Int) : ref10.Col.L0 N (M + 1) r c l k p8 p7 =
  bif (ltI p8 r) then
  bif (atPre r c l p8 k) then
  bif (decide ((List.length p7) + 1 ≤ lim)) then
  ref10.Col.L0 N M r c l k (w_i64 (p8 + (1 : Int))) (p7 ++ [(atI c l p8 k)])
  else none
  else none
  else some (.ints (.own 100007 37) .u64 p7) := by kernel_rfl
theorem ref10.Col.ev (N : Nat) (r : Int) (c : Int) (l : List Int) (k : Int) (f : Int) : funD ref10.Col.E N Tryz.f81 (bodyOf Tryz.f81) [.agg [.int .i64 r, .int .i64 c, .ints .arg .u64 l], .int .i64 k, .int .i64 f] =
  ref10.Col.L0 N N r c l k f [] := by kernel_rfl
theorem ref10.Col.known_of (hk : Knowns Tryz.prog ref10.Col.tab) (h : ∀ (r : Int) (c : Int) (l : List Int) (k : Int) (f : Int), ref10.Col.pre [.i r, .i c, .l l, .i k, .i f] = true → ∃ N dv drops, funD ref10.Col.E N Tryz.f81 (bodyOf Tryz.f81) [.agg [.int .i64 r, .int .i64 c, .ints .arg .u64 l], .int .i64 k, .int .i64 f] = some dv ∧ Wk drops dv (ref10.Col.out [.i r, .i c, .l l, .i k, .i f])) : Known Tryz.prog 81 ref10.Col.spec := by
  refine ⟨meets_entry (E := ref10.Col.E) (env_ok hk _ _ _) Tryz.func81 (show Tryz.f81.body = some (bodyOf Tryz.f81) by kernel_rfl) fun ats dvs he hp => ?_, call_enter Tryz.func81 (by kernel_rfl) (show Tryz.f81.body = some (bodyOf Tryz.f81) by kernel_rfl)⟩
  obtain ⟨_, _, _, _, rfl, rfl, hs0, he0⟩ := he.st_inv
  obtain ⟨r, _, _, rfl, rfl, he1⟩ := hs0.i_inv
  obtain ⟨c, _, _, rfl, rfl, he2⟩ := he1.i_inv
  obtain ⟨l, _, _, rfl, rfl, he3⟩ := he2.s_inv
  obtain ⟨rfl, rfl⟩ := he3.nil_inv
  obtain ⟨k, _, _, rfl, rfl, he4⟩ := he0.i_inv
  obtain ⟨f, _, _, rfl, rfl, he5⟩ := he4.i_inv
  obtain ⟨rfl, rfl⟩ := he5.nil_inv
  exact h r c l k f hp

def ref10.Mul.hint : Nat → Option LoopHint
  | 0 => some { keep := [2, 3, 4, 5, 6], objs := [], boxes := [2, 3, 4, 5] }
  | 2 => some { keep := [2, 3, 4, 5, 6, 7], objs := [], boxes := [2, 3, 4, 5] }
  | _ => none
noncomputable def ref10.Mul.tab : List (Nat × Entry) := [(132, ref09.Dot.spec), (81, ref10.Col.spec), (80, ref10.Row.spec), (55, ref10.With.spec), (28, ref10.Zeros.spec)]
noncomputable def ref10.Mul.E : Env := envOf (tabOf ref10.Mul.tab) (fun _ => false) ref10.Mul.hint (fun _ => none)
noncomputable def ref10.Mul.L0 (N M : Nat) (r : Int) (c : Int) (l : List Int) (p : Int) (q : Int) (m : List Int) (p6 : Int) (p5_1 : List Int) : Option DV := loopAt ref10.Mul.E N Tryz.f75 (bodyOf Tryz.f75) [1, 1, 0, 1, 0] [] M ⟨mkT 37 [(2, .ptr 2 0 0), (3, .ptr 3 0 0), (4, .ptr 4 0 0), (5, .ptr 5 0 0), (6, .int .i64 p6)], [(2, false, .box [.int .i64 r, .int .i64 c, .ints .arg .u64 l]), (3, false, .box [.int .i64 p, .int .i64 q, .ints .arg .u64 m]), (4, false, .box [.int .i64 (0 : Int), .int .i64 (0 : Int), .nil]), (5, false, .box [.int .i64 r, .int .i64 q, .ints .fresh .u64 p5_1])]⟩
noncomputable def ref10.Mul.L1 (N M0 M : Nat) (r : Int) (c : Int) (l : List Int) (p : Int) (q : Int) (m : List Int) (p7 : Int) (p5 : List Int) (p6_1 : Int) : Option DV := loopAt ref10.Mul.E N Tryz.f75 (bodyOf Tryz.f75) [1, 1, 0, 1, 0, 0, 1, 0, 0, 1, 0] [M0] M ⟨mkT 37 [(2, .ptr 2 0 0), (3, .ptr 3 0 0), (4, .ptr 4 0 0), (5, .ptr 5 0 0), (6, .int .i64 p6_1), (7, .int .i64 p7)], [(2, false, .box [.int .i64 r, .int .i64 c, .ints .arg .u64 l]), (3, false, .box [.int .i64 p, .int .i64 q, .ints .arg .u64 m]), (4, false, .box [.int .i64 (0 : Int), .int .i64 (0 : Int), .nil]), (5, false, .box [.int .i64 r, .int .i64 q, .ints .fresh .u64 p5])]⟩
theorem ref10.Mul.L0_step (N M : Nat) (r : Int) (c : Int) (l : List Int) (p : Int) (q : Int) (m : List Int) (p6 : Int) (p5_1 : List Int) : ref10.Mul.L0 N (M + 1) r c l p q m p6 p5_1 =
  bif (ltI p6 r) then
  ref10.Mul.L1 N M N r c l p q m (0 : Int) p5_1 p6
  else some (.agg [.int .i64 r, .int .i64 q, .ints .fresh .u64 p5_1]) := by kernel_rfl
theorem ref10.Mul.L1_step (N M0 M : Nat) (r : Int) (c : Int) (l : List Int) (p : Int) (q : Int) (m : List Int) (p7 : Int) (p5 : List Int) (p6_1 : Int) : ref10.Mul.L1 N M0 (M + 1) r c l p q m p7 p5 p6_1 =
  bif (ltI p7 q) then
  bif (rowPre r c l p6_1) then
  bif (colPre p q m p7 && decide ((0 : Int) = 0)) then
  bif ((fitB (rowI c l p6_1) (colI p q m p7) && allU64 (rowI c l p6_1)) && allU64 (colI p q m p7)) then
  bif (atPre r q p5 p6_1 p7) then
  ref10.Mul.L1 N M0 M r c l p q m (w_i64 (p7 + (1 : Int))) (List.set p5 (Int.toNat (p6_1 * q + p7)) (dotI (rowI c l p6_1) (colI p q m p7))) p6_1
  else none
  else none
  else none
  else none
  else ref10.Mul.L0 N M0 r c l p q m (w_i64 (p6_1 + (1 : Int))) p5 :=
  Eq.trans (by kernel_rfl)
  (ifE (ifS (tt15 (rowPre r c l p6_1)) (ifS (tt15 (colPre p q m p7 && decide ((0 : Int) = 0))) (ifS (tt15 ((fitB (rowI c l p6_1) (colI p q m p7) && allU64 (rowI c l p6_1)) && allU64 (colI p q m p7))) (ifS (tt15 (atPre r q p5 p6_1 p7)) rfl rfl) rfl) rfl) rfl) rfl)
theorem ref10.Mul.ev (N : Nat) (r : Int) (c : Int) (l : List Int) (p : Int) (q : Int) (m : List Int) : funD ref10.Mul.E N Tryz.f75 (bodyOf Tryz.f75) [.agg [.int .i64 r, .int .i64 c, .ints .arg .u64 l], .agg [.int .i64 p, .int .i64 q, .ints .arg .u64 m]] =
  bif (sizeB r && sizeB q) then
  ref10.Mul.L0 N N r c l p q m (0 : Int) (grid (Int.toNat r) (Int.toNat q) (fun _ _ => 0))
  else none := by kernel_rfl
theorem ref10.Mul.known_of (hk : Knowns Tryz.prog ref10.Mul.tab) (h : ∀ (r : Int) (c : Int) (l : List Int) (p : Int) (q : Int) (m : List Int), ref10.Mul.pre [.i r, .i c, .l l, .i p, .i q, .l m] = true → ∃ N dv drops, funD ref10.Mul.E N Tryz.f75 (bodyOf Tryz.f75) [.agg [.int .i64 r, .int .i64 c, .ints .arg .u64 l], .agg [.int .i64 p, .int .i64 q, .ints .arg .u64 m]] = some dv ∧ Wk drops dv (ref10.Mul.out [.i r, .i c, .l l, .i p, .i q, .l m])) : Known Tryz.prog 75 ref10.Mul.spec := by
  refine ⟨meets_entry (E := ref10.Mul.E) (env_ok hk _ _ _) Tryz.func75 (show Tryz.f75.body = some (bodyOf Tryz.f75) by kernel_rfl) fun ats dvs he hp => ?_, call_enter Tryz.func75 (by kernel_rfl) (show Tryz.f75.body = some (bodyOf Tryz.f75) by kernel_rfl)⟩
  obtain ⟨_, _, _, _, rfl, rfl, hs0, he0⟩ := he.st_inv
  obtain ⟨r, _, _, rfl, rfl, he1⟩ := hs0.i_inv
  obtain ⟨c, _, _, rfl, rfl, he2⟩ := he1.i_inv
  obtain ⟨l, _, _, rfl, rfl, he3⟩ := he2.s_inv
  obtain ⟨rfl, rfl⟩ := he3.nil_inv
  obtain ⟨_, _, _, _, rfl, rfl, hs4, he4⟩ := he0.st_inv
  obtain ⟨p, _, _, rfl, rfl, he5⟩ := hs4.i_inv
  obtain ⟨q, _, _, rfl, rfl, he6⟩ := he5.i_inv
  obtain ⟨m, _, _, rfl, rfl, he7⟩ := he6.s_inv
  obtain ⟨rfl, rfl⟩ := he7.nil_inv
  obtain ⟨rfl, rfl⟩ := he4.nil_inv
  exact h r c l p q m hp

def ref10.Turn.hint : Nat → Option LoopHint
  | 0 => some { keep := [1, 2, 3, 4], objs := [], boxes := [1, 2, 3] }
  | 2 => some { keep := [1, 2, 3, 4, 5], objs := [], boxes := [1, 2, 3] }
  | _ => none
noncomputable def ref10.Turn.tab : List (Nat × Entry) := [(52, ref10.At.spec), (55, ref10.With.spec), (28, ref10.Zeros.spec)]
noncomputable def ref10.Turn.E : Env := envOf (tabOf ref10.Turn.tab) (fun _ => false) ref10.Turn.hint (fun _ => none)
noncomputable def ref10.Turn.L0 (N M : Nat) (r : Int) (c : Int) (l : List Int) (p4 : Int) (p3_1 : List Int) : Option DV := loopAt ref10.Turn.E N Tryz.f29 (bodyOf Tryz.f29) [1, 1, 0, 1, 0] [] M ⟨mkT 32 [(1, .ptr 1 0 0), (2, .ptr 2 0 0), (3, .ptr 3 0 0), (4, .int .i64 p4)], [(1, false, .box [.int .i64 r, .int .i64 c, .ints .arg .u64 l]), (2, false, .box [.int .i64 (0 : Int), .int .i64 (0 : Int), .nil]), (3, false, .box [.int .i64 c, .int .i64 r, .ints .fresh .u64 p3_1])]⟩
noncomputable def ref10.Turn.L1 (N M0 M : Nat) (r : Int) (c : Int) (l : List Int) (p5 : Int) (p3 : List Int) (p4_1 : Int) : Option DV := loopAt ref10.Turn.E N Tryz.f29 (bodyOf Tryz.f29) [1, 1, 0, 1, 0, 0, 1, 0, 0, 1, 0] [M0] M ⟨mkT 32 [(1, .ptr 1 0 0), (2, .ptr 2 0 0), (3, .ptr 3 0 0), (4, .int .i64 p4_1), (5, .int .i64 p5)], [(1, false, .box [.int .i64 r, .int .i64 c, .ints .arg .u64 l]), (2, false, .box [.int .i64 (0 : Int), .int .i64 (0 : Int), .nil]), (3, false, .box [.int .i64 c, .int .i64 r, .ints .fresh .u64 p3])]⟩
theorem ref10.Turn.L0_step (N M : Nat) (r : Int) (c : Int) (l : List Int) (p4 : Int) (p3_1 : List Int) : ref10.Turn.L0 N (M + 1) r c l p4 p3_1 =
  bif (ltI p4 r) then
  ref10.Turn.L1 N M N r c l (0 : Int) p3_1 p4
  else some (.agg [.int .i64 c, .int .i64 r, .ints .fresh .u64 p3_1]) := by kernel_rfl
theorem ref10.Turn.L1_step (N M0 M : Nat) (r : Int) (c : Int) (l : List Int) (p5 : Int) (p3 : List Int) (p4_1 : Int) : ref10.Turn.L1 N M0 (M + 1) r c l p5 p3 p4_1 =
  bif (ltI p5 c) then
  bif (atPre r c l p4_1 p5) then
  bif (atPre c r p3 p5 p4_1) then
  ref10.Turn.L1 N M0 M r c l (w_i64 (p5 + (1 : Int))) (List.set p3 (Int.toNat (p5 * r + p4_1)) (atI c l p4_1 p5)) p4_1
  else none
  else none
  else ref10.Turn.L0 N M0 r c l (w_i64 (p4_1 + (1 : Int))) p3 :=
  Eq.trans (by kernel_rfl)
  (ifE (ifS (tt15 (atPre r c l p4_1 p5)) (ifS (tt15 (atPre c r p3 p5 p4_1)) rfl rfl) rfl) rfl)
theorem ref10.Turn.ev (N : Nat) (r : Int) (c : Int) (l : List Int) : funD ref10.Turn.E N Tryz.f29 (bodyOf Tryz.f29) [.agg [.int .i64 r, .int .i64 c, .ints .arg .u64 l]] =
  bif (sizeB c && sizeB r) then
  ref10.Turn.L0 N N r c l (0 : Int) (grid (Int.toNat c) (Int.toNat r) (fun _ _ => 0))
  else none := by kernel_rfl
theorem ref10.Turn.known_of (hk : Knowns Tryz.prog ref10.Turn.tab) (h : ∀ (r : Int) (c : Int) (l : List Int), ref10.Turn.pre [.i r, .i c, .l l] = true → ∃ N dv drops, funD ref10.Turn.E N Tryz.f29 (bodyOf Tryz.f29) [.agg [.int .i64 r, .int .i64 c, .ints .arg .u64 l]] = some dv ∧ Wk drops dv (ref10.Turn.out [.i r, .i c, .l l])) : Known Tryz.prog 29 ref10.Turn.spec := by
  refine ⟨meets_entry (E := ref10.Turn.E) (env_ok hk _ _ _) Tryz.func29 (show Tryz.f29.body = some (bodyOf Tryz.f29) by kernel_rfl) fun ats dvs he hp => ?_, call_enter Tryz.func29 (by kernel_rfl) (show Tryz.f29.body = some (bodyOf Tryz.f29) by kernel_rfl)⟩
  obtain ⟨_, _, _, _, rfl, rfl, hs0, he0⟩ := he.st_inv
  obtain ⟨r, _, _, rfl, rfl, he1⟩ := hs0.i_inv
  obtain ⟨c, _, _, rfl, rfl, he2⟩ := he1.i_inv
  obtain ⟨l, _, _, rfl, rfl, he3⟩ := he2.s_inv
  obtain ⟨rfl, rfl⟩ := he3.nil_inv
  obtain ⟨rfl, rfl⟩ := he0.nil_inv
  exact h r c l hp

def ref10.Part.hint : Nat → Option LoopHint
  | 0 => some { keep := [1, 2, 3, 4, 5, 10, 11, 12], objs := [], boxes := [5, 10, 11] }
  | 2 => some { keep := [1, 2, 3, 4, 5, 10, 11, 12, 13], objs := [], boxes := [5, 10, 11] }
  | _ => none
noncomputable def ref10.Part.tab : List (Nat × Entry) := [(52, ref10.At.spec), (55, ref10.With.spec), (28, ref10.Zeros.spec)]
noncomputable def ref10.Part.E : Env := envOf (tabOf ref10.Part.tab) (fun _ => false) ref10.Part.hint (fun _ => none)
noncomputable def ref10.Part.L0 (N M : Nat) (r : Int) (c : Int) (l : List Int) (x : Int) (y : Int) (a : Int) (b : Int) (p12 : Int) (p11_1 : List Int) : Option DV := loopAt ref10.Part.E N Tryz.f93 (bodyOf Tryz.f93) [1, 1, 0, 1, 0] [] M ⟨mkT 40 [(1, .int .i64 x), (2, .int .i64 y), (3, .int .i64 a), (4, .int .i64 b), (5, .ptr 5 0 0), (10, .ptr 10 0 0), (11, .ptr 11 0 0), (12, .int .i64 p12)], [(5, false, .box [.int .i64 r, .int .i64 c, .ints .arg .u64 l]), (10, false, .box [.int .i64 (0 : Int), .int .i64 (0 : Int), .nil]), (11, false, .box [.int .i64 a, .int .i64 b, .ints .fresh .u64 p11_1])]⟩
noncomputable def ref10.Part.L1 (N M0 M : Nat) (r : Int) (c : Int) (l : List Int) (x : Int) (y : Int) (a : Int) (b : Int) (p13 : Int) (p11 : List Int) (p12_1 : Int) : Option DV := loopAt ref10.Part.E N Tryz.f93 (bodyOf Tryz.f93) [1, 1, 0, 1, 0, 0, 1, 0, 0, 1, 0] [M0] M ⟨mkT 40 [(1, .int .i64 x), (2, .int .i64 y), (3, .int .i64 a), (4, .int .i64 b), (5, .ptr 5 0 0), (10, .ptr 10 0 0), (11, .ptr 11 0 0), (12, .int .i64 p12_1), (13, .int .i64 p13)], [(5, false, .box [.int .i64 r, .int .i64 c, .ints .arg .u64 l]), (10, false, .box [.int .i64 (0 : Int), .int .i64 (0 : Int), .nil]), (11, false, .box [.int .i64 a, .int .i64 b, .ints .fresh .u64 p11])]⟩
theorem ref10.Part.L0_step (N M : Nat) (r : Int) (c : Int) (l : List Int) (x : Int) (y : Int) (a : Int) (b : Int) (p12 : Int) (p11_1 : List Int) : ref10.Part.L0 N (M + 1) r c l x y a b p12 p11_1 =
  bif (ltI p12 a) then
  ref10.Part.L1 N M N r c l x y a b (0 : Int) p11_1 p12
  else some (.agg [.int .i64 a, .int .i64 b, .ints .fresh .u64 p11_1]) := by kernel_rfl
theorem ref10.Part.L1_step (N M0 M : Nat) (r : Int) (c : Int) (l : List Int) (x : Int) (y : Int) (a : Int) (b : Int) (p13 : Int) (p11 : List Int) (p12_1 : Int) : ref10.Part.L1 N M0 (M + 1) r c l x y a b p13 p11 p12_1 =
  bif (ltI p13 b) then
  bif (atPre r c l (w_i64 (x + p12_1)) (w_i64 (y + p13))) then
  bif (atPre a b p11 p12_1 p13) then
  ref10.Part.L1 N M0 M r c l x y a b (w_i64 (p13 + (1 : Int))) (List.set p11 (Int.toNat (p12_1 * b + p13)) (atI c l (w_i64 (x + p12_1)) (w_i64 (y + p13)))) p12_1
  else none
  else none
  else ref10.Part.L0 N M0 r c l x y a b (w_i64 (p12_1 + (1 : Int))) p11 :=
  Eq.trans (by kernel_rfl)
  (ifE (ifS (tt15 (atPre r c l (w_i64 (x + p12_1)) (w_i64 (y + p13)))) (ifS (tt15 (atPre a b p11 p12_1 p13)) rfl rfl) rfl) rfl)
theorem ref10.Part.ev (N : Nat) (r : Int) (c : Int) (l : List Int) (x : Int) (y : Int) (a : Int) (b : Int) : funD ref10.Part.E N Tryz.f93 (bodyOf Tryz.f93) [.agg [.int .i64 r, .int .i64 c, .ints .arg .u64 l], .int .i64 x, .int .i64 y, .int .i64 a, .int .i64 b] =
  bif (sizeB a && sizeB b) then
  ref10.Part.L0 N N r c l x y a b (0 : Int) (grid (Int.toNat a) (Int.toNat b) (fun _ _ => 0))
  else none := by kernel_rfl
theorem ref10.Part.known_of (hk : Knowns Tryz.prog ref10.Part.tab) (h : ∀ (r : Int) (c : Int) (l : List Int) (x : Int) (y : Int) (a : Int) (b : Int), ref10.Part.pre [.i r, .i c, .l l, .i x, .i y, .i a, .i b] = true → ∃ N dv drops, funD ref10.Part.E N Tryz.f93 (bodyOf Tryz.f93) [.agg [.int .i64 r, .int .i64 c, .ints .arg .u64 l], .int .i64 x, .int .i64 y, .int .i64 a, .int .i64 b] = some dv ∧ Wk drops dv (ref10.Part.out [.i r, .i c, .l l, .i x, .i y, .i a, .i b])) : Known Tryz.prog 93 ref10.Part.spec := by
  refine ⟨meets_entry (E := ref10.Part.E) (env_ok hk _ _ _) Tryz.func93 (show Tryz.f93.body = some (bodyOf Tryz.f93) by kernel_rfl) fun ats dvs he hp => ?_, call_enter Tryz.func93 (by kernel_rfl) (show Tryz.f93.body = some (bodyOf Tryz.f93) by kernel_rfl)⟩
  obtain ⟨_, _, _, _, rfl, rfl, hs0, he0⟩ := he.st_inv
  obtain ⟨r, _, _, rfl, rfl, he1⟩ := hs0.i_inv
  obtain ⟨c, _, _, rfl, rfl, he2⟩ := he1.i_inv
  obtain ⟨l, _, _, rfl, rfl, he3⟩ := he2.s_inv
  obtain ⟨rfl, rfl⟩ := he3.nil_inv
  obtain ⟨x, _, _, rfl, rfl, he4⟩ := he0.i_inv
  obtain ⟨y, _, _, rfl, rfl, he5⟩ := he4.i_inv
  obtain ⟨a, _, _, rfl, rfl, he6⟩ := he5.i_inv
  obtain ⟨b, _, _, rfl, rfl, he7⟩ := he6.i_inv
  obtain ⟨rfl, rfl⟩ := he7.nil_inv
  exact h r c l x y a b hp
end EqRef10
end Go.Proofs.S1

/- Package dioptraref10: what its functions answer. -/
namespace Go.Proofs.S1
open Go Go.Den Go.Rnd Go.Proofs
open EqRef10

theorem ref10.Right.known : Known Tryz.prog 65 ref10.Right.spec := ref10.Right.known_of .nil fun r c l _ => by
  refine ⟨0, ref10.Right.out [.i r, .i c, .l l], [], ?_, .bool⟩
  have e : (bif (bif (bif (bif (leI (0 : Int) r) then (leI r (6 : Int)) else false) then (leI (0 : Int) c) else false) then (leI c (6 : Int)) else false) then ((List.length l : Int) == (w_i64 (r * c))) else false) = rightB r c l := by
    have := chk_code r c l
    have h : (bif (bif (bif (bif (leI (0 : Int) r) then (leI r (6 : Int)) else false) then (leI (0 : Int) c) else false) then (leI c (6 : Int)) else false) then ((List.length l : Int) == (w_i64 (r * c))) else false) = !(((!(sizeB r)) || (!(sizeB c))) || ((List.length l : Int) != (w_i64 (r * c)))) := by
      unfold sizeB bne
      rw [leI_eq, leI_eq, leI_eq, leI_eq]
      cases decide (0 ≤ r) <;> cases decide (r ≤ 6) <;> cases decide (0 ≤ c) <;> cases decide (c ≤ 6) <;> cases ((List.length l : Int) == (w_i64 (r * c))) <;> rfl
    rw [h, this, Bool.not_not]
  rw [ref10.Right.ev, e]; rfl

theorem ref10.At.known : Known Tryz.prog 52 ref10.At.spec := ref10.At.known_of .nil fun r c l i k hp => by
  obtain ⟨e, h1, h2⟩ := at_code (R := r) (show atPre r c l i k = true from hp)
  refine ⟨0, ref10.At.out [.i r, .i c, .l l, .i i, .i k], [], ?_, .int⟩
  rw [ref10.At.ev, e, decide_eq_true h1, decide_eq_true h2]
  rfl

theorem wk_own {drops : List Nat} {i : Nat} {e : TypeId} {a b : Int} {l : List Int} (h : i ∈ drops) : Wk drops (.agg [.int .i64 a, .int .i64 b, .ints (.own i e) .u64 l]) (.agg [.int .i64 a, .int .i64 b, .ints .fresh .u64 l]) :=
  Wk.aggL (.cons .int (.cons .int (.cons (.drop _ _ _ _ h) .nil)))
theorem wk_fresh {drops : List Nat} {a b : Int} {l : List Int} : Wk drops (.agg [.int .i64 a, .int .i64 b, .ints .fresh .u64 l]) (.agg [.int .i64 a, .int .i64 b, .ints .fresh .u64 l]) :=
  Wk.aggL (.cons .int (.cons .int (.cons .freshL .nil)))

theorem ref10.Zeros.known : Known Tryz.prog 28 ref10.Zeros.spec := ref10.Zeros.known_of .nil fun a b hp => by
  obtain ⟨ha, hb⟩ := and_true_iff.1 (show (sizeB a && sizeB b) = true from hp)
  obtain ⟨A, rfl, hA⟩ := size_nat ha
  obtain ⟨B, rfl, hB⟩ := size_nat hb
  have hm := small_mul (a := (A : Int)) (b := (B : Int)) (by omega) (by omega) (by omega) (by omega)
  have e : ((A : Int) * (B : Int)).toNat = A * B := by rw [← Int.natCast_mul, Int.toNat_natCast]
  refine ⟨0, .agg [.int .i64 (A : Int), .int .i64 (B : Int), .ints (.own 10 37) .u64 (grid A B fun _ _ => 0)], [10], ?_, wk_own (List.mem_singleton.2 rfl)⟩
  rw [ref10.Zeros.ev, w_i64_in (by omega) (by omega), decide_eq_true hm.1, decide_eq_true (Int.le_refl _), decide_eq_true (show (A : Int) * (B : Int) ≤ (lim : Int) by unfold lim; omega), e, grid_const]
  rfl

theorem ref10.With.known : Known Tryz.prog 55 ref10.With.spec := ref10.With.known_of .nil fun r c l i k b hp => by
  obtain ⟨_, _, _, _, _, _, _, h8⟩ := cdec_eq.1 (show atPre r c l i k = true from hp)
  obtain ⟨e, g1, g2⟩ := at_code (R := r) (show atPre r c l i k = true from hp)
  refine ⟨0, .agg [.int .i64 r, .int .i64 c, .ints (.own 13 37) .u64 (List.set l (i * c + k).toNat b)], [13], ?_, wk_own (List.mem_singleton.2 rfl)⟩
  rw [ref10.With.ev, e, List.nil_append, decide_eq_true (show 0 + l.length ≤ lim by unfold lim; omega), decide_eq_true g1, decide_eq_true g2, decide_eq_true (show (i * c + k).toNat < l.length by omega)]
  rfl

theorem done_set {r c i k : Nat} (hk : k < c) {d d' : Nat → Nat → Bool} {f : Nat → Nat → Int} {x : Int} (hx : x = f i k)
    (h : ∀ a b, a < r → b < c → (d' a b = true ↔ d a b = true ∨ (a = i ∧ b = k))) :
    List.set (grid r c fun a b => if d a b = true then f a b else 0) (Int.toNat ((i : Int) * (c : Int) + (k : Int))) x = grid r c fun a b => if d' a b = true then f a b else 0 := by
  have e : ((i : Int) * (c : Int) + (k : Int)).toNat = i * c + k := by rw [← Int.natCast_mul, ← Int.natCast_add, Int.toNat_natCast]
  rw [e, grid_set hk]
  refine grid_congr fun a b ha hb => ?_
  have h := h a b ha hb
  by_cases hab : a = i ∧ b = k
  · rw [if_pos hab, if_pos (h.2 (.inr hab)), hx, hab.1, hab.2]
  · rw [if_neg hab]
    by_cases hd : d a b = true
    · rw [if_pos hd, if_pos (h.2 (.inl hd))]
    · rw [if_neg hd, if_neg (fun k => (h.1 k).elim hd hab)]

theorem ref10.Copy.known : Known Tryz.prog 22 ref10.Copy.spec := ref10.Copy.known_of .nil fun r c l hp => by
  have hp := cdec_eq.1 (show okLen l = true from hp)
  refine ⟨0, .agg [.int .i64 r, .int .i64 c, .ints (.own 10 37) .u64 l], [10], ?_, wk_own (List.mem_singleton.2 rfl)⟩
  rw [ref10.Copy.ev, List.nil_append, decide_eq_true (show 0 + l.length ≤ lim by unfold lim; omega)]
  rfl

theorem same_code (r c : Int) (l : List Int) (p q : Int) (m : List Int) : (bif (bif (r == p) then (c == q) else false) then (sameL l m) else false) = sameM r c l p q m := by
  unfold sameM sameL
  have e1 : (r == p) = decide (r = p) := by rw [Bool.eq_iff_iff]; simp
  have e2 : (c == q) = decide (c = q) := by rw [Bool.eq_iff_iff]; simp
  rw [e1, e2]
  cases decide (r = p) <;> cases decide (c = q) <;> cases decide (l = m) <;> rfl

theorem ref10.Same.known : Known Tryz.prog 24 ref10.Same.spec := ref10.Same.known_of (.cons ref09.Same.known .nil) fun r c l p q m hp => by
  have hp : okLen l = true := hp
  refine ⟨0, ref10.Same.out [.i r, .i c, .l l, .i p, .i q, .l m], [], ?_, .bool⟩
  rw [ref10.Same.ev, hp, Bool.or_true, cond_true, same_code]
  rfl

theorem ref_col_loop (N : Nat) {R C K : Nat} {l : List Int} (r6 : R ≤ 6) (c6 : C ≤ 6) (hl : l.length = R * C) (hk : K < C) : ∀ (k i F : Nat), i + k = R → k < F →
    ref10.Col.L0 N F (R : Int) (C : Int) l (K : Int) (i : Int) ((List.range i).map fun j : Nat => atI (C : Int) l (j : Int) (K : Int)) = some (.ints (.own 100007 37) .u64 (colI (R : Int) (C : Int) l (K : Int))) := by
  intro k
  induction k with
  | zero =>
    intro i F hi hF
    obtain ⟨F, rfl⟩ : ∃ G, F = G + 1 := ⟨F - 1, by omega⟩
    rw [ref10.Col.L0_step, ltI_eq, decide_eq_false (by omega), cond_false]
    unfold colI
    rw [Int.toNat_natCast, show i = R by omega]
  | succ k ih =>
    intro i F hi hF
    obtain ⟨F, rfl⟩ : ∃ G, F = G + 1 := ⟨F - 1, by omega⟩
    have d : decide (((List.range i).map fun j : Nat => atI (C : Int) l (j : Int) (K : Int)).length + 1 ≤ lim) = true := by
      refine decide_eq_true ?_
      rw [List.length_map, List.length_range]; unfold lim; omega
    rw [ref10.Col.L0_step, ltI_eq, decide_eq_true (by omega), cond_true, atPre_of r6 c6 hl (show i < R by omega) hk, cond_true, d, cond_true, w_i64_in (by omega) (by omega)]
    have := ih (i + 1) F (by omega) (by omega)
    rw [List.range_succ, List.map_append] at this
    exact this

theorem ref10.Col.known : Known Tryz.prog 81 ref10.Col.spec := ref10.Col.known_of (.cons ref10.At.known .nil) fun r c l k f hp => by
  obtain ⟨h0, hf⟩ := and_true_iff.1 hp
  obtain rfl := of_decide_eq_true hf
  obtain ⟨hr, hi⟩ := and_true_iff.1 h0
  have hi := cdec_eq.1 hi
  obtain ⟨R, C, rfl, rfl, r6, c6, hl⟩ := right_nat hr
  obtain ⟨K, rfl⟩ : ∃ j : Nat, k = j := ⟨k.toNat, by omega⟩
  refine ⟨8, .ints (.own 100007 37) .u64 (colI (R : Int) (C : Int) l (K : Int)), [100007], ?_, .drop _ _ _ _ (List.mem_singleton.2 rfl)⟩
  rw [ref10.Col.ev]
  exact ref_col_loop 8 r6 c6 hl (by omega) R 0 8 (by omega) (by omega)

theorem ref10.Row.known : Known Tryz.prog 80 ref10.Row.spec := ref10.Row.known_of .nil fun r c l i hp => by
  obtain ⟨hr, hi⟩ := and_true_iff.1 (show rowPre r c l i = true from hp)
  have hi := cdec_eq.1 hi
  obtain ⟨R, C, rfl, rfl, r6, c6, hl⟩ := right_nat hr
  obtain ⟨I, rfl⟩ : ∃ k : Nat, i = k := ⟨i.toNat, by omega⟩
  have hm := small_mul (a := (I : Int)) (b := (C : Int)) (by omega) (by omega) (by omega) (by omega)
  have hm2 := small_mul (a := (I : Int) + 1) (b := (C : Int)) (by omega) (by omega) (by omega) (by omega)
  have hle : (I + 1) * C ≤ R * C := Nat.mul_le_mul_right C (by omega)
  have hle2 : I * C ≤ (I + 1) * C := Nat.mul_le_mul_right C (by omega)
  have e1 : (I : Int) * (C : Int) = ((I * C : Nat) : Int) := (Int.natCast_mul _ _).symm
  have e2 : ((I : Int) + 1) * (C : Int) = (((I + 1) * C : Nat) : Int) := by rw [Int.natCast_mul]; rfl
  refine ⟨0, ref10.Row.out [.i (R : Int), .i (C : Int), .l l, .i (I : Int)], [], ?_, .argL⟩
  rw [ref10.Row.ev, w_i64_in (x := (I : Int) + 1) (by omega) (by omega), w_i64_in (x := (I : Int) * (C : Int)) (by omega) (by omega), w_i64_in (x := ((I : Int) + 1) * (C : Int)) (by omega) (by omega)]
  have d1 : decide ((0 : Int) ≤ (I : Int) * (C : Int)) = true := decide_eq_true (by omega)
  have d2 : decide ((I : Int) * (C : Int) ≤ ((I : Int) + 1) * (C : Int)) = true := decide_eq_true (by rw [e1, e2]; omega)
  have d3 : decide ((0 : Int) ≤ ((I : Int) + 1) * (C : Int)) = true := decide_eq_true (by omega)
  have d4 : decide (((I : Int) + 1) * (C : Int) ≤ (l.length : Int)) = true := decide_eq_true (by rw [e2]; omega)
  rw [d1, d2, d3, d4]
  rfl

end Go.Proofs.S1

/- Package dioptraref10: matrices that are filled place by place. Printed by gen_fill.py. -/
namespace Go.Proofs.S1
open Go Go.Den Go.Rnd Go.Proofs
open EqRef10

def dR (i k a b : Nat) : Bool := decide (a < i ∨ (a = i ∧ b < k))
def dC (i k a b : Nat) : Bool := decide (b < i ∨ (b = i ∧ a < k))
def fill (r c : Nat) (f : Nat → Nat → Int) (d : Nat → Nat → Bool) : List Int := grid r c fun a b => if d a b = true then f a b else 0
theorem fill_length (r c : Nat) (f : Nat → Nat → Int) (d : Nat → Nat → Bool) : (fill r c f d).length = r * c := grid_length _ _ _
theorem fill_set {r c i k : Nat} (hk : k < c) {d d' : Nat → Nat → Bool} {f : Nat → Nat → Int} {x : Int} (hx : x = f i k) (h : ∀ a b, a < r → b < c → (d' a b = true ↔ d a b = true ∨ (a = i ∧ b = k))) :
    List.set (fill r c f d) (Int.toNat ((i : Int) * (c : Int) + (k : Int))) x = fill r c f d' := done_set hk hx h
theorem fill_congr {r c : Nat} {f : Nat → Nat → Int} {d d' : Nat → Nat → Bool} (h : ∀ a b, a < r → b < c → (d a b = true ↔ d' a b = true)) : fill r c f d = fill r c f d' := by
  refine grid_congr fun a b ha hb => ?_
  have := h a b ha hb
  by_cases hd : d a b = true
  · rw [if_pos hd, if_pos (this.1 hd)]
  · rw [if_neg hd, if_neg (fun k => hd (this.2 k))]
theorem fill_all {r c : Nat} {f : Nat → Nat → Int} {d : Nat → Nat → Bool} (h : ∀ a b, a < r → b < c → d a b = true) : fill r c f d = grid r c f :=
  grid_congr fun a b ha hb => by rw [if_pos (h a b ha hb)]
theorem fill_none {r c : Nat} {f : Nat → Nat → Int} {d : Nat → Nat → Bool} (h : ∀ a b, a < r → b < c → ¬ d a b = true) : fill r c f d = grid r c fun _ _ => 0 :=
  grid_congr fun a b ha hb => by rw [if_neg (h a b ha hb)]

theorem fillMul.inner (N : Nat) {R C Q : Nat} {l : List Int} {p : Int} {m : List Int} (h6 : R ≤ 6 ∧ C ≤ 6 ∧ Q ≤ 6) (hl : l.length = R * C) (hr : rightB (R : Int) (C : Int) l = true) (hm : rightB p (Q : Int) m = true) (ep : p = (C : Int)) (al : allU64 l = true) (am : allU64 m = true) {F : Nat → Nat → Int} (hF : F = fun (i j : Nat) => dotI (rowI (C : Int) l (i : Int)) (colI p (Q : Int) m (j : Int))) {i : Nat} (hi : i < R) : ∀ (k j M0 M : Nat), j + k = Q → k < M →
    ref10.Mul.L1 N M0 M (R : Int) (C : Int) l p (Q : Int) m (j : Int) (fill R Q F (dR i j)) (i : Int) = ref10.Mul.L0 N M0 (R : Int) (C : Int) l p (Q : Int) m ((i + 1 : Nat) : Int) (fill R Q F (dR (i + 1) 0)) := by
  intro k
  induction k with
  | zero =>
    intro j M0 M hj hM
    obtain ⟨M, rfl⟩ : ∃ G, M = G + 1 := ⟨M - 1, by omega⟩
    have e : fill R Q F (dR i j) = fill R Q F (dR (i + 1) 0) := fill_congr fun a b ha hb => by simp only [dR, decide_eq_true_eq]; omega
    rw [ref10.Mul.L1_step, ltI_eq, decide_eq_false (by omega), cond_false, w_i64_in (by omega) (by omega), e]
    rfl
  | succ k ih =>
    intro j M0 M hj hM
    obtain ⟨M, rfl⟩ : ∃ G, M = G + 1 := ⟨M - 1, by omega⟩
    have c1 : rowPre (R : Int) (C : Int) l (i : Int) = true := and_true_iff.2 ⟨hr, cdec_eq.2 (by omega)⟩
    have c2 : colPre p (Q : Int) m (j : Int) = true := and_true_iff.2 ⟨hm, cdec_eq.2 (by omega)⟩
    have c3 : fitB (rowI (C : Int) l (i : Int)) (colI p (Q : Int) m (j : Int)) = true := fit_iff.2 ⟨by rw [row_length hl hi, ep, col_length], by rw [row_length hl hi]; omega⟩
    have c9 : atPre (R : Int) (Q : Int) (fill R Q F (dR i j)) (i : Int) (j : Int) = true := atPre_of (by omega) (by omega) (fill_length _ _ _ _) (by omega) (by omega)
    rw [ref10.Mul.L1_step, ltI_eq, decide_eq_true (by omega), cond_true, c1, cond_true, c2, decide_eq_true (rfl : (0 : Int) = 0), Bool.and_self, cond_true, c3, row_all al, col_all am, Bool.and_self, Bool.and_self, cond_true, c9, cond_true, w_i64_in (x := (j : Int) + 1) (by omega) (by omega), fill_set (d' := dR i (j + 1)) (by omega) (by rw [hF]) (fun a b ha hb => by simp only [dR, decide_eq_true_eq]; omega)]
    exact ih (j + 1) M0 M (by omega) (by omega)

theorem fillMul.outer (N : Nat) (hN : 6 < N) {R C Q : Nat} {l : List Int} {p : Int} {m : List Int} (h6 : R ≤ 6 ∧ C ≤ 6 ∧ Q ≤ 6) (hl : l.length = R * C) (hr : rightB (R : Int) (C : Int) l = true) (hm : rightB p (Q : Int) m = true) (ep : p = (C : Int)) (al : allU64 l = true) (am : allU64 m = true) {F : Nat → Nat → Int} (hF : F = fun (i j : Nat) => dotI (rowI (C : Int) l (i : Int)) (colI p (Q : Int) m (j : Int))) : ∀ (k i M : Nat), i + k = R → k < M →
    ref10.Mul.L0 N M (R : Int) (C : Int) l p (Q : Int) m (i : Int) (fill R Q F (dR i 0)) = some (.agg [.int .i64 (R : Int), .int .i64 (Q : Int), .ints .fresh .u64 (grid R Q F)]) := by
  intro k
  induction k with
  | zero =>
    intro i M hi hM
    obtain ⟨M, rfl⟩ : ∃ G, M = G + 1 := ⟨M - 1, by omega⟩
    rw [ref10.Mul.L0_step, ltI_eq, decide_eq_false (by omega), cond_false, fill_all (fun a b ha hb => by simp only [dR, decide_eq_true_eq]; omega)]
  | succ k ih =>
    intro i M hi hM
    obtain ⟨M, rfl⟩ : ∃ G, M = G + 1 := ⟨M - 1, by omega⟩
    have n := fillMul.inner N h6 hl hr hm ep al am hF (show i < R by omega) Q 0 M N (by omega) (by omega)
    rw [ref10.Mul.L0_step, ltI_eq, decide_eq_true (by omega), cond_true]
    exact n.trans (ih (i + 1) M (by omega) (by omega))

theorem fillPart.inner (N : Nat) {r c x y : Int} {l : List Int} {A B : Nat} (h6 : A ≤ 6 ∧ B ≤ 6) (hr : rightB r c l = true) (hp : partB r c x y (A : Int) (B : Int) = true) {F : Nat → Nat → Int} (hF : F = fun (i j : Nat) => atI c l (x + (i : Int)) (y + (j : Int))) {i : Nat} (hi : i < A) : ∀ (k j M0 M : Nat), j + k = B → k < M →
    ref10.Part.L1 N M0 M r c l x y (A : Int) (B : Int) (j : Int) (fill A B F (dR i j)) (i : Int) = ref10.Part.L0 N M0 r c l x y (A : Int) (B : Int) ((i + 1 : Nat) : Int) (fill A B F (dR (i + 1) 0)) := by
  intro k
  induction k with
  | zero =>
    intro j M0 M hj hM
    obtain ⟨M, rfl⟩ : ∃ G, M = G + 1 := ⟨M - 1, by omega⟩
    have e : fill A B F (dR i j) = fill A B F (dR (i + 1) 0) := fill_congr fun a b ha hb => by simp only [dR, decide_eq_true_eq]; omega
    rw [ref10.Part.L1_step, ltI_eq, decide_eq_false (by omega), cond_false, w_i64_in (by omega) (by omega), e]
    rfl
  | succ k ih =>
    intro j M0 M hj hM
    obtain ⟨M, rfl⟩ : ∃ G, M = G + 1 := ⟨M - 1, by omega⟩
    have hs := right_iff.1 hr
    have hq := of_decide_eq_true hp
    have c1 : atPre r c l (x + (i : Int)) (y + (j : Int)) = true := at_of_right hr (by omega) (by omega) (by omega) (by omega) r
    have c9 : atPre (A : Int) (B : Int) (fill A B F (dR i j)) (i : Int) (j : Int) = true := atPre_of (by omega) (by omega) (fill_length _ _ _ _) (by omega) (by omega)
    rw [ref10.Part.L1_step, ltI_eq, decide_eq_true (by omega), cond_true, w_i64_in (x := x + (i : Int)) (by omega) (by omega), w_i64_in (x := y + (j : Int)) (by omega) (by omega), c1, cond_true, c9, cond_true, w_i64_in (x := (j : Int) + 1) (by omega) (by omega), fill_set (d' := dR i (j + 1)) (by omega) (by rw [hF]) (fun a b ha hb => by simp only [dR, decide_eq_true_eq]; omega)]
    exact ih (j + 1) M0 M (by omega) (by omega)

theorem fillPart.outer (N : Nat) (hN : 6 < N) {r c x y : Int} {l : List Int} {A B : Nat} (h6 : A ≤ 6 ∧ B ≤ 6) (hr : rightB r c l = true) (hp : partB r c x y (A : Int) (B : Int) = true) {F : Nat → Nat → Int} (hF : F = fun (i j : Nat) => atI c l (x + (i : Int)) (y + (j : Int))) : ∀ (k i M : Nat), i + k = A → k < M →
    ref10.Part.L0 N M r c l x y (A : Int) (B : Int) (i : Int) (fill A B F (dR i 0)) = some (.agg [.int .i64 (A : Int), .int .i64 (B : Int), .ints .fresh .u64 (grid A B F)]) := by
  intro k
  induction k with
  | zero =>
    intro i M hi hM
    obtain ⟨M, rfl⟩ : ∃ G, M = G + 1 := ⟨M - 1, by omega⟩
    rw [ref10.Part.L0_step, ltI_eq, decide_eq_false (by omega), cond_false, fill_all (fun a b ha hb => by simp only [dR, decide_eq_true_eq]; omega)]
  | succ k ih =>
    intro i M hi hM
    obtain ⟨M, rfl⟩ : ∃ G, M = G + 1 := ⟨M - 1, by omega⟩
    have n := fillPart.inner N h6 hr hp hF (show i < A by omega) B 0 M N (by omega) (by omega)
    rw [ref10.Part.L0_step, ltI_eq, decide_eq_true (by omega), cond_true]
    exact n.trans (ih (i + 1) M (by omega) (by omega))

theorem fillTurn.inner (N : Nat) {R C : Nat} {l : List Int} (h6 : R ≤ 6 ∧ C ≤ 6) (hl : l.length = R * C) {F : Nat → Nat → Int} (hF : F = fun (i j : Nat) => atI (C : Int) l (j : Int) (i : Int)) {i : Nat} (hi : i < R) : ∀ (k j M0 M : Nat), j + k = C → k < M →
    ref10.Turn.L1 N M0 M (R : Int) (C : Int) l (j : Int) (fill C R F (dC i j)) (i : Int) = ref10.Turn.L0 N M0 (R : Int) (C : Int) l ((i + 1 : Nat) : Int) (fill C R F (dC (i + 1) 0)) := by
  intro k
  induction k with
  | zero =>
    intro j M0 M hj hM
    obtain ⟨M, rfl⟩ : ∃ G, M = G + 1 := ⟨M - 1, by omega⟩
    have e : fill C R F (dC i j) = fill C R F (dC (i + 1) 0) := fill_congr fun a b ha hb => by simp only [dC, decide_eq_true_eq]; omega
    rw [ref10.Turn.L1_step, ltI_eq, decide_eq_false (by omega), cond_false, w_i64_in (by omega) (by omega), e]
    rfl
  | succ k ih =>
    intro j M0 M hj hM
    obtain ⟨M, rfl⟩ : ∃ G, M = G + 1 := ⟨M - 1, by omega⟩
    have c1 : atPre (R : Int) (C : Int) l (i : Int) (j : Int) = true := atPre_of h6.1 h6.2 hl hi (by omega)
    have c9 : atPre (C : Int) (R : Int) (fill C R F (dC i j)) (j : Int) (i : Int) = true := atPre_of (by omega) (by omega) (fill_length _ _ _ _) (by omega) (by omega)
    rw [ref10.Turn.L1_step, ltI_eq, decide_eq_true (by omega), cond_true, c1, cond_true, c9, cond_true, w_i64_in (x := (j : Int) + 1) (by omega) (by omega), fill_set (d' := dC i (j + 1)) (by omega) (by rw [hF]) (fun a b ha hb => by simp only [dC, decide_eq_true_eq]; omega)]
    exact ih (j + 1) M0 M (by omega) (by omega)

theorem fillTurn.outer (N : Nat) (hN : 6 < N) {R C : Nat} {l : List Int} (h6 : R ≤ 6 ∧ C ≤ 6) (hl : l.length = R * C) {F : Nat → Nat → Int} (hF : F = fun (i j : Nat) => atI (C : Int) l (j : Int) (i : Int)) : ∀ (k i M : Nat), i + k = R → k < M →
    ref10.Turn.L0 N M (R : Int) (C : Int) l (i : Int) (fill C R F (dC i 0)) = some (.agg [.int .i64 (C : Int), .int .i64 (R : Int), .ints .fresh .u64 (grid C R F)]) := by
  intro k
  induction k with
  | zero =>
    intro i M hi hM
    obtain ⟨M, rfl⟩ : ∃ G, M = G + 1 := ⟨M - 1, by omega⟩
    rw [ref10.Turn.L0_step, ltI_eq, decide_eq_false (by omega), cond_false, fill_all (fun a b ha hb => by simp only [dC, decide_eq_true_eq]; omega)]
  | succ k ih =>
    intro i M hi hM
    obtain ⟨M, rfl⟩ : ∃ G, M = G + 1 := ⟨M - 1, by omega⟩
    have n := fillTurn.inner N h6 hl hF (show i < R by omega) C 0 M N (by omega) (by omega)
    rw [ref10.Turn.L0_step, ltI_eq, decide_eq_true (by omega), cond_true]
    exact n.trans (ih (i + 1) M (by omega) (by omega))

theorem ref10.Turn.known : Known Tryz.prog 29 ref10.Turn.spec := ref10.Turn.known_of (.cons ref10.At.known (.cons ref10.With.known (.cons ref10.Zeros.known .nil))) fun r c l hp => by
  have hr : rightB r c l = true := hp
  obtain ⟨R, C, rfl, rfl, r6, c6, hl⟩ := right_nat hr
  refine ⟨8, .agg [.int .i64 (C : Int), .int .i64 (R : Int), .ints .fresh .u64 (grid C R fun (i j : Nat) => atI (C : Int) l (j : Int) (i : Int))], [], ?_, wk_fresh⟩
  have n := fillTurn.outer 8 (by omega) ⟨r6, c6⟩ hl rfl R 0 8 (by omega) (by omega)
  rw [fill_none (fun a b ha hb => by simp only [dC, decide_eq_true_eq]; omega)] at n
  rw [ref10.Turn.ev, size_of r6, size_of c6, Bool.and_self, cond_true, Int.toNat_natCast, Int.toNat_natCast]
  exact n

theorem ref10.Part.known : Known Tryz.prog 93 ref10.Part.spec := ref10.Part.known_of (.cons ref10.At.known (.cons ref10.With.known (.cons ref10.Zeros.known .nil))) fun r c l x y a b hp => by
  obtain ⟨hr, hq⟩ := and_true_iff.1 (show (rightB r c l && partB r c x y a b) = true from hp)
  obtain ⟨s1, s2⟩ := part_sizes hr hq
  obtain ⟨A, rfl, hA⟩ := size_nat s1
  obtain ⟨B, rfl, hB⟩ := size_nat s2
  refine ⟨8, .agg [.int .i64 (A : Int), .int .i64 (B : Int), .ints .fresh .u64 (grid A B fun (i j : Nat) => atI c l (x + (i : Int)) (y + (j : Int)))], [], ?_, wk_fresh⟩
  have n := fillPart.outer 8 (by omega) ⟨hA, hB⟩ hr hq rfl A 0 8 (by omega) (by omega)
  rw [fill_none (fun a b ha hb => by simp only [dR, decide_eq_true_eq]; omega)] at n
  rw [ref10.Part.ev, s1, s2, Bool.and_self, cond_true, Int.toNat_natCast, Int.toNat_natCast]
  exact n

theorem ref10.Mul.known : Known Tryz.prog 75 ref10.Mul.spec := ref10.Mul.known_of (.cons ref09.Dot.known (.cons ref10.Col.known (.cons ref10.Row.known (.cons ref10.With.known (.cons ref10.Zeros.known .nil))))) fun r c l p q m hp => by
  obtain ⟨h1, h2⟩ := and_true_iff.1 (show ((rightB r c l && rightB p q m) && ((allU64 l && allU64 m) && decide (c = p))) = true from hp)
  obtain ⟨hr, hm⟩ := and_true_iff.1 h1
  obtain ⟨h3, h4⟩ := and_true_iff.1 h2
  obtain ⟨al, am⟩ := and_true_iff.1 h3
  have ec := of_decide_eq_true h4
  obtain ⟨R, C, rfl, rfl, r6, c6, hl⟩ := right_nat hr
  obtain ⟨P, Q, rfl, rfl, p6, q6, _⟩ := right_nat hm
  refine ⟨8, .agg [.int .i64 (R : Int), .int .i64 (Q : Int), .ints .fresh .u64 (grid R Q fun (i j : Nat) => dotI (rowI (C : Int) l (i : Int)) (colI (P : Int) (Q : Int) m (j : Int)))], [], ?_, wk_fresh⟩
  have n := fillMul.outer 8 (by omega) ⟨r6, c6, q6⟩ hl hr hm ec.symm al am rfl R 0 8 (by omega) (by omega)
  rw [fill_none (fun a b ha hb => by simp only [dR, decide_eq_true_eq]; omega)] at n
  rw [ref10.Mul.ev, size_of r6, size_of q6, Bool.and_self, cond_true, Int.toNat_natCast, Int.toNat_natCast]
  exact n

theorem fillEye (N : Nat) {n : Nat} (h6 : n ≤ 6) : ∀ (k i M : Nat), i + k = n → k < M →
    ref10.Eye.L0 N M (n : Int) (i : Int) (fill n n (fun (a b : Nat) => eyeI (a : Int) (b : Int)) fun a b => decide (a = b ∧ a < i)) = some (.agg [.int .i64 (n : Int), .int .i64 (n : Int), .ints .fresh .u64 (grid n n fun (a b : Nat) => eyeI (a : Int) (b : Int))]) := by
  intro k
  induction k with
  | zero =>
    intro i M hi hM
    obtain ⟨M, rfl⟩ : ∃ G, M = G + 1 := ⟨M - 1, by omega⟩
    have e : fill n n (fun (a b : Nat) => eyeI (a : Int) (b : Int)) (fun a b => decide (a = b ∧ a < i)) = grid n n fun (a b : Nat) => eyeI (a : Int) (b : Int) := by
      refine grid_congr fun a b ha hb => ?_
      by_cases h : a = b
      · rw [if_pos (decide_eq_true ⟨h, by omega⟩)]
      · rw [if_neg (fun k => h (of_decide_eq_true k).1)]
        unfold eyeI
        rw [if_neg (by omega)]
    rw [ref10.Eye.L0_step, ltI_eq, decide_eq_false (by omega), cond_false, e]
  | succ k ih =>
    intro i M hi hM
    obtain ⟨M, rfl⟩ : ∃ G, M = G + 1 := ⟨M - 1, by omega⟩
    have c9 : atPre (n : Int) (n : Int) (fill n n (fun (a b : Nat) => eyeI (a : Int) (b : Int)) fun a b => decide (a = b ∧ a < i)) (i : Int) (i : Int) = true := atPre_of h6 h6 (fill_length _ _ _ _) (by omega) (by omega)
    have one : (4607182418800017408 : Int) = (fun (a b : Nat) => eyeI (a : Int) (b : Int)) i i := (if_pos rfl).symm
    rw [ref10.Eye.L0_step, ltI_eq, decide_eq_true (by omega), cond_true, c9, cond_true, w_i64_in (by omega) (by omega), fill_set (d' := fun a b => decide (a = b ∧ a < i + 1)) (by omega) one (fun a b ha hb => by simp only [decide_eq_true_eq]; omega)]
    exact ih (i + 1) M (by omega) (by omega)

theorem ref10.Eye.known : Known Tryz.prog 26 ref10.Eye.spec := ref10.Eye.known_of (.cons ref10.With.known (.cons ref10.Zeros.known .nil)) fun n hp => by
  have hp : sizeB n = true := hp
  obtain ⟨n, rfl, h6⟩ := size_nat hp
  refine ⟨8, .agg [.int .i64 (n : Int), .int .i64 (n : Int), .ints .fresh .u64 (grid n n fun (a b : Nat) => eyeI (a : Int) (b : Int))], [], ?_, wk_fresh⟩
  have e := fillEye 8 h6 n 0 8 (by omega) (by omega)
  rw [fill_none (fun a b ha hb => by simp only [decide_eq_true_eq]; omega)] at e
  rw [ref10.Eye.ev, hp, Bool.and_self, cond_true, Int.toNat_natCast]
  exact e

end Go.Proofs.S1
