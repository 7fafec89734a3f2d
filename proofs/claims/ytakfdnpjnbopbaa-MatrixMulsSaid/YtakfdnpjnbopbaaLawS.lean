/- LawS of the verified evaluator and its use for this seat (of my texts S1EqLaw10S, S1POfS, S1PLaw10S). -/
import Derived.Test.YtakfdnpjnbopbaaSpe
import Derived.Test.YtakfdnpjnbopbaaLawP

/- The evaluator's equations: matrix.Sub$1, matrix.of.Sub, matrix.Sub, dioptraref10.Zeros.own, dioptraref10.Sub, dioptralaw10.MatrixMuls. Printed by denpy.py. -/
namespace Go.Proofs.S1
open Go Go.Den Go.Rnd Go.Proofs
set_option linter.unusedVariables false
set_option maxRecDepth 100000
namespace EqLaw10S
theorem tt0 (a : Bool) : (a && true) = a := by cases a <;> rfl
theorem tt1 (a b : Bool) : (!(a && (b && true))) = (!(a && b)) := by cases a <;> cases b <;> rfl
theorem tt2 (a b : Bool) : ((a && b) && true) = (a && b) := by cases a <;> cases b <;> rfl
theorem tt3 (a b : Bool) : (((!(bif a then b else false)) || ((bif a then b else false) == true)) && true) = true := by cases a <;> cases b <;> rfl
theorem tt4 (a b : Bool) : ((!((bif a then b else false) == true)) || true) = true := by cases a <;> cases b <;> rfl
theorem tt5 (a : Bool) : (((!a) || (a == true)) && true) = true := by cases a <;> rfl
theorem tt6 (a b : Bool) : ((!(a == true)) || ((((!(a == true)) || (a == true)) && (((!(a == true)) || (a == true)) && (((!(a == true)) || (a == true)) && true))) && b)) = ((!a) || b) := by cases a <;> cases b <;> rfl
theorem tt7 (a : Bool) : ((!(a == true)) || true) = true := by cases a <;> rfl
theorem tt8 (a b : Bool) : ((!(a == true)) || ((((!(a == true)) || (a == true)) && (((!(a == true)) || (a == true)) && (((!(a == true)) || (a == true)) && (((!(a == true)) || (a == true)) && true)))) && b)) = ((!a) || b) := by cases a <;> cases b <;> rfl
theorem tt9 (a b : Bool) : (bif a then b else false) = (a && b) := by cases a <;> cases b <;> rfl
theorem tt10 (a : Bool) : ((!(a == true)) || ((((!(a == true)) || (a == true)) && (((!(a == true)) || (a == true)) && true)) && true)) = true := by cases a <;> rfl
theorem tt11 (a : Bool) : ((!(a == true)) || ((((!(a == true)) || (a == true)) && true) && true)) = true := by cases a <;> rfl
theorem tt12 (a b : Bool) : (bif a then true else b) = (a || b) := by cases a <;> cases b <;> rfl
theorem tt13 (a : Bool) : ((!(!a)) || (a == false)) = true := by cases a <;> rfl
theorem tt14 (a : Bool) : ((!(a == false)) || ((((!(a == false)) || (a == false)) && true) && true)) = true := by cases a <;> rfl
theorem tt15 (a : Bool) : ((!(a == false)) || true) = true := by cases a <;> rfl
noncomputable def matrix.Sub_1.tab : List (Nat × Entry) := [(44, matrix.get.spec), (53, vector.Sub.spec)]
noncomputable def matrix.Sub_1.E : Env := envOf (tabOf matrix.Sub_1.tab) (fun _ => false) (fun _ => none) (fun _ => none)
theorem matrix.Sub_1.ev (N : Nat) (i : Int) (k : Int) (r : Int) (c : Int) (l : List Int) (p : Int) (q : Int) (m : List Int) : funD matrix.Sub_1.E N Try.f52 (bodyOf Try.f52) [.int .i64 i, .int .i64 k, .cellp [.int .i64 r, .int .i64 c, .ints .arg .u64 l], .cellp [.int .i64 p, .int .i64 q, .ints .arg .u64 m]] =
  bif (atPre r c l i k) then
    bif (atPre p q m i k) then
      bif (inU64 (atI c l i k) && inU64 (atI q m i k)) then
        some (.int .u64 (subBI (atI c l i k) (atI q m i k)))
      else none
    else none
  else none :=
  Eq.trans (b := bif ((atPre r c l i k) && true) then
    bif ((atPre p q m i k) && true) then
      bif ((inU64 (atI c l i k) && inU64 (atI q m i k)) && true) then
        some (.int .u64 (subBI (atI c l i k) (atI q m i k)))
      else none
    else none
  else none) (by kernel_rfl)
  (ifS (tt0 _) (ifS (tt0 _) (ifS (tt0 _) rfl rfl) rfl) rfl)
theorem matrix.Sub_1.known_of (hk : Knowns Try.prog matrix.Sub_1.tab) (h : ∀ (i : Int) (k : Int) (r : Int) (c : Int) (l : List Int) (p : Int) (q : Int) (m : List Int), matrix.Sub_1.pre [.i i, .i k, .i r, .i c, .l l, .i p, .i q, .l m] = true → ∃ N dv drops, funD matrix.Sub_1.E N Try.f52 (bodyOf Try.f52) [.int .i64 i, .int .i64 k, .cellp [.int .i64 r, .int .i64 c, .ints .arg .u64 l], .cellp [.int .i64 p, .int .i64 q, .ints .arg .u64 m]] = some dv ∧ Wk drops dv (matrix.Sub_1.out [.i i, .i k, .i r, .i c, .l l, .i p, .i q, .l m])) : Known Try.prog 52 matrix.Sub_1.spec := by
  refine ⟨meets_entry (E := matrix.Sub_1.E) (env_ok hk _ _ _) Try.func52 (show Try.f52.body = some (bodyOf Try.f52) by kernel_rfl) fun ats dvs he hp => ?_, call_enter Try.func52 (by kernel_rfl) (show Try.f52.body = some (bodyOf Try.f52) by kernel_rfl)⟩
  obtain ⟨i, _, _, rfl, rfl, he0⟩ := he.i_inv
  obtain ⟨k, _, _, rfl, rfl, he1⟩ := he0.i_inv
  obtain ⟨_, _, _, _, rfl, rfl, hs2, he2⟩ := he1.cp_inv
  obtain ⟨r, _, _, rfl, rfl, he3⟩ := hs2.i_inv
  obtain ⟨c, _, _, rfl, rfl, he4⟩ := he3.i_inv
  obtain ⟨l, _, _, rfl, rfl, he5⟩ := he4.s_inv
  obtain ⟨rfl, rfl⟩ := he5.nil_inv
  obtain ⟨_, _, _, _, rfl, rfl, hs6, he6⟩ := he2.cp_inv
  obtain ⟨p, _, _, rfl, rfl, he7⟩ := hs6.i_inv
  obtain ⟨q, _, _, rfl, rfl, he8⟩ := he7.i_inv
  obtain ⟨m, _, _, rfl, rfl, he9⟩ := he8.s_inv
  obtain ⟨rfl, rfl⟩ := he9.nil_inv
  obtain ⟨rfl, rfl⟩ := he6.nil_inv
  exact h i k r c l p q m hp

def matrix.of.Sub.hint : Nat → Option LoopHint
  | 0 => some { keep := [1, 2, 6, 7, 13, 14], objs := [(8, 2, 108002, .ints 39 .u64 [])], boxes := [6, 7] }
  | 2 => some { keep := [1, 2, 6, 7, 8, 13, 14, 17, 18], objs := [(8, 2, 108002, .ints 39 .u64 [])], boxes := [6, 7] }
  | _ => none
noncomputable def matrix.of.Sub.tab : List (Nat × Entry) := [(52, matrix.Sub_1.spec)]
noncomputable def matrix.of.Sub.E : Env := envOf (tabOf matrix.of.Sub.tab) (fun _ => false) matrix.of.Sub.hint (fun _ => none)
noncomputable def matrix.of.Sub.L0 (N M : Nat) (a : Int) (b : Int) (r : Int) (c : Int) (l : List Int) (p : Int) (q : Int) (m : List Int) (p14 : Int) (p2_1 : List Int) : Option DV := loopAt matrix.of.Sub.E N Try.f39 (bodyOf Try.f39) [1, 1, 0, 1, 0] [] M ⟨mkT 33 [(1, .int .i64 b), (2, .fn 52 [] [.cellp [.int .i64 r, .int .i64 c, .ints .arg .u64 l], .cellp [.int .i64 p, .int .i64 q, .ints .arg .u64 m]]), (6, .ptr 6 0 0), (7, .ptr 7 0 0), (13, .int .i64 a), (14, .int .i64 p14)], [(6, false, .box [.int .i64 (0 : Int), .int .i64 (0 : Int), .nil]), (7, false, .box [.int .i64 a, .int .i64 b, .oref 108002]), (108002, false, .ints 39 .u64 p2_1)]⟩
noncomputable def matrix.of.Sub.L1 (N M0 M : Nat) (a : Int) (b : Int) (r : Int) (c : Int) (l : List Int) (p : Int) (q : Int) (m : List Int) (p8 : Int) (p14_1 : Int) (p18 : Int) (p2 : List Int) : Option DV := loopAt matrix.of.Sub.E N Try.f39 (bodyOf Try.f39) [1, 1, 0, 1, 0, 0, 1, 1, 0, 0, 1, 1, 0] [M0] M ⟨mkT 33 [(1, .int .i64 b), (2, .fn 52 [] [.cellp [.int .i64 r, .int .i64 c, .ints .arg .u64 l], .cellp [.int .i64 p, .int .i64 q, .ints .arg .u64 m]]), (6, .ptr 6 0 0), (7, .ptr 7 0 0), (8, .int .i64 p8), (13, .int .i64 a), (14, .int .i64 p14_1), (17, .int .i64 b), (18, .int .i64 p18)], [(6, false, .box [.int .i64 (0 : Int), .int .i64 (0 : Int), .nil]), (7, false, .box [.int .i64 a, .int .i64 b, .oref 108002]), (108002, false, .ints 39 .u64 p2)]⟩
theorem matrix.of.Sub.L0_step (N M : Nat) (a : Int) (b : Int) (r : Int) (c : Int) (l : List Int) (p : Int) (q : Int) (m : List Int) (p14 : Int) (p2_1 : List Int) : matrix.of.Sub.L0 N (M + 1) a b r c l p q m p14 p2_1 =
  bif (ltI p14 a) then
    matrix.of.Sub.L1 N M N a b r c l p q m p14 p14 (0 : Int) p2_1
  else some (.agg [.int .i64 a, .int .i64 b, .ints (.own 108002 39) .u64 p2_1]) := by kernel_rfl
theorem matrix.of.Sub.L1_step (N M0 M : Nat) (a : Int) (b : Int) (r : Int) (c : Int) (l : List Int) (p : Int) (q : Int) (m : List Int) (p8 : Int) (p14_1 : Int) (p18 : Int) (p2 : List Int) : matrix.of.Sub.L1 N M0 (M + 1) a b r c l p q m p8 p14_1 p18 p2 =
  bif (ltI p18 b) then
    bif (((atPre r c l p8 p18 && atPre p q m p8 p18) && allU64 l) && allU64 m) then
      bif (decide ((List.length p2) + 1 ≤ lim)) then
        matrix.of.Sub.L1 N M0 M a b r c l p q m p8 p14_1 (w_i64 (p18 + (1 : Int))) (p2 ++ [(subBI (atI c l p8 p18) (atI q m p8 p18))])
      else none
    else none
  else matrix.of.Sub.L0 N M0 a b r c l p q m (w_i64 (p14_1 + (1 : Int))) p2 :=
  Eq.trans (b := bif (ltI p18 b) then
    bif ((((atPre r c l p8 p18 && atPre p q m p8 p18) && allU64 l) && allU64 m) && true) then
      bif ((decide ((List.length p2) + 1 ≤ lim)) && true) then
        matrix.of.Sub.L1 N M0 M a b r c l p q m p8 p14_1 (w_i64 (p18 + (1 : Int))) (p2 ++ [(subBI (atI c l p8 p18) (atI q m p8 p18))])
      else none
    else none
  else matrix.of.Sub.L0 N M0 a b r c l p q m (w_i64 (p14_1 + (1 : Int))) p2) (by kernel_rfl)
  (ifE (ifS (tt0 _) (ifS (tt0 _) rfl rfl) rfl) rfl)
theorem matrix.of.Sub.ev (N : Nat) (a : Int) (b : Int) (r : Int) (c : Int) (l : List Int) (p : Int) (q : Int) (m : List Int) : funD matrix.of.Sub.E N Try.f39 (bodyOf Try.f39) [.int .i64 a, .int .i64 b, .fn 52 [] [.cellp [.int .i64 r, .int .i64 c, .ints .arg .u64 l], .cellp [.int .i64 p, .int .i64 q, .ints .arg .u64 m]]] =
  matrix.of.Sub.L0 N N a b r c l p q m (0 : Int) [] := by kernel_rfl
theorem matrix.of.Sub.known_of (hk : Knowns Try.prog matrix.of.Sub.tab) (h : ∀ (a : Int) (b : Int) (r : Int) (c : Int) (l : List Int) (p : Int) (q : Int) (m : List Int), matrix.of.Sub.pre [.i a, .i b, .i r, .i c, .l l, .i p, .i q, .l m] = true → ∃ N dv drops, funD matrix.of.Sub.E N Try.f39 (bodyOf Try.f39) [.int .i64 a, .int .i64 b, .fn 52 [] [.cellp [.int .i64 r, .int .i64 c, .ints .arg .u64 l], .cellp [.int .i64 p, .int .i64 q, .ints .arg .u64 m]]] = some dv ∧ Wk drops dv (matrix.of.Sub.out [.i a, .i b, .i r, .i c, .l l, .i p, .i q, .l m])) : Known Try.prog 39 matrix.of.Sub.spec := by
  refine ⟨meets_entry (E := matrix.of.Sub.E) (env_ok hk _ _ _) Try.func39 (show Try.f39.body = some (bodyOf Try.f39) by kernel_rfl) fun ats dvs he hp => ?_, call_enter Try.func39 (by kernel_rfl) (show Try.f39.body = some (bodyOf Try.f39) by kernel_rfl)⟩
  obtain ⟨a, _, _, rfl, rfl, he0⟩ := he.i_inv
  obtain ⟨b, _, _, rfl, rfl, he1⟩ := he0.i_inv
  obtain ⟨_, _, _, _, rfl, rfl, hs2, he2⟩ := he1.fn_inv
  obtain ⟨_, _, _, _, rfl, rfl, hs3, he3⟩ := hs2.cp_inv
  obtain ⟨r, _, _, rfl, rfl, he4⟩ := hs3.i_inv
  obtain ⟨c, _, _, rfl, rfl, he5⟩ := he4.i_inv
  obtain ⟨l, _, _, rfl, rfl, he6⟩ := he5.s_inv
  obtain ⟨rfl, rfl⟩ := he6.nil_inv
  obtain ⟨_, _, _, _, rfl, rfl, hs7, he7⟩ := he3.cp_inv
  obtain ⟨p, _, _, rfl, rfl, he8⟩ := hs7.i_inv
  obtain ⟨q, _, _, rfl, rfl, he9⟩ := he8.i_inv
  obtain ⟨m, _, _, rfl, rfl, he10⟩ := he9.s_inv
  obtain ⟨rfl, rfl⟩ := he10.nil_inv
  obtain ⟨rfl, rfl⟩ := he7.nil_inv
  obtain ⟨rfl, rfl⟩ := he2.nil_inv
  exact h a b r c l p q m hp

noncomputable def matrix.Sub.tab : List (Nat × Entry) := [(39, matrix.of.Sub.spec), (46, matrix.two.spec)]
noncomputable def matrix.Sub.E : Env := envOf (tabOf matrix.Sub.tab) (fun _ => false) (fun _ => none) (fun _ => none)
theorem matrix.Sub.ev (N : Nat) (r : Int) (c : Int) (l : List Int) (p : Int) (q : Int) (m : List Int) : funD matrix.Sub.E N Try.f30 (bodyOf Try.f30) [.agg [.int .i64 r, .int .i64 c, .ints .arg .u64 l], .agg [.int .i64 p, .int .i64 q, .ints .arg .u64 m]] =
  bif ((twoI r c l p q m) != (0 : Int)) then
    some (.tup [.agg [.int .i64 (0 : Int), .int .i64 (0 : Int), .nil], .int .i64 (twoI r c l p q m)])
  else bif (!((r == p) && (c == q))) then
    some (.tup [.agg [.int .i64 (0 : Int), .int .i64 (0 : Int), .nil], .int .i64 (3 : Int)])
  else bif ((sizeB r && sizeB c) && ((rightB r c l && rightB p q m) && (allU64 l && allU64 m)) && decide (r = r ∧ c = c ∧ p = r ∧ q = c)) then
    some (.tup [.agg [.int .i64 r, .int .i64 c, .ints .fresh .u64 (grid (Int.toNat r) (Int.toNat c) (fun j1 j2 => subBI (atI c l j1 j2) (atI q m j1 j2)))], .int .i64 (0 : Int)])
  else none :=
  Eq.trans (b := bif ((twoI r c l p q m) != (0 : Int)) then
    some (.tup [.agg [.int .i64 (0 : Int), .int .i64 (0 : Int), .nil], .int .i64 (twoI r c l p q m)])
  else bif (!((r == p) && ((c == q) && true))) then
    some (.tup [.agg [.int .i64 (0 : Int), .int .i64 (0 : Int), .nil], .int .i64 (3 : Int)])
  else bif ((sizeB r && sizeB c) && ((rightB r c l && rightB p q m) && (allU64 l && allU64 m)) && decide (r = r ∧ c = c ∧ p = r ∧ q = c)) then
    some (.tup [.agg [.int .i64 r, .int .i64 c, .ints .fresh .u64 (grid (Int.toNat r) (Int.toNat c) (fun j1 j2 => subBI (atI c l j1 j2) (atI q m j1 j2)))], .int .i64 (0 : Int)])
  else none) (by kernel_rfl)
  (ifE rfl (ifS (tt1 _ _) rfl rfl))
theorem matrix.Sub.known_of (hk : Knowns Try.prog matrix.Sub.tab) (h : ∀ (r : Int) (c : Int) (l : List Int) (p : Int) (q : Int) (m : List Int), matrix.Sub.pre [.i r, .i c, .l l, .i p, .i q, .l m] = true → ∃ N dv drops, funD matrix.Sub.E N Try.f30 (bodyOf Try.f30) [.agg [.int .i64 r, .int .i64 c, .ints .arg .u64 l], .agg [.int .i64 p, .int .i64 q, .ints .arg .u64 m]] = some dv ∧ Wk drops dv (matrix.Sub.out [.i r, .i c, .l l, .i p, .i q, .l m])) : Known Try.prog 30 matrix.Sub.spec := by
  refine ⟨meets_entry (E := matrix.Sub.E) (env_ok hk _ _ _) Try.func30 (show Try.f30.body = some (bodyOf Try.f30) by kernel_rfl) fun ats dvs he hp => ?_, call_enter Try.func30 (by kernel_rfl) (show Try.f30.body = some (bodyOf Try.f30) by kernel_rfl)⟩
  obtain ⟨_, _, _, _, rfl, rfl, hs0, he0⟩ := he.st_inv
  obtain ⟨r, _, _, rfl, rfl, he1⟩ := hs0.i_inv
  obtain ⟨c, _, _, rfl, rfl, he2⟩ := he1.i_inv
  obtain ⟨l, _, _, rfl, rfl, he3⟩ := he2.s_inv
  obtain ⟨rfl, rfl⟩ := he3.nil_inv
  obtain ⟨_, _, _, _, rfl, rfl, hs4, he4⟩ := he0.st_inv
  obtain ⟨p, _, _, rfl, rfl, he5⟩ := hs4.i_inv
  obtain ⟨q, _, _, rfl, rfl, he6⟩ := he5.i_inv
  obtain ⟨m, _, _, rfl, rfl, he7⟩ := he6.s_inv
  obtain ⟨rfl, rfl⟩ := he7.nil_inv
  obtain ⟨rfl, rfl⟩ := he4.nil_inv
  exact h r c l p q m hp

noncomputable def ref10.Zeros.own.tab : List (Nat × Entry) := []
noncomputable def ref10.Zeros.own.E : Env := envOf (tabOf ref10.Zeros.own.tab) (fun _ => false) (fun _ => none) (fun _ => none)
theorem ref10.Zeros.own.ev (N : Nat) (a : Int) (b : Int) : funD ref10.Zeros.own.E N Try.f15 (bodyOf Try.f15) [.int .i64 a, .int .i64 b] =
  bif (((decide ((0 : Int) ≤ (w_i64 (a * b)))) && (decide ((w_i64 (a * b)) ≤ (w_i64 (a * b))))) && (decide ((w_i64 (a * b)) ≤ lim))) then
    some (.agg [.int .i64 a, .int .i64 b, .ints (.own 10 39) .u64 (List.replicate (Int.toNat (w_i64 (a * b))) (0 : Int))])
  else none := by kernel_rfl
theorem ref10.Zeros.own.known_of (hk : Knowns Try.prog ref10.Zeros.own.tab) (h : ∀ (a : Int) (b : Int), ref10.Zeros.own.pre [.i a, .i b] = true → ∃ N dv drops, funD ref10.Zeros.own.E N Try.f15 (bodyOf Try.f15) [.int .i64 a, .int .i64 b] = some dv ∧ Wk drops dv (ref10.Zeros.own.out [.i a, .i b])) : Known Try.prog 15 ref10.Zeros.own.spec := by
  refine ⟨meets_entry (E := ref10.Zeros.own.E) (env_ok hk _ _ _) Try.func15 (show Try.f15.body = some (bodyOf Try.f15) by kernel_rfl) fun ats dvs he hp => ?_, call_enter Try.func15 (by kernel_rfl) (show Try.f15.body = some (bodyOf Try.f15) by kernel_rfl)⟩
  obtain ⟨a, _, _, rfl, rfl, he0⟩ := he.i_inv
  obtain ⟨b, _, _, rfl, rfl, he1⟩ := he0.i_inv
  obtain ⟨rfl, rfl⟩ := he1.nil_inv
  exact h a b hp

def ref10.Sub.hint : Nat → Option LoopHint
  | 0 => some { keep := [2, 3, 4, 5, 6], objs := [(6, 2, 106002, .ints 39 .u64 [])], boxes := [2, 3, 4, 5] }
  | _ => none
noncomputable def ref10.Sub.tab : List (Nat × Entry) := [(57, ref09.Sub.spec), (15, ref10.Zeros.own.spec)]
noncomputable def ref10.Sub.E : Env := envOf (tabOf ref10.Sub.tab) (fun n => Nat.beq n 11) ref10.Sub.hint (fun _ => none)
noncomputable def ref10.Sub.L0 (N M : Nat) (r : Int) (c : Int) (l : List Int) (p : Int) (q : Int) (m : List Int) (p6 : Int) (p2 : List Int) : Option DV := loopAt ref10.Sub.E N Try.f32 (bodyOf Try.f32) [1, 1, 0, 1, 0] [] M ⟨mkT 35 [(2, .ptr 2 0 0), (3, .ptr 3 0 0), (4, .ptr 4 0 0), (5, .ptr 5 0 0), (6, .int .i64 p6)], [(2, false, .box [.int .i64 r, .int .i64 c, .ints .arg .u64 l]), (3, false, .box [.int .i64 p, .int .i64 q, .ints .arg .u64 m]), (4, false, .box [.int .i64 (0 : Int), .int .i64 (0 : Int), .nil]), (5, false, .box [.int .i64 r, .int .i64 c, .oref 106002]), (106002, false, .ints 39 .u64 p2)]⟩
theorem ref10.Sub.L0_step (N M : Nat) (r : Int) (c : Int) (l : List Int) (p : Int) (q : Int) (m : List Int) (p6 : Int) (p2 : List Int) : ref10.Sub.L0 N (M + 1) r c l p q m p6 p2 =
  bif (ltI p6 (List.length l : Int)) then
    bif ((decide (0 ≤ p6)) && (decide (p6 < (List.length l : Int)))) then
      bif ((decide (0 ≤ p6)) && (decide (p6 < (List.length m : Int)))) then
        bif (inU64 (List.getD l (Int.toNat p6) 0) && inU64 (List.getD m (Int.toNat p6) 0)) then
          bif ((decide (0 ≤ p6)) && (decide (p6 < (List.length p2 : Int)))) then
            bif (decide ((Int.toNat p6) < (List.length p2))) then
              ref10.Sub.L0 N M r c l p q m (w_i64 (p6 + (1 : Int))) (List.set p2 (Int.toNat p6) (subBI (List.getD l (Int.toNat p6) 0) (List.getD m (Int.toNat p6) 0)))
            else none
          else none
        else none
      else none
    else none
  else some (.agg [.int .i64 r, .int .i64 c, .ints (.own 106002 39) .u64 p2]) :=
  Eq.trans (b := bif (ltI p6 (List.length l : Int)) then
    bif (((decide (0 ≤ p6)) && (decide (p6 < (List.length l : Int)))) && true) then
      bif (((decide (0 ≤ p6)) && (decide (p6 < (List.length m : Int)))) && true) then
        bif ((inU64 (List.getD l (Int.toNat p6) 0) && inU64 (List.getD m (Int.toNat p6) 0)) && true) then
          bif (((decide (0 ≤ p6)) && (decide (p6 < (List.length p2 : Int)))) && true) then
            bif ((decide ((Int.toNat p6) < (List.length p2))) && true) then
              ref10.Sub.L0 N M r c l p q m (w_i64 (p6 + (1 : Int))) (List.set p2 (Int.toNat p6) (subBI (List.getD l (Int.toNat p6) 0) (List.getD m (Int.toNat p6) 0)))
            else none
          else none
        else none
      else none
    else none
  else some (.agg [.int .i64 r, .int .i64 c, .ints (.own 106002 39) .u64 p2])) (by kernel_rfl)
  (ifE (ifS (tt2 _ _) (ifS (tt2 _ _) (ifS (tt0 _) (ifS (tt2 _ _) (ifS (tt0 _) rfl rfl) rfl) rfl) rfl) rfl) rfl)
theorem ref10.Sub.ev (N : Nat) (r : Int) (c : Int) (l : List Int) (p : Int) (q : Int) (m : List Int) : funD ref10.Sub.E N Try.f32 (bodyOf Try.f32) [.agg [.int .i64 r, .int .i64 c, .ints .arg .u64 l], .agg [.int .i64 p, .int .i64 q, .ints .arg .u64 m]] =
  bif (sizeB r && sizeB c) then
    ref10.Sub.L0 N N r c l p q m (0 : Int) (grid (Int.toNat r) (Int.toNat c) (fun _ _ => 0))
  else none := by kernel_rfl
theorem ref10.Sub.known_of (hk : Knowns Try.prog ref10.Sub.tab) (h : ∀ (r : Int) (c : Int) (l : List Int) (p : Int) (q : Int) (m : List Int), ref10.Sub.pre [.i r, .i c, .l l, .i p, .i q, .l m] = true → ∃ N dv drops, funD ref10.Sub.E N Try.f32 (bodyOf Try.f32) [.agg [.int .i64 r, .int .i64 c, .ints .arg .u64 l], .agg [.int .i64 p, .int .i64 q, .ints .arg .u64 m]] = some dv ∧ Wk drops dv (ref10.Sub.out [.i r, .i c, .l l, .i p, .i q, .l m])) : Known Try.prog 32 ref10.Sub.spec := by
  refine ⟨meets_entry (E := ref10.Sub.E) (env_ok hk _ _ _) Try.func32 (show Try.f32.body = some (bodyOf Try.f32) by kernel_rfl) fun ats dvs he hp => ?_, call_enter Try.func32 (by kernel_rfl) (show Try.f32.body = some (bodyOf Try.f32) by kernel_rfl)⟩
  obtain ⟨_, _, _, _, rfl, rfl, hs0, he0⟩ := he.st_inv
  obtain ⟨r, _, _, rfl, rfl, he1⟩ := hs0.i_inv
  obtain ⟨c, _, _, rfl, rfl, he2⟩ := he1.i_inv
  obtain ⟨l, _, _, rfl, rfl, he3⟩ := he2.s_inv
  obtain ⟨rfl, rfl⟩ := he3.nil_inv
  obtain ⟨_, _, _, _, rfl, rfl, hs4, he4⟩ := he0.st_inv
  obtain ⟨p, _, _, rfl, rfl, he5⟩ := hs4.i_inv
  obtain ⟨q, _, _, rfl, rfl, he6⟩ := he5.i_inv
  obtain ⟨m, _, _, rfl, rfl, he7⟩ := he6.s_inv
  obtain ⟨rfl, rfl⟩ := he7.nil_inv
  obtain ⟨rfl, rfl⟩ := he4.nil_inv
  exact h r c l p q m hp

noncomputable def law10.MatrixMuls.tab : List (Nat × Entry) := [(14, law10.awake.spec), (16, law10.form.spec), (12, law10.told.spec), (19, matrix.Mul.spec), (30, matrix.Sub.spec), (24, ref10.Copy.own.spec), (31, ref10.Mul.spec), (32, ref10.Sub.spec)]
noncomputable def law10.MatrixMuls.E : Env := envOfS (tabOf law10.MatrixMuls.tab) (fun n => Nat.beq n 27 || Nat.beq n 29) (fun _ => none) (fun _ => none) (spoilOf 26 39)
theorem law10.MatrixMuls.ev (N : Nat) (r : Int) (c : Int) (l : List Int) (p : Int) (q : Int) (m : List Int) : funD law10.MatrixMuls.E N Try.f7 (bodyOf Try.f7) [.agg [.int .i64 r, .int .i64 c, .ints .arg .u64 l], .agg [.int .i64 p, .int .i64 q, .ints .arg .u64 m]] =
  bif ((ltI (60 : Int) (List.length l : Int)) || (ltI (60 : Int) (List.length m : Int))) then
    some (.bool true)
  else bif (okLen l) then
    bif (okLen m) then
      bif (allU64 l && allU64 m) then
        bif (allU64 l && allU64 m) then
          bif ((twoI r c l p q m) != (0 : Int)) then
            bif (okLen ((mulX r c l p q m).2.2.1)) then
              bif ((!(toldB ((mulX r c l p q m).1) ((mulX r c l p q m).2.1) ((mulX r c l p q m).2.2.1) ((mulX r c l p q m).2.2.2) (0 : Int) (0 : Int) [] (1 : Int))) || (okLen ((subX r c l p q m).2.2.1))) then
                some (.bool (bif (bif (toldB ((mulX r c l p q m).1) ((mulX r c l p q m).2.1) ((mulX r c l p q m).2.2.1) ((mulX r c l p q m).2.2.2) (0 : Int) (0 : Int) [] (1 : Int)) then (toldB ((subX r c l p q m).1) ((subX r c l p q m).2.1) ((subX r c l p q m).2.2.1) ((subX r c l p q m).2.2.2) (0 : Int) (0 : Int) [] (1 : Int)) else false) then true else false))
              else none
            else none
          else bif (c == p) then
            bif ((rightB r c l && rightB p q m) && ((allU64 l && allU64 m) && decide (c = p))) then
              bif ((r == p) && (c == q)) then
                bif ((rightB r c l && rightB p q m) && ((allU64 l && allU64 m) && decide (p = r ∧ q = c))) then
                  bif (okLen ((mulX r c l p q m).2.2.1)) then
                    bif ((!(toldB ((mulX r c l p q m).1) ((mulX r c l p q m).2.1) ((mulX r c l p q m).2.2.1) ((mulX r c l p q m).2.2.2) r q (grid (Int.toNat r) (Int.toNat q) (fun j1 j2 => dotI (rowI c l j1) (colI p q m j2))) (0 : Int))) || (okLen ((subX r c l p q m).2.2.1))) then
                      some (.bool (bif (bif (toldB ((mulX r c l p q m).1) ((mulX r c l p q m).2.1) ((mulX r c l p q m).2.2.1) ((mulX r c l p q m).2.2.2) r q (grid (Int.toNat r) (Int.toNat q) (fun j1 j2 => dotI (rowI c l j1) (colI p q m j2))) (0 : Int)) then (toldB ((subX r c l p q m).1) ((subX r c l p q m).2.1) ((subX r c l p q m).2.2.1) ((subX r c l p q m).2.2.2) r c (grid (Int.toNat r) (Int.toNat c) (fun j1 j2 => subBI (atI c l j1 j2) (atI q m j1 j2))) (0 : Int)) else false) then true else false))
                    else none
                  else none
                else none
              else bif (okLen ((mulX r c l p q m).2.2.1)) then
                bif ((!(toldB ((mulX r c l p q m).1) ((mulX r c l p q m).2.1) ((mulX r c l p q m).2.2.1) ((mulX r c l p q m).2.2.2) r q (grid (Int.toNat r) (Int.toNat q) (fun j1 j2 => dotI (rowI c l j1) (colI p q m j2))) (0 : Int))) || (okLen ((subX r c l p q m).2.2.1))) then
                  some (.bool (bif (bif (toldB ((mulX r c l p q m).1) ((mulX r c l p q m).2.1) ((mulX r c l p q m).2.2.1) ((mulX r c l p q m).2.2.2) r q (grid (Int.toNat r) (Int.toNat q) (fun j1 j2 => dotI (rowI c l j1) (colI p q m j2))) (0 : Int)) then (toldB ((subX r c l p q m).1) ((subX r c l p q m).2.1) ((subX r c l p q m).2.2.1) ((subX r c l p q m).2.2.2) (0 : Int) (0 : Int) [] (3 : Int)) else false) then true else false))
                else none
              else none
            else none
          else bif ((r == p) && (c == q)) then
            bif ((rightB r c l && rightB p q m) && ((allU64 l && allU64 m) && decide (p = r ∧ q = c))) then
              bif (okLen ((mulX r c l p q m).2.2.1)) then
                bif ((!(toldB ((mulX r c l p q m).1) ((mulX r c l p q m).2.1) ((mulX r c l p q m).2.2.1) ((mulX r c l p q m).2.2.2) (0 : Int) (0 : Int) [] (3 : Int))) || (okLen ((subX r c l p q m).2.2.1))) then
                  some (.bool (bif (bif (toldB ((mulX r c l p q m).1) ((mulX r c l p q m).2.1) ((mulX r c l p q m).2.2.1) ((mulX r c l p q m).2.2.2) (0 : Int) (0 : Int) [] (3 : Int)) then (toldB ((subX r c l p q m).1) ((subX r c l p q m).2.1) ((subX r c l p q m).2.2.1) ((subX r c l p q m).2.2.2) r c (grid (Int.toNat r) (Int.toNat c) (fun j1 j2 => subBI (atI c l j1 j2) (atI q m j1 j2))) (0 : Int)) else false) then true else false))
                else none
              else none
            else none
          else bif (okLen ((mulX r c l p q m).2.2.1)) then
            bif ((!(toldB ((mulX r c l p q m).1) ((mulX r c l p q m).2.1) ((mulX r c l p q m).2.2.1) ((mulX r c l p q m).2.2.2) (0 : Int) (0 : Int) [] (3 : Int))) || (okLen ((subX r c l p q m).2.2.1))) then
              some (.bool (bif (bif (toldB ((mulX r c l p q m).1) ((mulX r c l p q m).2.1) ((mulX r c l p q m).2.2.1) ((mulX r c l p q m).2.2.2) (0 : Int) (0 : Int) [] (3 : Int)) then (toldB ((subX r c l p q m).1) ((subX r c l p q m).2.1) ((subX r c l p q m).2.2.1) ((subX r c l p q m).2.2.2) (0 : Int) (0 : Int) [] (3 : Int)) else false) then true else false))
            else none
          else none
        else none
      else none
    else none
  else none :=
  Eq.trans (b := bif ((!((ltI (60 : Int) (List.length l : Int)) == false)) || true) then
    bif ((!((ltI (60 : Int) (List.length l : Int)) == false)) || ((((!((ltI (60 : Int) (List.length l : Int)) == false)) || ((ltI (60 : Int) (List.length l : Int)) == false)) && true) && true)) then
      bif ((!((ltI (60 : Int) (List.length l : Int)) == false)) || ((((!((ltI (60 : Int) (List.length l : Int)) == false)) || ((ltI (60 : Int) (List.length l : Int)) == false)) && true) && true)) then
        bif ((!((ltI (60 : Int) (List.length l : Int)) == false)) || ((((!((ltI (60 : Int) (List.length l : Int)) == false)) || ((ltI (60 : Int) (List.length l : Int)) == false)) && true) && true)) then
          bif ((!(!(ltI (60 : Int) (List.length l : Int)))) || ((ltI (60 : Int) (List.length l : Int)) == false)) then
            bif (bif (ltI (60 : Int) (List.length l : Int)) then true else (ltI (60 : Int) (List.length m : Int))) then
              some (.bool true)
            else bif (okLen l) then
              bif (okLen m) then
                bif (allU64 l && allU64 m) then
                  bif (allU64 l && allU64 m) then
                    bif ((twoI r c l p q m) != (0 : Int)) then
                      bif (okLen ((mulX r c l p q m).2.2.1)) then
                        bif ((!((toldB ((mulX r c l p q m).1) ((mulX r c l p q m).2.1) ((mulX r c l p q m).2.2.1) ((mulX r c l p q m).2.2.2) (0 : Int) (0 : Int) [] (1 : Int)) == true)) || true) then
                          bif ((!((toldB ((mulX r c l p q m).1) ((mulX r c l p q m).2.1) ((mulX r c l p q m).2.2.1) ((mulX r c l p q m).2.2.2) (0 : Int) (0 : Int) [] (1 : Int)) == true)) || true) then
                            bif ((!((toldB ((mulX r c l p q m).1) ((mulX r c l p q m).2.1) ((mulX r c l p q m).2.2.1) ((mulX r c l p q m).2.2.2) (0 : Int) (0 : Int) [] (1 : Int)) == true)) || true) then
                              bif ((!((toldB ((mulX r c l p q m).1) ((mulX r c l p q m).2.1) ((mulX r c l p q m).2.2.1) ((mulX r c l p q m).2.2.2) (0 : Int) (0 : Int) [] (1 : Int)) == true)) || ((((!((toldB ((mulX r c l p q m).1) ((mulX r c l p q m).2.1) ((mulX r c l p q m).2.2.1) ((mulX r c l p q m).2.2.2) (0 : Int) (0 : Int) [] (1 : Int)) == true)) || ((toldB ((mulX r c l p q m).1) ((mulX r c l p q m).2.1) ((mulX r c l p q m).2.2.1) ((mulX r c l p q m).2.2.2) (0 : Int) (0 : Int) [] (1 : Int)) == true)) && (((!((toldB ((mulX r c l p q m).1) ((mulX r c l p q m).2.1) ((mulX r c l p q m).2.2.1) ((mulX r c l p q m).2.2.2) (0 : Int) (0 : Int) [] (1 : Int)) == true)) || ((toldB ((mulX r c l p q m).1) ((mulX r c l p q m).2.1) ((mulX r c l p q m).2.2.1) ((mulX r c l p q m).2.2.2) (0 : Int) (0 : Int) [] (1 : Int)) == true)) && (((!((toldB ((mulX r c l p q m).1) ((mulX r c l p q m).2.1) ((mulX r c l p q m).2.2.1) ((mulX r c l p q m).2.2.2) (0 : Int) (0 : Int) [] (1 : Int)) == true)) || ((toldB ((mulX r c l p q m).1) ((mulX r c l p q m).2.1) ((mulX r c l p q m).2.2.1) ((mulX r c l p q m).2.2.2) (0 : Int) (0 : Int) [] (1 : Int)) == true)) && true))) && (okLen ((subX r c l p q m).2.2.1)))) then
                                bif (((!(toldB ((mulX r c l p q m).1) ((mulX r c l p q m).2.1) ((mulX r c l p q m).2.2.1) ((mulX r c l p q m).2.2.2) (0 : Int) (0 : Int) [] (1 : Int))) || ((toldB ((mulX r c l p q m).1) ((mulX r c l p q m).2.1) ((mulX r c l p q m).2.2.1) ((mulX r c l p q m).2.2.2) (0 : Int) (0 : Int) [] (1 : Int)) == true)) && true) then
                                  bif ((!((bif (toldB ((mulX r c l p q m).1) ((mulX r c l p q m).2.1) ((mulX r c l p q m).2.2.1) ((mulX r c l p q m).2.2.2) (0 : Int) (0 : Int) [] (1 : Int)) then (toldB ((subX r c l p q m).1) ((subX r c l p q m).2.1) ((subX r c l p q m).2.2.1) ((subX r c l p q m).2.2.2) (0 : Int) (0 : Int) [] (1 : Int)) else false) == true)) || true) then
                                    bif (((!(bif (toldB ((mulX r c l p q m).1) ((mulX r c l p q m).2.1) ((mulX r c l p q m).2.2.1) ((mulX r c l p q m).2.2.2) (0 : Int) (0 : Int) [] (1 : Int)) then (toldB ((subX r c l p q m).1) ((subX r c l p q m).2.1) ((subX r c l p q m).2.2.1) ((subX r c l p q m).2.2.2) (0 : Int) (0 : Int) [] (1 : Int)) else false)) || ((bif (toldB ((mulX r c l p q m).1) ((mulX r c l p q m).2.1) ((mulX r c l p q m).2.2.1) ((mulX r c l p q m).2.2.2) (0 : Int) (0 : Int) [] (1 : Int)) then (toldB ((subX r c l p q m).1) ((subX r c l p q m).2.1) ((subX r c l p q m).2.2.1) ((subX r c l p q m).2.2.2) (0 : Int) (0 : Int) [] (1 : Int)) else false) == true)) && true) then
                                      some (.bool (bif (bif (toldB ((mulX r c l p q m).1) ((mulX r c l p q m).2.1) ((mulX r c l p q m).2.2.1) ((mulX r c l p q m).2.2.2) (0 : Int) (0 : Int) [] (1 : Int)) then (toldB ((subX r c l p q m).1) ((subX r c l p q m).2.1) ((subX r c l p q m).2.2.1) ((subX r c l p q m).2.2.2) (0 : Int) (0 : Int) [] (1 : Int)) else false) then true else false))
                                    else none
                                  else none
                                else none
                              else none
                            else none
                          else none
                        else none
                      else none
                    else bif (c == p) then
                      bif ((rightB r c l && rightB p q m) && ((allU64 l && allU64 m) && decide (c = p))) then
                        bif ((!((r == p) == true)) || true) then
                          bif ((!((r == p) == true)) || ((((!((r == p) == true)) || ((r == p) == true)) && true) && true)) then
                            bif ((!((r == p) == true)) || true) then
                              bif ((!((r == p) == true)) || ((((!((r == p) == true)) || ((r == p) == true)) && true) && true)) then
                                bif ((!((r == p) == true)) || ((((!((r == p) == true)) || ((r == p) == true)) && (((!((r == p) == true)) || ((r == p) == true)) && true)) && true)) then
                                  bif (((!(r == p)) || ((r == p) == true)) && true) then
                                    bif (bif (r == p) then (c == q) else false) then
                                      bif ((rightB r c l && rightB p q m) && ((allU64 l && allU64 m) && decide (p = r ∧ q = c))) then
                                        bif (okLen ((mulX r c l p q m).2.2.1)) then
                                          bif ((!((toldB ((mulX r c l p q m).1) ((mulX r c l p q m).2.1) ((mulX r c l p q m).2.2.1) ((mulX r c l p q m).2.2.2) r q (grid (Int.toNat r) (Int.toNat q) (fun j1 j2 => dotI (rowI c l j1) (colI p q m j2))) (0 : Int)) == true)) || true) then
                                            bif ((!((toldB ((mulX r c l p q m).1) ((mulX r c l p q m).2.1) ((mulX r c l p q m).2.2.1) ((mulX r c l p q m).2.2.2) r q (grid (Int.toNat r) (Int.toNat q) (fun j1 j2 => dotI (rowI c l j1) (colI p q m j2))) (0 : Int)) == true)) || true) then
                                              bif ((!((toldB ((mulX r c l p q m).1) ((mulX r c l p q m).2.1) ((mulX r c l p q m).2.2.1) ((mulX r c l p q m).2.2.2) r q (grid (Int.toNat r) (Int.toNat q) (fun j1 j2 => dotI (rowI c l j1) (colI p q m j2))) (0 : Int)) == true)) || true) then
                                                bif ((!((toldB ((mulX r c l p q m).1) ((mulX r c l p q m).2.1) ((mulX r c l p q m).2.2.1) ((mulX r c l p q m).2.2.2) r q (grid (Int.toNat r) (Int.toNat q) (fun j1 j2 => dotI (rowI c l j1) (colI p q m j2))) (0 : Int)) == true)) || true) then
                                                  bif ((!((toldB ((mulX r c l p q m).1) ((mulX r c l p q m).2.1) ((mulX r c l p q m).2.2.1) ((mulX r c l p q m).2.2.2) r q (grid (Int.toNat r) (Int.toNat q) (fun j1 j2 => dotI (rowI c l j1) (colI p q m j2))) (0 : Int)) == true)) || ((((!((toldB ((mulX r c l p q m).1) ((mulX r c l p q m).2.1) ((mulX r c l p q m).2.2.1) ((mulX r c l p q m).2.2.2) r q (grid (Int.toNat r) (Int.toNat q) (fun j1 j2 => dotI (rowI c l j1) (colI p q m j2))) (0 : Int)) == true)) || ((toldB ((mulX r c l p q m).1) ((mulX r c l p q m).2.1) ((mulX r c l p q m).2.2.1) ((mulX r c l p q m).2.2.2) r q (grid (Int.toNat r) (Int.toNat q) (fun j1 j2 => dotI (rowI c l j1) (colI p q m j2))) (0 : Int)) == true)) && (((!((toldB ((mulX r c l p q m).1) ((mulX r c l p q m).2.1) ((mulX r c l p q m).2.2.1) ((mulX r c l p q m).2.2.2) r q (grid (Int.toNat r) (Int.toNat q) (fun j1 j2 => dotI (rowI c l j1) (colI p q m j2))) (0 : Int)) == true)) || ((toldB ((mulX r c l p q m).1) ((mulX r c l p q m).2.1) ((mulX r c l p q m).2.2.1) ((mulX r c l p q m).2.2.2) r q (grid (Int.toNat r) (Int.toNat q) (fun j1 j2 => dotI (rowI c l j1) (colI p q m j2))) (0 : Int)) == true)) && (((!((toldB ((mulX r c l p q m).1) ((mulX r c l p q m).2.1) ((mulX r c l p q m).2.2.1) ((mulX r c l p q m).2.2.2) r q (grid (Int.toNat r) (Int.toNat q) (fun j1 j2 => dotI (rowI c l j1) (colI p q m j2))) (0 : Int)) == true)) || ((toldB ((mulX r c l p q m).1) ((mulX r c l p q m).2.1) ((mulX r c l p q m).2.2.1) ((mulX r c l p q m).2.2.2) r q (grid (Int.toNat r) (Int.toNat q) (fun j1 j2 => dotI (rowI c l j1) (colI p q m j2))) (0 : Int)) == true)) && (((!((toldB ((mulX r c l p q m).1) ((mulX r c l p q m).2.1) ((mulX r c l p q m).2.2.1) ((mulX r c l p q m).2.2.2) r q (grid (Int.toNat r) (Int.toNat q) (fun j1 j2 => dotI (rowI c l j1) (colI p q m j2))) (0 : Int)) == true)) || ((toldB ((mulX r c l p q m).1) ((mulX r c l p q m).2.1) ((mulX r c l p q m).2.2.1) ((mulX r c l p q m).2.2.2) r q (grid (Int.toNat r) (Int.toNat q) (fun j1 j2 => dotI (rowI c l j1) (colI p q m j2))) (0 : Int)) == true)) && true)))) && (okLen ((subX r c l p q m).2.2.1)))) then
                                                    bif (((!(toldB ((mulX r c l p q m).1) ((mulX r c l p q m).2.1) ((mulX r c l p q m).2.2.1) ((mulX r c l p q m).2.2.2) r q (grid (Int.toNat r) (Int.toNat q) (fun j1 j2 => dotI (rowI c l j1) (colI p q m j2))) (0 : Int))) || ((toldB ((mulX r c l p q m).1) ((mulX r c l p q m).2.1) ((mulX r c l p q m).2.2.1) ((mulX r c l p q m).2.2.2) r q (grid (Int.toNat r) (Int.toNat q) (fun j1 j2 => dotI (rowI c l j1) (colI p q m j2))) (0 : Int)) == true)) && true) then
                                                      bif ((!((bif (toldB ((mulX r c l p q m).1) ((mulX r c l p q m).2.1) ((mulX r c l p q m).2.2.1) ((mulX r c l p q m).2.2.2) r q (grid (Int.toNat r) (Int.toNat q) (fun j1 j2 => dotI (rowI c l j1) (colI p q m j2))) (0 : Int)) then (toldB ((subX r c l p q m).1) ((subX r c l p q m).2.1) ((subX r c l p q m).2.2.1) ((subX r c l p q m).2.2.2) r c (grid (Int.toNat r) (Int.toNat c) (fun j1 j2 => subBI (atI c l j1 j2) (atI q m j1 j2))) (0 : Int)) else false) == true)) || true) then
                                                        bif (((!(bif (toldB ((mulX r c l p q m).1) ((mulX r c l p q m).2.1) ((mulX r c l p q m).2.2.1) ((mulX r c l p q m).2.2.2) r q (grid (Int.toNat r) (Int.toNat q) (fun j1 j2 => dotI (rowI c l j1) (colI p q m j2))) (0 : Int)) then (toldB ((subX r c l p q m).1) ((subX r c l p q m).2.1) ((subX r c l p q m).2.2.1) ((subX r c l p q m).2.2.2) r c (grid (Int.toNat r) (Int.toNat c) (fun j1 j2 => subBI (atI c l j1 j2) (atI q m j1 j2))) (0 : Int)) else false)) || ((bif (toldB ((mulX r c l p q m).1) ((mulX r c l p q m).2.1) ((mulX r c l p q m).2.2.1) ((mulX r c l p q m).2.2.2) r q (grid (Int.toNat r) (Int.toNat q) (fun j1 j2 => dotI (rowI c l j1) (colI p q m j2))) (0 : Int)) then (toldB ((subX r c l p q m).1) ((subX r c l p q m).2.1) ((subX r c l p q m).2.2.1) ((subX r c l p q m).2.2.2) r c (grid (Int.toNat r) (Int.toNat c) (fun j1 j2 => subBI (atI c l j1 j2) (atI q m j1 j2))) (0 : Int)) else false) == true)) && true) then
                                                          some (.bool (bif (bif (toldB ((mulX r c l p q m).1) ((mulX r c l p q m).2.1) ((mulX r c l p q m).2.2.1) ((mulX r c l p q m).2.2.2) r q (grid (Int.toNat r) (Int.toNat q) (fun j1 j2 => dotI (rowI c l j1) (colI p q m j2))) (0 : Int)) then (toldB ((subX r c l p q m).1) ((subX r c l p q m).2.1) ((subX r c l p q m).2.2.1) ((subX r c l p q m).2.2.2) r c (grid (Int.toNat r) (Int.toNat c) (fun j1 j2 => subBI (atI c l j1 j2) (atI q m j1 j2))) (0 : Int)) else false) then true else false))
                                                        else none
                                                      else none
                                                    else none
                                                  else none
                                                else none
                                              else none
                                            else none
                                          else none
                                        else none
                                      else none
                                    else bif (okLen ((mulX r c l p q m).2.2.1)) then
                                      bif ((!((toldB ((mulX r c l p q m).1) ((mulX r c l p q m).2.1) ((mulX r c l p q m).2.2.1) ((mulX r c l p q m).2.2.2) r q (grid (Int.toNat r) (Int.toNat q) (fun j1 j2 => dotI (rowI c l j1) (colI p q m j2))) (0 : Int)) == true)) || true) then
                                        bif ((!((toldB ((mulX r c l p q m).1) ((mulX r c l p q m).2.1) ((mulX r c l p q m).2.2.1) ((mulX r c l p q m).2.2.2) r q (grid (Int.toNat r) (Int.toNat q) (fun j1 j2 => dotI (rowI c l j1) (colI p q m j2))) (0 : Int)) == true)) || true) then
                                          bif ((!((toldB ((mulX r c l p q m).1) ((mulX r c l p q m).2.1) ((mulX r c l p q m).2.2.1) ((mulX r c l p q m).2.2.2) r q (grid (Int.toNat r) (Int.toNat q) (fun j1 j2 => dotI (rowI c l j1) (colI p q m j2))) (0 : Int)) == true)) || true) then
                                            bif ((!((toldB ((mulX r c l p q m).1) ((mulX r c l p q m).2.1) ((mulX r c l p q m).2.2.1) ((mulX r c l p q m).2.2.2) r q (grid (Int.toNat r) (Int.toNat q) (fun j1 j2 => dotI (rowI c l j1) (colI p q m j2))) (0 : Int)) == true)) || true) then
                                              bif ((!((toldB ((mulX r c l p q m).1) ((mulX r c l p q m).2.1) ((mulX r c l p q m).2.2.1) ((mulX r c l p q m).2.2.2) r q (grid (Int.toNat r) (Int.toNat q) (fun j1 j2 => dotI (rowI c l j1) (colI p q m j2))) (0 : Int)) == true)) || ((((!((toldB ((mulX r c l p q m).1) ((mulX r c l p q m).2.1) ((mulX r c l p q m).2.2.1) ((mulX r c l p q m).2.2.2) r q (grid (Int.toNat r) (Int.toNat q) (fun j1 j2 => dotI (rowI c l j1) (colI p q m j2))) (0 : Int)) == true)) || ((toldB ((mulX r c l p q m).1) ((mulX r c l p q m).2.1) ((mulX r c l p q m).2.2.1) ((mulX r c l p q m).2.2.2) r q (grid (Int.toNat r) (Int.toNat q) (fun j1 j2 => dotI (rowI c l j1) (colI p q m j2))) (0 : Int)) == true)) && (((!((toldB ((mulX r c l p q m).1) ((mulX r c l p q m).2.1) ((mulX r c l p q m).2.2.1) ((mulX r c l p q m).2.2.2) r q (grid (Int.toNat r) (Int.toNat q) (fun j1 j2 => dotI (rowI c l j1) (colI p q m j2))) (0 : Int)) == true)) || ((toldB ((mulX r c l p q m).1) ((mulX r c l p q m).2.1) ((mulX r c l p q m).2.2.1) ((mulX r c l p q m).2.2.2) r q (grid (Int.toNat r) (Int.toNat q) (fun j1 j2 => dotI (rowI c l j1) (colI p q m j2))) (0 : Int)) == true)) && (((!((toldB ((mulX r c l p q m).1) ((mulX r c l p q m).2.1) ((mulX r c l p q m).2.2.1) ((mulX r c l p q m).2.2.2) r q (grid (Int.toNat r) (Int.toNat q) (fun j1 j2 => dotI (rowI c l j1) (colI p q m j2))) (0 : Int)) == true)) || ((toldB ((mulX r c l p q m).1) ((mulX r c l p q m).2.1) ((mulX r c l p q m).2.2.1) ((mulX r c l p q m).2.2.2) r q (grid (Int.toNat r) (Int.toNat q) (fun j1 j2 => dotI (rowI c l j1) (colI p q m j2))) (0 : Int)) == true)) && (((!((toldB ((mulX r c l p q m).1) ((mulX r c l p q m).2.1) ((mulX r c l p q m).2.2.1) ((mulX r c l p q m).2.2.2) r q (grid (Int.toNat r) (Int.toNat q) (fun j1 j2 => dotI (rowI c l j1) (colI p q m j2))) (0 : Int)) == true)) || ((toldB ((mulX r c l p q m).1) ((mulX r c l p q m).2.1) ((mulX r c l p q m).2.2.1) ((mulX r c l p q m).2.2.2) r q (grid (Int.toNat r) (Int.toNat q) (fun j1 j2 => dotI (rowI c l j1) (colI p q m j2))) (0 : Int)) == true)) && true)))) && (okLen ((subX r c l p q m).2.2.1)))) then
                                                bif (((!(toldB ((mulX r c l p q m).1) ((mulX r c l p q m).2.1) ((mulX r c l p q m).2.2.1) ((mulX r c l p q m).2.2.2) r q (grid (Int.toNat r) (Int.toNat q) (fun j1 j2 => dotI (rowI c l j1) (colI p q m j2))) (0 : Int))) || ((toldB ((mulX r c l p q m).1) ((mulX r c l p q m).2.1) ((mulX r c l p q m).2.2.1) ((mulX r c l p q m).2.2.2) r q (grid (Int.toNat r) (Int.toNat q) (fun j1 j2 => dotI (rowI c l j1) (colI p q m j2))) (0 : Int)) == true)) && true) then
                                                  bif ((!((bif (toldB ((mulX r c l p q m).1) ((mulX r c l p q m).2.1) ((mulX r c l p q m).2.2.1) ((mulX r c l p q m).2.2.2) r q (grid (Int.toNat r) (Int.toNat q) (fun j1 j2 => dotI (rowI c l j1) (colI p q m j2))) (0 : Int)) then (toldB ((subX r c l p q m).1) ((subX r c l p q m).2.1) ((subX r c l p q m).2.2.1) ((subX r c l p q m).2.2.2) (0 : Int) (0 : Int) [] (3 : Int)) else false) == true)) || true) then
                                                    bif (((!(bif (toldB ((mulX r c l p q m).1) ((mulX r c l p q m).2.1) ((mulX r c l p q m).2.2.1) ((mulX r c l p q m).2.2.2) r q (grid (Int.toNat r) (Int.toNat q) (fun j1 j2 => dotI (rowI c l j1) (colI p q m j2))) (0 : Int)) then (toldB ((subX r c l p q m).1) ((subX r c l p q m).2.1) ((subX r c l p q m).2.2.1) ((subX r c l p q m).2.2.2) (0 : Int) (0 : Int) [] (3 : Int)) else false)) || ((bif (toldB ((mulX r c l p q m).1) ((mulX r c l p q m).2.1) ((mulX r c l p q m).2.2.1) ((mulX r c l p q m).2.2.2) r q (grid (Int.toNat r) (Int.toNat q) (fun j1 j2 => dotI (rowI c l j1) (colI p q m j2))) (0 : Int)) then (toldB ((subX r c l p q m).1) ((subX r c l p q m).2.1) ((subX r c l p q m).2.2.1) ((subX r c l p q m).2.2.2) (0 : Int) (0 : Int) [] (3 : Int)) else false) == true)) && true) then
                                                      some (.bool (bif (bif (toldB ((mulX r c l p q m).1) ((mulX r c l p q m).2.1) ((mulX r c l p q m).2.2.1) ((mulX r c l p q m).2.2.2) r q (grid (Int.toNat r) (Int.toNat q) (fun j1 j2 => dotI (rowI c l j1) (colI p q m j2))) (0 : Int)) then (toldB ((subX r c l p q m).1) ((subX r c l p q m).2.1) ((subX r c l p q m).2.2.1) ((subX r c l p q m).2.2.2) (0 : Int) (0 : Int) [] (3 : Int)) else false) then true else false))
                                                    else none
                                                  else none
                                                else none
                                              else none
                                            else none
                                          else none
                                        else none
                                      else none
                                    else none
                                  else none
                                else none
                              else none
                            else none
                          else none
                        else none
                      else none
                    else bif ((!((r == p) == true)) || true) then
                      bif ((!((r == p) == true)) || ((((!((r == p) == true)) || ((r == p) == true)) && true) && true)) then
                        bif ((!((r == p) == true)) || true) then
                          bif ((!((r == p) == true)) || ((((!((r == p) == true)) || ((r == p) == true)) && true) && true)) then
                            bif ((!((r == p) == true)) || ((((!((r == p) == true)) || ((r == p) == true)) && (((!((r == p) == true)) || ((r == p) == true)) && true)) && true)) then
                              bif (((!(r == p)) || ((r == p) == true)) && true) then
                                bif (bif (r == p) then (c == q) else false) then
                                  bif ((rightB r c l && rightB p q m) && ((allU64 l && allU64 m) && decide (p = r ∧ q = c))) then
                                    bif (okLen ((mulX r c l p q m).2.2.1)) then
                                      bif ((!((toldB ((mulX r c l p q m).1) ((mulX r c l p q m).2.1) ((mulX r c l p q m).2.2.1) ((mulX r c l p q m).2.2.2) (0 : Int) (0 : Int) [] (3 : Int)) == true)) || true) then
                                        bif ((!((toldB ((mulX r c l p q m).1) ((mulX r c l p q m).2.1) ((mulX r c l p q m).2.2.1) ((mulX r c l p q m).2.2.2) (0 : Int) (0 : Int) [] (3 : Int)) == true)) || true) then
                                          bif ((!((toldB ((mulX r c l p q m).1) ((mulX r c l p q m).2.1) ((mulX r c l p q m).2.2.1) ((mulX r c l p q m).2.2.2) (0 : Int) (0 : Int) [] (3 : Int)) == true)) || true) then
                                            bif ((!((toldB ((mulX r c l p q m).1) ((mulX r c l p q m).2.1) ((mulX r c l p q m).2.2.1) ((mulX r c l p q m).2.2.2) (0 : Int) (0 : Int) [] (3 : Int)) == true)) || true) then
                                              bif ((!((toldB ((mulX r c l p q m).1) ((mulX r c l p q m).2.1) ((mulX r c l p q m).2.2.1) ((mulX r c l p q m).2.2.2) (0 : Int) (0 : Int) [] (3 : Int)) == true)) || ((((!((toldB ((mulX r c l p q m).1) ((mulX r c l p q m).2.1) ((mulX r c l p q m).2.2.1) ((mulX r c l p q m).2.2.2) (0 : Int) (0 : Int) [] (3 : Int)) == true)) || ((toldB ((mulX r c l p q m).1) ((mulX r c l p q m).2.1) ((mulX r c l p q m).2.2.1) ((mulX r c l p q m).2.2.2) (0 : Int) (0 : Int) [] (3 : Int)) == true)) && (((!((toldB ((mulX r c l p q m).1) ((mulX r c l p q m).2.1) ((mulX r c l p q m).2.2.1) ((mulX r c l p q m).2.2.2) (0 : Int) (0 : Int) [] (3 : Int)) == true)) || ((toldB ((mulX r c l p q m).1) ((mulX r c l p q m).2.1) ((mulX r c l p q m).2.2.1) ((mulX r c l p q m).2.2.2) (0 : Int) (0 : Int) [] (3 : Int)) == true)) && (((!((toldB ((mulX r c l p q m).1) ((mulX r c l p q m).2.1) ((mulX r c l p q m).2.2.1) ((mulX r c l p q m).2.2.2) (0 : Int) (0 : Int) [] (3 : Int)) == true)) || ((toldB ((mulX r c l p q m).1) ((mulX r c l p q m).2.1) ((mulX r c l p q m).2.2.1) ((mulX r c l p q m).2.2.2) (0 : Int) (0 : Int) [] (3 : Int)) == true)) && (((!((toldB ((mulX r c l p q m).1) ((mulX r c l p q m).2.1) ((mulX r c l p q m).2.2.1) ((mulX r c l p q m).2.2.2) (0 : Int) (0 : Int) [] (3 : Int)) == true)) || ((toldB ((mulX r c l p q m).1) ((mulX r c l p q m).2.1) ((mulX r c l p q m).2.2.1) ((mulX r c l p q m).2.2.2) (0 : Int) (0 : Int) [] (3 : Int)) == true)) && true)))) && (okLen ((subX r c l p q m).2.2.1)))) then
                                                bif (((!(toldB ((mulX r c l p q m).1) ((mulX r c l p q m).2.1) ((mulX r c l p q m).2.2.1) ((mulX r c l p q m).2.2.2) (0 : Int) (0 : Int) [] (3 : Int))) || ((toldB ((mulX r c l p q m).1) ((mulX r c l p q m).2.1) ((mulX r c l p q m).2.2.1) ((mulX r c l p q m).2.2.2) (0 : Int) (0 : Int) [] (3 : Int)) == true)) && true) then
                                                  bif ((!((bif (toldB ((mulX r c l p q m).1) ((mulX r c l p q m).2.1) ((mulX r c l p q m).2.2.1) ((mulX r c l p q m).2.2.2) (0 : Int) (0 : Int) [] (3 : Int)) then (toldB ((subX r c l p q m).1) ((subX r c l p q m).2.1) ((subX r c l p q m).2.2.1) ((subX r c l p q m).2.2.2) r c (grid (Int.toNat r) (Int.toNat c) (fun j1 j2 => subBI (atI c l j1 j2) (atI q m j1 j2))) (0 : Int)) else false) == true)) || true) then
                                                    bif (((!(bif (toldB ((mulX r c l p q m).1) ((mulX r c l p q m).2.1) ((mulX r c l p q m).2.2.1) ((mulX r c l p q m).2.2.2) (0 : Int) (0 : Int) [] (3 : Int)) then (toldB ((subX r c l p q m).1) ((subX r c l p q m).2.1) ((subX r c l p q m).2.2.1) ((subX r c l p q m).2.2.2) r c (grid (Int.toNat r) (Int.toNat c) (fun j1 j2 => subBI (atI c l j1 j2) (atI q m j1 j2))) (0 : Int)) else false)) || ((bif (toldB ((mulX r c l p q m).1) ((mulX r c l p q m).2.1) ((mulX r c l p q m).2.2.1) ((mulX r c l p q m).2.2.2) (0 : Int) (0 : Int) [] (3 : Int)) then (toldB ((subX r c l p q m).1) ((subX r c l p q m).2.1) ((subX r c l p q m).2.2.1) ((subX r c l p q m).2.2.2) r c (grid (Int.toNat r) (Int.toNat c) (fun j1 j2 => subBI (atI c l j1 j2) (atI q m j1 j2))) (0 : Int)) else false) == true)) && true) then
                                                      some (.bool (bif (bif (toldB ((mulX r c l p q m).1) ((mulX r c l p q m).2.1) ((mulX r c l p q m).2.2.1) ((mulX r c l p q m).2.2.2) (0 : Int) (0 : Int) [] (3 : Int)) then (toldB ((subX r c l p q m).1) ((subX r c l p q m).2.1) ((subX r c l p q m).2.2.1) ((subX r c l p q m).2.2.2) r c (grid (Int.toNat r) (Int.toNat c) (fun j1 j2 => subBI (atI c l j1 j2) (atI q m j1 j2))) (0 : Int)) else false) then true else false))
                                                    else none
                                                  else none
                                                else none
                                              else none
                                            else none
                                          else none
                                        else none
                                      else none
                                    else none
                                  else none
                                else bif (okLen ((mulX r c l p q m).2.2.1)) then
                                  bif ((!((toldB ((mulX r c l p q m).1) ((mulX r c l p q m).2.1) ((mulX r c l p q m).2.2.1) ((mulX r c l p q m).2.2.2) (0 : Int) (0 : Int) [] (3 : Int)) == true)) || true) then
                                    bif ((!((toldB ((mulX r c l p q m).1) ((mulX r c l p q m).2.1) ((mulX r c l p q m).2.2.1) ((mulX r c l p q m).2.2.2) (0 : Int) (0 : Int) [] (3 : Int)) == true)) || true) then
                                      bif ((!((toldB ((mulX r c l p q m).1) ((mulX r c l p q m).2.1) ((mulX r c l p q m).2.2.1) ((mulX r c l p q m).2.2.2) (0 : Int) (0 : Int) [] (3 : Int)) == true)) || true) then
                                        bif ((!((toldB ((mulX r c l p q m).1) ((mulX r c l p q m).2.1) ((mulX r c l p q m).2.2.1) ((mulX r c l p q m).2.2.2) (0 : Int) (0 : Int) [] (3 : Int)) == true)) || true) then
                                          bif ((!((toldB ((mulX r c l p q m).1) ((mulX r c l p q m).2.1) ((mulX r c l p q m).2.2.1) ((mulX r c l p q m).2.2.2) (0 : Int) (0 : Int) [] (3 : Int)) == true)) || ((((!((toldB ((mulX r c l p q m).1) ((mulX r c l p q m).2.1) ((mulX r c l p q m).2.2.1) ((mulX r c l p q m).2.2.2) (0 : Int) (0 : Int) [] (3 : Int)) == true)) || ((toldB ((mulX r c l p q m).1) ((mulX r c l p q m).2.1) ((mulX r c l p q m).2.2.1) ((mulX r c l p q m).2.2.2) (0 : Int) (0 : Int) [] (3 : Int)) == true)) && (((!((toldB ((mulX r c l p q m).1) ((mulX r c l p q m).2.1) ((mulX r c l p q m).2.2.1) ((mulX r c l p q m).2.2.2) (0 : Int) (0 : Int) [] (3 : Int)) == true)) || ((toldB ((mulX r c l p q m).1) ((mulX r c l p q m).2.1) ((mulX r c l p q m).2.2.1) ((mulX r c l p q m).2.2.2) (0 : Int) (0 : Int) [] (3 : Int)) == true)) && (((!((toldB ((mulX r c l p q m).1) ((mulX r c l p q m).2.1) ((mulX r c l p q m).2.2.1) ((mulX r c l p q m).2.2.2) (0 : Int) (0 : Int) [] (3 : Int)) == true)) || ((toldB ((mulX r c l p q m).1) ((mulX r c l p q m).2.1) ((mulX r c l p q m).2.2.1) ((mulX r c l p q m).2.2.2) (0 : Int) (0 : Int) [] (3 : Int)) == true)) && (((!((toldB ((mulX r c l p q m).1) ((mulX r c l p q m).2.1) ((mulX r c l p q m).2.2.1) ((mulX r c l p q m).2.2.2) (0 : Int) (0 : Int) [] (3 : Int)) == true)) || ((toldB ((mulX r c l p q m).1) ((mulX r c l p q m).2.1) ((mulX r c l p q m).2.2.1) ((mulX r c l p q m).2.2.2) (0 : Int) (0 : Int) [] (3 : Int)) == true)) && true)))) && (okLen ((subX r c l p q m).2.2.1)))) then
                                            bif (((!(toldB ((mulX r c l p q m).1) ((mulX r c l p q m).2.1) ((mulX r c l p q m).2.2.1) ((mulX r c l p q m).2.2.2) (0 : Int) (0 : Int) [] (3 : Int))) || ((toldB ((mulX r c l p q m).1) ((mulX r c l p q m).2.1) ((mulX r c l p q m).2.2.1) ((mulX r c l p q m).2.2.2) (0 : Int) (0 : Int) [] (3 : Int)) == true)) && true) then
                                              bif ((!((bif (toldB ((mulX r c l p q m).1) ((mulX r c l p q m).2.1) ((mulX r c l p q m).2.2.1) ((mulX r c l p q m).2.2.2) (0 : Int) (0 : Int) [] (3 : Int)) then (toldB ((subX r c l p q m).1) ((subX r c l p q m).2.1) ((subX r c l p q m).2.2.1) ((subX r c l p q m).2.2.2) (0 : Int) (0 : Int) [] (3 : Int)) else false) == true)) || true) then
                                                bif (((!(bif (toldB ((mulX r c l p q m).1) ((mulX r c l p q m).2.1) ((mulX r c l p q m).2.2.1) ((mulX r c l p q m).2.2.2) (0 : Int) (0 : Int) [] (3 : Int)) then (toldB ((subX r c l p q m).1) ((subX r c l p q m).2.1) ((subX r c l p q m).2.2.1) ((subX r c l p q m).2.2.2) (0 : Int) (0 : Int) [] (3 : Int)) else false)) || ((bif (toldB ((mulX r c l p q m).1) ((mulX r c l p q m).2.1) ((mulX r c l p q m).2.2.1) ((mulX r c l p q m).2.2.2) (0 : Int) (0 : Int) [] (3 : Int)) then (toldB ((subX r c l p q m).1) ((subX r c l p q m).2.1) ((subX r c l p q m).2.2.1) ((subX r c l p q m).2.2.2) (0 : Int) (0 : Int) [] (3 : Int)) else false) == true)) && true) then
                                                  some (.bool (bif (bif (toldB ((mulX r c l p q m).1) ((mulX r c l p q m).2.1) ((mulX r c l p q m).2.2.1) ((mulX r c l p q m).2.2.2) (0 : Int) (0 : Int) [] (3 : Int)) then (toldB ((subX r c l p q m).1) ((subX r c l p q m).2.1) ((subX r c l p q m).2.2.1) ((subX r c l p q m).2.2.2) (0 : Int) (0 : Int) [] (3 : Int)) else false) then true else false))
                                                else none
                                              else none
                                            else none
                                          else none
                                        else none
                                      else none
                                    else none
                                  else none
                                else none
                              else none
                            else none
                          else none
                        else none
                      else none
                    else none
                  else none
                else none
              else none
            else none
          else none
        else none
      else none
    else none
  else none) (by kernel_rfl)
  (ifT (tt15 _) (ifT (tt14 _) (ifT (tt14 _) (ifT (tt14 _) (ifT (tt13 _) (ifS (tt12 _ _) rfl (ifE (ifE (ifE (ifE (ifE (ifE (ifT (tt7 _) (ifT (tt7 _) (ifT (tt7 _) (ifS (tt6 _ _) (ifT (tt5 _) (ifT (tt4 _ _) (ifT (tt3 _ _) rfl))) rfl)))) rfl) (ifE (ifE (ifT (tt7 _) (ifT (tt11 _) (ifT (tt7 _) (ifT (tt11 _) (ifT (tt10 _) (ifT (tt5 _) (ifS (tt9 _ _) (ifE (ifE (ifT (tt7 _) (ifT (tt7 _) (ifT (tt7 _) (ifT (tt7 _) (ifS (tt8 _ _) (ifT (tt5 _) (ifT (tt4 _ _) (ifT (tt3 _ _) rfl))) rfl))))) rfl) rfl) (ifE (ifT (tt7 _) (ifT (tt7 _) (ifT (tt7 _) (ifT (tt7 _) (ifS (tt8 _ _) (ifT (tt5 _) (ifT (tt4 _ _) (ifT (tt3 _ _) rfl))) rfl))))) rfl)))))))) rfl) (ifT (tt7 _) (ifT (tt11 _) (ifT (tt7 _) (ifT (tt11 _) (ifT (tt10 _) (ifT (tt5 _) (ifS (tt9 _ _) (ifE (ifE (ifT (tt7 _) (ifT (tt7 _) (ifT (tt7 _) (ifT (tt7 _) (ifS (tt8 _ _) (ifT (tt5 _) (ifT (tt4 _ _) (ifT (tt3 _ _) rfl))) rfl))))) rfl) rfl) (ifE (ifT (tt7 _) (ifT (tt7 _) (ifT (tt7 _) (ifT (tt7 _) (ifS (tt8 _ _) (ifT (tt5 _) (ifT (tt4 _ _) (ifT (tt3 _ _) rfl))) rfl))))) rfl)))))))))) rfl) rfl) rfl) rfl)))))))
theorem law10.MatrixMuls.known_of (hk : Knowns Try.prog law10.MatrixMuls.tab) (hsp : SpoilFact Try.prog 26 39) (h : ∀ (r : Int) (c : Int) (l : List Int) (p : Int) (q : Int) (m : List Int), law10.MatrixMuls.pre [.i r, .i c, .l l, .i p, .i q, .l m] = true → ∃ N dv drops, funD law10.MatrixMuls.E N Try.f7 (bodyOf Try.f7) [.agg [.int .i64 r, .int .i64 c, .ints .arg .u64 l], .agg [.int .i64 p, .int .i64 q, .ints .arg .u64 m]] = some dv ∧ Wk drops dv (law10.MatrixMuls.out [.i r, .i c, .l l, .i p, .i q, .l m])) : Known Try.prog 7 law10.MatrixMuls.spec := by
  refine ⟨meets_entry (E := law10.MatrixMuls.E) (env_okS hk (spoilOf_ok hsp) _ _ _) Try.func7 (show Try.f7.body = some (bodyOf Try.f7) by kernel_rfl) fun ats dvs he hp => ?_, call_enter Try.func7 (by kernel_rfl) (show Try.f7.body = some (bodyOf Try.f7) by kernel_rfl)⟩
  obtain ⟨_, _, _, _, rfl, rfl, hs0, he0⟩ := he.st_inv
  obtain ⟨r, _, _, rfl, rfl, he1⟩ := hs0.i_inv
  obtain ⟨c, _, _, rfl, rfl, he2⟩ := he1.i_inv
  obtain ⟨l, _, _, rfl, rfl, he3⟩ := he2.s_inv
  obtain ⟨rfl, rfl⟩ := he3.nil_inv
  obtain ⟨_, _, _, _, rfl, rfl, hs4, he4⟩ := he0.st_inv
  obtain ⟨p, _, _, rfl, rfl, he5⟩ := hs4.i_inv
  obtain ⟨q, _, _, rfl, rfl, he6⟩ := he5.i_inv
  obtain ⟨m, _, _, rfl, rfl, he7⟩ := he6.s_inv
  obtain ⟨rfl, rfl⟩ := he7.nil_inv
  obtain ⟨rfl, rfl⟩ := he4.nil_inv
  exact h r c l p q m hp
end EqLaw10S
end Go.Proofs.S1

/- matrix.of, for the difference. Printed by gen_of.py. -/
namespace Go.Proofs.S1
open Go Go.Den Go.Rnd Go.Proofs
open EqLaw10S

theorem matrix.Sub_1.known : Known Try.prog 52 matrix.Sub_1.spec := matrix.Sub_1.known_of (.cons matrix.get.known (.cons vector.Sub.known .nil)) fun i k r c l p q m hp => by
  obtain ⟨h1, am⟩ := and_true_iff.1 (show (((atPre r c l i k && atPre p q m i k) && allU64 l) && allU64 m) = true from hp)
  obtain ⟨h2, al⟩ := and_true_iff.1 h1
  obtain ⟨h3, h4⟩ := and_true_iff.1 h2
  refine ⟨0, matrix.Sub_1.out [.i i, .i k, .i r, .i c, .l l, .i p, .i q, .l m], [], ?_, .int⟩
  rw [matrix.Sub_1.ev, h3, h4, at_all al, at_all am]; rfl

theorem of.Sub.inner (N : Nat) (r c : Int) (l : List Int) (p q : Int) (m : List Int) {A B : Nat} (hA : A ≤ 6) (hB : B ≤ 6) {F : Nat → Nat → Int} (hF : ∀ i j : Nat, F i j = subBI (atI c l (i : Int) (j : Int)) (atI q m (i : Int) (j : Int))) {i : Nat} (hi : i < A) (hp : ∀ j : Nat, j < B → (((atPre r c l (i : Int) (j : Int) && atPre p q m (i : Int) (j : Int)) && allU64 l) && allU64 m) = true) : ∀ (k j M0 M : Nat), j + k = B → k < M →
    matrix.of.Sub.L1 N M0 M (A : Int) (B : Int) r c l p q m (i : Int) (i : Int) (j : Int) (grid i B F ++ (List.range j).map (F i)) = matrix.of.Sub.L0 N M0 (A : Int) (B : Int) r c l p q m ((i + 1 : Nat) : Int) (grid (i + 1) B F) := by
  intro k
  induction k with
  | zero =>
    intro j M0 M hj hM
    obtain ⟨M, rfl⟩ : ∃ G, M = G + 1 := ⟨M - 1, by omega⟩
    obtain rfl : j = B := by omega
    rw [matrix.of.Sub.L1_step, ltI_eq, decide_eq_false (by omega), cond_false, w_i64_in (by omega) (by omega), ← grid_succ]
    rfl
  | succ k ih =>
    intro j M0 M hj hM
    obtain ⟨M, rfl⟩ : ∃ G, M = G + 1 := ⟨M - 1, by omega⟩
    have d : decide ((grid i B F ++ (List.range j).map (F i)).length + 1 ≤ lim) = true := by
      refine decide_eq_true ?_
      have := Nat.mul_le_mul (show i ≤ 6 by omega) hB
      rw [List.length_append, grid_length, List.length_map, List.length_range]; unfold lim; omega
    rw [matrix.of.Sub.L1_step, ltI_eq, decide_eq_true (by omega), cond_true, hp j (by omega), cond_true, d, cond_true, w_i64_in (by omega) (by omega), ← hF i j]
    have := ih (j + 1) M0 M (by omega) (by omega)
    rw [row_succ, ← List.append_assoc] at this
    exact this

theorem of.Sub.outer (N : Nat) (r c : Int) (l : List Int) (p q : Int) (m : List Int) {A B : Nat} (hA : A ≤ 6) (hB : B ≤ 6) (hN : 6 < N) {F : Nat → Nat → Int} (hF : ∀ i j : Nat, F i j = subBI (atI c l (i : Int) (j : Int)) (atI q m (i : Int) (j : Int))) (hp : ∀ i j : Nat, i < A → j < B → (((atPre r c l (i : Int) (j : Int) && atPre p q m (i : Int) (j : Int)) && allU64 l) && allU64 m) = true) : ∀ (k i M : Nat), i + k = A → k < M →
    matrix.of.Sub.L0 N M (A : Int) (B : Int) r c l p q m (i : Int) (grid i B F) = some (.agg [.int .i64 (A : Int), .int .i64 (B : Int), .ints (.own 108002 39) .u64 (grid A B F)]) := by
  intro k
  induction k with
  | zero =>
    intro i M hi hM
    obtain ⟨M, rfl⟩ : ∃ G, M = G + 1 := ⟨M - 1, by omega⟩
    obtain rfl : i = A := by omega
    rw [matrix.of.Sub.L0_step, ltI_eq, decide_eq_false (by omega), cond_false]
  | succ k ih =>
    intro i M hi hM
    obtain ⟨M, rfl⟩ : ∃ G, M = G + 1 := ⟨M - 1, by omega⟩
    have n := of.Sub.inner N r c l p q m hA hB hF (show i < A by omega) (fun j hj => hp i j (by omega) hj) B 0 M N (by omega) (by omega)
    rw [List.range_zero, List.map_nil, List.append_nil] at n
    rw [matrix.of.Sub.L0_step, ltI_eq, decide_eq_true (by omega), cond_true]
    exact n.trans (ih (i + 1) M (by omega) (by omega))

theorem matrix.of.Sub.known : Known Try.prog 39 matrix.of.Sub.spec := matrix.of.Sub.known_of (.cons matrix.Sub_1.known .nil) fun a b r c l p q m hp => by
  obtain ⟨h12, hy⟩ := and_true_iff.1 (show (((sizeB a && sizeB b) && ((rightB r c l && rightB p q m) && (allU64 l && allU64 m))) && decide (a = r ∧ b = c ∧ p = r ∧ q = c)) = true from hp)
  obtain ⟨h1, hx⟩ := and_true_iff.1 h12
  have h2 := and_true_iff.2 ⟨hx, hy⟩
  obtain ⟨ha, hb⟩ := and_true_iff.1 h1
  obtain ⟨A, rfl, hA⟩ := size_nat ha
  obtain ⟨B, rfl, hB⟩ := size_nat hb
  obtain ⟨h3, he⟩ := and_true_iff.1 h2
  obtain ⟨h4, h5⟩ := and_true_iff.1 h3
  obtain ⟨hr, hm⟩ := and_true_iff.1 h4
  obtain ⟨al, am⟩ := and_true_iff.1 h5
  obtain ⟨e1, e2, e3, e4⟩ := of_decide_eq_true he
  have hp : ∀ i j : Nat, i < A → j < B → (((atPre r c l (i : Int) (j : Int) && atPre p q m (i : Int) (j : Int)) && allU64 l) && allU64 m) = true := fun i j hi hj =>
    and_true_iff.2 ⟨and_true_iff.2 ⟨and_true_iff.2 ⟨at_of_right hr (by omega) (by omega) (by omega) (by omega) r, at_of_right hm (by omega) (by omega) (by omega) (by omega) p⟩, al⟩, am⟩
  refine ⟨8, .agg [.int .i64 (A : Int), .int .i64 (B : Int), .ints (.own 108002 39) .u64 (grid A B fun (i j : Nat) => subBI (atI c l (i : Int) (j : Int)) (atI q m (i : Int) (j : Int)))], [108002], ?_, Wk.aggL (.cons .int (.cons .int (.cons (.drop _ _ _ _ (List.mem_singleton.2 rfl)) .nil)))⟩
  rw [matrix.of.Sub.ev]
  have n := of.Sub.outer 8 r c l p q m hA hB (by omega) (F := fun (i j : Nat) => subBI (atI c l (i : Int) (j : Int)) (atI q m (i : Int) (j : Int))) (fun _ _ => rfl) hp A 0 8 (by omega) (by omega)
  rw [grid_zero] at n
  exact n

end Go.Proofs.S1

/- Chapter 10's laws: products and differences, in new memory. -/
namespace Go.Proofs.S1
open Go Go.Den Go.Rnd Go.Proofs
open EqLaw10S

theorem matrix.Sub.known : Known Try.prog 30 matrix.Sub.spec := matrix.Sub.known_of (.cons matrix.of.Sub.known (.cons matrix.two.known .nil)) fun r c l p q m hp => by
  show ∃ N dv drops, _ = some dv ∧ Wk drops dv (outX (subX r c l p q m))
  unfold subX
  have hp : (allU64 l && allU64 m) = true := hp
  by_cases h : (rightB r c l && rightB p q m) = true
  · obtain ⟨h1, h2⟩ := and_true_iff.1 h
    by_cases hc : r = p ∧ c = q
    · have e : (!((r == p) && (c == q))) = false := by rw [hc.1, hc.2]; simp
      rw [if_pos h, if_pos hc]
      exact ⟨0, _, [], by rw [matrix.Sub.ev, two_ne, h, e, (right_sizes h1).1, (right_sizes h1).2, hp, decide_eq_true ⟨rfl, rfl, hc.1.symm, hc.2.symm⟩]; rfl, wk_mat⟩
    · have e : (!((r == p) && (c == q))) = true := by
        rw [Bool.not_eq_true', Bool.eq_false_iff]
        intro h
        simp only [Bool.and_eq_true, beq_iff_eq] at h
        exact hc h
      rw [if_pos h, if_neg hc]
      exact ⟨0, _, [], by rw [matrix.Sub.ev, two_ne, h, e]; rfl, wk_no⟩
  · have e : (rightB r c l && rightB p q m) = false := by simpa using h
    rw [if_neg h]
    exact ⟨0, _, [], by rw [matrix.Sub.ev, two_ne, e, two_no e]; rfl, wk_no⟩

theorem ref10.Zeros.own.known : Known Try.prog 15 ref10.Zeros.own.spec := ref10.Zeros.own.known_of .nil fun a b hp => by
  obtain ⟨ha, hb⟩ := and_true_iff.1 (show (sizeB a && sizeB b) = true from hp)
  obtain ⟨A, rfl, hA⟩ := size_nat ha
  obtain ⟨B, rfl, hB⟩ := size_nat hb
  have hm := small_mul (a := (A : Int)) (b := (B : Int)) (by omega) (by omega) (by omega) (by omega)
  have e : ((A : Int) * (B : Int)).toNat = A * B := by rw [← Int.natCast_mul, Int.toNat_natCast]
  refine ⟨0, .agg [.int .i64 (A : Int), .int .i64 (B : Int), .ints (.own 10 39) .u64 (grid A B fun _ _ => 0)], [], ?_, Wk.aggL (.cons .int (.cons .int (.cons (.keep _ _ _ _ (List.not_mem_nil)) .nil)))⟩
  rw [ref10.Zeros.own.ev, w_i64_in (by omega) (by omega), decide_eq_true hm.1, decide_eq_true (Int.le_refl _), decide_eq_true (show (A : Int) * (B : Int) ≤ (lim : Int) by unfold lim; omega), e, grid_const]
  rfl

/-- The numbers that are done, and noughts. -/
def doneL (f : Nat → Int) (n i : Nat) : List Int := (List.range i).map f ++ List.replicate (n - i) 0
theorem doneL_length {f : Nat → Int} {n i : Nat} (h : i ≤ n) : (doneL f n i).length = n := by
  unfold doneL; rw [List.length_append, List.length_map, List.length_range, List.length_replicate]; omega
theorem doneL_set {f : Nat → Int} {n i : Nat} (h : i < n) : List.set (doneL f n i) i (f i) = doneL f n (i + 1) := by
  unfold doneL
  have e : n - i = (n - (i + 1)) + 1 := by omega
  rw [e, List.replicate_succ, List.set_append_right _ _ (by rw [List.length_map, List.length_range]; omega), List.length_map, List.length_range, Nat.sub_self, List.set_cons_zero, row_succ, List.append_assoc]
  rfl
theorem doneL_zero {f : Nat → Int} {n : Nat} : doneL f n 0 = List.replicate n 0 := by unfold doneL; rfl
theorem doneL_all {f : Nat → Int} {n : Nat} : doneL f n n = (List.range n).map f := by unfold doneL; rw [Nat.sub_self]; exact List.append_nil _

theorem ref_sub_loop (N : Nat) {R C : Nat} {l m : List Int} (al : allU64 l = true) (am : allU64 m = true) (h36 : l.length ≤ 36) (hm : m.length = l.length) (p q : Int) : ∀ (k i F : Nat), i + k = l.length → k < F →
    ref10.Sub.L0 N F (R : Int) (C : Int) l p q m (i : Int) (doneL (fun j => subBI (l.getD j 0) (m.getD j 0)) l.length i) = some (.agg [.int .i64 (R : Int), .int .i64 (C : Int), .ints (.own 106002 39) .u64 ((List.range l.length).map fun j => subBI (l.getD j 0) (m.getD j 0))]) := by
  intro k
  induction k with
  | zero =>
    intro i F hi hF
    obtain ⟨F, rfl⟩ : ∃ G, F = G + 1 := ⟨F - 1, by omega⟩
    obtain rfl : i = l.length := by omega
    rw [ref10.Sub.L0_step, ltI_eq, decide_eq_false (by omega), cond_false, doneL_all]
  | succ k ih =>
    intro i F hi hF
    obtain ⟨F, rfl⟩ : ∃ G, F = G + 1 := ⟨F - 1, by omega⟩
    rw [ref10.Sub.L0_step, ltI_eq, decide_eq_true (show (i : Int) < (l.length : Int) by omega), cond_true, decide_eq_true (show (0 : Int) ≤ (i : Int) by omega), Bool.and_self, cond_true, decide_eq_true (show (i : Int) < (m.length : Int) by omega), Bool.and_self, cond_true, Int.toNat_natCast,
      all_get al (by omega), all_get am (by omega), Bool.and_self, cond_true, doneL_length (by omega), decide_eq_true (show (i : Int) < (l.length : Int) by omega), Bool.and_self, cond_true, decide_eq_true (show i < l.length by omega), cond_true, w_i64_in (by omega) (by omega)]
    have := ih (i + 1) F (by omega) (by omega)
    rw [← doneL_set (by omega)] at this
    exact this

theorem ref10.Sub.known : Known Try.prog 32 ref10.Sub.spec := ref10.Sub.known_of (.cons ref09.Sub.known (.cons ref10.Zeros.own.known .nil)) fun r c l p q m hp => by
  obtain ⟨h1, h2⟩ := and_true_iff.1 (show ((rightB r c l && rightB p q m) && ((allU64 l && allU64 m) && decide (p = r ∧ q = c))) = true from hp)
  obtain ⟨hr, hm⟩ := and_true_iff.1 h1
  obtain ⟨h3, h4⟩ := and_true_iff.1 h2
  obtain ⟨al, am⟩ := and_true_iff.1 h3
  obtain ⟨rfl, rfl⟩ := of_decide_eq_true h4
  obtain ⟨s1, s2⟩ := right_sizes hr
  obtain ⟨R, C, rfl, rfl, r6, c6, hl⟩ := right_nat hr
  have hl2 : m.length = R * C := by
    have := (right_iff.1 hm).2.2
    rw [← Int.natCast_mul] at this
    omega
  have h36 := Nat.mul_le_mul r6 c6
  have n := ref_sub_loop 37 (R := R) (C := C) al am (by omega) (by omega) (R : Int) (C : Int) l.length 0 37 (by omega) (by omega)
  rw [doneL_zero, hl, ← grid_const, show ((0 : Nat) : Int) = 0 from rfl] at n
  refine ⟨37, .agg [.int .i64 (R : Int), .int .i64 (C : Int), .ints (.own 106002 39) .u64 (grid R C fun (i k : Nat) => subBI (atI (C : Int) l (i : Int) (k : Int)) (atI (C : Int) m (i : Int) (k : Int)))], [106002], ?_, wk_own (List.mem_singleton.2 rfl)⟩
  have e : (List.range (R * C)).map (fun j => subBI (l.getD j 0) (m.getD j 0)) = grid R C fun (i k : Nat) => subBI (atI (C : Int) l (i : Int) (k : Int)) (atI (C : Int) m (i : Int) (k : Int)) := by
    unfold grid
    refine List.map_congr_left fun j _ => ?_
    dsimp only
    rw [atI_nat, atI_nat, Nat.div_add_mod']
  rw [e] at n
  rw [ref10.Sub.ev, s1, s2, Bool.and_self, cond_true, Int.toNat_natCast, Int.toNat_natCast]
  exact n

theorem law10.MatrixMuls.known : Known Try.prog 7 law10.MatrixMuls.spec := law10.MatrixMuls.known_of (.cons law10.awake.known (.cons law10.form.known (.cons law10.told.known (.cons matrix.Mul.known (.cons matrix.Sub.known (.cons ref10.Copy.own.known (.cons ref10.Mul.known (.cons ref10.Sub.known .nil)))))))) law10.spoil.fact fun r c l p q m hp => by
  have hp : (allU64 l && allU64 m) = true := hp
  refine ⟨0, law10.MatrixMuls.out [.i r, .i c, .l l, .i p, .i q, .l m], [], ?_, .bool⟩
  show _ = some (DV.bool true)
  have o0 : okLen [] = true := okLen_of (by decide)
  rw [law10.MatrixMuls.ev, ltI_eq, ltI_eq]
  by_cases h60 : (60 : Int) < (l.length : Int) ∨ (60 : Int) < (m.length : Int)
  · have e : (decide ((60 : Int) < (l.length : Int)) || decide ((60 : Int) < (m.length : Int))) = true := by simpa using h60
    rw [e, cond_true]
  · have e : (decide ((60 : Int) < (l.length : Int)) || decide ((60 : Int) < (m.length : Int))) = false := by simpa using h60
    rw [e, cond_false, okLen_of (l := l) (by omega), okLen_of (l := m) (by omega), cond_true, cond_true, hp, cond_true, cond_true, two_ne]
    unfold mulX subX
    cases hf : (rightB r c l && rightB p q m) with
    | false =>
      rw [if_neg (by decide), if_neg (by decide)]
      unfold noX
      dsimp only
      rw [o0, told_none (by decide)]
      rfl
    | true =>
      obtain ⟨hr, hm⟩ := and_true_iff.1 hf
      obtain ⟨R, C, rfl, rfl, r6, c6, hl⟩ := right_nat hr
      obtain ⟨P, Q, rfl, rfl, p6, q6, hl2⟩ := right_nat hm
      rw [Bool.not_true, cond_false, if_pos rfl, if_pos rfl, Bool.true_and, Bool.true_and, Bool.true_and, Bool.true_and, eqI, eqI, eqI]
      by_cases hc : (C : Int) = (P : Int)
      · by_cases hd : (R : Int) = (P : Int) ∧ (C : Int) = (Q : Int)
        · rw [if_pos hc, if_pos hd, decide_eq_true hc, decide_eq_true hd.1, decide_eq_true hd.2, decide_eq_true ⟨hd.1.symm, hd.2.symm⟩]
          dsimp only
          rw [Int.toNat_natCast, Int.toNat_natCast, Int.toNat_natCast, grid_ok r6 q6, grid_ok r6 c6, told_self, told_self]
          rfl
        · have e2 : (decide ((R : Int) = (P : Int)) && decide ((C : Int) = (Q : Int))) = false := by simpa using hd
          rw [if_pos hc, if_neg hd, decide_eq_true hc, e2]
          unfold noX
          dsimp only
          rw [Int.toNat_natCast, Int.toNat_natCast, grid_ok r6 q6, o0, told_self, told_none (by decide)]
          rfl
      · by_cases hd : (R : Int) = (P : Int) ∧ (C : Int) = (Q : Int)
        · rw [if_neg hc, if_pos hd, decide_eq_false hc, decide_eq_true hd.1, decide_eq_true hd.2, decide_eq_true ⟨hd.1.symm, hd.2.symm⟩]
          unfold noX
          dsimp only
          rw [Int.toNat_natCast, Int.toNat_natCast, Int.toNat_natCast, grid_ok r6 c6, o0, told_self, told_none (by decide)]
          rfl
        · have e2 : (decide ((R : Int) = (P : Int)) && decide ((C : Int) = (Q : Int))) = false := by simpa using hd
          rw [if_neg hc, if_neg hd, decide_eq_false hc, e2]
          unfold noX
          dsimp only
          rw [o0, told_none (by decide)]
          rfl

end Go.Proofs.S1
