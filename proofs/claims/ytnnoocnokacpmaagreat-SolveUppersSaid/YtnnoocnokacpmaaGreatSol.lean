/- Sol of the verified evaluator and its use for this seat (of my texts S1EqFew, S1PSol). -/
import Derived.Test.YtnnoocnokacpmaaGreatSpe
import Derived.Test.YtnnoocnokacpmaaGreatTri

/- The evaluator's equations: qr.down.Few, qr.Factor.Few, qr.Thin.Few, qr.Turned, solve.Least.Few. Printed by denpy.py. -/
namespace Go.Proofs.S1
open Go Go.Den Go.Rnd Go.Proofs
set_option linter.unusedVariables false
set_option maxRecDepth 100000
namespace EqFew
theorem tt0 (a b : Bool) : (bif a then b else false) = (a && b) := by cases a <;> cases b <;> rfl
theorem tt1 (a : Bool) : (((!a) || (a == true)) && true) = true := by cases a <;> rfl
theorem tt2 (a : Bool) : ((!(a == true)) || ((((!(a == true)) || (a == true)) && (((!(a == true)) || (a == true)) && true)) && true)) = true := by cases a <;> rfl
theorem tt3 (a : Bool) : ((!(a == true)) || ((((!(a == true)) || (a == true)) && true) && true)) = true := by cases a <;> rfl
theorem tt4 (a : Bool) : ((!(a == true)) || true) = true := by cases a <;> rfl
theorem tt5 (a b : Bool) : (bif (!a) then true else (!b)) = ((!a) || (!b)) := by cases a <;> cases b <;> rfl
theorem tt6 (a : Bool) : ((!(!(!a))) || ((!a) == false)) = true := by cases a <;> rfl
theorem tt7 (a : Bool) : ((!((!a) == false)) || ((((!((!a) == false)) || ((!a) == false)) && true) && true)) = true := by cases a <;> rfl
theorem tt8 (a b : Bool) : ((!((!a) == false)) || ((((!((!a) == false)) || ((!a) == false)) && true) && b)) = ((!a) || b) := by cases a <;> cases b <;> rfl
theorem tt9 (a : Bool) : ((!((!a) == false)) || true) = true := by cases a <;> rfl
theorem tt10 (a : Bool) : (a && true) = a := by cases a <;> rfl
theorem tt11 (a b : Bool) : (bif a then true else b) = (a || b) := by cases a <;> cases b <;> rfl
theorem tt12 (a : Bool) : ((!(!a)) || (a == false)) = true := by cases a <;> rfl
theorem tt13 (a : Bool) : ((!(a == false)) || ((((!(a == false)) || (a == false)) && (((!(a == false)) || (a == false)) && true)) && true)) = true := by cases a <;> rfl
theorem tt14 (a : Bool) : ((!(a == false)) || ((((!(a == false)) || (a == false)) && true) && true)) = true := by cases a <;> rfl
theorem tt15 (a : Bool) : ((!(a == false)) || true) = true := by cases a <;> rfl
def qr.down.Few.hint : Nat → Option LoopHint
  | 0 => some { keep := [1, 2, 5, 6, 7], objs := [], boxes := [1, 2, 5] }
  | _ => none
noncomputable def qr.down.Few.tab : List (Nat × Entry) := [(148, matrix.Column.spec)]
noncomputable def qr.down.Few.E : Env := envOf (tabOf qr.down.Few.tab) (fun _ => false) qr.down.Few.hint (fun _ => none)
noncomputable def qr.down.Few.L0 (N M : Nat) (r : Int) (c : Int) (l : List Int) : Option DV := loopAt qr.down.Few.E N Tryz.f179 (bodyOf Tryz.f179) [1, 1, 1, 0, 1, 0] [] M ⟨mkT 88 [(1, .ptr 1 0 0), (2, .ptr 2 0 0), (5, .ptr 5 0 0), (6, .nil), (7, .int .i64 (0 : Int))], [(1, false, .box [.int .i64 r, .int .i64 c, .ints .arg .u64 l]), (2, false, .box [.int .i64 (0 : Int), .int .i64 (0 : Int), .nil]), (5, false, .box [.int .i64 r, .int .i64 c, .ints .arg .u64 l])]⟩
theorem qr.down.Few.L0_step (N M : Nat) (r : Int) (c : Int) (l : List Int) : qr.down.Few.L0 N (M + 1) r c l =
  bif ((ltI (0 : Int) c) && (ltI (0 : Int) (w_i64 (r - (1 : Int))))) then
  bif (colPre r c l (0 : Int) && decide ((0 : Int) = 0)) then
  none
  else none
  else some (.tup [.agg [.int .i64 r, .int .i64 c, .ints .arg .u64 l], .nil, .int .i64 (0 : Int)]) :=
  Eq.trans (by kernel_rfl)
  (ifTn (tt4 (ltI (0 : Int) c)) (ifTn (tt4 (ltI (0 : Int) c)) (ifTn (tt3 (ltI (0 : Int) c)) (ifTn (tt3 (ltI (0 : Int) c)) (ifTn (tt2 (ltI (0 : Int) c)) (ifTn (tt1 (ltI (0 : Int) c)) (ifS (tt0 (ltI (0 : Int) c) (ltI (0 : Int) (w_i64 (r - (1 : Int))))) rfl rfl)))))))
theorem qr.down.Few.ev (N : Nat) (r : Int) (c : Int) (l : List Int) : funD qr.down.Few.E N Tryz.f179 (bodyOf Tryz.f179) [.agg [.int .i64 r, .int .i64 c, .ints .arg .u64 l]] =
  qr.down.Few.L0 N N r c l := by kernel_rfl
theorem qr.down.Few.known_of (hk : Knowns Tryz.prog qr.down.Few.tab) (h : ∀ (r : Int) (c : Int) (l : List Int), qr.down.Few.pre [.i r, .i c, .l l] = true → ∃ N dv drops, funD qr.down.Few.E N Tryz.f179 (bodyOf Tryz.f179) [.agg [.int .i64 r, .int .i64 c, .ints .arg .u64 l]] = some dv ∧ Wk drops dv (qr.down.Few.out [.i r, .i c, .l l])) : Known Tryz.prog 179 qr.down.Few.spec := by
  refine ⟨meets_entry (E := qr.down.Few.E) (env_ok hk _ _ _) Tryz.func179 (show Tryz.f179.body = some (bodyOf Tryz.f179) by kernel_rfl) fun ats dvs he hp => ?_, call_enter Tryz.func179 (by kernel_rfl) (show Tryz.f179.body = some (bodyOf Tryz.f179) by kernel_rfl)⟩
  obtain ⟨_, _, _, _, rfl, rfl, hs0, he0⟩ := he.st_inv
  obtain ⟨r, _, _, rfl, rfl, he1⟩ := hs0.i_inv
  obtain ⟨c, _, _, rfl, rfl, he2⟩ := he1.i_inv
  obtain ⟨l, _, _, rfl, rfl, he3⟩ := he2.s_inv
  obtain ⟨rfl, rfl⟩ := he3.nil_inv
  obtain ⟨rfl, rfl⟩ := he0.nil_inv
  exact h r c l hp

def qr.Factor.Few.hint : Nat → Option LoopHint
  | 0 => some { keep := [2, 3, 5, 6], objs := [], boxes := [2, 3] }
  | _ => none
noncomputable def qr.Factor.Few.tab : List (Nat × Entry) := [(60, certify.Check.spec), (180, matrix.Eye.spec), (179, qr.down.Few.spec), (110, vector.Finite.spec)]
noncomputable def qr.Factor.Few.E : Env := envOf (tabOf qr.Factor.Few.tab) (fun _ => false) qr.Factor.Few.hint (fun _ => none)
noncomputable def qr.Factor.Few.L0 (N M : Nat) (r : Int) (c : Int) (l : List Int) : Option DV := loopAt qr.Factor.Few.E N Tryz.f130 (bodyOf Tryz.f130) [1, 0, 1, 1, 1, 1, 1, 1, 0, 0] [] M ⟨mkT 81 [(2, .ptr 2 0 0), (3, .ptr 3 0 0), (5, .nil), (6, .int .i64 (-1 : Int))], [(2, false, .box [.int .i64 ((eyeX r).1), .int .i64 ((eyeX r).2.1), .ints .fresh .u64 ((eyeX r).2.2.1)]), (3, false, .box [.int .i64 r, .int .i64 c, .ints .arg .u64 ([] ++ l)])]⟩
theorem qr.Factor.Few.L0_step (N M : Nat) (r : Int) (c : Int) (l : List Int) : qr.Factor.Few.L0 N (M + 1) r c l =
  bif (okU64 ((eyeX r).2.2.1)) then
  bif ((!(finL ((eyeX r).2.2.1))) || (okU64 ([] ++ l))) then
  bif ((!(finL ((eyeX r).2.2.1))) || (!(finL ([] ++ l)))) then
  some (.tup [.agg [.int .i64 (0 : Int), .int .i64 (0 : Int), .nil], .agg [.int .i64 (0 : Int), .int .i64 (0 : Int), .nil], .int .i64 (2 : Int)])
  else some (.tup [.agg [.int .i64 ((eyeX r).1), .int .i64 ((eyeX r).2.1), .ints .fresh .u64 ((eyeX r).2.2.1)], .agg [.int .i64 r, .int .i64 c, .ints .arg .u64 ([] ++ l)], .int .i64 (0 : Int)])
  else none
  else none :=
  Eq.trans (by kernel_rfl)
  (ifE (ifTn (tt9 (finL ((eyeX r).2.2.1))) (ifTn (tt7 (finL ((eyeX r).2.2.1))) (ifS (tt8 (finL ((eyeX r).2.2.1)) (okU64 ([] ++ l))) (ifTn (tt7 (finL ((eyeX r).2.2.1))) (ifTn (tt6 (finL ((eyeX r).2.2.1))) (ifS (tt5 (finL ((eyeX r).2.2.1)) (finL ([] ++ l))) rfl rfl))) rfl))) rfl)
theorem qr.Factor.Few.ev (N : Nat) (r : Int) (c : Int) (l : List Int) : funD qr.Factor.Few.E N Tryz.f130 (bodyOf Tryz.f130) [.agg [.int .i64 r, .int .i64 c, .ints .arg .u64 l]] =
  bif (allU64 l) then
  bif ((chkFI r c l) != (0 : Int)) then
  some (.tup [.agg [.int .i64 (0 : Int), .int .i64 (0 : Int), .nil], .agg [.int .i64 (0 : Int), .int .i64 (0 : Int), .nil], .int .i64 (chkFI r c l)])
  else bif (decide (0 + (List.length l) ≤ lim)) then
  bif (fewB r c ([] ++ l)) then
  qr.Factor.Few.L0 N N r c l
  else none
  else none
  else none :=
  Eq.trans (by kernel_rfl)
  (ifE (ifE rfl (ifS (tt10 (decide (0 + (List.length l) ≤ lim))) (ifS (tt10 (fewB r c ([] ++ l))) rfl rfl) rfl)) rfl)
theorem qr.Factor.Few.known_of (hk : Knowns Tryz.prog qr.Factor.Few.tab) (h : ∀ (r : Int) (c : Int) (l : List Int), qr.Factor.Few.pre [.i r, .i c, .l l] = true → ∃ N dv drops, funD qr.Factor.Few.E N Tryz.f130 (bodyOf Tryz.f130) [.agg [.int .i64 r, .int .i64 c, .ints .arg .u64 l]] = some dv ∧ Wk drops dv (qr.Factor.Few.out [.i r, .i c, .l l])) : Known Tryz.prog 130 qr.Factor.Few.spec := by
  refine ⟨meets_entry (E := qr.Factor.Few.E) (env_ok hk _ _ _) Tryz.func130 (show Tryz.f130.body = some (bodyOf Tryz.f130) by kernel_rfl) fun ats dvs he hp => ?_, call_enter Tryz.func130 (by kernel_rfl) (show Tryz.f130.body = some (bodyOf Tryz.f130) by kernel_rfl)⟩
  obtain ⟨_, _, _, _, rfl, rfl, hs0, he0⟩ := he.st_inv
  obtain ⟨r, _, _, rfl, rfl, he1⟩ := hs0.i_inv
  obtain ⟨c, _, _, rfl, rfl, he2⟩ := he1.i_inv
  obtain ⟨l, _, _, rfl, rfl, he3⟩ := he2.s_inv
  obtain ⟨rfl, rfl⟩ := he3.nil_inv
  obtain ⟨rfl, rfl⟩ := he0.nil_inv
  exact h r c l hp

noncomputable def qr.Thin.Few.tab : List (Nat × Entry) := [(88, matrix.Part.spec), (130, qr.Factor.Few.spec)]
noncomputable def qr.Thin.Few.E : Env := envOf (tabOf qr.Thin.Few.tab) (fun _ => false) (fun _ => none) (fun _ => none)
theorem qr.Thin.Few.ev (N : Nat) (r : Int) (c : Int) (l : List Int) : funD qr.Thin.Few.E N Tryz.f71 (bodyOf Tryz.f71) [.agg [.int .i64 r, .int .i64 c, .ints .arg .u64 l]] =
  bif (fewB r c l && allU64 l) then
  some (.tup [.agg [.int .i64 ((partX r r (eyeG (Int.toNat r)) (0 : Int) (0 : Int) r (min r c)).1), .int .i64 ((partX r r (eyeG (Int.toNat r)) (0 : Int) (0 : Int) r (min r c)).2.1), .ints .fresh .u64 ((partX r r (eyeG (Int.toNat r)) (0 : Int) (0 : Int) r (min r c)).2.2.1)], .agg [.int .i64 ((partX r c l (0 : Int) (0 : Int) (min r c) c).1), .int .i64 ((partX r c l (0 : Int) (0 : Int) (min r c) c).2.1), .ints .fresh .u64 ((partX r c l (0 : Int) (0 : Int) (min r c) c).2.2.1)], .int .i64 (0 : Int)])
  else none := by kernel_rfl
theorem qr.Thin.Few.known_of (hk : Knowns Tryz.prog qr.Thin.Few.tab) (h : ∀ (r : Int) (c : Int) (l : List Int), qr.Thin.Few.pre [.i r, .i c, .l l] = true → ∃ N dv drops, funD qr.Thin.Few.E N Tryz.f71 (bodyOf Tryz.f71) [.agg [.int .i64 r, .int .i64 c, .ints .arg .u64 l]] = some dv ∧ Wk drops dv (qr.Thin.Few.out [.i r, .i c, .l l])) : Known Tryz.prog 71 qr.Thin.Few.spec := by
  refine ⟨meets_entry (E := qr.Thin.Few.E) (env_ok hk _ _ _) Tryz.func71 (show Tryz.f71.body = some (bodyOf Tryz.f71) by kernel_rfl) fun ats dvs he hp => ?_, call_enter Tryz.func71 (by kernel_rfl) (show Tryz.f71.body = some (bodyOf Tryz.f71) by kernel_rfl)⟩
  obtain ⟨_, _, _, _, rfl, rfl, hs0, he0⟩ := he.st_inv
  obtain ⟨r, _, _, rfl, rfl, he1⟩ := hs0.i_inv
  obtain ⟨c, _, _, rfl, rfl, he2⟩ := he1.i_inv
  obtain ⟨l, _, _, rfl, rfl, he3⟩ := he2.s_inv
  obtain ⟨rfl, rfl⟩ := he3.nil_inv
  obtain ⟨rfl, rfl⟩ := he0.nil_inv
  exact h r c l hp

noncomputable def qr.Turned.tab : List (Nat × Entry) := [(87, matrix.Mul.spec), (131, matrix.Turn.spec)]
noncomputable def qr.Turned.E : Env := envOf (tabOf qr.Turned.tab) (fun _ => false) (fun _ => none) (fun _ => none)
theorem qr.Turned.ev (N : Nat) (r : Int) (c : Int) (l : List Int) (p : Int) (q : Int) (m : List Int) : funD qr.Turned.E N Tryz.f72 (bodyOf Tryz.f72) [.agg [.int .i64 r, .int .i64 c, .ints .arg .u64 l], .agg [.int .i64 p, .int .i64 q, .ints .arg .u64 m]] =
  bif (((turnX r c l).2.2.2) != (0 : Int)) then
  some (.tup [.agg [.int .i64 (0 : Int), .int .i64 (0 : Int), .nil], .int .i64 ((turnX r c l).2.2.2)])
  else bif (allU64 ((turnX r c l).2.2.1) && allU64 m) then
  some (.tup [.agg [.int .i64 ((mulX ((turnX r c l).1) ((turnX r c l).2.1) ((turnX r c l).2.2.1) p q m).1), .int .i64 ((mulX ((turnX r c l).1) ((turnX r c l).2.1) ((turnX r c l).2.2.1) p q m).2.1), .ints .fresh .u64 ((mulX ((turnX r c l).1) ((turnX r c l).2.1) ((turnX r c l).2.2.1) p q m).2.2.1)], .int .i64 ((mulX ((turnX r c l).1) ((turnX r c l).2.1) ((turnX r c l).2.2.1) p q m).2.2.2)])
  else none := by kernel_rfl
theorem qr.Turned.known_of (hk : Knowns Tryz.prog qr.Turned.tab) (h : ∀ (r : Int) (c : Int) (l : List Int) (p : Int) (q : Int) (m : List Int), qr.Turned.pre [.i r, .i c, .l l, .i p, .i q, .l m] = true → ∃ N dv drops, funD qr.Turned.E N Tryz.f72 (bodyOf Tryz.f72) [.agg [.int .i64 r, .int .i64 c, .ints .arg .u64 l], .agg [.int .i64 p, .int .i64 q, .ints .arg .u64 m]] = some dv ∧ Wk drops dv (qr.Turned.out [.i r, .i c, .l l, .i p, .i q, .l m])) : Known Tryz.prog 72 qr.Turned.spec := by
  refine ⟨meets_entry (E := qr.Turned.E) (env_ok hk _ _ _) Tryz.func72 (show Tryz.f72.body = some (bodyOf Tryz.f72) by kernel_rfl) fun ats dvs he hp => ?_, call_enter Tryz.func72 (by kernel_rfl) (show Tryz.f72.body = some (bodyOf Tryz.f72) by kernel_rfl)⟩
  obtain ⟨_, _, _, _, rfl, rfl, hs0, he0⟩ := he.st_inv
  obtain ⟨r, _, _, rfl, rfl, he1⟩ := hs0.i_inv
  obtain ⟨c, _, _, rfl, rfl, he2⟩ := he1.i_inv
  obtain ⟨l, _, _, rfl, rfl, he3⟩ := he2.s_inv
  obtain ⟨rfl, rfl⟩ := he3.nil_inv
  obtain ⟨_, _, _, _, rfl, rfl, hs4, he4⟩ := he0.st_inv
  obtain ⟨p, _, _, rfl, rfl, he5⟩ := hs4.i_inv
  obtain ⟨q, _, _, rfl, rfl, he6⟩ := he5.i_inv
  obtain ⟨m, _, _, rfl, rfl, he7⟩ := he6.s_inv
  obtain ⟨rfl, rfl⟩ := he7.nil_inv
  obtain ⟨rfl, rfl⟩ := he4.nil_inv
  exact h r c l p q m hp

def solve.Least.Few.hint : Nat → Option LoopHint
  | 0 => some { keep := [2, 3, 4, 17, 18], objs := [], boxes := [2, 3, 4] }
  | _ => none
noncomputable def solve.Least.Few.tab : List (Nat × Entry) := [(60, certify.Check.spec), (71, qr.Thin.Few.spec), (72, qr.Turned.spec), (19, solve.Flat.spec), (13, solve.Upper.spec)]
noncomputable def solve.Least.Few.E : Env := envOf (tabOf solve.Least.Few.tab) (fun _ => false) solve.Least.Few.hint (fun _ => none)
theorem solve.Least.Few.ev (N : Nat) (r : Int) (c : Int) (l : List Int) (p : Int) (q : Int) (m : List Int) : funD solve.Least.Few.E (N + 4) Tryz.f23 (bodyOf Tryz.f23) [.agg [.int .i64 r, .int .i64 c, .ints .arg .u64 l], .agg [.int .i64 p, .int .i64 q, .ints .arg .u64 m]] =
  bif (allU64 l) then
  bif ((chkFI r c l) != (0 : Int)) then
  some (.tup [.agg [.int .i64 (0 : Int), .int .i64 (0 : Int), .nil], .int .i64 (chkFI r c l)])
  else bif (allU64 m) then
  bif ((chkFI p q m) != (0 : Int)) then
  some (.tup [.agg [.int .i64 (0 : Int), .int .i64 (0 : Int), .nil], .int .i64 (chkFI p q m)])
  else bif ((ltI r c) || (r != p)) then
  some (.tup [.agg [.int .i64 (0 : Int), .int .i64 (0 : Int), .nil], .int .i64 (3 : Int)])
  else bif (fewB r c l && allU64 l) then
  bif (allU64 ((partX r c l 0 0 (min r c) c).2.2.1)) then
  bif ((flatX (min r c) c ((partX r c l 0 0 (min r c) c).2.2.1)).1) then
  some (.tup [.agg [.int .i64 (0 : Int), .int .i64 (0 : Int), .nil], .int .i64 (5 : Int)])
  else bif (allU64 ((partX r r (eyeG (Int.toNat r)) 0 0 r (min r c)).2.2.1) && allU64 m) then
  bif (((turnedX r (min r c) ((partX r r (eyeG (Int.toNat r)) 0 0 r (min r c)).2.2.1) p q m).2.2.2) != (0 : Int)) then
  some (.tup [.agg [.int .i64 (0 : Int), .int .i64 (0 : Int), .nil], .int .i64 ((turnedX r (min r c) ((partX r r (eyeG (Int.toNat r)) 0 0 r (min r c)).2.2.1) p q m).2.2.2)])
  else bif (allU64 ((partX r c l 0 0 (min r c) c).2.2.1) && allU64 ((turnedX r (min r c) ((partX r r (eyeG (Int.toNat r)) 0 0 r (min r c)).2.2.1) p q m).2.2.1)) then
  some (.tup [.agg [.int .i64 ((upX (min r c) c ((partX r c l 0 0 (min r c) c).2.2.1) ((turnedX r (min r c) ((partX r r (eyeG (Int.toNat r)) 0 0 r (min r c)).2.2.1) p q m).1) ((turnedX r (min r c) ((partX r r (eyeG (Int.toNat r)) 0 0 r (min r c)).2.2.1) p q m).2.1) ((turnedX r (min r c) ((partX r r (eyeG (Int.toNat r)) 0 0 r (min r c)).2.2.1) p q m).2.2.1)).1), .int .i64 ((upX (min r c) c ((partX r c l 0 0 (min r c) c).2.2.1) ((turnedX r (min r c) ((partX r r (eyeG (Int.toNat r)) 0 0 r (min r c)).2.2.1) p q m).1) ((turnedX r (min r c) ((partX r r (eyeG (Int.toNat r)) 0 0 r (min r c)).2.2.1) p q m).2.1) ((turnedX r (min r c) ((partX r r (eyeG (Int.toNat r)) 0 0 r (min r c)).2.2.1) p q m).2.2.1)).2.1), .ints .fresh .u64 ((upX (min r c) c ((partX r c l 0 0 (min r c) c).2.2.1) ((turnedX r (min r c) ((partX r r (eyeG (Int.toNat r)) 0 0 r (min r c)).2.2.1) p q m).1) ((turnedX r (min r c) ((partX r r (eyeG (Int.toNat r)) 0 0 r (min r c)).2.2.1) p q m).2.1) ((turnedX r (min r c) ((partX r r (eyeG (Int.toNat r)) 0 0 r (min r c)).2.2.1) p q m).2.2.1)).2.2.1)], .int .i64 ((upX (min r c) c ((partX r c l 0 0 (min r c) c).2.2.1) ((turnedX r (min r c) ((partX r r (eyeG (Int.toNat r)) 0 0 r (min r c)).2.2.1) p q m).1) ((turnedX r (min r c) ((partX r r (eyeG (Int.toNat r)) 0 0 r (min r c)).2.2.1) p q m).2.1) ((turnedX r (min r c) ((partX r r (eyeG (Int.toNat r)) 0 0 r (min r c)).2.2.1) p q m).2.2.1)).2.2.2)])
  else none
  else none
  else none
  else none
  else none
  else none :=
  Eq.trans (by kernel_rfl)
  (ifE (ifE rfl (ifE (ifE rfl (ifTn (tt15 (ltI r c)) (ifTn (tt14 (ltI r c)) (ifTn (tt15 (ltI r c)) (ifTn (tt14 (ltI r c)) (ifTn (tt13 (ltI r c)) (ifTn (tt12 (ltI r c)) (ifS (tt11 (ltI r c) (r != p)) rfl rfl)))))))) rfl)) rfl)
theorem solve.Least.Few.known_of (hk : Knowns Tryz.prog solve.Least.Few.tab) (h : ∀ (r : Int) (c : Int) (l : List Int) (p : Int) (q : Int) (m : List Int), solve.Least.Few.pre [.i r, .i c, .l l, .i p, .i q, .l m] = true → ∃ N dv drops, funD solve.Least.Few.E N Tryz.f23 (bodyOf Tryz.f23) [.agg [.int .i64 r, .int .i64 c, .ints .arg .u64 l], .agg [.int .i64 p, .int .i64 q, .ints .arg .u64 m]] = some dv ∧ Wk drops dv (solve.Least.Few.out [.i r, .i c, .l l, .i p, .i q, .l m])) : Known Tryz.prog 23 solve.Least.Few.spec := by
  refine ⟨meets_entry (E := solve.Least.Few.E) (env_ok hk _ _ _) Tryz.func23 (show Tryz.f23.body = some (bodyOf Tryz.f23) by kernel_rfl) fun ats dvs he hp => ?_, call_enter Tryz.func23 (by kernel_rfl) (show Tryz.f23.body = some (bodyOf Tryz.f23) by kernel_rfl)⟩
  obtain ⟨_, _, _, _, rfl, rfl, hs0, he0⟩ := he.st_inv
  obtain ⟨r, _, _, rfl, rfl, he1⟩ := hs0.i_inv
  obtain ⟨c, _, _, rfl, rfl, he2⟩ := he1.i_inv
  obtain ⟨l, _, _, rfl, rfl, he3⟩ := he2.s_inv
  obtain ⟨rfl, rfl⟩ := he3.nil_inv
  obtain ⟨_, _, _, _, rfl, rfl, hs4, he4⟩ := he0.st_inv
  obtain ⟨p, _, _, rfl, rfl, he5⟩ := hs4.i_inv
  obtain ⟨q, _, _, rfl, rfl, he6⟩ := he5.i_inv
  obtain ⟨m, _, _, rfl, rfl, he7⟩ := he6.s_inv
  obtain ⟨rfl, rfl⟩ := he7.nil_inv
  obtain ⟨rfl, rfl⟩ := he4.nil_inv
  exact h r c l p q m hp
end EqFew
end Go.Proofs.S1

/- Packages solve, qr (where no mirror is asked for). -/
namespace Go.Proofs.S1
open Go Go.Den Go.Rnd Go.Proofs
open EqSol EqFew

theorem wk_nil {drops : List Nat} : Wk drops .nil .nil := .refl rfl (by intros; simp) (by intros; simp)

theorem range_drop {n i : Nat} (h : i < n) : (List.range n).drop i = i :: (List.range n).drop (i + 1) := by
  rw [List.drop_eq_getElem_cons (by rw [List.length_range]; exact h), List.getElem_range]

theorem chk_zero {r c : Int} {l : List Int} (h : chkFI r c l = 0) : rightB r c l = true ∧ finL l = true := by
  unfold chkFI at h
  by_cases h1 : rightB r c l = true
  · rw [if_pos h1] at h
    by_cases h2 : finL l = true
    · exact ⟨h1, h2⟩
    · rw [if_neg h2] at h; exact absurd h (by decide)
  · rw [if_neg h1] at h; exact absurd h (by decide)
theorem chk_of {r c : Int} {l : List Int} (h1 : rightB r c l = true) (h2 : finL l = true) : chkFI r c l = 0 := by unfold chkFI; rw [if_pos h1, if_pos h2]
theorem neI {x : Int} (h : x ≠ 0) : (x != (0 : Int)) = true := by simpa using h
theorem zeroI {x : Int} (h : x = 0) : (x != (0 : Int)) = false := by rw [h]; rfl

theorem check_loop (N : Nat) {n : Nat} {l : List Int} (n6 : n ≤ 6) (hl : l.length = n * n) (al : allU64 l = true) : ∀ (cnt i F : Nat), i + cnt = n → cnt < F →
    solve.check.L0 (N + 4) F (n : Int) (n : Int) l (i : Int) = some (.int .i64 (if ((List.range n).drop i).any (fun i : Nat => decide (kindI (atI (n : Int) l (i : Int) (i : Int)) = 0)) = true then 5 else 0)) := by
  intro cnt
  induction cnt with
  | zero =>
    intro i F hi hF
    obtain ⟨F, rfl⟩ : ∃ G, F = G + 1 := ⟨F - 1, by omega⟩
    rw [solve.check.L0_step, ltI_eq, decide_eq_false (by omega), cond_false, List.drop_of_length_le (by rw [List.length_range]; omega)]; rfl
  | succ cnt ih =>
    intro i F hi hF
    obtain ⟨F, rfl⟩ : ∃ G, F = G + 1 := ⟨F - 1, by omega⟩
    obtain ⟨e1, g1, g2⟩ := at_code (R := (n : Int)) (atPre_of n6 n6 hl (show i < n by omega) (show i < n by omega))
    have hx : List.getD l (Int.toNat ((i : Int) * (n : Int) + (i : Int))) 0 = atI (n : Int) l (i : Int) (i : Int) := rfl
    rw [solve.check.L0_step, ltI_eq, decide_eq_true (show (i : Int) < (n : Int) by omega), cond_true, e1, decide_eq_true g1, decide_eq_true g2, Bool.and_self, cond_true, hx, at_all al, cond_true, range_drop (by omega), List.any_cons]
    by_cases hk : kindI (atI (n : Int) l (i : Int) (i : Int)) = 0
    · have e : (kindI (atI (n : Int) l (i : Int) (i : Int)) == (0 : Int)) = true := by rw [hk]; rfl
      rw [e, cond_true, decide_eq_true hk]; rfl
    · have e : (kindI (atI (n : Int) l (i : Int) (i : Int)) == (0 : Int)) = false := by simpa using hk
      rw [e, cond_false, decide_eq_false hk, Bool.false_or, w_i64_in (by omega) (by omega)]
      exact ih (i + 1) F (by omega) (by omega)

theorem ne_or {r c p : Int} : ((r != c) || (r != p)) = decide (r ≠ c ∨ r ≠ p) := by
  rw [Bool.eq_iff_iff]; simp

theorem solve.check.known : Known Tryz.prog 47 solve.check.spec := solve.check.known_of (.cons certify.Check.known (.cons soft.Kind.known .nil)) fun r c l p q m hp => by
  obtain ⟨al, am⟩ := and_true_iff.1 (show (allU64 l && allU64 m) = true from hp)
  refine ⟨14, solve.check.out [.i r, .i c, .l l, .i p, .i q, .l m], [], ?_, .int⟩
  show _ = some (DV.int .i64 (chkT r c l p q m))
  rw [show (14 : Nat) = 10 + 4 from rfl, solve.check.ev, al, cond_true, am, cond_true, ne_or]
  unfold chkT
  by_cases h1 : chkFI r c l = 0
  · rw [zeroI h1, cond_false, if_neg (by rw [h1]; decide)]
    by_cases h2 : chkFI p q m = 0
    · rw [zeroI h2, cond_false, if_neg (by rw [h2]; decide)]
      by_cases h3 : r ≠ c ∨ r ≠ p
      · rw [decide_eq_true h3, cond_true, if_pos h3]
      · rw [decide_eq_false h3, cond_false, if_neg h3]
        obtain rfl : r = c := Decidable.byContradiction fun h => h3 (.inl h)
        obtain ⟨R, C, rfl, hC, r6, c6, hl⟩ := right_nat (chk_zero h1).1
        obtain rfl : R = C := by omega
        rw [Int.toNat_natCast]
        exact check_loop 10 r6 hl al R 0 14 (by omega) (by omega)
    · rw [neI h2, cond_true, if_pos h2]
  · rw [neI h1, cond_true, if_pos h1]

theorem chkT_zero {r c : Int} {l : List Int} {p q : Int} {m : List Int} (h : chkT r c l p q m = 0) : rightB r c l = true ∧ rightB p q m = true ∧ r = c ∧ r = p := by
  unfold chkT at h
  by_cases h1 : chkFI r c l = 0
  · rw [if_neg (by rw [h1]; decide)] at h
    by_cases h2 : chkFI p q m = 0
    · rw [if_neg (by rw [h2]; decide)] at h
      by_cases h3 : r ≠ c ∨ r ≠ p
      · rw [if_pos h3] at h; exact absurd h (by decide)
      · exact ⟨(chk_zero h1).1, (chk_zero h2).1, Decidable.byContradiction fun h => h3 (.inl h), Decidable.byContradiction fun h => h3 (.inr h)⟩
    · rw [if_pos h2] at h; exact absurd h h2
  · rw [if_pos h1] at h; exact absurd h h1

theorem solve.Upper.known : Known Tryz.prog 13 solve.Upper.spec := solve.Upper.known_of (.cons solve.check.known (.cons solve.triangle.Up.known .nil)) fun r c l p q m hp => by
  have hp : (allU64 l && allU64 m) = true := hp
  show ∃ N dv drops, _ = some dv ∧ Wk drops dv (outX (upX r c l p q m))
  unfold upX
  by_cases h : chkT r c l p q m = 0
  · obtain ⟨h1, h2, h3, h4⟩ := chkT_zero h
    have ht : triPre r c l p q m = true := and_true_iff.2 ⟨and_true_iff.2 ⟨h1, h2⟩, and_true_iff.2 ⟨hp, cdec_eq.2 ⟨h3, h4⟩⟩⟩
    rw [if_neg (by rw [h]; decide)]
    exact ⟨0, _, [], by rw [solve.Upper.ev, hp, cond_true, zeroI h, cond_false, ht, decide_eq_true rfl]; rfl, wk_mat⟩
  · rw [if_pos h]
    exact ⟨0, _, [], by rw [solve.Upper.ev, hp, cond_true, neI h, cond_true]; rfl, wk_no⟩

/-! ### Flat -/

theorem scale_lt {b : Nat} {n : Int} (h : b < 2 ^ 64) : (scaleN b n).1 < 2 ^ 64 := by
  unfold scaleN
  by_cases h4 : kindN b = 4
  · rw [if_pos h4]; exact (by decide : NaN < 2 ^ 64)
  rw [if_neg h4]
  by_cases h3 : kindN b = 3 ∨ kindN b = 0
  · rw [if_pos h3]; exact h
  rw [if_neg h3]
  exact signN_lt _ _ _
theorem scale_in {b n : Int} (h : inU64 b = true) : inU64 (scaleBI b n) = true := by
  obtain ⟨x, rfl, hx⟩ := inU64_nat h
  exact inU64_of (scale_lt (by rw [Int.toNat_natCast]; exact hx))
theorem big_lt : ∀ (l : List Int) (m : Nat), m < 2 ^ 64 → bigP l m < 2 ^ 64
  | [], m, h => h
  | x :: l, m, h => by
    unfold bigP
    split
    · exact (by decide : NaN < 2 ^ 64)
    · have h2 : absN x.toNat < 2 ^ 63 := word63 x.toNat
      exact big_lt l _ (by omega)
theorem big_in (l : List Int) : inU64 (bigI l) = true := inU64_of (big_lt l 0 (by decide))
theorem mag_in (x : Int) : inU64 (magI x) = true := inU64_of (Nat.lt_trans (word63 x.toNat) (by decide))

theorem flat_test (N : Nat) {d : List Int} (hd : okU64 d = true) (h7 : d.length ≤ 1000) : ∀ (cnt i F : Nat), i + cnt = d.length → cnt < F →
    solve.Flat.L1 N F d (i : Int) = some (.tup [.bool ((d.drop i).any fun x => !(decide (ordI (scaleBI (bigI d) (-40)) x < 0))), .int .i64 0]) := by
  obtain ⟨_, hu⟩ := okU_get hd
  intro cnt
  induction cnt with
  | zero =>
    intro i F hi hF
    obtain ⟨F, rfl⟩ : ∃ G, F = G + 1 := ⟨F - 1, by omega⟩
    rw [solve.Flat.L1_step, ltI_eq, decide_eq_false (by omega), cond_false, List.drop_of_length_le (by omega)]; rfl
  | succ cnt ih =>
    intro i F hi hF
    obtain ⟨F, rfl⟩ : ∃ G, F = G + 1 := ⟨F - 1, by omega⟩
    rw [solve.Flat.L1_step, ltI_eq, decide_eq_true (show (i : Int) < (d.length : Int) by omega), cond_true, decide_eq_true (show (0 : Int) ≤ (i : Int) by omega), Bool.and_self, cond_true, Int.toNat_natCast, decide_eq_true (show i < d.length by omega), cond_true,
      scale_in (big_in d), hu i (by omega), Bool.and_self, cond_true, drop_getD (by omega), List.any_cons]
    cases decide (ordI (scaleBI (bigI d) (-40)) (d.getD i 0) < 0) with
    | false => rfl
    | true =>
      rw [Bool.not_true, cond_false, Bool.false_or, w_i64_in (by omega) (by omega)]
      exact ih (i + 1) F (by omega) (by omega)

theorem diag_in (c : Int) (l : List Int) (n : Nat) : allU64 (diagL c l n) = true := cdec_eq.2 fun x hx => by
  obtain ⟨j, _, rfl⟩ := List.mem_map.1 hx
  exact mag_in _
theorem diag_length (c : Int) (l : List Int) (n : Nat) : (diagL c l n).length = n := by unfold diagL; rw [List.length_map, List.length_range]

theorem flat_loop (N : Nat) {R C : Nat} {l : List Int} (r6 : R ≤ 6) (c6 : C ≤ 6) (hN : 7 < N) (hl : l.length = R * C) (al : allU64 l = true) : ∀ (cnt i F : Nat), i + cnt = min R C → cnt < F →
    solve.Flat.L0 N F (R : Int) (C : Int) l (i : Int) (diagL (C : Int) l i) = some (.tup [.bool (flatL (diagL (C : Int) l (min R C))), .int .i64 0]) := by
  intro cnt
  induction cnt with
  | zero =>
    intro i F hi hF
    obtain ⟨F, rfl⟩ : ∃ G, F = G + 1 := ⟨F - 1, by omega⟩
    obtain rfl : i = min R C := by omega
    have hlt : (ltI (((min R C : Nat)) : Int) (R : Int) && ltI (((min R C : Nat)) : Int) (C : Int)) = false := by
      rw [ltI_eq, ltI_eq, Bool.and_eq_false_iff, decide_eq_false_iff_not, decide_eq_false_iff_not]; omega
    have ok := okU_of (diag_in (C : Int) l (min R C)) (by rw [diag_length]; omega)
    have sp : scalePre (bigI (diagL (C : Int) l (min R C))) (-40 : Int) = true := and_true_iff.2 ⟨big_in _, cdec_eq.2 (by omega)⟩
    rw [solve.Flat.L0_step, hlt, cond_false, ok, cond_true, sp, cond_true]
    exact flat_test N ok (by rw [diag_length]; omega) (min R C) 0 N (by rw [diag_length]; omega) (by omega)
  | succ cnt ih =>
    intro i F hi hF
    obtain ⟨F, rfl⟩ : ∃ G, F = G + 1 := ⟨F - 1, by omega⟩
    obtain ⟨e1, g1, g2⟩ := at_code (R := (R : Int)) (atPre_of r6 c6 hl (show i < R by omega) (show i < C by omega))
    have hx : List.getD l (Int.toNat ((i : Int) * (C : Int) + (i : Int))) 0 = atI (C : Int) l (i : Int) (i : Int) := rfl
    rw [solve.Flat.L0_step, ltI_eq, ltI_eq, decide_eq_true (show (i : Int) < (R : Int) by omega), decide_eq_true (show (i : Int) < (C : Int) by omega), Bool.and_self, cond_true, e1, decide_eq_true g1, decide_eq_true g2, Bool.and_self, cond_true, hx, at_all al, cond_true,
      diag_length, decide_eq_true (show i + 1 ≤ lim by unfold lim; omega), cond_true, w_i64_in (by omega) (by omega)]
    have := ih (i + 1) F (by omega) (by omega)
    unfold diagL at this ⊢
    rw [row_succ] at this
    exact this

theorem solve.Flat.known : Known Tryz.prog 19 solve.Flat.spec := solve.Flat.known_of (.cons certify.Check.known (.cons compare.Abs.known (.cons compare.Less.known (.cons vector.Biggest.known (.cons vector.Shift.known .nil))))) fun r c l hp => by
  have hp : allU64 l = true := hp
  refine ⟨8, solve.Flat.out [.i r, .i c, .l l], [], ?_, Wk.tupL (.cons .bool (.cons .int .nil))⟩
  show _ = some (DV.tup [.bool (flatX r c l).1, .int .i64 (flatX r c l).2])
  rw [solve.Flat.ev, hp, cond_true]
  unfold flatX flatB'
  by_cases h1 : chkFI r c l = 0
  · obtain ⟨R, C, rfl, rfl, r6, c6, hl⟩ := right_nat (chk_zero h1).1
    rw [zeroI h1, cond_false, if_neg (by rw [h1]; decide), Int.toNat_natCast, Int.toNat_natCast]
    exact flat_loop 8 r6 c6 (by omega) hl hp (min R C) 0 8 (by omega) (by omega)
  · rw [neI h1, cond_true, if_pos h1]

/-! ### No mirrors -/

theorem few_get {r c : Int} {l : List Int} (h : fewB r c l = true) : rightB r c l = true ∧ finL l = true ∧ (c ≤ 0 ∨ r ≤ 1) := by
  obtain ⟨h1, h2⟩ := and_true_iff.1 h
  obtain ⟨h3, h4⟩ := and_true_iff.1 h1
  rw [Bool.or_eq_true, decide_eq_true_eq, decide_eq_true_eq] at h2
  exact ⟨h3, h4, h2⟩

theorem qr.down.Few.known : Known Tryz.prog 179 qr.down.Few.spec := qr.down.Few.known_of (.cons matrix.Column.known .nil) fun r c l hp => by
  obtain ⟨h1, _, h3⟩ := few_get (show fewB r c l = true from hp)
  have hs := right_iff.1 h1
  refine ⟨1, qr.down.Few.out [.i r, .i c, .l l], [], ?_, Wk.tupL (.cons (Wk.aggL (.cons .int (.cons .int (.cons .argL .nil)))) (.cons wk_nil (.cons .int .nil)))⟩
  have hlt : (ltI (0 : Int) c && ltI (0 : Int) (r - 1)) = false := by
    rw [ltI_eq, ltI_eq, Bool.and_eq_false_iff, decide_eq_false_iff_not, decide_eq_false_iff_not]; omega
  rw [qr.down.Few.ev, show (1 : Nat) = 0 + 1 from rfl, qr.down.Few.L0_step, w_i64_in (by omega) (by omega), hlt, cond_false]
  rfl

theorem eyeG_all (n : Nat) : allU64 (eyeG n) = true := grid_in fun i k => by
  unfold eyeI
  split
  · exact inU64_of (n := 4607182418800017408) (by decide)
  · exact inU64_of (n := 0) (by decide)
theorem eyeG_fin (n : Nat) : finL (eyeG n) = true := by
  unfold finL
  rw [List.all_eq_true]
  intro x hx
  obtain ⟨j, _, rfl⟩ := List.mem_map.1 hx
  show finI (eyeI _ _) = true
  unfold eyeI
  split <;> decide
theorem eyeX_of {r : Int} (h : sizeB r = true) : eyeX r = (r, r, eyeG r.toNat, 0) := if_pos h

theorem qr.Factor.Few.known : Known Tryz.prog 130 qr.Factor.Few.spec := qr.Factor.Few.known_of (.cons certify.Check.known (.cons matrix.Eye.known (.cons qr.down.Few.known (.cons vector.Finite.known .nil)))) fun r c l hp => by
  obtain ⟨hf, al⟩ := and_true_iff.1 (show (fewB r c l && allU64 l) = true from hp)
  obtain ⟨h1, h2, h3⟩ := few_get hf
  have sz := (right_sizes h1).1
  have h36 := right_len h1
  obtain ⟨R, hR, r6⟩ := size_nat sz
  have he : okU64 (eyeG r.toNat) = true := okU_of (eyeG_all _) (by
    unfold eyeG; rw [grid_length, hR, Int.toNat_natCast]
    have := Nat.mul_le_mul r6 r6
    omega)
  refine ⟨1, qr.Factor.Few.out [.i r, .i c, .l l], [], ?_, Wk.tupL (.cons (Wk.aggL (.cons .int (.cons .int (.cons .freshL .nil)))) (.cons (Wk.aggL (.cons .int (.cons .int (.cons .argL .nil)))) (.cons .int .nil)))⟩
  rw [qr.Factor.Few.ev, al, cond_true, zeroI (chk_of h1 h2), cond_false, decide_eq_true (show 0 + l.length ≤ lim by unfold lim; omega), cond_true, List.nil_append, hf, cond_true, show (1 : Nat) = 0 + 1 from rfl, qr.Factor.Few.L0_step, eyeX_of sz]
  dsimp only
  rw [he, cond_true, List.nil_append, okU_of al (by omega), Bool.or_true, cond_true, eyeG_fin, h2]
  rfl

theorem part_in {r c : Int} {l : List Int} (al : allU64 l = true) (x y a b : Int) : allU64 (partX r c l x y a b).2.2.1 = true := by
  unfold partX
  split
  · split
    · dsimp only
      exact grid_in fun i k => at_all al
    · exact cdec_eq.2 fun x h => by cases h
  · exact cdec_eq.2 fun x h => by cases h
theorem turn_in {r c : Int} {l : List Int} (al : allU64 l = true) : allU64 (turnX r c l).2.2.1 = true := by
  unfold turnX
  split
  · dsimp only
    exact grid_in fun i k => at_all al
  · exact cdec_eq.2 fun x h => by cases h
theorem dotI_in (x y : List Int) : inU64 (dotI x y) = true := inU64_of (dotP_lt x y 0 (by decide))
theorem mulX_in (r c : Int) (l : List Int) (p q : Int) (m : List Int) : allU64 (mulX r c l p q m).2.2.1 = true := by
  unfold mulX
  split
  · split
    · dsimp only
      exact grid_in fun i k => dotI_in _ _
    · exact cdec_eq.2 fun x h => by cases h
  · exact cdec_eq.2 fun x h => by cases h
theorem turned_in (r c : Int) (l : List Int) (p q : Int) (m : List Int) : allU64 (turnedX r c l p q m).2.2.1 = true := by
  unfold turnedX
  split
  · exact cdec_eq.2 fun x h => by cases h
  · exact mulX_in _ _ _ _ _ _

theorem qr.Turned.known : Known Tryz.prog 72 qr.Turned.spec := qr.Turned.known_of (.cons matrix.Mul.known (.cons matrix.Turn.known .nil)) fun r c l p q m hp => by
  obtain ⟨al, am⟩ := and_true_iff.1 (show (allU64 l && allU64 m) = true from hp)
  show ∃ N dv drops, _ = some dv ∧ Wk drops dv (outX (turnedX r c l p q m))
  unfold turnedX
  by_cases h : (turnX r c l).2.2.2 = 0
  · rw [if_neg (by rw [h]; decide)]
    exact ⟨0, _, [], by rw [qr.Turned.ev, zeroI h, cond_false, turn_in al, am]; rfl, wk_mat⟩
  · rw [if_pos h]
    exact ⟨0, _, [], by rw [qr.Turned.ev, neI h, cond_true]; rfl, wk_no⟩

theorem qr.Thin.Few.known : Known Tryz.prog 71 qr.Thin.Few.spec := qr.Thin.Few.known_of (.cons matrix.Part.known (.cons qr.Factor.Few.known .nil)) fun r c l hp => by
  have hp : (fewB r c l && allU64 l) = true := hp
  obtain ⟨hf, al⟩ := and_true_iff.1 hp
  obtain ⟨h1, h2, h3⟩ := few_get hf
  obtain ⟨R, C, rfl, rfl, r6, c6, hl⟩ := right_nat h1
  refine ⟨0, qr.Thin.Few.out [.i (R : Int), .i (C : Int), .l l], [], ?_, Wk.tupL (.cons (Wk.aggL (.cons .int (.cons .int (.cons .freshL .nil)))) (.cons (Wk.aggL (.cons .int (.cons .int (.cons .freshL .nil)))) (.cons .int .nil)))⟩
  have em : min (R : Int) (C : Int) = ((min R C : Nat) : Int) := by omega
  have e1 : partX (R : Int) (R : Int) (eyeG R) 0 0 (R : Int) (min (R : Int) (C : Int)) = ((R : Int), (min (R : Int) (C : Int)), (partX (R : Int) (R : Int) (eyeG R) 0 0 (R : Int) (min (R : Int) (C : Int))).2.2.1, 0) := by
    have g1 : rightB (R : Int) (R : Int) (eyeG R) = true := grid_right _ r6 r6
    have g2 : partB (R : Int) (R : Int) 0 0 (R : Int) (min (R : Int) (C : Int)) = true := decide_eq_true (by omega)
    unfold partX
    rw [if_pos g1, if_pos g2]
  have e2 : partX (R : Int) (C : Int) l 0 0 (min (R : Int) (C : Int)) (C : Int) = ((min (R : Int) (C : Int)), (C : Int), (partX (R : Int) (C : Int) l 0 0 (min (R : Int) (C : Int)) (C : Int)).2.2.1, 0) := by
    have g2 : partB (R : Int) (C : Int) 0 0 (min (R : Int) (C : Int)) (C : Int) = true := decide_eq_true (by omega)
    unfold partX
    rw [if_pos h1, if_pos g2]
  rw [qr.Thin.Few.ev, hp, cond_true, Int.toNat_natCast, e1, e2]
  show _ = some (DV.tup [.agg [.int .i64 (R : Int), .int .i64 (min (R : Int) (C : Int)), .ints .fresh .u64 (partX (R : Int) (R : Int) (eyeG (R : Int).toNat) 0 0 (R : Int) (min (R : Int) (C : Int))).2.2.1], .agg [.int .i64 (min (R : Int) (C : Int)), .int .i64 (C : Int), .ints .fresh .u64 (partX (R : Int) (C : Int) l 0 0 (min (R : Int) (C : Int)) (C : Int)).2.2.1], .int .i64 0])
  rw [Int.toNat_natCast]

theorem solve.Least.Few.known : Known Tryz.prog 23 solve.Least.Few.spec := solve.Least.Few.known_of (.cons certify.Check.known (.cons qr.Thin.Few.known (.cons qr.Turned.known (.cons solve.Flat.known (.cons solve.Upper.known .nil))))) fun r c l p q m hp => by
  obtain ⟨hl, am⟩ := and_true_iff.1 (show ((fewB r c l && allU64 l) && allU64 m) = true from hp)
  obtain ⟨hf, al⟩ := and_true_iff.1 hl
  obtain ⟨h1, h2, h3⟩ := few_get hf
  show ∃ N dv drops, _ = some dv ∧ Wk drops dv (outX (leastF r c l p q m))
  unfold leastF
  have hl2 : (ltI r c || (r != p)) = decide (r < c ∨ r ≠ p) := by rw [ltI_eq, Bool.eq_iff_iff]; simp
  by_cases c1 : chkFI p q m = 0
  · rw [if_neg (by rw [c1]; decide)]
    by_cases c2 : r < c ∨ r ≠ p
    · rw [if_pos c2]
      exact ⟨4, _, [], by rw [show (4 : Nat) = 0 + 4 from rfl, solve.Least.Few.ev, al, cond_true, zeroI (chk_of h1 h2), cond_false, am, cond_true, zeroI c1, cond_false, hl2, decide_eq_true c2, cond_true]; rfl, wk_no⟩
    · rw [if_neg c2]
      by_cases c3 : (flatX (min r c) c (partX r c l 0 0 (min r c) c).2.2.1).1 = true
      · rw [if_pos c3]
        exact ⟨4, _, [], by rw [show (4 : Nat) = 0 + 4 from rfl, solve.Least.Few.ev, al, cond_true, zeroI (chk_of h1 h2), cond_false, am, cond_true, zeroI c1, cond_false, hl2, decide_eq_false c2, cond_false, hf, Bool.and_self, cond_true, part_in al, cond_true, c3, cond_true]; rfl, wk_no⟩
      · have c3' : (flatX (min r c) c (partX r c l 0 0 (min r c) c).2.2.1).1 = false := by simpa using c3
        rw [if_neg c3]
        by_cases c4 : (turnedX r (min r c) (partX r r (eyeG r.toNat) 0 0 r (min r c)).2.2.1 p q m).2.2.2 = 0
        · rw [if_neg (by rw [c4]; decide)]
          exact ⟨4, _, [], by rw [show (4 : Nat) = 0 + 4 from rfl, solve.Least.Few.ev, al, cond_true, zeroI (chk_of h1 h2), cond_false, am, cond_true, zeroI c1, cond_false, hl2, decide_eq_false c2, cond_false, hf, Bool.and_self, cond_true, part_in al, cond_true, c3', cond_false, part_in (eyeG_all _), Bool.and_self, cond_true, zeroI c4, cond_false, turned_in, Bool.and_self, cond_true]; rfl, wk_mat⟩
        · rw [if_pos c4]
          exact ⟨4, _, [], by rw [show (4 : Nat) = 0 + 4 from rfl, solve.Least.Few.ev, al, cond_true, zeroI (chk_of h1 h2), cond_false, am, cond_true, zeroI c1, cond_false, hl2, decide_eq_false c2, cond_false, hf, Bool.and_self, cond_true, part_in al, cond_true, c3', cond_false, part_in (eyeG_all _), Bool.and_self, cond_true, neI c4, cond_true]; rfl, wk_no⟩
  · rw [if_pos c1]
    exact ⟨4, _, [], by rw [show (4 : Nat) = 0 + 4 from rfl, solve.Least.Few.ev, al, cond_true, zeroI (chk_of h1 h2), cond_false, am, cond_true, neI c1, cond_true]; rfl, wk_no⟩

end Go.Proofs.S1
