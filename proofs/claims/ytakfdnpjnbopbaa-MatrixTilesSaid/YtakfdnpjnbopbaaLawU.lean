/- LawU of the verified evaluator and its use for this seat (of my texts S1EqLaw10T, S1PLaw10T). -/
import Derived.Test.YtakfdnpjnbopbaaSpe
import Derived.Test.YtakfdnpjnbopbaaLawT
import Derived.Test.YtakfdnpjnbopbaaTil

/- The evaluator's equations: dioptralaw10.MatrixTiles. Printed by denpy.py. -/
namespace Go.Proofs.S1
open Go Go.Den Go.Rnd Go.Proofs
set_option linter.unusedVariables false
set_option maxRecDepth 100000
namespace EqLaw10T
theorem tt0 (a b c d : Bool) : (bif (bif (bif a then true else b) then true else (!c)) then true else (!d)) = (((a || b) || (!c)) || (!d)) := by cases a <;> cases b <;> cases c <;> cases d <;> rfl
theorem tt1 (a b c : Bool) : ((!(!(bif (bif a then true else b) then true else (!c)))) || ((bif (bif a then true else b) then true else (!c)) == false)) = true := by cases a <;> cases b <;> cases c <;> rfl
theorem tt2 (a b c : Bool) : ((!((bif (bif a then true else b) then true else (!c)) == false)) || ((((!((bif (bif a then true else b) then true else (!c)) == false)) || ((bif (bif a then true else b) then true else (!c)) == false)) && true) && true)) = true := by cases a <;> cases b <;> cases c <;> rfl
theorem tt3 (a b c d : Bool) : ((!((bif (bif a then true else b) then true else (!c)) == false)) || ((((!((bif (bif a then true else b) then true else (!c)) == false)) || ((bif (bif a then true else b) then true else (!c)) == false)) && (((!((bif (bif a then true else b) then true else (!c)) == false)) || ((bif (bif a then true else b) then true else (!c)) == false)) && true)) && d)) = (((a || b) || (!c)) || d) := by cases a <;> cases b <;> cases c <;> cases d <;> rfl
theorem tt4 (a b c : Bool) : ((!((bif (bif a then true else b) then true else (!c)) == false)) || true) = true := by cases a <;> cases b <;> cases c <;> rfl
theorem tt5 (a b : Bool) : ((!(!(bif a then true else b))) || ((bif a then true else b) == false)) = true := by cases a <;> cases b <;> rfl
theorem tt6 (a b : Bool) : ((!((bif a then true else b) == false)) || ((((!((bif a then true else b) == false)) || ((bif a then true else b) == false)) && true) && true)) = true := by cases a <;> cases b <;> rfl
theorem tt7 (a b c : Bool) : ((!((bif a then true else b) == false)) || ((((!((bif a then true else b) == false)) || ((bif a then true else b) == false)) && (((!((bif a then true else b) == false)) || ((bif a then true else b) == false)) && true)) && c)) = ((a || b) || c) := by cases a <;> cases b <;> cases c <;> rfl
theorem tt8 (a b : Bool) : ((!((bif a then true else b) == false)) || true) = true := by cases a <;> cases b <;> rfl
theorem tt9 (a : Bool) : ((!(!a)) || (a == false)) = true := by cases a <;> rfl
theorem tt10 (a : Bool) : ((!(a == false)) || ((((!(a == false)) || (a == false)) && true) && true)) = true := by cases a <;> rfl
theorem tt11 (a : Bool) : ((!(a == false)) || true) = true := by cases a <;> rfl
theorem tt12 (a b : Bool) : (bif (!a) then true else b) = ((!a) || b) := by cases a <;> cases b <;> rfl
theorem tt13 (a : Bool) : ((!(!(!a))) || ((!a) == false)) = true := by cases a <;> rfl
theorem tt14 (a : Bool) : ((!((!a) == false)) || ((((!((!a) == false)) || ((!a) == false)) && true) && true)) = true := by cases a <;> rfl
theorem tt15 (a b c : Bool) : ((!((!a) == false)) || ((((!((!a) == false)) || ((!a) == false)) && (((!((!a) == false)) || ((!a) == false)) && true)) && (b && c))) = ((!a) || (b && c)) := by cases a <;> cases b <;> cases c <;> rfl
theorem tt16 (a : Bool) : ((!((!a) == false)) || true) = true := by cases a <;> rfl
theorem tt17 (a b : Bool) : (((!(bif a then b else false)) || ((bif a then b else false) == true)) && true) = true := by cases a <;> cases b <;> rfl
theorem tt18 (a b : Bool) : ((!((bif a then b else false) == true)) || true) = true := by cases a <;> cases b <;> rfl
theorem tt19 (a : Bool) : (((!a) || (a == true)) && true) = true := by cases a <;> rfl
theorem tt20 (a b : Bool) : ((!(a == true)) || ((((!(a == true)) || (a == true)) && (((!(a == true)) || (a == true)) && true)) && b)) = ((!a) || b) := by cases a <;> cases b <;> rfl
theorem tt21 (a : Bool) : ((!(a == true)) || true) = true := by cases a <;> rfl
theorem tt22 (a : Bool) : (a && true) = a := by cases a <;> rfl
def law10.MatrixTiles.hint : Nat → Option LoopHint
  | 0 => some { keep := [3, 19], objs := [], boxes := [3] }
  | _ => none
noncomputable def law10.MatrixTiles.tab : List (Nat × Entry) := [(14, law10.awake.spec), (34, matrix.Beside.spec), (19, matrix.Mul.spec), (25, matrix.Part.spec), (33, matrix.Stack.spec), (37, ref04.Finite.spec), (13, ref10.Eye.spec), (21, ref10.Right.spec), (18, ref10.Same.spec)]
def law10.MatrixTiles.live : Nat → Option (List Nat)
  | 5 => some [1, 2, 3]
  | 6 => some [1, 2, 3, 7]
  | 7 => some [2, 3, 7, 9]
  | 8 => some [2, 3, 7, 9, 11]
  | 9 => some [3, 7, 9, 11, 13]
  | 10 => some [3, 11, 13, 15, 16]
  | 11 => some [3, 15, 16, 17, 18]
  | _ => none
noncomputable def law10.MatrixTiles.E : Env := envOf (tabOf law10.MatrixTiles.tab) (fun _ => false) law10.MatrixTiles.hint law10.MatrixTiles.live
noncomputable def law10.MatrixTiles.C5 (N : Nat) (r : Int) (c : Int) (l : List Int) (p1 : Int) (p2 : Int) : Option DV := cutAt law10.MatrixTiles.E N Try.f9 (bodyOf Try.f9) [1, 1, 1, 1] [] ⟨mkT 153 [(1, .int .i64 p1), (2, .int .i64 p2), (3, .ptr 3 0 0)], [(3, false, .box [.int .i64 r, .int .i64 c, .ints .arg .u64 l])]⟩
noncomputable def law10.MatrixTiles.C6 (N : Nat) (r : Int) (c : Int) (l : List Int) (p1 : Int) (p2 : Int) (p7 : Int) (p7_1 : Int) (p7_2 : List Int) : Option DV := cutAt law10.MatrixTiles.E N Try.f9 (bodyOf Try.f9) [1, 1, 1, 1, 1] [] ⟨mkT 153 [(1, .int .i64 p1), (2, .int .i64 p2), (3, .ptr 3 0 0), (7, .ptr 7 0 0)], [(7, false, .box [.int .i64 p7, .int .i64 p7_1, .ints .fresh .u64 p7_2]), (3, false, .box [.int .i64 r, .int .i64 c, .ints .arg .u64 l])]⟩
noncomputable def law10.MatrixTiles.C7 (N : Nat) (r : Int) (c : Int) (l : List Int) (p2 : Int) (p7 : Int) (p7_1 : Int) (p7_2 : List Int) (p9 : Int) (p9_1 : Int) (p9_2 : List Int) : Option DV := cutAt law10.MatrixTiles.E N Try.f9 (bodyOf Try.f9) [1, 1, 1, 1, 1, 1] [] ⟨mkT 153 [(2, .int .i64 p2), (3, .ptr 3 0 0), (7, .ptr 7 0 0), (9, .ptr 9 0 0)], [(9, false, .box [.int .i64 p9, .int .i64 p9_1, .ints .fresh .u64 p9_2]), (7, false, .box [.int .i64 p7, .int .i64 p7_1, .ints .fresh .u64 p7_2]), (3, false, .box [.int .i64 r, .int .i64 c, .ints .arg .u64 l])]⟩
noncomputable def law10.MatrixTiles.C8 (N : Nat) (r : Int) (c : Int) (l : List Int) (p2 : Int) (p7 : Int) (p7_1 : Int) (p7_2 : List Int) (p9 : Int) (p9_1 : Int) (p9_2 : List Int) (p11 : Int) (p11_1 : Int) (p11_2 : List Int) : Option DV := cutAt law10.MatrixTiles.E N Try.f9 (bodyOf Try.f9) [1, 1, 1, 1, 1, 1, 1] [] ⟨mkT 153 [(2, .int .i64 p2), (3, .ptr 3 0 0), (7, .ptr 7 0 0), (9, .ptr 9 0 0), (11, .ptr 11 0 0)], [(11, false, .box [.int .i64 p11, .int .i64 p11_1, .ints .fresh .u64 p11_2]), (9, false, .box [.int .i64 p9, .int .i64 p9_1, .ints .fresh .u64 p9_2]), (7, false, .box [.int .i64 p7, .int .i64 p7_1, .ints .fresh .u64 p7_2]), (3, false, .box [.int .i64 r, .int .i64 c, .ints .arg .u64 l])]⟩
noncomputable def law10.MatrixTiles.C9 (N : Nat) (r : Int) (c : Int) (l : List Int) (p7 : Int) (p7_1 : Int) (p7_2 : List Int) (p9 : Int) (p9_1 : Int) (p9_2 : List Int) (p11 : Int) (p11_1 : Int) (p11_2 : List Int) (p13 : Int) (p13_1 : Int) (p13_2 : List Int) : Option DV := cutAt law10.MatrixTiles.E N Try.f9 (bodyOf Try.f9) [1, 1, 1, 1, 1, 1, 1, 1] [] ⟨mkT 153 [(3, .ptr 3 0 0), (7, .ptr 7 0 0), (9, .ptr 9 0 0), (11, .ptr 11 0 0), (13, .ptr 13 0 0)], [(13, false, .box [.int .i64 p13, .int .i64 p13_1, .ints .fresh .u64 p13_2]), (11, false, .box [.int .i64 p11, .int .i64 p11_1, .ints .fresh .u64 p11_2]), (9, false, .box [.int .i64 p9, .int .i64 p9_1, .ints .fresh .u64 p9_2]), (7, false, .box [.int .i64 p7, .int .i64 p7_1, .ints .fresh .u64 p7_2]), (3, false, .box [.int .i64 r, .int .i64 c, .ints .arg .u64 l])]⟩
noncomputable def law10.MatrixTiles.C10 (N : Nat) (r : Int) (c : Int) (l : List Int) (p7 : Int) (p7_1 : Int) (p7_2 : List Int) (p9 : Int) (p9_1 : Int) (p9_2 : List Int) (p11 : Int) (p11_1 : Int) (p11_2 : List Int) (p13 : Int) (p13_1 : Int) (p13_2 : List Int) (p16 : Int) (p15 : Int) (p15_1 : Int) (p15_2 : List Int) : Option DV := cutAt law10.MatrixTiles.E N Try.f9 (bodyOf Try.f9) [1, 1, 1, 1, 1, 1, 1, 1, 1] [] ⟨mkT 153 [(3, .ptr 3 0 0), (11, .ptr 11 0 0), (13, .ptr 13 0 0), (15, .ptr 15 0 0), (16, .int .i64 p16)], [(15, false, .box [.int .i64 p15, .int .i64 p15_1, .ints .fresh .u64 p15_2]), (13, false, .box [.int .i64 p13, .int .i64 p13_1, .ints .fresh .u64 p13_2]), (11, false, .box [.int .i64 p11, .int .i64 p11_1, .ints .fresh .u64 p11_2]), (9, false, .box [.int .i64 p9, .int .i64 p9_1, .ints .fresh .u64 p9_2]), (7, false, .box [.int .i64 p7, .int .i64 p7_1, .ints .fresh .u64 p7_2]), (3, false, .box [.int .i64 r, .int .i64 c, .ints .arg .u64 l])]⟩
noncomputable def law10.MatrixTiles.C11 (N : Nat) (r : Int) (c : Int) (l : List Int) (p7 : Int) (p7_1 : Int) (p7_2 : List Int) (p9 : Int) (p9_1 : Int) (p9_2 : List Int) (p11 : Int) (p11_1 : Int) (p11_2 : List Int) (p13 : Int) (p13_1 : Int) (p13_2 : List Int) (p16 : Int) (p15 : Int) (p15_1 : Int) (p15_2 : List Int) (p18 : Int) (p17 : Int) (p17_1 : Int) (p17_2 : List Int) : Option DV := cutAt law10.MatrixTiles.E N Try.f9 (bodyOf Try.f9) [1, 1, 1, 1, 1, 1, 1, 1, 1, 1, 0] [] ⟨mkT 153 [(3, .ptr 3 0 0), (15, .ptr 15 0 0), (16, .int .i64 p16), (17, .ptr 17 0 0), (18, .int .i64 p18)], [(17, false, .box [.int .i64 p17, .int .i64 p17_1, .ints .fresh .u64 p17_2]), (15, false, .box [.int .i64 p15, .int .i64 p15_1, .ints .fresh .u64 p15_2]), (13, false, .box [.int .i64 p13, .int .i64 p13_1, .ints .fresh .u64 p13_2]), (11, false, .box [.int .i64 p11, .int .i64 p11_1, .ints .fresh .u64 p11_2]), (9, false, .box [.int .i64 p9, .int .i64 p9_1, .ints .fresh .u64 p9_2]), (7, false, .box [.int .i64 p7, .int .i64 p7_1, .ints .fresh .u64 p7_2]), (3, false, .box [.int .i64 r, .int .i64 c, .ints .arg .u64 l])]⟩
noncomputable def law10.MatrixTiles.L0 (N M : Nat) (r : Int) (c : Int) (l : List Int) (p19 : Int) : Option DV := loopAt law10.MatrixTiles.E N Try.f9 (bodyOf Try.f9) [1, 1, 1, 1, 1, 1, 1, 1, 1, 1, 1, 0, 1, 0] [] M ⟨mkT 153 [(3, .ptr 3 0 0), (19, .int .i64 p19)], [(3, false, .box [.int .i64 r, .int .i64 c, .ints .arg .u64 l])]⟩
theorem law10.MatrixTiles.C5_eq (N : Nat) (r : Int) (c : Int) (l : List Int) (p1 : Int) (p2 : Int) : law10.MatrixTiles.C5 N r c l p1 p2 =
  law10.MatrixTiles.C6 N r c l p1 p2 ((partX r c l (0 : Int) (0 : Int) p1 c).1) ((partX r c l (0 : Int) (0 : Int) p1 c).2.1) ((partX r c l (0 : Int) (0 : Int) p1 c).2.2.1) := (cutAt_eq _ _ _ _ _ _ _).trans (by kernel_rfl)
theorem law10.MatrixTiles.C6_eq (N : Nat) (r : Int) (c : Int) (l : List Int) (p1 : Int) (p2 : Int) (p7 : Int) (p7_1 : Int) (p7_2 : List Int) : law10.MatrixTiles.C6 N r c l p1 p2 p7 p7_1 p7_2 =
  law10.MatrixTiles.C7 N r c l p2 p7 p7_1 p7_2 ((partX r c l p1 (0 : Int) (w_i64 (r - p1)) c).1) ((partX r c l p1 (0 : Int) (w_i64 (r - p1)) c).2.1) ((partX r c l p1 (0 : Int) (w_i64 (r - p1)) c).2.2.1) := (cutAt_eq _ _ _ _ _ _ _).trans (by kernel_rfl)
theorem law10.MatrixTiles.C7_eq (N : Nat) (r : Int) (c : Int) (l : List Int) (p2 : Int) (p7 : Int) (p7_1 : Int) (p7_2 : List Int) (p9 : Int) (p9_1 : Int) (p9_2 : List Int) : law10.MatrixTiles.C7 N r c l p2 p7 p7_1 p7_2 p9 p9_1 p9_2 =
  law10.MatrixTiles.C8 N r c l p2 p7 p7_1 p7_2 p9 p9_1 p9_2 ((partX r c l (0 : Int) (0 : Int) r p2).1) ((partX r c l (0 : Int) (0 : Int) r p2).2.1) ((partX r c l (0 : Int) (0 : Int) r p2).2.2.1) := (cutAt_eq _ _ _ _ _ _ _).trans (by kernel_rfl)
theorem law10.MatrixTiles.C8_eq (N : Nat) (r : Int) (c : Int) (l : List Int) (p2 : Int) (p7 : Int) (p7_1 : Int) (p7_2 : List Int) (p9 : Int) (p9_1 : Int) (p9_2 : List Int) (p11 : Int) (p11_1 : Int) (p11_2 : List Int) : law10.MatrixTiles.C8 N r c l p2 p7 p7_1 p7_2 p9 p9_1 p9_2 p11 p11_1 p11_2 =
  law10.MatrixTiles.C9 N r c l p7 p7_1 p7_2 p9 p9_1 p9_2 p11 p11_1 p11_2 ((partX r c l (0 : Int) p2 r (w_i64 (c - p2))).1) ((partX r c l (0 : Int) p2 r (w_i64 (c - p2))).2.1) ((partX r c l (0 : Int) p2 r (w_i64 (c - p2))).2.2.1) := (cutAt_eq _ _ _ _ _ _ _).trans (by kernel_rfl)
theorem law10.MatrixTiles.C9_eq (N : Nat) (r : Int) (c : Int) (l : List Int) (p7 : Int) (p7_1 : Int) (p7_2 : List Int) (p9 : Int) (p9_1 : Int) (p9_2 : List Int) (p11 : Int) (p11_1 : Int) (p11_2 : List Int) (p13 : Int) (p13_1 : Int) (p13_2 : List Int) : law10.MatrixTiles.C9 N r c l p7 p7_1 p7_2 p9 p9_1 p9_2 p11 p11_1 p11_2 p13 p13_1 p13_2 =
  law10.MatrixTiles.C10 N r c l p7 p7_1 p7_2 p9 p9_1 p9_2 p11 p11_1 p11_2 p13 p13_1 p13_2 ((stackX p7 p7_1 p7_2 p9 p9_1 p9_2).2.2.2) ((stackX p7 p7_1 p7_2 p9 p9_1 p9_2).1) ((stackX p7 p7_1 p7_2 p9 p9_1 p9_2).2.1) ((stackX p7 p7_1 p7_2 p9 p9_1 p9_2).2.2.1) := (cutAt_eq _ _ _ _ _ _ _).trans (by kernel_rfl)
theorem law10.MatrixTiles.C10_eq (N : Nat) (r : Int) (c : Int) (l : List Int) (p7 : Int) (p7_1 : Int) (p7_2 : List Int) (p9 : Int) (p9_1 : Int) (p9_2 : List Int) (p11 : Int) (p11_1 : Int) (p11_2 : List Int) (p13 : Int) (p13_1 : Int) (p13_2 : List Int) (p16 : Int) (p15 : Int) (p15_1 : Int) (p15_2 : List Int) : law10.MatrixTiles.C10 N r c l p7 p7_1 p7_2 p9 p9_1 p9_2 p11 p11_1 p11_2 p13 p13_1 p13_2 p16 p15 p15_1 p15_2 =
  law10.MatrixTiles.C11 N r c l p7 p7_1 p7_2 p9 p9_1 p9_2 p11 p11_1 p11_2 p13 p13_1 p13_2 p16 p15 p15_1 p15_2 ((besideX p11 p11_1 p11_2 p13 p13_1 p13_2).2.2.2) ((besideX p11 p11_1 p11_2 p13 p13_1 p13_2).1) ((besideX p11 p11_1 p11_2 p13 p13_1 p13_2).2.1) ((besideX p11 p11_1 p11_2 p13 p13_1 p13_2).2.2.1) := (cutAt_eq _ _ _ _ _ _ _).trans (by kernel_rfl)
theorem law10.MatrixTiles.C11_eq (N : Nat) (r : Int) (c : Int) (l : List Int) (p7 : Int) (p7_1 : Int) (p7_2 : List Int) (p9 : Int) (p9_1 : Int) (p9_2 : List Int) (p11 : Int) (p11_1 : Int) (p11_2 : List Int) (p13 : Int) (p13_1 : Int) (p13_2 : List Int) (p16 : Int) (p15 : Int) (p15_1 : Int) (p15_2 : List Int) (p18 : Int) (p17 : Int) (p17_1 : Int) (p17_2 : List Int) : law10.MatrixTiles.C11 N r c l p7 p7_1 p7_2 p9 p9_1 p9_2 p11 p11_1 p11_2 p13 p13_1 p13_2 p16 p15 p15_1 p15_2 p18 p17 p17_1 p17_2 =
  bif (((p16 != (0 : Int)) || (p18 != (0 : Int))) || (okLen p15_2)) then
    bif ((((p16 != (0 : Int)) || (p18 != (0 : Int))) || (!(sameM p15 p15_1 p15_2 r c l))) || (okLen p17_2)) then
      bif ((((p16 != (0 : Int)) || (p18 != (0 : Int))) || (!(sameM p15 p15_1 p15_2 r c l))) || (!(sameM p17 p17_1 p17_2 r c l))) then
        some (.bool false)
      else law10.MatrixTiles.L0 N N r c l (0 : Int)
    else none
  else none :=
  Eq.trans (b := bif ((!((p16 != (0 : Int)) == false)) || true) then
    bif ((!((p16 != (0 : Int)) == false)) || ((((!((p16 != (0 : Int)) == false)) || ((p16 != (0 : Int)) == false)) && true) && true)) then
      bif ((!(!(p16 != (0 : Int)))) || ((p16 != (0 : Int)) == false)) then
        bif ((!((bif (p16 != (0 : Int)) then true else (p18 != (0 : Int))) == false)) || true) then
          bif ((!((bif (p16 != (0 : Int)) then true else (p18 != (0 : Int))) == false)) || true) then
            bif ((!((bif (p16 != (0 : Int)) then true else (p18 != (0 : Int))) == false)) || ((((!((bif (p16 != (0 : Int)) then true else (p18 != (0 : Int))) == false)) || ((bif (p16 != (0 : Int)) then true else (p18 != (0 : Int))) == false)) && (((!((bif (p16 != (0 : Int)) then true else (p18 != (0 : Int))) == false)) || ((bif (p16 != (0 : Int)) then true else (p18 != (0 : Int))) == false)) && true)) && (okLen p15_2))) then
              bif ((!((bif (p16 != (0 : Int)) then true else (p18 != (0 : Int))) == false)) || ((((!((bif (p16 != (0 : Int)) then true else (p18 != (0 : Int))) == false)) || ((bif (p16 != (0 : Int)) then true else (p18 != (0 : Int))) == false)) && true) && true)) then
                bif ((!(!(bif (p16 != (0 : Int)) then true else (p18 != (0 : Int))))) || ((bif (p16 != (0 : Int)) then true else (p18 != (0 : Int))) == false)) then
                  bif ((!((bif (bif (p16 != (0 : Int)) then true else (p18 != (0 : Int))) then true else (!(sameM p15 p15_1 p15_2 r c l))) == false)) || true) then
                    bif ((!((bif (bif (p16 != (0 : Int)) then true else (p18 != (0 : Int))) then true else (!(sameM p15 p15_1 p15_2 r c l))) == false)) || true) then
                      bif ((!((bif (bif (p16 != (0 : Int)) then true else (p18 != (0 : Int))) then true else (!(sameM p15 p15_1 p15_2 r c l))) == false)) || ((((!((bif (bif (p16 != (0 : Int)) then true else (p18 != (0 : Int))) then true else (!(sameM p15 p15_1 p15_2 r c l))) == false)) || ((bif (bif (p16 != (0 : Int)) then true else (p18 != (0 : Int))) then true else (!(sameM p15 p15_1 p15_2 r c l))) == false)) && (((!((bif (bif (p16 != (0 : Int)) then true else (p18 != (0 : Int))) then true else (!(sameM p15 p15_1 p15_2 r c l))) == false)) || ((bif (bif (p16 != (0 : Int)) then true else (p18 != (0 : Int))) then true else (!(sameM p15 p15_1 p15_2 r c l))) == false)) && true)) && (okLen p17_2))) then
                        bif ((!((bif (bif (p16 != (0 : Int)) then true else (p18 != (0 : Int))) then true else (!(sameM p15 p15_1 p15_2 r c l))) == false)) || ((((!((bif (bif (p16 != (0 : Int)) then true else (p18 != (0 : Int))) then true else (!(sameM p15 p15_1 p15_2 r c l))) == false)) || ((bif (bif (p16 != (0 : Int)) then true else (p18 != (0 : Int))) then true else (!(sameM p15 p15_1 p15_2 r c l))) == false)) && true) && true)) then
                          bif ((!(!(bif (bif (p16 != (0 : Int)) then true else (p18 != (0 : Int))) then true else (!(sameM p15 p15_1 p15_2 r c l))))) || ((bif (bif (p16 != (0 : Int)) then true else (p18 != (0 : Int))) then true else (!(sameM p15 p15_1 p15_2 r c l))) == false)) then
                            bif (bif (bif (bif (p16 != (0 : Int)) then true else (p18 != (0 : Int))) then true else (!(sameM p15 p15_1 p15_2 r c l))) then true else (!(sameM p17 p17_1 p17_2 r c l))) then
                              some (.bool false)
                            else law10.MatrixTiles.L0 N N r c l (0 : Int)
                          else none
                        else none
                      else none
                    else none
                  else none
                else none
              else none
            else none
          else none
        else none
      else none
    else none
  else none) ((cutAt_eq _ _ _ _ _ _ _).trans (by kernel_rfl))
  (ifT (tt11 _) (ifT (tt10 _) (ifT (tt9 _) (ifT (tt8 _ _) (ifT (tt8 _ _) (ifS (tt7 _ _ _) (ifT (tt6 _ _) (ifT (tt5 _ _) (ifT (tt4 _ _ _) (ifT (tt4 _ _ _) (ifS (tt3 _ _ _ _) (ifT (tt2 _ _ _) (ifT (tt1 _ _ _) (ifS (tt0 _ _ _ _) rfl rfl))) rfl))))) rfl))))))
theorem law10.MatrixTiles.L0_step (N M : Nat) (r : Int) (c : Int) (l : List Int) (p19 : Int) : law10.MatrixTiles.L0 N (M + 1) r c l p19 =
  bif (ltI p19 (List.length l : Int)) then
    bif ((decide (0 ≤ p19)) && (decide (p19 < (List.length l : Int)))) then
      bif (inU64 (List.getD l (Int.toNat p19) 0)) then
        bif ((!(finI (List.getD l (Int.toNat p19) 0))) || ((decide (0 ≤ p19)) && (decide (p19 < (List.length l : Int))))) then
          bif ((!(finI (List.getD l (Int.toNat p19) 0))) || ((List.getD l (Int.toNat p19) 0) == (9223372036854775808 : Int))) then
            some (.bool true)
          else law10.MatrixTiles.L0 N M r c l (w_i64 (p19 + (1 : Int)))
        else none
      else none
    else none
  else bif (sizeB r) then
    bif (allU64 (grid (Int.toNat r) (Int.toNat r) (fun j1 j2 => eyeI j1 j2)) && allU64 l) then
      bif ((!(((mulX r r (grid (Int.toNat r) (Int.toNat r) (fun j1 j2 => eyeI j1 j2)) r c l).2.2.2) == (0 : Int))) || (okLen ((mulX r r (grid (Int.toNat r) (Int.toNat r) (fun j1 j2 => eyeI j1 j2)) r c l).2.2.1))) then
        some (.bool (bif (bif (((mulX r r (grid (Int.toNat r) (Int.toNat r) (fun j1 j2 => eyeI j1 j2)) r c l).2.2.2) == (0 : Int)) then (sameM ((mulX r r (grid (Int.toNat r) (Int.toNat r) (fun j1 j2 => eyeI j1 j2)) r c l).1) ((mulX r r (grid (Int.toNat r) (Int.toNat r) (fun j1 j2 => eyeI j1 j2)) r c l).2.1) ((mulX r r (grid (Int.toNat r) (Int.toNat r) (fun j1 j2 => eyeI j1 j2)) r c l).2.2.1) r c l) else false) then true else false))
      else none
    else none
  else none :=
  Eq.trans (b := bif (ltI p19 (List.length l : Int)) then
    bif ((decide (0 ≤ p19)) && (decide (p19 < (List.length l : Int)))) then
      bif (inU64 (List.getD l (Int.toNat p19) 0)) then
        bif ((!((!(finI (List.getD l (Int.toNat p19) 0))) == false)) || true) then
          bif ((!((!(finI (List.getD l (Int.toNat p19) 0))) == false)) || ((((!((!(finI (List.getD l (Int.toNat p19) 0))) == false)) || ((!(finI (List.getD l (Int.toNat p19) 0))) == false)) && true) && true)) then
            bif ((!((!(finI (List.getD l (Int.toNat p19) 0))) == false)) || true) then
              bif ((!((!(finI (List.getD l (Int.toNat p19) 0))) == false)) || ((((!((!(finI (List.getD l (Int.toNat p19) 0))) == false)) || ((!(finI (List.getD l (Int.toNat p19) 0))) == false)) && (((!((!(finI (List.getD l (Int.toNat p19) 0))) == false)) || ((!(finI (List.getD l (Int.toNat p19) 0))) == false)) && true)) && ((decide (0 ≤ p19)) && (decide (p19 < (List.length l : Int)))))) then
                bif ((!((!(finI (List.getD l (Int.toNat p19) 0))) == false)) || ((((!((!(finI (List.getD l (Int.toNat p19) 0))) == false)) || ((!(finI (List.getD l (Int.toNat p19) 0))) == false)) && true) && true)) then
                  bif ((!((!(finI (List.getD l (Int.toNat p19) 0))) == false)) || ((((!((!(finI (List.getD l (Int.toNat p19) 0))) == false)) || ((!(finI (List.getD l (Int.toNat p19) 0))) == false)) && true) && true)) then
                    bif ((!(!(!(finI (List.getD l (Int.toNat p19) 0))))) || ((!(finI (List.getD l (Int.toNat p19) 0))) == false)) then
                      bif (bif (!(finI (List.getD l (Int.toNat p19) 0))) then true else ((List.getD l (Int.toNat p19) 0) == (9223372036854775808 : Int))) then
                        some (.bool true)
                      else law10.MatrixTiles.L0 N M r c l (w_i64 (p19 + (1 : Int)))
                    else none
                  else none
                else none
              else none
            else none
          else none
        else none
      else none
    else none
  else bif ((sizeB r) && true) then
    bif ((allU64 (grid (Int.toNat r) (Int.toNat r) (fun j1 j2 => eyeI j1 j2)) && allU64 l) && true) then
      bif ((!((((mulX r r (grid (Int.toNat r) (Int.toNat r) (fun j1 j2 => eyeI j1 j2)) r c l).2.2.2) == (0 : Int)) == true)) || true) then
        bif ((!((((mulX r r (grid (Int.toNat r) (Int.toNat r) (fun j1 j2 => eyeI j1 j2)) r c l).2.2.2) == (0 : Int)) == true)) || true) then
          bif ((!((((mulX r r (grid (Int.toNat r) (Int.toNat r) (fun j1 j2 => eyeI j1 j2)) r c l).2.2.2) == (0 : Int)) == true)) || ((((!((((mulX r r (grid (Int.toNat r) (Int.toNat r) (fun j1 j2 => eyeI j1 j2)) r c l).2.2.2) == (0 : Int)) == true)) || ((((mulX r r (grid (Int.toNat r) (Int.toNat r) (fun j1 j2 => eyeI j1 j2)) r c l).2.2.2) == (0 : Int)) == true)) && (((!((((mulX r r (grid (Int.toNat r) (Int.toNat r) (fun j1 j2 => eyeI j1 j2)) r c l).2.2.2) == (0 : Int)) == true)) || ((((mulX r r (grid (Int.toNat r) (Int.toNat r) (fun j1 j2 => eyeI j1 j2)) r c l).2.2.2) == (0 : Int)) == true)) && true)) && (okLen ((mulX r r (grid (Int.toNat r) (Int.toNat r) (fun j1 j2 => eyeI j1 j2)) r c l).2.2.1)))) then
            bif (((!(((mulX r r (grid (Int.toNat r) (Int.toNat r) (fun j1 j2 => eyeI j1 j2)) r c l).2.2.2) == (0 : Int))) || ((((mulX r r (grid (Int.toNat r) (Int.toNat r) (fun j1 j2 => eyeI j1 j2)) r c l).2.2.2) == (0 : Int)) == true)) && true) then
              bif ((!((bif (((mulX r r (grid (Int.toNat r) (Int.toNat r) (fun j1 j2 => eyeI j1 j2)) r c l).2.2.2) == (0 : Int)) then (sameM ((mulX r r (grid (Int.toNat r) (Int.toNat r) (fun j1 j2 => eyeI j1 j2)) r c l).1) ((mulX r r (grid (Int.toNat r) (Int.toNat r) (fun j1 j2 => eyeI j1 j2)) r c l).2.1) ((mulX r r (grid (Int.toNat r) (Int.toNat r) (fun j1 j2 => eyeI j1 j2)) r c l).2.2.1) r c l) else false) == true)) || true) then
                bif (((!(bif (((mulX r r (grid (Int.toNat r) (Int.toNat r) (fun j1 j2 => eyeI j1 j2)) r c l).2.2.2) == (0 : Int)) then (sameM ((mulX r r (grid (Int.toNat r) (Int.toNat r) (fun j1 j2 => eyeI j1 j2)) r c l).1) ((mulX r r (grid (Int.toNat r) (Int.toNat r) (fun j1 j2 => eyeI j1 j2)) r c l).2.1) ((mulX r r (grid (Int.toNat r) (Int.toNat r) (fun j1 j2 => eyeI j1 j2)) r c l).2.2.1) r c l) else false)) || ((bif (((mulX r r (grid (Int.toNat r) (Int.toNat r) (fun j1 j2 => eyeI j1 j2)) r c l).2.2.2) == (0 : Int)) then (sameM ((mulX r r (grid (Int.toNat r) (Int.toNat r) (fun j1 j2 => eyeI j1 j2)) r c l).1) ((mulX r r (grid (Int.toNat r) (Int.toNat r) (fun j1 j2 => eyeI j1 j2)) r c l).2.1) ((mulX r r (grid (Int.toNat r) (Int.toNat r) (fun j1 j2 => eyeI j1 j2)) r c l).2.2.1) r c l) else false) == true)) && true) then
                  some (.bool (bif (bif (((mulX r r (grid (Int.toNat r) (Int.toNat r) (fun j1 j2 => eyeI j1 j2)) r c l).2.2.2) == (0 : Int)) then (sameM ((mulX r r (grid (Int.toNat r) (Int.toNat r) (fun j1 j2 => eyeI j1 j2)) r c l).1) ((mulX r r (grid (Int.toNat r) (Int.toNat r) (fun j1 j2 => eyeI j1 j2)) r c l).2.1) ((mulX r r (grid (Int.toNat r) (Int.toNat r) (fun j1 j2 => eyeI j1 j2)) r c l).2.2.1) r c l) else false) then true else false))
                else none
              else none
            else none
          else none
        else none
      else none
    else none
  else none) (by kernel_rfl)
  (ifE (ifE (ifE (ifT (tt16 _) (ifT (tt14 _) (ifT (tt16 _) (ifS (tt15 _ _ _) (ifT (tt14 _) (ifT (tt14 _) (ifT (tt13 _) (ifS (tt12 _ _) rfl rfl)))) rfl)))) rfl) rfl) (ifS (tt22 _) (ifS (tt22 _) (ifT (tt21 _) (ifT (tt21 _) (ifS (tt20 _ _) (ifT (tt19 _) (ifT (tt18 _ _) (ifT (tt17 _ _) rfl))) rfl))) rfl) rfl))
theorem law10.MatrixTiles.ev (N : Nat) (r : Int) (c : Int) (l : List Int) (i : Int) (k : Int) : funD law10.MatrixTiles.E N Try.f9 (bodyOf Try.f9) [.agg [.int .i64 r, .int .i64 c, .ints .arg .u64 l], .int .i64 i, .int .i64 k] =
  bif (!(rightB r c l)) then
    some (.bool true)
  else bif ((w_u64 (w_i64 (r + (1 : Int)))) != 0) then
    bif ((w_u64 (w_i64 (c + (1 : Int)))) != 0) then
      law10.MatrixTiles.C5 N r c l (w_i64 (Int.tmod (w_u64 i) (w_u64 (w_i64 (r + (1 : Int)))))) (w_i64 (Int.tmod (w_u64 k) (w_u64 (w_i64 (c + (1 : Int))))))
    else none
  else none := by kernel_rfl
theorem law10.MatrixTiles.known_of (hk : Knowns Try.prog law10.MatrixTiles.tab) (h : ∀ (r : Int) (c : Int) (l : List Int) (i : Int) (k : Int), law10.MatrixTiles.pre [.i r, .i c, .l l, .i i, .i k] = true → ∃ N dv drops, funD law10.MatrixTiles.E N Try.f9 (bodyOf Try.f9) [.agg [.int .i64 r, .int .i64 c, .ints .arg .u64 l], .int .i64 i, .int .i64 k] = some dv ∧ Wk drops dv (law10.MatrixTiles.out [.i r, .i c, .l l, .i i, .i k])) : Known Try.prog 9 law10.MatrixTiles.spec := by
  refine ⟨meets_entry (E := law10.MatrixTiles.E) (env_ok hk _ _ _) Try.func9 (show Try.f9.body = some (bodyOf Try.f9) by kernel_rfl) fun ats dvs he hp => ?_, call_enter Try.func9 (by kernel_rfl) (show Try.f9.body = some (bodyOf Try.f9) by kernel_rfl)⟩
  obtain ⟨_, _, _, _, rfl, rfl, hs0, he0⟩ := he.st_inv
  obtain ⟨r, _, _, rfl, rfl, he1⟩ := hs0.i_inv
  obtain ⟨c, _, _, rfl, rfl, he2⟩ := he1.i_inv
  obtain ⟨l, _, _, rfl, rfl, he3⟩ := he2.s_inv
  obtain ⟨rfl, rfl⟩ := he3.nil_inv
  obtain ⟨i, _, _, rfl, rfl, he4⟩ := he0.i_inv
  obtain ⟨k, _, _, rfl, rfl, he5⟩ := he4.i_inv
  obtain ⟨rfl, rfl⟩ := he5.nil_inv
  exact h r c l i k hp
end EqLaw10T
end Go.Proofs.S1

/- MatrixTiles: parts put together are the whole; ones where rows and columns meet, times a matrix. -/
namespace Go.Proofs.S1
open Go Go.Den Go.Rnd Go.Proofs
open EqLaw10T

theorem part_nat {R C X Y A B : Nat} {l : List Int} (hr : rightB (R : Int) (C : Int) l = true) (hx : X + A ≤ R) (hy : Y + B ≤ C) :
    partX (R : Int) (C : Int) l (X : Int) (Y : Int) (A : Int) (B : Int) = ((A : Int), (B : Int), grid A B fun (i k : Nat) => atI (C : Int) l ((X : Int) + (i : Int)) ((Y : Int) + (k : Int)), 0) := by
  have hp : partB (R : Int) (C : Int) (X : Int) (Y : Int) (A : Int) (B : Int) = true := decide_eq_true (by omega)
  unfold partX
  rw [if_pos hr, if_pos hp, Int.toNat_natCast, Int.toNat_natCast]

theorem stack_whole {R C I : Nat} {l : List Int} (r6 : R ≤ 6) (c6 : C ≤ 6) (hl : l.length = R * C) (hI : I ≤ R) :
    stackX (I : Int) (C : Int) (grid I C fun (i k : Nat) => atI (C : Int) l (((0 : Nat) : Int) + (i : Int)) (((0 : Nat) : Int) + (k : Int))) ((R - I : Nat) : Int) (C : Int)
      (grid (R - I) C fun (i k : Nat) => atI (C : Int) l ((I : Int) + (i : Int)) (((0 : Nat) : Int) + (k : Int))) = ((R : Int), (C : Int), l, 0) := by
  have e : (I : Int) + ((R - I : Nat) : Int) = (R : Int) := by omega
  unfold stackX
  rw [grid_right _ (by omega) c6, grid_right _ (by omega) c6, Bool.and_self, if_pos rfl, e, if_pos ⟨rfl, by omega⟩, Int.toNat_natCast, Int.toNat_natCast]
  have : (grid R C fun (i k : Nat) => stackI (I : Int) (C : Int) (grid I C fun (i k : Nat) => atI (C : Int) l (((0 : Nat) : Int) + (i : Int)) (((0 : Nat) : Int) + (k : Int))) (C : Int)
      (grid (R - I) C fun (i k : Nat) => atI (C : Int) l ((I : Int) + (i : Int)) (((0 : Nat) : Int) + (k : Int))) (i : Int) (k : Int)) = l := by
    conv => rhs; rw [← grid_back hl]
    refine grid_congr fun i k hi hk => ?_
    unfold stackI
    by_cases h : (i : Int) < (I : Int)
    · rw [if_pos h, grid_at (by omega) hk]
      congr 1 <;> omega
    · have es : (i : Int) - (I : Int) = ((i - I : Nat) : Int) := by omega
      rw [if_neg h, es, grid_at (by omega) hk]
      congr 1 <;> omega
  rw [this]

theorem beside_whole {R C K : Nat} {l : List Int} (r6 : R ≤ 6) (c6 : C ≤ 6) (hl : l.length = R * C) (hK : K ≤ C) :
    besideX (R : Int) (K : Int) (grid R K fun (i k : Nat) => atI (C : Int) l (((0 : Nat) : Int) + (i : Int)) (((0 : Nat) : Int) + (k : Int))) (R : Int) ((C - K : Nat) : Int)
      (grid R (C - K) fun (i k : Nat) => atI (C : Int) l (((0 : Nat) : Int) + (i : Int)) ((K : Int) + (k : Int))) = ((R : Int), (C : Int), l, 0) := by
  have e : (K : Int) + ((C - K : Nat) : Int) = (C : Int) := by omega
  unfold besideX
  rw [grid_right _ r6 (by omega), grid_right _ r6 (by omega), Bool.and_self, if_pos rfl, e, if_pos ⟨rfl, by omega⟩, Int.toNat_natCast, Int.toNat_natCast]
  have : (grid R C fun (i k : Nat) => besideI (K : Int) (grid R K fun (i k : Nat) => atI (C : Int) l (((0 : Nat) : Int) + (i : Int)) (((0 : Nat) : Int) + (k : Int))) ((C - K : Nat) : Int)
      (grid R (C - K) fun (i k : Nat) => atI (C : Int) l (((0 : Nat) : Int) + (i : Int)) ((K : Int) + (k : Int))) (i : Int) (k : Int)) = l := by
    conv => rhs; rw [← grid_back hl]
    refine grid_congr fun i k hi hk => ?_
    unfold besideI
    by_cases h : (k : Int) < (K : Int)
    · rw [if_pos h, grid_at hi (by omega)]
      congr 1 <;> omega
    · have es : (k : Int) - (K : Int) = ((k - K : Nat) : Int) := by omega
      rw [if_neg h, es, grid_at hi (by omega)]
      congr 1 <;> omega
  rw [this]

theorem eye_in (i k : Int) : inU64 (eyeI i k) = true := by
  unfold eyeI
  split
  · exact inU64_of (n := 4607182418800017408) (by decide)
  · exact inU64_of (n := 0) (by decide)

theorem eye_mul {R C : Nat} {l : List Int} (r6 : R ≤ 6) (c6 : C ≤ 6) (hl : l.length = R * C) (hg : ∀ j, j < l.length → Good (l.getD j 0)) :
    mulX (R : Int) (R : Int) (grid R R fun (i k : Nat) => eyeI (i : Int) (k : Int)) (R : Int) (C : Int) l = ((R : Int), (C : Int), l, 0) := by
  unfold mulX
  rw [grid_right _ r6 r6, right_of r6 c6 hl, Bool.and_self, if_pos rfl, if_pos rfl, Int.toNat_natCast, Int.toNat_natCast]
  have : (grid R C fun (i k : Nat) => dotI (rowI (R : Int) (grid R R fun (i k : Nat) => eyeI (i : Int) (k : Int)) (i : Int)) (colI (R : Int) (C : Int) l (k : Int))) = l := by
    conv => rhs; rw [← grid_back hl]
    refine grid_congr fun i k hi hk => ?_
    rw [row_grid _ hi]
    unfold colI
    rw [Int.toNat_natCast]
    refine eye_row hi fun j hj => ?_
    rw [atI_nat]
    exact hg _ (by have := place_lt' hj hk; omega)
  rw [this]

theorem tiles_loop (N : Nat) {R C : Nat} {l : List Int} (r6 : R ≤ 6) (c6 : C ≤ 6) (hl : l.length = R * C) (al : allU64 l = true) : ∀ (k i F : Nat), i + k = l.length → k < F → (∀ j, j < i → Good (l.getD j 0)) →
    law10.MatrixTiles.L0 N F (R : Int) (C : Int) l (i : Int) = some (.bool true) := by
  have h36 := Nat.mul_le_mul r6 c6
  intro k
  induction k with
  | zero =>
    intro i F hi hF hg
    obtain ⟨F, rfl⟩ : ∃ G, F = G + 1 := ⟨F - 1, by omega⟩
    have em := eye_mul r6 c6 hl (fun j hj => hg j (by omega))
    have ae : allU64 (grid R R fun (i k : Nat) => eyeI (i : Int) (k : Int)) = true := grid_all fun i k => eye_in _ _
    have ol : okLen l = true := okLen_of (by omega)
    rw [law10.MatrixTiles.L0_step, ltI_eq, decide_eq_false (by omega), cond_false, size_of r6, cond_true, Int.toNat_natCast, ae, al, em]
    dsimp only
    rw [ol, same_self]
    rfl
  | succ k ih =>
    intro i F hi hF hg
    obtain ⟨F, rfl⟩ : ∃ G, F = G + 1 := ⟨F - 1, by omega⟩
    have c1 : decide ((i : Int) < (l.length : Int)) = true := decide_eq_true (by omega)
    have c2 : decide ((0 : Int) ≤ (i : Int)) = true := decide_eq_true (by omega)
    have hw := all_get al (show i < l.length by omega)
    rw [law10.MatrixTiles.L0_step, ltI_eq, c1, c2, Int.toNat_natCast, hw, Bool.and_self, cond_true, cond_true, cond_true, Bool.or_true, cond_true]
    by_cases hb : ((!(finI (l.getD i 0))) || ((l.getD i 0) == (9223372036854775808 : Int))) = true
    · rw [hb, cond_true]
    · have hb' : ((!(finI (l.getD i 0))) || ((l.getD i 0) == (9223372036854775808 : Int))) = false := by simpa using hb
      have hgood : Good (l.getD i 0) := by
        rw [Bool.or_eq_false_iff, Bool.not_eq_false', beq_eq_false_iff_ne] at hb'
        have hk := fin_kind (show finN (l.getD i 0).toNat = true from hb'.1)
        refine ⟨hw, hk.2, hk.1, fun h => hb'.2 ?_⟩
        have := cdec_eq.1 hw
        omega
      rw [hb', cond_false, w_i64_in (by omega) (by omega)]
      refine ih (i + 1) F (by omega) (by omega) fun j hj => ?_
      rcases Nat.lt_or_ge j i with h | h
      · exact hg j h
      · rw [show j = i by omega]; exact hgood

theorem mod_code {R : Nat} (hR : R ≤ 6) (i : Int) : ∃ I : Nat, I ≤ R ∧ w_i64 (Int.tmod (w_u64 i) (w_u64 (w_i64 ((R : Int) + (1 : Int))))) = (I : Int) := by
  have e1 : w_u64 (w_i64 ((R : Int) + (1 : Int))) = ((R + 1 : Nat) : Int) := by rw [w_i64_in (by omega) (by omega), w_u64_in (by omega) (by omega)]; rfl
  obtain ⟨m, hm⟩ : ∃ m : Nat, w_u64 i = m := ⟨(w_u64 i).toNat, by rw [w_u64_eq]; omega⟩
  have hlt : m % (R + 1) < R + 1 := Nat.mod_lt _ (by omega)
  refine ⟨m % (R + 1), by omega, ?_⟩
  rw [e1, hm, tmod_nat]
  exact w_i64_in (by omega) (by omega)

theorem law10.MatrixTiles.known : Known Try.prog 9 law10.MatrixTiles.spec := law10.MatrixTiles.known_of (.cons law10.awake.known (.cons matrix.Beside.known (.cons matrix.Mul.known (.cons matrix.Part.known (.cons matrix.Stack.known (.cons ref04.Finite.known (.cons ref10.Eye.known (.cons ref10.Right.known (.cons ref10.Same.known .nil))))))))) fun r c l i k hp => by
  obtain ⟨al, _⟩ := and_true_iff.1 (show (allU64 l && (inI64 i && inI64 k)) = true from hp)
  refine ⟨40, law10.MatrixTiles.out [.i r, .i c, .l l, .i i, .i k], [], ?_, .bool⟩
  show _ = some (DV.bool true)
  rw [law10.MatrixTiles.ev]
  cases hr : rightB r c l with
  | false => rfl
  | true =>
    obtain ⟨R, C, rfl, rfl, r6, c6, hl⟩ := right_nat hr
    have h36 := Nat.mul_le_mul r6 c6
    obtain ⟨I, hI, eI⟩ := mod_code r6 i
    obtain ⟨K, hK, eK⟩ := mod_code c6 k
    have n1 : ((w_u64 (w_i64 ((R : Int) + (1 : Int)))) != 0) = true := by
      rw [w_i64_in (by omega) (by omega), w_u64_in (by omega) (by omega)]
      simp only [bne_iff_ne, ne_eq]; omega
    have n2 : ((w_u64 (w_i64 ((C : Int) + (1 : Int)))) != 0) = true := by
      rw [w_i64_in (by omega) (by omega), w_u64_in (by omega) (by omega)]
      simp only [bne_iff_ne, ne_eq]; omega
    have s1 : w_i64 ((R : Int) - (I : Int)) = ((R - I : Nat) : Int) := by rw [w_i64_in (by omega) (by omega)]; omega
    have s2 : w_i64 ((C : Int) - (K : Int)) = ((C - K : Nat) : Int) := by rw [w_i64_in (by omega) (by omega)]; omega
    have p1 : partX (R : Int) (C : Int) l (0 : Int) (0 : Int) (I : Int) (C : Int) = _ := part_nat (X := 0) (Y := 0) (A := I) (B := C) hr (by omega) (by omega)
    have p2 : partX (R : Int) (C : Int) l (I : Int) (0 : Int) ((R - I : Nat) : Int) (C : Int) = _ := part_nat (X := I) (Y := 0) (A := R - I) (B := C) hr (by omega) (by omega)
    have p3 : partX (R : Int) (C : Int) l (0 : Int) (0 : Int) (R : Int) (K : Int) = _ := part_nat (X := 0) (Y := 0) (A := R) (B := K) hr (by omega) (by omega)
    have p4 : partX (R : Int) (C : Int) l (0 : Int) (K : Int) (R : Int) ((C - K : Nat) : Int) = _ := part_nat (X := 0) (Y := K) (A := R) (B := C - K) hr (by omega) (by omega)
    have ol : okLen l = true := okLen_of (by omega)
    rw [Bool.not_true, cond_false, n1, n2, cond_true, cond_true, eI, eK, law10.MatrixTiles.C5_eq, law10.MatrixTiles.C6_eq, s1, p1, p2]
    dsimp only
    rw [law10.MatrixTiles.C7_eq, law10.MatrixTiles.C8_eq, s2, p3, p4]
    dsimp only
    rw [law10.MatrixTiles.C9_eq, stack_whole r6 c6 hl hI]
    dsimp only
    rw [law10.MatrixTiles.C10_eq, beside_whole r6 c6 hl hK]
    dsimp only
    have b0 : ((0 : Int) != (0 : Int)) = false := by decide
    rw [law10.MatrixTiles.C11_eq, ol, same_self, b0, Bool.or_true, Bool.or_true, cond_true, cond_true, Bool.not_true, Bool.or_self, Bool.or_self, Bool.or_self, cond_false]
    exact tiles_loop 40 r6 c6 hl al l.length 0 40 (by omega) (by omega) (fun j h => by omega)

end Go.Proofs.S1
