/- Mtx of the verified evaluator and its use for this seat (of my texts S1EqMat, S1PMat, S1EqOf, S1POf, S1PMatA). -/
import Derived.Test.YtakfdnpjnbopbaaSpe
import Derived.Test.YtakfdnpjnbopbaaVec

/- The evaluator's equations: matrix.size, matrix.Check, matrix.get, matrix.two, matrix.Row, matrix.Column, matrix.At, matrix.Zeros$1, matrix.Eye$1, matrix.Turn$1, matrix.Part$1, matrix.Stack$1, matrix.Beside$1, matrix.Mul$1. Printed by denpy.py. -/
namespace Go.Proofs.S1
open Go Go.Den Go.Rnd Go.Proofs
set_option linter.unusedVariables false
set_option maxRecDepth 100000
namespace EqMat
theorem tt0 (a : Bool) : (((!a) || (a == true)) && true) = true := by cases a <;> rfl
theorem tt1 (a : Bool) : ((!(a == true)) || ((((!(a == true)) || (a == true)) && true) && true)) = true := by cases a <;> rfl
theorem tt2 (a : Bool) : ((!(a == true)) || true) = true := by cases a <;> rfl
theorem tt3 (a b c : Bool) : (bif (bif (!a) then true else (!b)) then true else c) = (((!a) || (!b)) || c) := by cases a <;> cases b <;> cases c <;> rfl
theorem tt4 (a b : Bool) : ((!(!(bif (!a) then true else (!b)))) || ((bif (!a) then true else (!b)) == false)) = true := by cases a <;> cases b <;> rfl
theorem tt5 (a b : Bool) : ((!((bif (!a) then true else (!b)) == false)) || ((((!((bif (!a) then true else (!b)) == false)) || ((bif (!a) then true else (!b)) == false)) && (((!((bif (!a) then true else (!b)) == false)) || ((bif (!a) then true else (!b)) == false)) && true)) && true)) = true := by cases a <;> cases b <;> rfl
theorem tt6 (a b : Bool) : ((!((bif (!a) then true else (!b)) == false)) || ((((!((bif (!a) then true else (!b)) == false)) || ((bif (!a) then true else (!b)) == false)) && true) && true)) = true := by cases a <;> cases b <;> rfl
theorem tt7 (a b : Bool) : ((!((bif (!a) then true else (!b)) == false)) || true) = true := by cases a <;> cases b <;> rfl
theorem tt8 (a : Bool) : ((!(!(!a))) || ((!a) == false)) = true := by cases a <;> rfl
theorem tt9 (a : Bool) : ((!((!a) == false)) || ((((!((!a) == false)) || ((!a) == false)) && true) && true)) = true := by cases a <;> rfl
theorem tt10 (a : Bool) : ((!((!a) == false)) || true) = true := by cases a <;> rfl
theorem tt11 (a b : Bool) : (bif a then true else b) = (a || b) := by cases a <;> cases b <;> rfl
theorem tt12 (a : Bool) : ((!(!a)) || (a == false)) = true := by cases a <;> rfl
theorem tt13 (a : Bool) : ((!(a == false)) || ((((!(a == false)) || (a == false)) && true) && true)) = true := by cases a <;> rfl
theorem tt14 (a : Bool) : ((!(a == false)) || true) = true := by cases a <;> rfl
theorem tt15 (a b c d : Bool) : (((a && b) && (c && d)) && true) = ((a && b) && (c && d)) := by cases a <;> cases b <;> cases c <;> cases d <;> rfl
theorem tt16 (a b c d : Bool) : (bif (bif (bif a then true else b) then true else c) then true else d) = (((a || b) || c) || d) := by cases a <;> cases b <;> cases c <;> cases d <;> rfl
theorem tt17 (a b c : Bool) : ((!(!(bif (bif a then true else b) then true else c))) || ((bif (bif a then true else b) then true else c) == false)) = true := by cases a <;> cases b <;> cases c <;> rfl
theorem tt18 (a b c : Bool) : ((!((bif (bif a then true else b) then true else c) == false)) || ((((!((bif (bif a then true else b) then true else c) == false)) || ((bif (bif a then true else b) then true else c) == false)) && (((!((bif (bif a then true else b) then true else c) == false)) || ((bif (bif a then true else b) then true else c) == false)) && true)) && true)) = true := by cases a <;> cases b <;> cases c <;> rfl
theorem tt19 (a b c : Bool) : ((!((bif (bif a then true else b) then true else c) == false)) || ((((!((bif (bif a then true else b) then true else c) == false)) || ((bif (bif a then true else b) then true else c) == false)) && true) && true)) = true := by cases a <;> cases b <;> cases c <;> rfl
theorem tt20 (a b c : Bool) : ((!((bif (bif a then true else b) then true else c) == false)) || true) = true := by cases a <;> cases b <;> cases c <;> rfl
theorem tt21 (a b : Bool) : ((!(!(bif a then true else b))) || ((bif a then true else b) == false)) = true := by cases a <;> cases b <;> rfl
theorem tt22 (a b : Bool) : ((!((bif a then true else b) == false)) || ((((!((bif a then true else b) == false)) || ((bif a then true else b) == false)) && true) && true)) = true := by cases a <;> cases b <;> rfl
theorem tt23 (a b : Bool) : ((!((bif a then true else b) == false)) || true) = true := by cases a <;> cases b <;> rfl
theorem tt24 (a : Bool) : ((!(a == false)) || ((((!(a == false)) || (a == false)) && (((!(a == false)) || (a == false)) && true)) && true)) = true := by cases a <;> rfl
theorem tt25 (a : Bool) : (a && true) = a := by cases a <;> rfl
noncomputable def matrix.size.tab : List (Nat × Entry) := []
noncomputable def matrix.size.E : Env := envOf (tabOf matrix.size.tab) (fun _ => false) (fun _ => none) (fun _ => none)
theorem matrix.size.ev (N : Nat) (n : Int) : funD matrix.size.E N Try.f38 (bodyOf Try.f38) [.int .i64 n] =
  some (.bool (bif (leI (0 : Int) n) then (leI n (6 : Int)) else false)) :=
  Eq.trans (b := bif ((!((leI (0 : Int) n) == true)) || true) then
    bif ((!((leI (0 : Int) n) == true)) || ((((!((leI (0 : Int) n) == true)) || ((leI (0 : Int) n) == true)) && true) && true)) then
      bif (((!(leI (0 : Int) n)) || ((leI (0 : Int) n) == true)) && true) then
        some (.bool (bif (leI (0 : Int) n) then (leI n (6 : Int)) else false))
      else none
    else none
  else none) (by kernel_rfl)
  (ifT (tt2 _) (ifT (tt1 _) (ifT (tt0 _) rfl)))
theorem matrix.size.known_of (hk : Knowns Try.prog matrix.size.tab) (h : ∀ (n : Int), matrix.size.pre [.i n] = true → ∃ N dv drops, funD matrix.size.E N Try.f38 (bodyOf Try.f38) [.int .i64 n] = some dv ∧ Wk drops dv (matrix.size.out [.i n])) : Known Try.prog 38 matrix.size.spec := by
  refine ⟨meets_entry (E := matrix.size.E) (env_ok hk _ _ _) Try.func38 (show Try.f38.body = some (bodyOf Try.f38) by kernel_rfl) fun ats dvs he hp => ?_, call_enter Try.func38 (by kernel_rfl) (show Try.f38.body = some (bodyOf Try.f38) by kernel_rfl)⟩
  obtain ⟨n, _, _, rfl, rfl, he0⟩ := he.i_inv
  obtain ⟨rfl, rfl⟩ := he0.nil_inv
  exact h n hp

noncomputable def matrix.Check.tab : List (Nat × Entry) := [(38, matrix.size.spec)]
noncomputable def matrix.Check.E : Env := envOf (tabOf matrix.Check.tab) (fun _ => false) (fun _ => none) (fun _ => none)
theorem matrix.Check.ev (N : Nat) (r : Int) (c : Int) (l : List Int) : funD matrix.Check.E N Try.f22 (bodyOf Try.f22) [.agg [.int .i64 r, .int .i64 c, .ints .arg .u64 l]] =
  bif (((!(sizeB r)) || (!(sizeB c))) || ((List.length l : Int) != (w_i64 (r * c)))) then
    some (.int .i64 (1 : Int))
  else some (.int .i64 (0 : Int)) :=
  Eq.trans (b := bif ((!((!(sizeB r)) == false)) || true) then
    bif ((!((!(sizeB r)) == false)) || ((((!((!(sizeB r)) == false)) || ((!(sizeB r)) == false)) && true) && true)) then
      bif ((!((!(sizeB r)) == false)) || ((((!((!(sizeB r)) == false)) || ((!(sizeB r)) == false)) && true) && true)) then
        bif ((!((!(sizeB r)) == false)) || ((((!((!(sizeB r)) == false)) || ((!(sizeB r)) == false)) && true) && true)) then
          bif ((!(!(!(sizeB r)))) || ((!(sizeB r)) == false)) then
            bif ((!((bif (!(sizeB r)) then true else (!(sizeB c))) == false)) || true) then
              bif ((!((bif (!(sizeB r)) then true else (!(sizeB c))) == false)) || ((((!((bif (!(sizeB r)) then true else (!(sizeB c))) == false)) || ((bif (!(sizeB r)) then true else (!(sizeB c))) == false)) && true) && true)) then
                bif ((!((bif (!(sizeB r)) then true else (!(sizeB c))) == false)) || ((((!((bif (!(sizeB r)) then true else (!(sizeB c))) == false)) || ((bif (!(sizeB r)) then true else (!(sizeB c))) == false)) && true) && true)) then
                  bif ((!((bif (!(sizeB r)) then true else (!(sizeB c))) == false)) || true) then
                    bif ((!((bif (!(sizeB r)) then true else (!(sizeB c))) == false)) || ((((!((bif (!(sizeB r)) then true else (!(sizeB c))) == false)) || ((bif (!(sizeB r)) then true else (!(sizeB c))) == false)) && true) && true)) then
                      bif ((!((bif (!(sizeB r)) then true else (!(sizeB c))) == false)) || true) then
                        bif ((!((bif (!(sizeB r)) then true else (!(sizeB c))) == false)) || ((((!((bif (!(sizeB r)) then true else (!(sizeB c))) == false)) || ((bif (!(sizeB r)) then true else (!(sizeB c))) == false)) && true) && true)) then
                          bif ((!((bif (!(sizeB r)) then true else (!(sizeB c))) == false)) || ((((!((bif (!(sizeB r)) then true else (!(sizeB c))) == false)) || ((bif (!(sizeB r)) then true else (!(sizeB c))) == false)) && (((!((bif (!(sizeB r)) then true else (!(sizeB c))) == false)) || ((bif (!(sizeB r)) then true else (!(sizeB c))) == false)) && true)) && true)) then
                            bif ((!((bif (!(sizeB r)) then true else (!(sizeB c))) == false)) || ((((!((bif (!(sizeB r)) then true else (!(sizeB c))) == false)) || ((bif (!(sizeB r)) then true else (!(sizeB c))) == false)) && (((!((bif (!(sizeB r)) then true else (!(sizeB c))) == false)) || ((bif (!(sizeB r)) then true else (!(sizeB c))) == false)) && true)) && true)) then
                              bif ((!(!(bif (!(sizeB r)) then true else (!(sizeB c))))) || ((bif (!(sizeB r)) then true else (!(sizeB c))) == false)) then
                                bif (bif (bif (!(sizeB r)) then true else (!(sizeB c))) then true else ((List.length l : Int) != (w_i64 (r * c)))) then
                                  some (.int .i64 (1 : Int))
                                else some (.int .i64 (0 : Int))
                              else none
                            else none
                          else none
                        else none
                      else none
                    else none
                  else none
                else none
              else none
            else none
          else none
        else none
      else none
    else none
  else none) (by kernel_rfl)
  (ifT (tt10 _) (ifT (tt9 _) (ifT (tt9 _) (ifT (tt9 _) (ifT (tt8 _) (ifT (tt7 _ _) (ifT (tt6 _ _) (ifT (tt6 _ _) (ifT (tt7 _ _) (ifT (tt6 _ _) (ifT (tt7 _ _) (ifT (tt6 _ _) (ifT (tt5 _ _) (ifT (tt5 _ _) (ifT (tt4 _ _) (ifS (tt3 _ _ _) rfl rfl))))))))))))))))
theorem matrix.Check.known_of (hk : Knowns Try.prog matrix.Check.tab) (h : ∀ (r : Int) (c : Int) (l : List Int), matrix.Check.pre [.i r, .i c, .l l] = true → ∃ N dv drops, funD matrix.Check.E N Try.f22 (bodyOf Try.f22) [.agg [.int .i64 r, .int .i64 c, .ints .arg .u64 l]] = some dv ∧ Wk drops dv (matrix.Check.out [.i r, .i c, .l l])) : Known Try.prog 22 matrix.Check.spec := by
  refine ⟨meets_entry (E := matrix.Check.E) (env_ok hk _ _ _) Try.func22 (show Try.f22.body = some (bodyOf Try.f22) by kernel_rfl) fun ats dvs he hp => ?_, call_enter Try.func22 (by kernel_rfl) (show Try.f22.body = some (bodyOf Try.f22) by kernel_rfl)⟩
  obtain ⟨_, _, _, _, rfl, rfl, hs0, he0⟩ := he.st_inv
  obtain ⟨r, _, _, rfl, rfl, he1⟩ := hs0.i_inv
  obtain ⟨c, _, _, rfl, rfl, he2⟩ := he1.i_inv
  obtain ⟨l, _, _, rfl, rfl, he3⟩ := he2.s_inv
  obtain ⟨rfl, rfl⟩ := he3.nil_inv
  obtain ⟨rfl, rfl⟩ := he0.nil_inv
  exact h r c l hp

noncomputable def matrix.get.tab : List (Nat × Entry) := []
noncomputable def matrix.get.E : Env := envOf (tabOf matrix.get.tab) (fun _ => false) (fun _ => none) (fun _ => none)
theorem matrix.get.ev (N : Nat) (r : Int) (c : Int) (l : List Int) (i : Int) (k : Int) : funD matrix.get.E N Try.f44 (bodyOf Try.f44) [.agg [.int .i64 r, .int .i64 c, .ints .arg .u64 l], .int .i64 i, .int .i64 k] =
  bif ((decide (0 ≤ (w_i64 ((w_i64 (i * c)) + k)))) && (decide ((w_i64 ((w_i64 (i * c)) + k)) < (List.length l : Int)))) then
    some (.int .u64 (List.getD l (Int.toNat (w_i64 ((w_i64 (i * c)) + k))) 0))
  else none := by kernel_rfl
theorem matrix.get.known_of (hk : Knowns Try.prog matrix.get.tab) (h : ∀ (r : Int) (c : Int) (l : List Int) (i : Int) (k : Int), matrix.get.pre [.i r, .i c, .l l, .i i, .i k] = true → ∃ N dv drops, funD matrix.get.E N Try.f44 (bodyOf Try.f44) [.agg [.int .i64 r, .int .i64 c, .ints .arg .u64 l], .int .i64 i, .int .i64 k] = some dv ∧ Wk drops dv (matrix.get.out [.i r, .i c, .l l, .i i, .i k])) : Known Try.prog 44 matrix.get.spec := by
  refine ⟨meets_entry (E := matrix.get.E) (env_ok hk _ _ _) Try.func44 (show Try.f44.body = some (bodyOf Try.f44) by kernel_rfl) fun ats dvs he hp => ?_, call_enter Try.func44 (by kernel_rfl) (show Try.f44.body = some (bodyOf Try.f44) by kernel_rfl)⟩
  obtain ⟨_, _, _, _, rfl, rfl, hs0, he0⟩ := he.st_inv
  obtain ⟨r, _, _, rfl, rfl, he1⟩ := hs0.i_inv
  obtain ⟨c, _, _, rfl, rfl, he2⟩ := he1.i_inv
  obtain ⟨l, _, _, rfl, rfl, he3⟩ := he2.s_inv
  obtain ⟨rfl, rfl⟩ := he3.nil_inv
  obtain ⟨i, _, _, rfl, rfl, he4⟩ := he0.i_inv
  obtain ⟨k, _, _, rfl, rfl, he5⟩ := he4.i_inv
  obtain ⟨rfl, rfl⟩ := he5.nil_inv
  exact h r c l i k hp

noncomputable def matrix.two.tab : List (Nat × Entry) := [(22, matrix.Check.spec)]
noncomputable def matrix.two.E : Env := envOf (tabOf matrix.two.tab) (fun _ => false) (fun _ => none) (fun _ => none)
theorem matrix.two.ev (N : Nat) (r : Int) (c : Int) (l : List Int) (p : Int) (q : Int) (m : List Int) : funD matrix.two.E N Try.f46 (bodyOf Try.f46) [.agg [.int .i64 r, .int .i64 c, .ints .arg .u64 l], .agg [.int .i64 p, .int .i64 q, .ints .arg .u64 m]] =
  bif (((chkI r c l) != (0 : Int)) || ((chkI p q m) != (0 : Int))) then
    some (.int .i64 (1 : Int))
  else some (.int .i64 (0 : Int)) :=
  Eq.trans (b := bif ((!(((chkI r c l) != (0 : Int)) == false)) || true) then
    bif ((!(((chkI r c l) != (0 : Int)) == false)) || ((((!(((chkI r c l) != (0 : Int)) == false)) || (((chkI r c l) != (0 : Int)) == false)) && true) && true)) then
      bif ((!(((chkI r c l) != (0 : Int)) == false)) || ((((!(((chkI r c l) != (0 : Int)) == false)) || (((chkI r c l) != (0 : Int)) == false)) && true) && true)) then
        bif ((!(!((chkI r c l) != (0 : Int)))) || (((chkI r c l) != (0 : Int)) == false)) then
          bif (bif ((chkI r c l) != (0 : Int)) then true else ((chkI p q m) != (0 : Int))) then
            some (.int .i64 (1 : Int))
          else some (.int .i64 (0 : Int))
        else none
      else none
    else none
  else none) (by kernel_rfl)
  (ifT (tt14 _) (ifT (tt13 _) (ifT (tt13 _) (ifT (tt12 _) (ifS (tt11 _ _) rfl rfl)))))
theorem matrix.two.known_of (hk : Knowns Try.prog matrix.two.tab) (h : ∀ (r : Int) (c : Int) (l : List Int) (p : Int) (q : Int) (m : List Int), matrix.two.pre [.i r, .i c, .l l, .i p, .i q, .l m] = true → ∃ N dv drops, funD matrix.two.E N Try.f46 (bodyOf Try.f46) [.agg [.int .i64 r, .int .i64 c, .ints .arg .u64 l], .agg [.int .i64 p, .int .i64 q, .ints .arg .u64 m]] = some dv ∧ Wk drops dv (matrix.two.out [.i r, .i c, .l l, .i p, .i q, .l m])) : Known Try.prog 46 matrix.two.spec := by
  refine ⟨meets_entry (E := matrix.two.E) (env_ok hk _ _ _) Try.func46 (show Try.f46.body = some (bodyOf Try.f46) by kernel_rfl) fun ats dvs he hp => ?_, call_enter Try.func46 (by kernel_rfl) (show Try.f46.body = some (bodyOf Try.f46) by kernel_rfl)⟩
  obtain ⟨_, _, _, _, rfl, rfl, hs0, he0⟩ := he.st_inv
  obtain ⟨r, _, _, rfl, rfl, he1⟩ := hs0.i_inv
  obtain ⟨c, _, _, rfl, rfl, he2⟩ := he1.i_inv
  obtain ⟨l, _, _, rfl, rfl, he3⟩ := he2.s_inv
  obtain ⟨rfl, rfl⟩ := he3.nil_inv
  obtain ⟨_, _, _, _, rfl, rfl, hs4, he4⟩ := he0.st_inv
  obtain ⟨p, _, _, rfl, rfl, he5⟩ := hs4.i_inv
  obtain ⟨q, _, _, rfl, rfl, he6⟩ := he5.i_inv
  obtain ⟨m, _, _, rfl, rfl, he7⟩ := he6.s_inv
  obtain ⟨rfl, rfl⟩ := he7.nil_inv
  obtain ⟨rfl, rfl⟩ := he4.nil_inv
  exact h r c l p q m hp

noncomputable def matrix.Row.tab : List (Nat × Entry) := []
noncomputable def matrix.Row.E : Env := envOf (tabOf matrix.Row.tab) (fun _ => false) (fun _ => none) (fun _ => none)
theorem matrix.Row.ev (N : Nat) (r : Int) (c : Int) (l : List Int) (i : Int) (f : Int) : funD matrix.Row.E N Try.f49 (bodyOf Try.f49) [.agg [.int .i64 r, .int .i64 c, .ints .arg .u64 l], .int .i64 i, .int .i64 f] =
  bif (((decide ((0 : Int) ≤ (w_i64 ((w_i64 (i * c)) + f)))) && (decide ((w_i64 ((w_i64 (i * c)) + f)) ≤ (w_i64 ((w_i64 (i + (1 : Int))) * c))))) && ((decide ((0 : Int) ≤ (w_i64 ((w_i64 (i + (1 : Int))) * c)))) && (decide ((w_i64 ((w_i64 (i + (1 : Int))) * c)) ≤ (List.length l : Int))))) then
    bif (decide (0 + (List.length (List.drop (Int.toNat (w_i64 ((w_i64 (i * c)) + f))) (List.take (Int.toNat (w_i64 ((w_i64 (i + (1 : Int))) * c))) l))) ≤ lim)) then
      some (.ints (.own 22 39) .u64 ([] ++ (List.drop (Int.toNat (w_i64 ((w_i64 (i * c)) + f))) (List.take (Int.toNat (w_i64 ((w_i64 (i + (1 : Int))) * c))) l))))
    else none
  else none :=
  Eq.trans (b := bif ((((decide ((0 : Int) ≤ (w_i64 ((w_i64 (i * c)) + f)))) && (decide ((w_i64 ((w_i64 (i * c)) + f)) ≤ (w_i64 ((w_i64 (i + (1 : Int))) * c))))) && ((decide ((0 : Int) ≤ (w_i64 ((w_i64 (i + (1 : Int))) * c)))) && (decide ((w_i64 ((w_i64 (i + (1 : Int))) * c)) ≤ (List.length l : Int))))) && true) then
    bif (decide (0 + (List.length (List.drop (Int.toNat (w_i64 ((w_i64 (i * c)) + f))) (List.take (Int.toNat (w_i64 ((w_i64 (i + (1 : Int))) * c))) l))) ≤ lim)) then
      some (.ints (.own 22 39) .u64 ([] ++ (List.drop (Int.toNat (w_i64 ((w_i64 (i * c)) + f))) (List.take (Int.toNat (w_i64 ((w_i64 (i + (1 : Int))) * c))) l))))
    else none
  else none) (by kernel_rfl)
  (ifS (tt15 _ _ _ _) rfl rfl)
theorem matrix.Row.known_of (hk : Knowns Try.prog matrix.Row.tab) (h : ∀ (r : Int) (c : Int) (l : List Int) (i : Int) (f : Int), matrix.Row.pre [.i r, .i c, .l l, .i i, .i f] = true → ∃ N dv drops, funD matrix.Row.E N Try.f49 (bodyOf Try.f49) [.agg [.int .i64 r, .int .i64 c, .ints .arg .u64 l], .int .i64 i, .int .i64 f] = some dv ∧ Wk drops dv (matrix.Row.out [.i r, .i c, .l l, .i i, .i f])) : Known Try.prog 49 matrix.Row.spec := by
  refine ⟨meets_entry (E := matrix.Row.E) (env_ok hk _ _ _) Try.func49 (show Try.f49.body = some (bodyOf Try.f49) by kernel_rfl) fun ats dvs he hp => ?_, call_enter Try.func49 (by kernel_rfl) (show Try.f49.body = some (bodyOf Try.f49) by kernel_rfl)⟩
  obtain ⟨_, _, _, _, rfl, rfl, hs0, he0⟩ := he.st_inv
  obtain ⟨r, _, _, rfl, rfl, he1⟩ := hs0.i_inv
  obtain ⟨c, _, _, rfl, rfl, he2⟩ := he1.i_inv
  obtain ⟨l, _, _, rfl, rfl, he3⟩ := he2.s_inv
  obtain ⟨rfl, rfl⟩ := he3.nil_inv
  obtain ⟨i, _, _, rfl, rfl, he4⟩ := he0.i_inv
  obtain ⟨f, _, _, rfl, rfl, he5⟩ := he4.i_inv
  obtain ⟨rfl, rfl⟩ := he5.nil_inv
  exact h r c l i f hp

def matrix.Column.hint : Nat → Option LoopHint
  | 0 => some { keep := [1, 3, 7, 8], objs := [(0, 7, 100007, .ints 39 .u64 [])], boxes := [3] }
  | _ => none
noncomputable def matrix.Column.tab : List (Nat × Entry) := [(44, matrix.get.spec)]
noncomputable def matrix.Column.E : Env := envOf (tabOf matrix.Column.tab) (fun _ => false) matrix.Column.hint (fun _ => none)
noncomputable def matrix.Column.L0 (N M : Nat) (r : Int) (c : Int) (l : List Int) (k : Int) (p8 : Int) (p7 : List Int) : Option DV := loopAt matrix.Column.E N Try.f50 (bodyOf Try.f50) [1, 1, 0, 1, 0] [] M ⟨mkT 24 [(1, .int .i64 k), (3, .ptr 3 0 0), (7, .oref 100007), (8, .int .i64 p8)], [(3, false, .box [.int .i64 r, .int .i64 c, .ints .arg .u64 l]), (100007, false, .ints 39 .u64 p7)]⟩
theorem matrix.Column.L0_step (N M : Nat) (r : Int) (c : Int) (l : List Int) (k : Int) (p8 : Int) (p7 : List Int) : matrix.Column.L0 N (M + 1) r c l k p8 p7 =
  bif (ltI p8 r) then
    bif (atPre r c l p8 k) then
      bif (decide ((List.length p7) + 1 ≤ lim)) then
        matrix.Column.L0 N M r c l k (w_i64 (p8 + (1 : Int))) (p7 ++ [(atI c l p8 k)])
      else none
    else none
  else some (.ints (.own 100007 39) .u64 p7) := by kernel_rfl
theorem matrix.Column.ev (N : Nat) (r : Int) (c : Int) (l : List Int) (k : Int) (f : Int) : funD matrix.Column.E N Try.f50 (bodyOf Try.f50) [.agg [.int .i64 r, .int .i64 c, .ints .arg .u64 l], .int .i64 k, .int .i64 f] =
  matrix.Column.L0 N N r c l k f [] := by kernel_rfl
theorem matrix.Column.known_of (hk : Knowns Try.prog matrix.Column.tab) (h : ∀ (r : Int) (c : Int) (l : List Int) (k : Int) (f : Int), matrix.Column.pre [.i r, .i c, .l l, .i k, .i f] = true → ∃ N dv drops, funD matrix.Column.E N Try.f50 (bodyOf Try.f50) [.agg [.int .i64 r, .int .i64 c, .ints .arg .u64 l], .int .i64 k, .int .i64 f] = some dv ∧ Wk drops dv (matrix.Column.out [.i r, .i c, .l l, .i k, .i f])) : Known Try.prog 50 matrix.Column.spec := by
  refine ⟨meets_entry (E := matrix.Column.E) (env_ok hk _ _ _) Try.func50 (show Try.f50.body = some (bodyOf Try.f50) by kernel_rfl) fun ats dvs he hp => ?_, call_enter Try.func50 (by kernel_rfl) (show Try.f50.body = some (bodyOf Try.f50) by kernel_rfl)⟩
  obtain ⟨_, _, _, _, rfl, rfl, hs0, he0⟩ := he.st_inv
  obtain ⟨r, _, _, rfl, rfl, he1⟩ := hs0.i_inv
  obtain ⟨c, _, _, rfl, rfl, he2⟩ := he1.i_inv
  obtain ⟨l, _, _, rfl, rfl, he3⟩ := he2.s_inv
  obtain ⟨rfl, rfl⟩ := he3.nil_inv
  obtain ⟨k, _, _, rfl, rfl, he4⟩ := he0.i_inv
  obtain ⟨f, _, _, rfl, rfl, he5⟩ := he4.i_inv
  obtain ⟨rfl, rfl⟩ := he5.nil_inv
  exact h r c l k f hp

noncomputable def matrix.At.tab : List (Nat × Entry) := [(22, matrix.Check.spec), (44, matrix.get.spec)]
noncomputable def matrix.At.E : Env := envOf (tabOf matrix.At.tab) (fun _ => false) (fun _ => none) (fun _ => none)
theorem matrix.At.ev (N : Nat) (r : Int) (c : Int) (l : List Int) (i : Int) (k : Int) : funD matrix.At.E N Try.f20 (bodyOf Try.f20) [.agg [.int .i64 r, .int .i64 c, .ints .arg .u64 l], .int .i64 i, .int .i64 k] =
  bif ((chkI r c l) != (0 : Int)) then
    some (.tup [.int .u64 (0 : Int), .int .i64 (chkI r c l)])
  else bif ((((ltI i (0 : Int)) || (leI r i)) || (ltI k (0 : Int))) || (leI c k)) then
    some (.tup [.int .u64 (0 : Int), .int .i64 (7 : Int)])
  else bif (atPre r c l i k) then
    some (.tup [.int .u64 (atI c l i k), .int .i64 (0 : Int)])
  else none :=
  Eq.trans (b := bif ((chkI r c l) != (0 : Int)) then
    some (.tup [.int .u64 (0 : Int), .int .i64 (chkI r c l)])
  else bif ((!((ltI i (0 : Int)) == false)) || true) then
    bif ((!((ltI i (0 : Int)) == false)) || true) then
      bif ((!((ltI i (0 : Int)) == false)) || ((((!((ltI i (0 : Int)) == false)) || ((ltI i (0 : Int)) == false)) && true) && true)) then
        bif ((!((ltI i (0 : Int)) == false)) || ((((!((ltI i (0 : Int)) == false)) || ((ltI i (0 : Int)) == false)) && (((!((ltI i (0 : Int)) == false)) || ((ltI i (0 : Int)) == false)) && true)) && true)) then
          bif ((!(!(ltI i (0 : Int)))) || ((ltI i (0 : Int)) == false)) then
            bif ((!((bif (ltI i (0 : Int)) then true else (leI r i)) == false)) || true) then
              bif ((!((bif (ltI i (0 : Int)) then true else (leI r i)) == false)) || ((((!((bif (ltI i (0 : Int)) then true else (leI r i)) == false)) || ((bif (ltI i (0 : Int)) then true else (leI r i)) == false)) && true) && true)) then
                bif ((!(!(bif (ltI i (0 : Int)) then true else (leI r i)))) || ((bif (ltI i (0 : Int)) then true else (leI r i)) == false)) then
                  bif ((!((bif (bif (ltI i (0 : Int)) then true else (leI r i)) then true else (ltI k (0 : Int))) == false)) || true) then
                    bif ((!((bif (bif (ltI i (0 : Int)) then true else (leI r i)) then true else (ltI k (0 : Int))) == false)) || true) then
                      bif ((!((bif (bif (ltI i (0 : Int)) then true else (leI r i)) then true else (ltI k (0 : Int))) == false)) || ((((!((bif (bif (ltI i (0 : Int)) then true else (leI r i)) then true else (ltI k (0 : Int))) == false)) || ((bif (bif (ltI i (0 : Int)) then true else (leI r i)) then true else (ltI k (0 : Int))) == false)) && true) && true)) then
                        bif ((!((bif (bif (ltI i (0 : Int)) then true else (leI r i)) then true else (ltI k (0 : Int))) == false)) || ((((!((bif (bif (ltI i (0 : Int)) then true else (leI r i)) then true else (ltI k (0 : Int))) == false)) || ((bif (bif (ltI i (0 : Int)) then true else (leI r i)) then true else (ltI k (0 : Int))) == false)) && (((!((bif (bif (ltI i (0 : Int)) then true else (leI r i)) then true else (ltI k (0 : Int))) == false)) || ((bif (bif (ltI i (0 : Int)) then true else (leI r i)) then true else (ltI k (0 : Int))) == false)) && true)) && true)) then
                          bif ((!(!(bif (bif (ltI i (0 : Int)) then true else (leI r i)) then true else (ltI k (0 : Int))))) || ((bif (bif (ltI i (0 : Int)) then true else (leI r i)) then true else (ltI k (0 : Int))) == false)) then
                            bif (bif (bif (bif (ltI i (0 : Int)) then true else (leI r i)) then true else (ltI k (0 : Int))) then true else (leI c k)) then
                              some (.tup [.int .u64 (0 : Int), .int .i64 (7 : Int)])
                            else bif (atPre r c l i k) then
                              some (.tup [.int .u64 (atI c l i k), .int .i64 (0 : Int)])
                            else none
                          else none
                        else none
                      else none
                    else none
                  else none
                else none
              else none
            else none
          else none
        else none
      else none
    else none
  else none) (by kernel_rfl)
  (ifE rfl (ifT (tt14 _) (ifT (tt14 _) (ifT (tt13 _) (ifT (tt24 _) (ifT (tt12 _) (ifT (tt23 _ _) (ifT (tt22 _ _) (ifT (tt21 _ _) (ifT (tt20 _ _ _) (ifT (tt20 _ _ _) (ifT (tt19 _ _ _) (ifT (tt18 _ _ _) (ifT (tt17 _ _ _) (ifS (tt16 _ _ _ _) rfl rfl)))))))))))))))
theorem matrix.At.known_of (hk : Knowns Try.prog matrix.At.tab) (h : ∀ (r : Int) (c : Int) (l : List Int) (i : Int) (k : Int), matrix.At.pre [.i r, .i c, .l l, .i i, .i k] = true → ∃ N dv drops, funD matrix.At.E N Try.f20 (bodyOf Try.f20) [.agg [.int .i64 r, .int .i64 c, .ints .arg .u64 l], .int .i64 i, .int .i64 k] = some dv ∧ Wk drops dv (matrix.At.out [.i r, .i c, .l l, .i i, .i k])) : Known Try.prog 20 matrix.At.spec := by
  refine ⟨meets_entry (E := matrix.At.E) (env_ok hk _ _ _) Try.func20 (show Try.f20.body = some (bodyOf Try.f20) by kernel_rfl) fun ats dvs he hp => ?_, call_enter Try.func20 (by kernel_rfl) (show Try.f20.body = some (bodyOf Try.f20) by kernel_rfl)⟩
  obtain ⟨_, _, _, _, rfl, rfl, hs0, he0⟩ := he.st_inv
  obtain ⟨r, _, _, rfl, rfl, he1⟩ := hs0.i_inv
  obtain ⟨c, _, _, rfl, rfl, he2⟩ := he1.i_inv
  obtain ⟨l, _, _, rfl, rfl, he3⟩ := he2.s_inv
  obtain ⟨rfl, rfl⟩ := he3.nil_inv
  obtain ⟨i, _, _, rfl, rfl, he4⟩ := he0.i_inv
  obtain ⟨k, _, _, rfl, rfl, he5⟩ := he4.i_inv
  obtain ⟨rfl, rfl⟩ := he5.nil_inv
  exact h r c l i k hp

noncomputable def matrix.Zeros_1.tab : List (Nat × Entry) := []
noncomputable def matrix.Zeros_1.E : Env := envOf (tabOf matrix.Zeros_1.tab) (fun _ => false) (fun _ => none) (fun _ => none)
theorem matrix.Zeros_1.ev (N : Nat) (i : Int) (k : Int) : funD matrix.Zeros_1.E N Try.f40 (bodyOf Try.f40) [.int .i64 i, .int .i64 k] =
  some (.int .u64 (0 : Int)) := by kernel_rfl
theorem matrix.Zeros_1.known_of (hk : Knowns Try.prog matrix.Zeros_1.tab) (h : ∀ (i : Int) (k : Int), matrix.Zeros_1.pre [.i i, .i k] = true → ∃ N dv drops, funD matrix.Zeros_1.E N Try.f40 (bodyOf Try.f40) [.int .i64 i, .int .i64 k] = some dv ∧ Wk drops dv (matrix.Zeros_1.out [.i i, .i k])) : Known Try.prog 40 matrix.Zeros_1.spec := by
  refine ⟨meets_entry (E := matrix.Zeros_1.E) (env_ok hk _ _ _) Try.func40 (show Try.f40.body = some (bodyOf Try.f40) by kernel_rfl) fun ats dvs he hp => ?_, call_enter Try.func40 (by kernel_rfl) (show Try.f40.body = some (bodyOf Try.f40) by kernel_rfl)⟩
  obtain ⟨i, _, _, rfl, rfl, he0⟩ := he.i_inv
  obtain ⟨k, _, _, rfl, rfl, he1⟩ := he0.i_inv
  obtain ⟨rfl, rfl⟩ := he1.nil_inv
  exact h i k hp

noncomputable def matrix.Eye_1.tab : List (Nat × Entry) := []
noncomputable def matrix.Eye_1.E : Env := envOf (tabOf matrix.Eye_1.tab) (fun _ => false) (fun _ => none) (fun _ => none)
theorem matrix.Eye_1.ev (N : Nat) (i : Int) (k : Int) : funD matrix.Eye_1.E N Try.f41 (bodyOf Try.f41) [.int .i64 i, .int .i64 k] =
  bif (i == k) then
    some (.int .u64 (4607182418800017408 : Int))
  else some (.int .u64 (0 : Int)) := by kernel_rfl
theorem matrix.Eye_1.known_of (hk : Knowns Try.prog matrix.Eye_1.tab) (h : ∀ (i : Int) (k : Int), matrix.Eye_1.pre [.i i, .i k] = true → ∃ N dv drops, funD matrix.Eye_1.E N Try.f41 (bodyOf Try.f41) [.int .i64 i, .int .i64 k] = some dv ∧ Wk drops dv (matrix.Eye_1.out [.i i, .i k])) : Known Try.prog 41 matrix.Eye_1.spec := by
  refine ⟨meets_entry (E := matrix.Eye_1.E) (env_ok hk _ _ _) Try.func41 (show Try.f41.body = some (bodyOf Try.f41) by kernel_rfl) fun ats dvs he hp => ?_, call_enter Try.func41 (by kernel_rfl) (show Try.f41.body = some (bodyOf Try.f41) by kernel_rfl)⟩
  obtain ⟨i, _, _, rfl, rfl, he0⟩ := he.i_inv
  obtain ⟨k, _, _, rfl, rfl, he1⟩ := he0.i_inv
  obtain ⟨rfl, rfl⟩ := he1.nil_inv
  exact h i k hp

noncomputable def matrix.Turn_1.tab : List (Nat × Entry) := [(44, matrix.get.spec)]
noncomputable def matrix.Turn_1.E : Env := envOf (tabOf matrix.Turn_1.tab) (fun _ => false) (fun _ => none) (fun _ => none)
theorem matrix.Turn_1.ev (N : Nat) (i : Int) (k : Int) (r : Int) (c : Int) (l : List Int) : funD matrix.Turn_1.E N Try.f43 (bodyOf Try.f43) [.int .i64 i, .int .i64 k, .cellp [.int .i64 r, .int .i64 c, .ints .arg .u64 l]] =
  bif (atPre r c l k i) then
    some (.int .u64 (atI c l k i))
  else none := by kernel_rfl
theorem matrix.Turn_1.known_of (hk : Knowns Try.prog matrix.Turn_1.tab) (h : ∀ (i : Int) (k : Int) (r : Int) (c : Int) (l : List Int), matrix.Turn_1.pre [.i i, .i k, .i r, .i c, .l l] = true → ∃ N dv drops, funD matrix.Turn_1.E N Try.f43 (bodyOf Try.f43) [.int .i64 i, .int .i64 k, .cellp [.int .i64 r, .int .i64 c, .ints .arg .u64 l]] = some dv ∧ Wk drops dv (matrix.Turn_1.out [.i i, .i k, .i r, .i c, .l l])) : Known Try.prog 43 matrix.Turn_1.spec := by
  refine ⟨meets_entry (E := matrix.Turn_1.E) (env_ok hk _ _ _) Try.func43 (show Try.f43.body = some (bodyOf Try.f43) by kernel_rfl) fun ats dvs he hp => ?_, call_enter Try.func43 (by kernel_rfl) (show Try.f43.body = some (bodyOf Try.f43) by kernel_rfl)⟩
  obtain ⟨i, _, _, rfl, rfl, he0⟩ := he.i_inv
  obtain ⟨k, _, _, rfl, rfl, he1⟩ := he0.i_inv
  obtain ⟨_, _, _, _, rfl, rfl, hs2, he2⟩ := he1.cp_inv
  obtain ⟨r, _, _, rfl, rfl, he3⟩ := hs2.i_inv
  obtain ⟨c, _, _, rfl, rfl, he4⟩ := he3.i_inv
  obtain ⟨l, _, _, rfl, rfl, he5⟩ := he4.s_inv
  obtain ⟨rfl, rfl⟩ := he5.nil_inv
  obtain ⟨rfl, rfl⟩ := he2.nil_inv
  exact h i k r c l hp

noncomputable def matrix.Part_1.tab : List (Nat × Entry) := [(44, matrix.get.spec)]
noncomputable def matrix.Part_1.E : Env := envOf (tabOf matrix.Part_1.tab) (fun _ => false) (fun _ => none) (fun _ => none)
theorem matrix.Part_1.ev (N : Nat) (i : Int) (k : Int) (r : Int) (c : Int) (l : List Int) (x : Int) (y : Int) : funD matrix.Part_1.E N Try.f51 (bodyOf Try.f51) [.int .i64 i, .int .i64 k, .cellp [.int .i64 r, .int .i64 c, .ints .arg .u64 l], .cellp [.int .i64 x], .cellp [.int .i64 y]] =
  bif (atPre r c l (w_i64 (x + i)) (w_i64 (y + k))) then
    some (.int .u64 (atI c l (w_i64 (x + i)) (w_i64 (y + k))))
  else none := by kernel_rfl
theorem matrix.Part_1.known_of (hk : Knowns Try.prog matrix.Part_1.tab) (h : ∀ (i : Int) (k : Int) (r : Int) (c : Int) (l : List Int) (x : Int) (y : Int), matrix.Part_1.pre [.i i, .i k, .i r, .i c, .l l, .i x, .i y] = true → ∃ N dv drops, funD matrix.Part_1.E N Try.f51 (bodyOf Try.f51) [.int .i64 i, .int .i64 k, .cellp [.int .i64 r, .int .i64 c, .ints .arg .u64 l], .cellp [.int .i64 x], .cellp [.int .i64 y]] = some dv ∧ Wk drops dv (matrix.Part_1.out [.i i, .i k, .i r, .i c, .l l, .i x, .i y])) : Known Try.prog 51 matrix.Part_1.spec := by
  refine ⟨meets_entry (E := matrix.Part_1.E) (env_ok hk _ _ _) Try.func51 (show Try.f51.body = some (bodyOf Try.f51) by kernel_rfl) fun ats dvs he hp => ?_, call_enter Try.func51 (by kernel_rfl) (show Try.f51.body = some (bodyOf Try.f51) by kernel_rfl)⟩
  obtain ⟨i, _, _, rfl, rfl, he0⟩ := he.i_inv
  obtain ⟨k, _, _, rfl, rfl, he1⟩ := he0.i_inv
  obtain ⟨_, _, _, _, rfl, rfl, hs2, he2⟩ := he1.cp_inv
  obtain ⟨r, _, _, rfl, rfl, he3⟩ := hs2.i_inv
  obtain ⟨c, _, _, rfl, rfl, he4⟩ := he3.i_inv
  obtain ⟨l, _, _, rfl, rfl, he5⟩ := he4.s_inv
  obtain ⟨rfl, rfl⟩ := he5.nil_inv
  obtain ⟨_, _, _, _, rfl, rfl, hs6, he6⟩ := he2.cp_inv
  obtain ⟨x, _, _, rfl, rfl, he7⟩ := hs6.i_inv
  obtain ⟨rfl, rfl⟩ := he7.nil_inv
  obtain ⟨_, _, _, _, rfl, rfl, hs8, he8⟩ := he6.cp_inv
  obtain ⟨y, _, _, rfl, rfl, he9⟩ := hs8.i_inv
  obtain ⟨rfl, rfl⟩ := he9.nil_inv
  obtain ⟨rfl, rfl⟩ := he8.nil_inv
  exact h i k r c l x y hp

noncomputable def matrix.Stack_1.tab : List (Nat × Entry) := [(44, matrix.get.spec)]
noncomputable def matrix.Stack_1.E : Env := envOf (tabOf matrix.Stack_1.tab) (fun _ => false) (fun _ => none) (fun _ => none)
theorem matrix.Stack_1.ev (N : Nat) (i : Int) (k : Int) (r : Int) (c : Int) (l : List Int) (p : Int) (q : Int) (m : List Int) : funD matrix.Stack_1.E N Try.f58 (bodyOf Try.f58) [.int .i64 i, .int .i64 k, .cellp [.int .i64 r, .int .i64 c, .ints .arg .u64 l], .cellp [.int .i64 p, .int .i64 q, .ints .arg .u64 m]] =
  bif (ltI i r) then
    bif (atPre r c l i k) then
      some (.int .u64 (atI c l i k))
    else none
  else bif (atPre p q m (w_i64 (i - r)) k) then
    some (.int .u64 (atI q m (w_i64 (i - r)) k))
  else none := by kernel_rfl
theorem matrix.Stack_1.known_of (hk : Knowns Try.prog matrix.Stack_1.tab) (h : ∀ (i : Int) (k : Int) (r : Int) (c : Int) (l : List Int) (p : Int) (q : Int) (m : List Int), matrix.Stack_1.pre [.i i, .i k, .i r, .i c, .l l, .i p, .i q, .l m] = true → ∃ N dv drops, funD matrix.Stack_1.E N Try.f58 (bodyOf Try.f58) [.int .i64 i, .int .i64 k, .cellp [.int .i64 r, .int .i64 c, .ints .arg .u64 l], .cellp [.int .i64 p, .int .i64 q, .ints .arg .u64 m]] = some dv ∧ Wk drops dv (matrix.Stack_1.out [.i i, .i k, .i r, .i c, .l l, .i p, .i q, .l m])) : Known Try.prog 58 matrix.Stack_1.spec := by
  refine ⟨meets_entry (E := matrix.Stack_1.E) (env_ok hk _ _ _) Try.func58 (show Try.f58.body = some (bodyOf Try.f58) by kernel_rfl) fun ats dvs he hp => ?_, call_enter Try.func58 (by kernel_rfl) (show Try.f58.body = some (bodyOf Try.f58) by kernel_rfl)⟩
  obtain ⟨i, _, _, rfl, rfl, he0⟩ := he.i_inv
  obtain ⟨k, _, _, rfl, rfl, he1⟩ := he0.i_inv
  obtain ⟨_, _, _, _, rfl, rfl, hs2, he2⟩ := he1.cp_inv
  obtain ⟨r, _, _, rfl, rfl, he3⟩ := hs2.i_inv
  obtain ⟨c, _, _, rfl, rfl, he4⟩ := he3.i_inv
  obtain ⟨l, _, _, rfl, rfl, he5⟩ := he4.s_inv
  obtain ⟨rfl, rfl⟩ := he5.nil_inv
  obtain ⟨_, _, _, _, rfl, rfl, hs6, he6⟩ := he2.cp_inv
  obtain ⟨p, _, _, rfl, rfl, he7⟩ := hs6.i_inv
  obtain ⟨q, _, _, rfl, rfl, he8⟩ := he7.i_inv
  obtain ⟨m, _, _, rfl, rfl, he9⟩ := he8.s_inv
  obtain ⟨rfl, rfl⟩ := he9.nil_inv
  obtain ⟨rfl, rfl⟩ := he6.nil_inv
  exact h i k r c l p q m hp

noncomputable def matrix.Beside_1.tab : List (Nat × Entry) := [(44, matrix.get.spec)]
noncomputable def matrix.Beside_1.E : Env := envOf (tabOf matrix.Beside_1.tab) (fun _ => false) (fun _ => none) (fun _ => none)
theorem matrix.Beside_1.ev (N : Nat) (i : Int) (k : Int) (r : Int) (c : Int) (l : List Int) (p : Int) (q : Int) (m : List Int) : funD matrix.Beside_1.E N Try.f59 (bodyOf Try.f59) [.int .i64 i, .int .i64 k, .cellp [.int .i64 r, .int .i64 c, .ints .arg .u64 l], .cellp [.int .i64 p, .int .i64 q, .ints .arg .u64 m]] =
  bif (ltI k c) then
    bif (atPre r c l i k) then
      some (.int .u64 (atI c l i k))
    else none
  else bif (atPre p q m i (w_i64 (k - c))) then
    some (.int .u64 (atI q m i (w_i64 (k - c))))
  else none := by kernel_rfl
theorem matrix.Beside_1.known_of (hk : Knowns Try.prog matrix.Beside_1.tab) (h : ∀ (i : Int) (k : Int) (r : Int) (c : Int) (l : List Int) (p : Int) (q : Int) (m : List Int), matrix.Beside_1.pre [.i i, .i k, .i r, .i c, .l l, .i p, .i q, .l m] = true → ∃ N dv drops, funD matrix.Beside_1.E N Try.f59 (bodyOf Try.f59) [.int .i64 i, .int .i64 k, .cellp [.int .i64 r, .int .i64 c, .ints .arg .u64 l], .cellp [.int .i64 p, .int .i64 q, .ints .arg .u64 m]] = some dv ∧ Wk drops dv (matrix.Beside_1.out [.i i, .i k, .i r, .i c, .l l, .i p, .i q, .l m])) : Known Try.prog 59 matrix.Beside_1.spec := by
  refine ⟨meets_entry (E := matrix.Beside_1.E) (env_ok hk _ _ _) Try.func59 (show Try.f59.body = some (bodyOf Try.f59) by kernel_rfl) fun ats dvs he hp => ?_, call_enter Try.func59 (by kernel_rfl) (show Try.f59.body = some (bodyOf Try.f59) by kernel_rfl)⟩
  obtain ⟨i, _, _, rfl, rfl, he0⟩ := he.i_inv
  obtain ⟨k, _, _, rfl, rfl, he1⟩ := he0.i_inv
  obtain ⟨_, _, _, _, rfl, rfl, hs2, he2⟩ := he1.cp_inv
  obtain ⟨r, _, _, rfl, rfl, he3⟩ := hs2.i_inv
  obtain ⟨c, _, _, rfl, rfl, he4⟩ := he3.i_inv
  obtain ⟨l, _, _, rfl, rfl, he5⟩ := he4.s_inv
  obtain ⟨rfl, rfl⟩ := he5.nil_inv
  obtain ⟨_, _, _, _, rfl, rfl, hs6, he6⟩ := he2.cp_inv
  obtain ⟨p, _, _, rfl, rfl, he7⟩ := hs6.i_inv
  obtain ⟨q, _, _, rfl, rfl, he8⟩ := he7.i_inv
  obtain ⟨m, _, _, rfl, rfl, he9⟩ := he8.s_inv
  obtain ⟨rfl, rfl⟩ := he9.nil_inv
  obtain ⟨rfl, rfl⟩ := he6.nil_inv
  exact h i k r c l p q m hp

noncomputable def matrix.Mul_1.tab : List (Nat × Entry) := [(50, matrix.Column.spec), (49, matrix.Row.spec), (48, vector.Dot.spec)]
noncomputable def matrix.Mul_1.E : Env := envOf (tabOf matrix.Mul_1.tab) (fun _ => false) (fun _ => none) (fun _ => none)
theorem matrix.Mul_1.ev (N : Nat) (i : Int) (k : Int) (r : Int) (c : Int) (l : List Int) (p : Int) (q : Int) (m : List Int) : funD matrix.Mul_1.E N Try.f47 (bodyOf Try.f47) [.int .i64 i, .int .i64 k, .cellp [.int .i64 r, .int .i64 c, .ints .arg .u64 l], .cellp [.int .i64 p, .int .i64 q, .ints .arg .u64 m]] =
  bif (rowPre r c l i && decide ((0 : Int) = 0)) then
    bif (colPre p q m k && decide ((0 : Int) = 0)) then
      bif ((fitB (rowI c l i) (colI p q m k) && allU64 (rowI c l i)) && allU64 (colI p q m k)) then
        some (.int .u64 (dotI (rowI c l i) (colI p q m k)))
      else none
    else none
  else none :=
  Eq.trans (b := bif ((rowPre r c l i && decide ((0 : Int) = 0)) && true) then
    bif ((colPre p q m k && decide ((0 : Int) = 0)) && true) then
      bif (((fitB (rowI c l i) (colI p q m k) && allU64 (rowI c l i)) && allU64 (colI p q m k)) && true) then
        some (.int .u64 (dotI (rowI c l i) (colI p q m k)))
      else none
    else none
  else none) (by kernel_rfl)
  (ifS (tt25 _) (ifS (tt25 _) (ifS (tt25 _) rfl rfl) rfl) rfl)
theorem matrix.Mul_1.known_of (hk : Knowns Try.prog matrix.Mul_1.tab) (h : ∀ (i : Int) (k : Int) (r : Int) (c : Int) (l : List Int) (p : Int) (q : Int) (m : List Int), matrix.Mul_1.pre [.i i, .i k, .i r, .i c, .l l, .i p, .i q, .l m] = true → ∃ N dv drops, funD matrix.Mul_1.E N Try.f47 (bodyOf Try.f47) [.int .i64 i, .int .i64 k, .cellp [.int .i64 r, .int .i64 c, .ints .arg .u64 l], .cellp [.int .i64 p, .int .i64 q, .ints .arg .u64 m]] = some dv ∧ Wk drops dv (matrix.Mul_1.out [.i i, .i k, .i r, .i c, .l l, .i p, .i q, .l m])) : Known Try.prog 47 matrix.Mul_1.spec := by
  refine ⟨meets_entry (E := matrix.Mul_1.E) (env_ok hk _ _ _) Try.func47 (show Try.f47.body = some (bodyOf Try.f47) by kernel_rfl) fun ats dvs he hp => ?_, call_enter Try.func47 (by kernel_rfl) (show Try.f47.body = some (bodyOf Try.f47) by kernel_rfl)⟩
  obtain ⟨i, _, _, rfl, rfl, he0⟩ := he.i_inv
  obtain ⟨k, _, _, rfl, rfl, he1⟩ := he0.i_inv
  obtain ⟨_, _, _, _, rfl, rfl, hs2, he2⟩ := he1.cp_inv
  obtain ⟨r, _, _, rfl, rfl, he3⟩ := hs2.i_inv
  obtain ⟨c, _, _, rfl, rfl, he4⟩ := he3.i_inv
  obtain ⟨l, _, _, rfl, rfl, he5⟩ := he4.s_inv
  obtain ⟨rfl, rfl⟩ := he5.nil_inv
  obtain ⟨_, _, _, _, rfl, rfl, hs6, he6⟩ := he2.cp_inv
  obtain ⟨p, _, _, rfl, rfl, he7⟩ := hs6.i_inv
  obtain ⟨q, _, _, rfl, rfl, he8⟩ := he7.i_inv
  obtain ⟨m, _, _, rfl, rfl, he9⟩ := he8.s_inv
  obtain ⟨rfl, rfl⟩ := he9.nil_inv
  obtain ⟨rfl, rfl⟩ := he6.nil_inv
  exact h i k r c l p q m hp
end EqMat
end Go.Proofs.S1

/- Package matrix: sizes, places, rows, columns, and what is made of each place. -/
namespace Go.Proofs.S1
open Go Go.Den Go.Rnd Go.Proofs
open EqMat

theorem small_mul {a b : Int} (h1 : 0 ≤ a) (h2 : a < 20) (h3 : 0 ≤ b) (h4 : b < 20) : 0 ≤ a * b ∧ a * b < 400 := by
  have := Int.mul_nonneg h1 h3
  have h5 : a * b ≤ 19 * 19 := Int.mul_le_mul (by omega) (by omega) h3 (by omega)
  omega

theorem matrix.size.known : Known Try.prog 38 matrix.size.spec := matrix.size.known_of .nil fun n _ => by
  refine ⟨0, matrix.size.out [.i n], [], ?_, .bool⟩
  have e : (bif (leI (0 : Int) n) then (leI n (6 : Int)) else false) = sizeB n := by
    unfold sizeB
    rw [leI_eq, leI_eq]
    cases decide (0 ≤ n) <;> rfl
  rw [matrix.size.ev, e]; rfl

theorem chk_code (r c : Int) (l : List Int) : (((!(sizeB r)) || (!(sizeB c))) || ((List.length l : Int) != (w_i64 (r * c)))) = !(rightB r c l) := by
  unfold rightB
  cases h1 : sizeB r with
  | false => rfl
  | true =>
    cases h2 : sizeB c with
    | false => rfl
    | true =>
      obtain ⟨r1, r2⟩ := size_iff.1 h1
      obtain ⟨c1, c2⟩ := size_iff.1 h2
      have := small_mul (a := r) (b := c) r1 (by omega) c1 (by omega)
      rw [w_i64_in (by omega) (by omega), Bool.eq_iff_iff]
      simp

theorem matrix.Check.known : Known Try.prog 22 matrix.Check.spec := matrix.Check.known_of (.cons matrix.size.known .nil) fun r c l _ => by
  refine ⟨0, matrix.Check.out [.i r, .i c, .l l], [], ?_, .int⟩
  rw [matrix.Check.ev, chk_code]
  show _ = some (DV.int .i64 (chkI r c l))
  unfold chkI
  cases rightB r c l <;> rfl

theorem at_code {c i k : Int} {l : List Int} {R : Int} (h : atPre R c l i k = true) : w_i64 (w_i64 (i * c) + k) = i * c + k ∧ 0 ≤ i * c + k ∧ i * c + k < l.length := by
  obtain ⟨h1, h2, h3, h4, h5, h6, h7, _⟩ := cdec_eq.1 h
  have := small_mul h1 (by omega) h5 (by omega)
  rw [w_i64_in (x := i * c) (by omega) (by omega), w_i64_in (by omega) (by omega)]
  omega

theorem matrix.get.known : Known Try.prog 44 matrix.get.spec := matrix.get.known_of .nil fun r c l i k hp => by
  obtain ⟨e, h1, h2⟩ := at_code (R := r) (show atPre r c l i k = true from hp)
  refine ⟨0, matrix.get.out [.i r, .i c, .l l, .i i, .i k], [], ?_, .int⟩
  rw [matrix.get.ev, e, decide_eq_true h1, decide_eq_true h2]
  rfl

theorem chk_ne (r c : Int) (l : List Int) : ((chkI r c l) != (0 : Int)) = !(rightB r c l) := by
  unfold chkI
  cases rightB r c l <;> rfl

theorem matrix.two.known : Known Try.prog 46 matrix.two.spec := matrix.two.known_of (.cons matrix.Check.known .nil) fun r c l p q m _ => by
  refine ⟨0, matrix.two.out [.i r, .i c, .l l, .i p, .i q, .l m], [], ?_, .int⟩
  rw [matrix.two.ev, chk_ne, chk_ne]
  show _ = some (DV.int .i64 (twoI r c l p q m))
  unfold twoI
  cases rightB r c l <;> cases rightB p q m <;> rfl

theorem matrix.Row.known : Known Try.prog 49 matrix.Row.spec := matrix.Row.known_of .nil fun r c l i f hp => by
  obtain ⟨h0, hf⟩ := and_true_iff.1 hp
  obtain rfl := of_decide_eq_true hf
  obtain ⟨hr, hi⟩ := and_true_iff.1 h0
  have hi := cdec_eq.1 hi
  obtain ⟨R, C, rfl, rfl, r6, c6, hl⟩ := right_nat hr
  obtain ⟨I, rfl⟩ : ∃ k : Nat, i = k := ⟨i.toNat, by omega⟩
  have hm := small_mul (a := (I : Int)) (b := (C : Int)) (by omega) (by omega) (by omega) (by omega)
  have hm2 := small_mul (a := (I : Int) + 1) (b := (C : Int)) (by omega) (by omega) (by omega) (by omega)
  have hle : (I + 1) * C ≤ R * C := Nat.mul_le_mul_right C (by omega)
  have hle2 : I * C ≤ (I + 1) * C := Nat.mul_le_mul_right C (by omega)
  have e1 : (I : Int) * (C : Int) = ((I * C : Nat) : Int) := (Int.natCast_mul _ _).symm
  have e2 : ((I : Int) + 1) * (C : Int) = (((I + 1) * C : Nat) : Int) := by rw [Int.natCast_mul]; rfl
  refine ⟨0, .ints (.own 22 39) .u64 (rowI (C : Int) l (I : Int)), [22], ?_, .drop _ _ _ _ (List.mem_singleton.2 rfl)⟩
  rw [matrix.Row.ev, w_i64_in (x := (I : Int) + 1) (by omega) (by omega), w_i64_in (x := (I : Int) * (C : Int)) (by omega) (by omega), Int.add_zero, w_i64_in (x := (I : Int) * (C : Int)) (by omega) (by omega), w_i64_in (x := ((I : Int) + 1) * (C : Int)) (by omega) (by omega)]
  unfold rowI
  have d1 : decide ((0 : Int) ≤ (I : Int) * (C : Int)) = true := decide_eq_true (by omega)
  have d2 : decide ((I : Int) * (C : Int) ≤ ((I : Int) + 1) * (C : Int)) = true := decide_eq_true (by rw [e1, e2]; omega)
  have d3 : decide ((0 : Int) ≤ ((I : Int) + 1) * (C : Int)) = true := decide_eq_true (by omega)
  have d4 : decide (((I : Int) + 1) * (C : Int) ≤ (l.length : Int)) = true := decide_eq_true (by rw [e2]; omega)
  have d5 : decide (0 + (List.drop ((I : Int) * (C : Int)).toNat (List.take (((I : Int) + 1) * (C : Int)).toNat l)).length ≤ lim) = true := by
    refine decide_eq_true ?_
    rw [List.length_drop, List.length_take]
    unfold lim
    omega
  rw [d1, d2, d3, d4, d5]
  rfl

theorem col_loop (N : Nat) {R C K : Nat} {l : List Int} (r6 : R ≤ 6) (c6 : C ≤ 6) (hl : l.length = R * C) (hk : K < C) : ∀ (k i F : Nat), i + k = R → k < F →
    matrix.Column.L0 N F (R : Int) (C : Int) l (K : Int) (i : Int) ((List.range i).map fun j : Nat => atI (C : Int) l (j : Int) (K : Int)) = some (.ints (.own 100007 39) .u64 (colI (R : Int) (C : Int) l (K : Int))) := by
  intro k
  induction k with
  | zero =>
    intro i F hi hF
    obtain ⟨F, rfl⟩ : ∃ G, F = G + 1 := ⟨F - 1, by omega⟩
    rw [matrix.Column.L0_step, ltI_eq, decide_eq_false (by omega), cond_false]
    unfold colI
    rw [Int.toNat_natCast, show i = R by omega]
  | succ k ih =>
    intro i F hi hF
    obtain ⟨F, rfl⟩ : ∃ G, F = G + 1 := ⟨F - 1, by omega⟩
    have d : decide (((List.range i).map fun j : Nat => atI (C : Int) l (j : Int) (K : Int)).length + 1 ≤ lim) = true := by
      refine decide_eq_true ?_
      rw [List.length_map, List.length_range]; unfold lim; omega
    rw [matrix.Column.L0_step, ltI_eq, decide_eq_true (by omega), cond_true, atPre_of r6 c6 hl (show i < R by omega) hk, cond_true, d, cond_true, w_i64_in (by omega) (by omega)]
    have := ih (i + 1) F (by omega) (by omega)
    rw [List.range_succ, List.map_append] at this
    exact this

theorem matrix.Column.known : Known Try.prog 50 matrix.Column.spec := matrix.Column.known_of (.cons matrix.get.known .nil) fun r c l k f hp => by
  obtain ⟨h0, hf⟩ := and_true_iff.1 hp
  obtain rfl := of_decide_eq_true hf
  obtain ⟨hr, hi⟩ := and_true_iff.1 h0
  have hi := cdec_eq.1 hi
  obtain ⟨R, C, rfl, rfl, r6, c6, hl⟩ := right_nat hr
  obtain ⟨K, rfl⟩ : ∃ j : Nat, k = j := ⟨k.toNat, by omega⟩
  refine ⟨8, .ints (.own 100007 39) .u64 (colI (R : Int) (C : Int) l (K : Int)), [100007], ?_, .drop _ _ _ _ (List.mem_singleton.2 rfl)⟩
  rw [matrix.Column.ev]
  exact col_loop 8 r6 c6 hl (by omega) R 0 8 (by omega) (by omega)

theorem at_of_right {r c i k : Int} {l : List Int} (h : rightB r c l = true) (h1 : 0 ≤ i) (h2 : i < r) (h3 : 0 ≤ k) (h4 : k < c) (R : Int) : atPre R c l i k = true := by
  obtain ⟨R', C, rfl, rfl, r6, c6, hl⟩ := right_nat h
  obtain ⟨I, rfl⟩ : ∃ j : Nat, i = j := ⟨i.toNat, by omega⟩
  obtain ⟨K, rfl⟩ : ∃ j : Nat, k = j := ⟨k.toNat, by omega⟩
  exact atPre_of r6 c6 hl (by omega) (by omega)

theorem matrix.At.known : Known Try.prog 20 matrix.At.spec := matrix.At.known_of (.cons matrix.Check.known (.cons matrix.get.known .nil)) fun r c l i k _ => by
  refine ⟨0, matrix.At.out [.i r, .i c, .l l, .i i, .i k], [], ?_, Wk.tupL (.cons .int (.cons .int .nil))⟩
  show _ = some (DV.tup [.int .u64 (getX r c l i k).1, .int .i64 (getX r c l i k).2])
  rw [matrix.At.ev, chk_ne]
  unfold getX chkI
  cases hr : rightB r c l with
  | false => rfl
  | true =>
    rw [Bool.not_true, cond_false, ltI_eq, ltI_eq, leI_eq, leI_eq]
    by_cases h : 0 ≤ i ∧ i < r ∧ 0 ≤ k ∧ k < c
    · have e : (((decide (i < 0) || decide (r ≤ i)) || decide (k < 0)) || decide (c ≤ k)) = false := by simp; omega
      rw [e, cond_false, at_of_right hr h.1 h.2.1 h.2.2.1 h.2.2.2 r, cond_true, if_pos rfl, if_pos h]
    · have e : (((decide (i < 0) || decide (r ≤ i)) || decide (k < 0)) || decide (c ≤ k)) = true := by simp; omega
      rw [e, cond_true, if_pos rfl, if_neg h]

theorem matrix.Zeros_1.known : Known Try.prog 40 matrix.Zeros_1.spec := matrix.Zeros_1.known_of .nil fun i k _ => by
  refine ⟨0, matrix.Zeros_1.out [.i i, .i k], [], ?_, .int⟩
  rw [matrix.Zeros_1.ev]; rfl

theorem matrix.Eye_1.known : Known Try.prog 41 matrix.Eye_1.spec := matrix.Eye_1.known_of .nil fun i k _ => by
  refine ⟨0, matrix.Eye_1.out [.i i, .i k], [], ?_, .int⟩
  rw [matrix.Eye_1.ev]
  show _ = some (DV.int .u64 (eyeI i k))
  unfold eyeI
  by_cases h : i = k
  · have : (i == k) = true := by rw [h]; simp
    rw [this, if_pos h]; rfl
  · have : (i == k) = false := by simpa using h
    rw [this, if_neg h]; rfl

theorem matrix.Turn_1.known : Known Try.prog 43 matrix.Turn_1.spec := matrix.Turn_1.known_of (.cons matrix.get.known .nil) fun i k r c l hp => by
  have hp : atPre r c l k i = true := hp
  refine ⟨0, matrix.Turn_1.out [.i i, .i k, .i r, .i c, .l l], [], ?_, .int⟩
  rw [matrix.Turn_1.ev, hp]; rfl

theorem matrix.Part_1.known : Known Try.prog 51 matrix.Part_1.spec := matrix.Part_1.known_of (.cons matrix.get.known .nil) fun i k r c l x y hp => by
  obtain ⟨h1, h2⟩ := and_true_iff.1 hp
  have h2 := cdec_eq.1 h2
  refine ⟨0, matrix.Part_1.out [.i i, .i k, .i r, .i c, .l l, .i x, .i y], [], ?_, .int⟩
  rw [matrix.Part_1.ev, w_i64_in (x := x + i) (by omega) (by omega), w_i64_in (x := y + k) (by omega) (by omega), h1]; rfl

theorem matrix.Stack_1.known : Known Try.prog 58 matrix.Stack_1.spec := matrix.Stack_1.known_of (.cons matrix.get.known .nil) fun i k r c l p q m hp => by
  obtain ⟨h1, h2, h3, h4, h5⟩ := cdec_eq.1 (show stackPre r c l p q m i k = true from hp)
  refine ⟨0, matrix.Stack_1.out [.i i, .i k, .i r, .i c, .l l, .i p, .i q, .l m], [], ?_, .int⟩
  show _ = some (DV.int .u64 (stackI r c l q m i k))
  rw [matrix.Stack_1.ev, ltI_eq, w_i64_in (x := i - r) (by omega) (by omega)]
  unfold stackI
  by_cases h : i < r
  · rw [if_pos h] at h5
    rw [decide_eq_true h, cond_true, h5, cond_true, if_pos h]
  · rw [if_neg h] at h5
    rw [decide_eq_false h, cond_false, h5, cond_true, if_neg h]

theorem matrix.Beside_1.known : Known Try.prog 59 matrix.Beside_1.spec := matrix.Beside_1.known_of (.cons matrix.get.known .nil) fun i k r c l p q m hp => by
  obtain ⟨h1, h2, h3, h4, h5⟩ := cdec_eq.1 (show besidePre r c l p q m i k = true from hp)
  refine ⟨0, matrix.Beside_1.out [.i i, .i k, .i r, .i c, .l l, .i p, .i q, .l m], [], ?_, .int⟩
  show _ = some (DV.int .u64 (besideI c l q m i k))
  rw [matrix.Beside_1.ev, ltI_eq, w_i64_in (x := k - c) (by omega) (by omega)]
  unfold besideI
  by_cases h : k < c
  · rw [if_pos h] at h5
    rw [decide_eq_true h, cond_true, h5, cond_true, if_pos h]
  · rw [if_neg h] at h5
    rw [decide_eq_false h, cond_false, h5, cond_true, if_neg h]

theorem row_length {R C : Nat} {l : List Int} (hl : l.length = R * C) {I : Nat} (hi : I < R) : (rowI (C : Int) l (I : Int)).length = C := by
  have hle : (I + 1) * C ≤ R * C := Nat.mul_le_mul_right C (by omega)
  have e1 : ((I : Int) * (C : Int)).toNat = I * C := by rw [← Int.natCast_mul, Int.toNat_natCast]
  have e2 : (((I : Int) + 1) * (C : Int)).toNat = (I + 1) * C := by
    have : ((I : Int) + 1) * (C : Int) = (((I + 1) * C : Nat) : Int) := by rw [Int.natCast_mul]; rfl
    rw [this, Int.toNat_natCast]
  unfold rowI
  rw [List.length_drop, List.length_take, e1, e2]
  rw [Nat.add_mul, Nat.one_mul] at hle ⊢
  omega

theorem col_length (R : Nat) (C : Int) (l : List Int) (K : Int) : (colI (R : Int) C l K).length = R := by
  unfold colI
  rw [List.length_map, List.length_range, Int.toNat_natCast]

theorem row_all {c i : Int} {l : List Int} (h : allU64 l = true) : allU64 (rowI c l i) = true := by
  have h := cdec_eq.1 h
  exact cdec_eq.2 fun x hx => h x (List.mem_of_mem_take (List.mem_of_mem_drop hx))

theorem at_all {c i k : Int} {l : List Int} (h : allU64 l = true) : inU64 (atI c l i k) = true := by
  unfold atI
  by_cases hj : (i * c + k).toNat < l.length
  · exact all_get h hj
  · rw [List.getD_eq_getElem?_getD, List.getElem?_eq_none (by omega)]
    exact inU64_of (n := 0) (by decide)

theorem col_all {r c k : Int} {l : List Int} (h : allU64 l = true) : allU64 (colI r c l k) = true := by
  refine cdec_eq.2 fun x hx => ?_
  obtain ⟨j, _, rfl⟩ := List.mem_map.1 hx
  exact at_all h

theorem matrix.Mul_1.known : Known Try.prog 47 matrix.Mul_1.spec := matrix.Mul_1.known_of (.cons matrix.Column.known (.cons matrix.Row.known (.cons vector.Dot.known .nil))) fun i k r c l p q m hp => by
  obtain ⟨h1, h2⟩ := and_true_iff.1 (show mulPre r c l p q m i k = true from hp)
  obtain ⟨h3, h4⟩ := and_true_iff.1 h1
  obtain ⟨h5, h6⟩ := and_true_iff.1 h2
  obtain ⟨hl, hm⟩ := and_true_iff.1 h5
  obtain rfl := cdec_eq.1 h6
  obtain ⟨hr, hi⟩ := and_true_iff.1 h3
  have hi := cdec_eq.1 hi
  obtain ⟨R, C, rfl, rfl, r6, c6, ll⟩ := right_nat hr
  obtain ⟨I, rfl⟩ : ∃ j : Nat, i = j := ⟨i.toNat, by omega⟩
  refine ⟨0, matrix.Mul_1.out [.i I, .i k, .i R, .i C, .l l, .i C, .i q, .l m], [], ?_, .int⟩
  have hf : fitB (rowI (C : Int) l (I : Int)) (colI (C : Int) q m k) = true := fit_iff.2 ⟨by rw [row_length ll (by omega), col_length], by rw [row_length ll (by omega)]; omega⟩
  rw [matrix.Mul_1.ev, h3, h4, hf, row_all hl, col_all hm]
  rfl

end Go.Proofs.S1

/- The evaluator's equations: matrix.of.Zeros, matrix.of.Eye, matrix.of.Turn, matrix.of.Part, matrix.of.Stack, matrix.of.Beside, matrix.of.Mul, matrix.Zeros, matrix.Eye, matrix.Turn, matrix.Part, matrix.Stack, matrix.Beside, matrix.Mul. Printed by denpy.py. -/
namespace Go.Proofs.S1
open Go Go.Den Go.Rnd Go.Proofs
set_option linter.unusedVariables false
set_option maxRecDepth 100000
namespace EqOf
theorem tt0 (a : Bool) : (a && true) = a := by cases a <;> rfl
theorem tt1 (a b : Bool) : (bif (!a) then true else (!b)) = ((!a) || (!b)) := by cases a <;> cases b <;> rfl
theorem tt2 (a : Bool) : ((!(!(!a))) || ((!a) == false)) = true := by cases a <;> rfl
theorem tt3 (a : Bool) : ((!((!a) == false)) || ((((!((!a) == false)) || ((!a) == false)) && true) && true)) = true := by cases a <;> rfl
theorem tt4 (a : Bool) : ((!((!a) == false)) || true) = true := by cases a <;> rfl
theorem tt5 (a b c d e f g h : Bool) : (bif (bif (bif (bif (bif (bif (bif a then true else b) then true else c) then true else d) then true else e) then true else f) then true else g) then true else h) = (((((((a || b) || c) || d) || e) || f) || g) || h) := by cases a <;> cases b <;> cases c <;> cases d <;> cases e <;> cases f <;> cases g <;> cases h <;> rfl
theorem tt6 (a b c d e f g : Bool) : ((!(!(bif (bif (bif (bif (bif (bif a then true else b) then true else c) then true else d) then true else e) then true else f) then true else g))) || ((bif (bif (bif (bif (bif (bif a then true else b) then true else c) then true else d) then true else e) then true else f) then true else g) == false)) = true := by cases a <;> cases b <;> cases c <;> cases d <;> cases e <;> cases f <;> cases g <;> rfl
theorem tt7 (a b c d e f g : Bool) : ((!((bif (bif (bif (bif (bif (bif a then true else b) then true else c) then true else d) then true else e) then true else f) then true else g) == false)) || ((((!((bif (bif (bif (bif (bif (bif a then true else b) then true else c) then true else d) then true else e) then true else f) then true else g) == false)) || ((bif (bif (bif (bif (bif (bif a then true else b) then true else c) then true else d) then true else e) then true else f) then true else g) == false)) && (((!((bif (bif (bif (bif (bif (bif a then true else b) then true else c) then true else d) then true else e) then true else f) then true else g) == false)) || ((bif (bif (bif (bif (bif (bif a then true else b) then true else c) then true else d) then true else e) then true else f) then true else g) == false)) && true)) && true)) = true := by cases a <;> cases b <;> cases c <;> cases d <;> cases e <;> cases f <;> cases g <;> rfl
theorem tt8 (a b c d e f g : Bool) : ((!((bif (bif (bif (bif (bif (bif a then true else b) then true else c) then true else d) then true else e) then true else f) then true else g) == false)) || true) = true := by cases a <;> cases b <;> cases c <;> cases d <;> cases e <;> cases f <;> cases g <;> rfl
theorem tt9 (a b c d e f g : Bool) : ((!((bif (bif (bif (bif (bif (bif a then true else b) then true else c) then true else d) then true else e) then true else f) then true else g) == false)) || ((((!((bif (bif (bif (bif (bif (bif a then true else b) then true else c) then true else d) then true else e) then true else f) then true else g) == false)) || ((bif (bif (bif (bif (bif (bif a then true else b) then true else c) then true else d) then true else e) then true else f) then true else g) == false)) && true) && true)) = true := by cases a <;> cases b <;> cases c <;> cases d <;> cases e <;> cases f <;> cases g <;> rfl
theorem tt10 (a b c d e f : Bool) : ((!(!(bif (bif (bif (bif (bif a then true else b) then true else c) then true else d) then true else e) then true else f))) || ((bif (bif (bif (bif (bif a then true else b) then true else c) then true else d) then true else e) then true else f) == false)) = true := by cases a <;> cases b <;> cases c <;> cases d <;> cases e <;> cases f <;> rfl
theorem tt11 (a b c d e f : Bool) : ((!((bif (bif (bif (bif (bif a then true else b) then true else c) then true else d) then true else e) then true else f) == false)) || ((((!((bif (bif (bif (bif (bif a then true else b) then true else c) then true else d) then true else e) then true else f) == false)) || ((bif (bif (bif (bif (bif a then true else b) then true else c) then true else d) then true else e) then true else f) == false)) && (((!((bif (bif (bif (bif (bif a then true else b) then true else c) then true else d) then true else e) then true else f) == false)) || ((bif (bif (bif (bif (bif a then true else b) then true else c) then true else d) then true else e) then true else f) == false)) && true)) && true)) = true := by cases a <;> cases b <;> cases c <;> cases d <;> cases e <;> cases f <;> rfl
theorem tt12 (a b c d e f : Bool) : ((!((bif (bif (bif (bif (bif a then true else b) then true else c) then true else d) then true else e) then true else f) == false)) || true) = true := by cases a <;> cases b <;> cases c <;> cases d <;> cases e <;> cases f <;> rfl
theorem tt13 (a b c d e f : Bool) : ((!((bif (bif (bif (bif (bif a then true else b) then true else c) then true else d) then true else e) then true else f) == false)) || ((((!((bif (bif (bif (bif (bif a then true else b) then true else c) then true else d) then true else e) then true else f) == false)) || ((bif (bif (bif (bif (bif a then true else b) then true else c) then true else d) then true else e) then true else f) == false)) && true) && true)) = true := by cases a <;> cases b <;> cases c <;> cases d <;> cases e <;> cases f <;> rfl
theorem tt14 (a b c d e : Bool) : ((!(!(bif (bif (bif (bif a then true else b) then true else c) then true else d) then true else e))) || ((bif (bif (bif (bif a then true else b) then true else c) then true else d) then true else e) == false)) = true := by cases a <;> cases b <;> cases c <;> cases d <;> cases e <;> rfl
theorem tt15 (a b c d e : Bool) : ((!((bif (bif (bif (bif a then true else b) then true else c) then true else d) then true else e) == false)) || ((((!((bif (bif (bif (bif a then true else b) then true else c) then true else d) then true else e) == false)) || ((bif (bif (bif (bif a then true else b) then true else c) then true else d) then true else e) == false)) && (((!((bif (bif (bif (bif a then true else b) then true else c) then true else d) then true else e) == false)) || ((bif (bif (bif (bif a then true else b) then true else c) then true else d) then true else e) == false)) && true)) && true)) = true := by cases a <;> cases b <;> cases c <;> cases d <;> cases e <;> rfl
theorem tt16 (a b c d e : Bool) : ((!((bif (bif (bif (bif a then true else b) then true else c) then true else d) then true else e) == false)) || ((((!((bif (bif (bif (bif a then true else b) then true else c) then true else d) then true else e) == false)) || ((bif (bif (bif (bif a then true else b) then true else c) then true else d) then true else e) == false)) && true) && true)) = true := by cases a <;> cases b <;> cases c <;> cases d <;> cases e <;> rfl
theorem tt17 (a b c d e : Bool) : ((!((bif (bif (bif (bif a then true else b) then true else c) then true else d) then true else e) == false)) || true) = true := by cases a <;> cases b <;> cases c <;> cases d <;> cases e <;> rfl
theorem tt18 (a b c d : Bool) : ((!(!(bif (bif (bif a then true else b) then true else c) then true else d))) || ((bif (bif (bif a then true else b) then true else c) then true else d) == false)) = true := by cases a <;> cases b <;> cases c <;> cases d <;> rfl
theorem tt19 (a b c d : Bool) : ((!((bif (bif (bif a then true else b) then true else c) then true else d) == false)) || ((((!((bif (bif (bif a then true else b) then true else c) then true else d) == false)) || ((bif (bif (bif a then true else b) then true else c) then true else d) == false)) && (((!((bif (bif (bif a then true else b) then true else c) then true else d) == false)) || ((bif (bif (bif a then true else b) then true else c) then true else d) == false)) && true)) && true)) = true := by cases a <;> cases b <;> cases c <;> cases d <;> rfl
theorem tt20 (a b c d : Bool) : ((!((bif (bif (bif a then true else b) then true else c) then true else d) == false)) || ((((!((bif (bif (bif a then true else b) then true else c) then true else d) == false)) || ((bif (bif (bif a then true else b) then true else c) then true else d) == false)) && true) && true)) = true := by cases a <;> cases b <;> cases c <;> cases d <;> rfl
theorem tt21 (a b c d : Bool) : ((!((bif (bif (bif a then true else b) then true else c) then true else d) == false)) || true) = true := by cases a <;> cases b <;> cases c <;> cases d <;> rfl
theorem tt22 (a b c : Bool) : ((!(!(bif (bif a then true else b) then true else c))) || ((bif (bif a then true else b) then true else c) == false)) = true := by cases a <;> cases b <;> cases c <;> rfl
theorem tt23 (a b c : Bool) : ((!((bif (bif a then true else b) then true else c) == false)) || ((((!((bif (bif a then true else b) then true else c) == false)) || ((bif (bif a then true else b) then true else c) == false)) && true) && true)) = true := by cases a <;> cases b <;> cases c <;> rfl
theorem tt24 (a b c : Bool) : ((!((bif (bif a then true else b) then true else c) == false)) || true) = true := by cases a <;> cases b <;> cases c <;> rfl
theorem tt25 (a b : Bool) : ((!(!(bif a then true else b))) || ((bif a then true else b) == false)) = true := by cases a <;> cases b <;> rfl
theorem tt26 (a b : Bool) : ((!((bif a then true else b) == false)) || ((((!((bif a then true else b) == false)) || ((bif a then true else b) == false)) && true) && true)) = true := by cases a <;> cases b <;> rfl
theorem tt27 (a b : Bool) : ((!((bif a then true else b) == false)) || true) = true := by cases a <;> cases b <;> rfl
theorem tt28 (a : Bool) : ((!(!a)) || (a == false)) = true := by cases a <;> rfl
theorem tt29 (a : Bool) : ((!(a == false)) || ((((!(a == false)) || (a == false)) && true) && true)) = true := by cases a <;> rfl
theorem tt30 (a : Bool) : ((!(a == false)) || true) = true := by cases a <;> rfl
theorem tt31 (a b : Bool) : (bif a then true else b) = (a || b) := by cases a <;> cases b <;> rfl
theorem tt32 (a : Bool) : ((!(a == false)) || ((((!(a == false)) || (a == false)) && (((!(a == false)) || (a == false)) && true)) && true)) = true := by cases a <;> rfl
def matrix.of.Zeros.hint : Nat → Option LoopHint
  | 0 => some { keep := [1, 2, 6, 7, 13, 14], objs := [(8, 2, 108002, .ints 39 .u64 [])], boxes := [6, 7] }
  | 2 => some { keep := [1, 2, 6, 7, 8, 13, 14, 17, 18], objs := [(8, 2, 108002, .ints 39 .u64 [])], boxes := [6, 7] }
  | _ => none
noncomputable def matrix.of.Zeros.tab : List (Nat × Entry) := [(40, matrix.Zeros_1.spec)]
noncomputable def matrix.of.Zeros.E : Env := envOf (tabOf matrix.of.Zeros.tab) (fun _ => false) matrix.of.Zeros.hint (fun _ => none)
noncomputable def matrix.of.Zeros.L0 (N M : Nat) (a : Int) (b : Int) (p14 : Int) (p2_1 : List Int) : Option DV := loopAt matrix.of.Zeros.E N Try.f39 (bodyOf Try.f39) [1, 1, 0, 1, 0] [] M ⟨mkT 33 [(1, .int .i64 b), (2, .fn 40 [] []), (6, .ptr 6 0 0), (7, .ptr 7 0 0), (13, .int .i64 a), (14, .int .i64 p14)], [(6, false, .box [.int .i64 (0 : Int), .int .i64 (0 : Int), .nil]), (7, false, .box [.int .i64 a, .int .i64 b, .oref 108002]), (108002, false, .ints 39 .u64 p2_1)]⟩
noncomputable def matrix.of.Zeros.L1 (N M0 M : Nat) (a : Int) (b : Int) (p8 : Int) (p14_1 : Int) (p18 : Int) (p2 : List Int) : Option DV := loopAt matrix.of.Zeros.E N Try.f39 (bodyOf Try.f39) [1, 1, 0, 1, 0, 0, 1, 1, 0, 0, 1, 1, 0] [M0] M ⟨mkT 33 [(1, .int .i64 b), (2, .fn 40 [] []), (6, .ptr 6 0 0), (7, .ptr 7 0 0), (8, .int .i64 p8), (13, .int .i64 a), (14, .int .i64 p14_1), (17, .int .i64 b), (18, .int .i64 p18)], [(6, false, .box [.int .i64 (0 : Int), .int .i64 (0 : Int), .nil]), (7, false, .box [.int .i64 a, .int .i64 b, .oref 108002]), (108002, false, .ints 39 .u64 p2)]⟩
theorem matrix.of.Zeros.L0_step (N M : Nat) (a : Int) (b : Int) (p14 : Int) (p2_1 : List Int) : matrix.of.Zeros.L0 N (M + 1) a b p14 p2_1 =
  bif (ltI p14 a) then
    matrix.of.Zeros.L1 N M N a b p14 p14 (0 : Int) p2_1
  else some (.agg [.int .i64 a, .int .i64 b, .ints (.own 108002 39) .u64 p2_1]) := by kernel_rfl
theorem matrix.of.Zeros.L1_step (N M0 M : Nat) (a : Int) (b : Int) (p8 : Int) (p14_1 : Int) (p18 : Int) (p2 : List Int) : matrix.of.Zeros.L1 N M0 (M + 1) a b p8 p14_1 p18 p2 =
  bif (ltI p18 b) then
    bif (decide ((List.length p2) + 1 ≤ lim)) then
      matrix.of.Zeros.L1 N M0 M a b p8 p14_1 (w_i64 (p18 + (1 : Int))) (p2 ++ [(0 : Int)])
    else none
  else matrix.of.Zeros.L0 N M0 a b (w_i64 (p14_1 + (1 : Int))) p2 :=
  Eq.trans (b := bif (ltI p18 b) then
    bif ((decide ((List.length p2) + 1 ≤ lim)) && true) then
      matrix.of.Zeros.L1 N M0 M a b p8 p14_1 (w_i64 (p18 + (1 : Int))) (p2 ++ [(0 : Int)])
    else none
  else matrix.of.Zeros.L0 N M0 a b (w_i64 (p14_1 + (1 : Int))) p2) (by kernel_rfl)
  (ifE (ifS (tt0 _) rfl rfl) rfl)
theorem matrix.of.Zeros.ev (N : Nat) (a : Int) (b : Int) : funD matrix.of.Zeros.E N Try.f39 (bodyOf Try.f39) [.int .i64 a, .int .i64 b, .fn 40 [] []] =
  matrix.of.Zeros.L0 N N a b (0 : Int) [] := by kernel_rfl
theorem matrix.of.Zeros.known_of (hk : Knowns Try.prog matrix.of.Zeros.tab) (h : ∀ (a : Int) (b : Int), matrix.of.Zeros.pre [.i a, .i b] = true → ∃ N dv drops, funD matrix.of.Zeros.E N Try.f39 (bodyOf Try.f39) [.int .i64 a, .int .i64 b, .fn 40 [] []] = some dv ∧ Wk drops dv (matrix.of.Zeros.out [.i a, .i b])) : Known Try.prog 39 matrix.of.Zeros.spec := by
  refine ⟨meets_entry (E := matrix.of.Zeros.E) (env_ok hk _ _ _) Try.func39 (show Try.f39.body = some (bodyOf Try.f39) by kernel_rfl) fun ats dvs he hp => ?_, call_enter Try.func39 (by kernel_rfl) (show Try.f39.body = some (bodyOf Try.f39) by kernel_rfl)⟩
  obtain ⟨a, _, _, rfl, rfl, he0⟩ := he.i_inv
  obtain ⟨b, _, _, rfl, rfl, he1⟩ := he0.i_inv
  obtain ⟨_, _, _, _, rfl, rfl, hs2, he2⟩ := he1.fn_inv
  obtain ⟨rfl, rfl⟩ := hs2.nil_inv
  obtain ⟨rfl, rfl⟩ := he2.nil_inv
  exact h a b hp

def matrix.of.Eye.hint : Nat → Option LoopHint
  | 0 => some { keep := [1, 2, 6, 7, 13, 14], objs := [(8, 2, 108002, .ints 39 .u64 [])], boxes := [6, 7] }
  | 2 => some { keep := [1, 2, 6, 7, 8, 13, 14, 17, 18], objs := [(8, 2, 108002, .ints 39 .u64 [])], boxes := [6, 7] }
  | _ => none
noncomputable def matrix.of.Eye.tab : List (Nat × Entry) := [(41, matrix.Eye_1.spec)]
noncomputable def matrix.of.Eye.E : Env := envOf (tabOf matrix.of.Eye.tab) (fun _ => false) matrix.of.Eye.hint (fun _ => none)
noncomputable def matrix.of.Eye.L0 (N M : Nat) (a : Int) (b : Int) (p14 : Int) (p2_1 : List Int) : Option DV := loopAt matrix.of.Eye.E N Try.f39 (bodyOf Try.f39) [1, 1, 0, 1, 0] [] M ⟨mkT 33 [(1, .int .i64 b), (2, .fn 41 [] []), (6, .ptr 6 0 0), (7, .ptr 7 0 0), (13, .int .i64 a), (14, .int .i64 p14)], [(6, false, .box [.int .i64 (0 : Int), .int .i64 (0 : Int), .nil]), (7, false, .box [.int .i64 a, .int .i64 b, .oref 108002]), (108002, false, .ints 39 .u64 p2_1)]⟩
noncomputable def matrix.of.Eye.L1 (N M0 M : Nat) (a : Int) (b : Int) (p8 : Int) (p14_1 : Int) (p18 : Int) (p2 : List Int) : Option DV := loopAt matrix.of.Eye.E N Try.f39 (bodyOf Try.f39) [1, 1, 0, 1, 0, 0, 1, 1, 0, 0, 1, 1, 0] [M0] M ⟨mkT 33 [(1, .int .i64 b), (2, .fn 41 [] []), (6, .ptr 6 0 0), (7, .ptr 7 0 0), (8, .int .i64 p8), (13, .int .i64 a), (14, .int .i64 p14_1), (17, .int .i64 b), (18, .int .i64 p18)], [(6, false, .box [.int .i64 (0 : Int), .int .i64 (0 : Int), .nil]), (7, false, .box [.int .i64 a, .int .i64 b, .oref 108002]), (108002, false, .ints 39 .u64 p2)]⟩
theorem matrix.of.Eye.L0_step (N M : Nat) (a : Int) (b : Int) (p14 : Int) (p2_1 : List Int) : matrix.of.Eye.L0 N (M + 1) a b p14 p2_1 =
  bif (ltI p14 a) then
    matrix.of.Eye.L1 N M N a b p14 p14 (0 : Int) p2_1
  else some (.agg [.int .i64 a, .int .i64 b, .ints (.own 108002 39) .u64 p2_1]) := by kernel_rfl
theorem matrix.of.Eye.L1_step (N M0 M : Nat) (a : Int) (b : Int) (p8 : Int) (p14_1 : Int) (p18 : Int) (p2 : List Int) : matrix.of.Eye.L1 N M0 (M + 1) a b p8 p14_1 p18 p2 =
  bif (ltI p18 b) then
    bif (decide ((List.length p2) + 1 ≤ lim)) then
      matrix.of.Eye.L1 N M0 M a b p8 p14_1 (w_i64 (p18 + (1 : Int))) (p2 ++ [(eyeI p8 p18)])
    else none
  else matrix.of.Eye.L0 N M0 a b (w_i64 (p14_1 + (1 : Int))) p2 :=
  Eq.trans (b := bif (ltI p18 b) then
    bif ((decide ((List.length p2) + 1 ≤ lim)) && true) then
      matrix.of.Eye.L1 N M0 M a b p8 p14_1 (w_i64 (p18 + (1 : Int))) (p2 ++ [(eyeI p8 p18)])
    else none
  else matrix.of.Eye.L0 N M0 a b (w_i64 (p14_1 + (1 : Int))) p2) (by kernel_rfl)
  (ifE (ifS (tt0 _) rfl rfl) rfl)
theorem matrix.of.Eye.ev (N : Nat) (a : Int) (b : Int) : funD matrix.of.Eye.E N Try.f39 (bodyOf Try.f39) [.int .i64 a, .int .i64 b, .fn 41 [] []] =
  matrix.of.Eye.L0 N N a b (0 : Int) [] := by kernel_rfl
theorem matrix.of.Eye.known_of (hk : Knowns Try.prog matrix.of.Eye.tab) (h : ∀ (a : Int) (b : Int), matrix.of.Eye.pre [.i a, .i b] = true → ∃ N dv drops, funD matrix.of.Eye.E N Try.f39 (bodyOf Try.f39) [.int .i64 a, .int .i64 b, .fn 41 [] []] = some dv ∧ Wk drops dv (matrix.of.Eye.out [.i a, .i b])) : Known Try.prog 39 matrix.of.Eye.spec := by
  refine ⟨meets_entry (E := matrix.of.Eye.E) (env_ok hk _ _ _) Try.func39 (show Try.f39.body = some (bodyOf Try.f39) by kernel_rfl) fun ats dvs he hp => ?_, call_enter Try.func39 (by kernel_rfl) (show Try.f39.body = some (bodyOf Try.f39) by kernel_rfl)⟩
  obtain ⟨a, _, _, rfl, rfl, he0⟩ := he.i_inv
  obtain ⟨b, _, _, rfl, rfl, he1⟩ := he0.i_inv
  obtain ⟨_, _, _, _, rfl, rfl, hs2, he2⟩ := he1.fn_inv
  obtain ⟨rfl, rfl⟩ := hs2.nil_inv
  obtain ⟨rfl, rfl⟩ := he2.nil_inv
  exact h a b hp

def matrix.of.Turn.hint : Nat → Option LoopHint
  | 0 => some { keep := [1, 2, 6, 7, 13, 14], objs := [(8, 2, 108002, .ints 39 .u64 [])], boxes := [6, 7] }
  | 2 => some { keep := [1, 2, 6, 7, 8, 13, 14, 17, 18], objs := [(8, 2, 108002, .ints 39 .u64 [])], boxes := [6, 7] }
  | _ => none
noncomputable def matrix.of.Turn.tab : List (Nat × Entry) := [(43, matrix.Turn_1.spec)]
noncomputable def matrix.of.Turn.E : Env := envOf (tabOf matrix.of.Turn.tab) (fun _ => false) matrix.of.Turn.hint (fun _ => none)
noncomputable def matrix.of.Turn.L0 (N M : Nat) (a : Int) (b : Int) (r : Int) (c : Int) (l : List Int) (p14 : Int) (p2_1 : List Int) : Option DV := loopAt matrix.of.Turn.E N Try.f39 (bodyOf Try.f39) [1, 1, 0, 1, 0] [] M ⟨mkT 33 [(1, .int .i64 b), (2, .fn 43 [] [.cellp [.int .i64 r, .int .i64 c, .ints .arg .u64 l]]), (6, .ptr 6 0 0), (7, .ptr 7 0 0), (13, .int .i64 a), (14, .int .i64 p14)], [(6, false, .box [.int .i64 (0 : Int), .int .i64 (0 : Int), .nil]), (7, false, .box [.int .i64 a, .int .i64 b, .oref 108002]), (108002, false, .ints 39 .u64 p2_1)]⟩
noncomputable def matrix.of.Turn.L1 (N M0 M : Nat) (a : Int) (b : Int) (r : Int) (c : Int) (l : List Int) (p8 : Int) (p14_1 : Int) (p18 : Int) (p2 : List Int) : Option DV := loopAt matrix.of.Turn.E N Try.f39 (bodyOf Try.f39) [1, 1, 0, 1, 0, 0, 1, 1, 0, 0, 1, 1, 0] [M0] M ⟨mkT 33 [(1, .int .i64 b), (2, .fn 43 [] [.cellp [.int .i64 r, .int .i64 c, .ints .arg .u64 l]]), (6, .ptr 6 0 0), (7, .ptr 7 0 0), (8, .int .i64 p8), (13, .int .i64 a), (14, .int .i64 p14_1), (17, .int .i64 b), (18, .int .i64 p18)], [(6, false, .box [.int .i64 (0 : Int), .int .i64 (0 : Int), .nil]), (7, false, .box [.int .i64 a, .int .i64 b, .oref 108002]), (108002, false, .ints 39 .u64 p2)]⟩
theorem matrix.of.Turn.L0_step (N M : Nat) (a : Int) (b : Int) (r : Int) (c : Int) (l : List Int) (p14 : Int) (p2_1 : List Int) : matrix.of.Turn.L0 N (M + 1) a b r c l p14 p2_1 =
  bif (ltI p14 a) then
    matrix.of.Turn.L1 N M N a b r c l p14 p14 (0 : Int) p2_1
  else some (.agg [.int .i64 a, .int .i64 b, .ints (.own 108002 39) .u64 p2_1]) := by kernel_rfl
theorem matrix.of.Turn.L1_step (N M0 M : Nat) (a : Int) (b : Int) (r : Int) (c : Int) (l : List Int) (p8 : Int) (p14_1 : Int) (p18 : Int) (p2 : List Int) : matrix.of.Turn.L1 N M0 (M + 1) a b r c l p8 p14_1 p18 p2 =
  bif (ltI p18 b) then
    bif (atPre r c l p18 p8) then
      bif (decide ((List.length p2) + 1 ≤ lim)) then
        matrix.of.Turn.L1 N M0 M a b r c l p8 p14_1 (w_i64 (p18 + (1 : Int))) (p2 ++ [(atI c l p18 p8)])
      else none
    else none
  else matrix.of.Turn.L0 N M0 a b r c l (w_i64 (p14_1 + (1 : Int))) p2 :=
  Eq.trans (b := bif (ltI p18 b) then
    bif ((atPre r c l p18 p8) && true) then
      bif ((decide ((List.length p2) + 1 ≤ lim)) && true) then
        matrix.of.Turn.L1 N M0 M a b r c l p8 p14_1 (w_i64 (p18 + (1 : Int))) (p2 ++ [(atI c l p18 p8)])
      else none
    else none
  else matrix.of.Turn.L0 N M0 a b r c l (w_i64 (p14_1 + (1 : Int))) p2) (by kernel_rfl)
  (ifE (ifS (tt0 _) (ifS (tt0 _) rfl rfl) rfl) rfl)
theorem matrix.of.Turn.ev (N : Nat) (a : Int) (b : Int) (r : Int) (c : Int) (l : List Int) : funD matrix.of.Turn.E N Try.f39 (bodyOf Try.f39) [.int .i64 a, .int .i64 b, .fn 43 [] [.cellp [.int .i64 r, .int .i64 c, .ints .arg .u64 l]]] =
  matrix.of.Turn.L0 N N a b r c l (0 : Int) [] := by kernel_rfl
theorem matrix.of.Turn.known_of (hk : Knowns Try.prog matrix.of.Turn.tab) (h : ∀ (a : Int) (b : Int) (r : Int) (c : Int) (l : List Int), matrix.of.Turn.pre [.i a, .i b, .i r, .i c, .l l] = true → ∃ N dv drops, funD matrix.of.Turn.E N Try.f39 (bodyOf Try.f39) [.int .i64 a, .int .i64 b, .fn 43 [] [.cellp [.int .i64 r, .int .i64 c, .ints .arg .u64 l]]] = some dv ∧ Wk drops dv (matrix.of.Turn.out [.i a, .i b, .i r, .i c, .l l])) : Known Try.prog 39 matrix.of.Turn.spec := by
  refine ⟨meets_entry (E := matrix.of.Turn.E) (env_ok hk _ _ _) Try.func39 (show Try.f39.body = some (bodyOf Try.f39) by kernel_rfl) fun ats dvs he hp => ?_, call_enter Try.func39 (by kernel_rfl) (show Try.f39.body = some (bodyOf Try.f39) by kernel_rfl)⟩
  obtain ⟨a, _, _, rfl, rfl, he0⟩ := he.i_inv
  obtain ⟨b, _, _, rfl, rfl, he1⟩ := he0.i_inv
  obtain ⟨_, _, _, _, rfl, rfl, hs2, he2⟩ := he1.fn_inv
  obtain ⟨_, _, _, _, rfl, rfl, hs3, he3⟩ := hs2.cp_inv
  obtain ⟨r, _, _, rfl, rfl, he4⟩ := hs3.i_inv
  obtain ⟨c, _, _, rfl, rfl, he5⟩ := he4.i_inv
  obtain ⟨l, _, _, rfl, rfl, he6⟩ := he5.s_inv
  obtain ⟨rfl, rfl⟩ := he6.nil_inv
  obtain ⟨rfl, rfl⟩ := he3.nil_inv
  obtain ⟨rfl, rfl⟩ := he2.nil_inv
  exact h a b r c l hp

def matrix.of.Part.hint : Nat → Option LoopHint
  | 0 => some { keep := [1, 2, 6, 7, 13, 14], objs := [(8, 2, 108002, .ints 39 .u64 [])], boxes := [6, 7] }
  | 2 => some { keep := [1, 2, 6, 7, 8, 13, 14, 17, 18], objs := [(8, 2, 108002, .ints 39 .u64 [])], boxes := [6, 7] }
  | _ => none
noncomputable def matrix.of.Part.tab : List (Nat × Entry) := [(51, matrix.Part_1.spec)]
noncomputable def matrix.of.Part.E : Env := envOf (tabOf matrix.of.Part.tab) (fun _ => false) matrix.of.Part.hint (fun _ => none)
noncomputable def matrix.of.Part.L0 (N M : Nat) (a : Int) (b : Int) (r : Int) (c : Int) (l : List Int) (x : Int) (y : Int) (p14 : Int) (p2_1 : List Int) : Option DV := loopAt matrix.of.Part.E N Try.f39 (bodyOf Try.f39) [1, 1, 0, 1, 0] [] M ⟨mkT 33 [(1, .int .i64 b), (2, .fn 51 [] [.cellp [.int .i64 r, .int .i64 c, .ints .arg .u64 l], .cellp [.int .i64 x], .cellp [.int .i64 y]]), (6, .ptr 6 0 0), (7, .ptr 7 0 0), (13, .int .i64 a), (14, .int .i64 p14)], [(6, false, .box [.int .i64 (0 : Int), .int .i64 (0 : Int), .nil]), (7, false, .box [.int .i64 a, .int .i64 b, .oref 108002]), (108002, false, .ints 39 .u64 p2_1)]⟩
noncomputable def matrix.of.Part.L1 (N M0 M : Nat) (a : Int) (b : Int) (r : Int) (c : Int) (l : List Int) (x : Int) (y : Int) (p8 : Int) (p14_1 : Int) (p18 : Int) (p2 : List Int) : Option DV := loopAt matrix.of.Part.E N Try.f39 (bodyOf Try.f39) [1, 1, 0, 1, 0, 0, 1, 1, 0, 0, 1, 1, 0] [M0] M ⟨mkT 33 [(1, .int .i64 b), (2, .fn 51 [] [.cellp [.int .i64 r, .int .i64 c, .ints .arg .u64 l], .cellp [.int .i64 x], .cellp [.int .i64 y]]), (6, .ptr 6 0 0), (7, .ptr 7 0 0), (8, .int .i64 p8), (13, .int .i64 a), (14, .int .i64 p14_1), (17, .int .i64 b), (18, .int .i64 p18)], [(6, false, .box [.int .i64 (0 : Int), .int .i64 (0 : Int), .nil]), (7, false, .box [.int .i64 a, .int .i64 b, .oref 108002]), (108002, false, .ints 39 .u64 p2)]⟩
theorem matrix.of.Part.L0_step (N M : Nat) (a : Int) (b : Int) (r : Int) (c : Int) (l : List Int) (x : Int) (y : Int) (p14 : Int) (p2_1 : List Int) : matrix.of.Part.L0 N (M + 1) a b r c l x y p14 p2_1 =
  bif (ltI p14 a) then
    matrix.of.Part.L1 N M N a b r c l x y p14 p14 (0 : Int) p2_1
  else some (.agg [.int .i64 a, .int .i64 b, .ints (.own 108002 39) .u64 p2_1]) := by kernel_rfl
theorem matrix.of.Part.L1_step (N M0 M : Nat) (a : Int) (b : Int) (r : Int) (c : Int) (l : List Int) (x : Int) (y : Int) (p8 : Int) (p14_1 : Int) (p18 : Int) (p2 : List Int) : matrix.of.Part.L1 N M0 (M + 1) a b r c l x y p8 p14_1 p18 p2 =
  bif (ltI p18 b) then
    bif (atPre r c l (x + p8) (y + p18) && smallI x y p8 p18) then
      bif (decide ((List.length p2) + 1 ≤ lim)) then
        matrix.of.Part.L1 N M0 M a b r c l x y p8 p14_1 (w_i64 (p18 + (1 : Int))) (p2 ++ [(atI c l (x + p8) (y + p18))])
      else none
    else none
  else matrix.of.Part.L0 N M0 a b r c l x y (w_i64 (p14_1 + (1 : Int))) p2 :=
  Eq.trans (b := bif (ltI p18 b) then
    bif ((atPre r c l (x + p8) (y + p18) && smallI x y p8 p18) && true) then
      bif ((decide ((List.length p2) + 1 ≤ lim)) && true) then
        matrix.of.Part.L1 N M0 M a b r c l x y p8 p14_1 (w_i64 (p18 + (1 : Int))) (p2 ++ [(atI c l (x + p8) (y + p18))])
      else none
    else none
  else matrix.of.Part.L0 N M0 a b r c l x y (w_i64 (p14_1 + (1 : Int))) p2) (by kernel_rfl)
  (ifE (ifS (tt0 _) (ifS (tt0 _) rfl rfl) rfl) rfl)
theorem matrix.of.Part.ev (N : Nat) (a : Int) (b : Int) (r : Int) (c : Int) (l : List Int) (x : Int) (y : Int) : funD matrix.of.Part.E N Try.f39 (bodyOf Try.f39) [.int .i64 a, .int .i64 b, .fn 51 [] [.cellp [.int .i64 r, .int .i64 c, .ints .arg .u64 l], .cellp [.int .i64 x], .cellp [.int .i64 y]]] =
  matrix.of.Part.L0 N N a b r c l x y (0 : Int) [] := by kernel_rfl
theorem matrix.of.Part.known_of (hk : Knowns Try.prog matrix.of.Part.tab) (h : ∀ (a : Int) (b : Int) (r : Int) (c : Int) (l : List Int) (x : Int) (y : Int), matrix.of.Part.pre [.i a, .i b, .i r, .i c, .l l, .i x, .i y] = true → ∃ N dv drops, funD matrix.of.Part.E N Try.f39 (bodyOf Try.f39) [.int .i64 a, .int .i64 b, .fn 51 [] [.cellp [.int .i64 r, .int .i64 c, .ints .arg .u64 l], .cellp [.int .i64 x], .cellp [.int .i64 y]]] = some dv ∧ Wk drops dv (matrix.of.Part.out [.i a, .i b, .i r, .i c, .l l, .i x, .i y])) : Known Try.prog 39 matrix.of.Part.spec := by
  refine ⟨meets_entry (E := matrix.of.Part.E) (env_ok hk _ _ _) Try.func39 (show Try.f39.body = some (bodyOf Try.f39) by kernel_rfl) fun ats dvs he hp => ?_, call_enter Try.func39 (by kernel_rfl) (show Try.f39.body = some (bodyOf Try.f39) by kernel_rfl)⟩
  obtain ⟨a, _, _, rfl, rfl, he0⟩ := he.i_inv
  obtain ⟨b, _, _, rfl, rfl, he1⟩ := he0.i_inv
  obtain ⟨_, _, _, _, rfl, rfl, hs2, he2⟩ := he1.fn_inv
  obtain ⟨_, _, _, _, rfl, rfl, hs3, he3⟩ := hs2.cp_inv
  obtain ⟨r, _, _, rfl, rfl, he4⟩ := hs3.i_inv
  obtain ⟨c, _, _, rfl, rfl, he5⟩ := he4.i_inv
  obtain ⟨l, _, _, rfl, rfl, he6⟩ := he5.s_inv
  obtain ⟨rfl, rfl⟩ := he6.nil_inv
  obtain ⟨_, _, _, _, rfl, rfl, hs7, he7⟩ := he3.cp_inv
  obtain ⟨x, _, _, rfl, rfl, he8⟩ := hs7.i_inv
  obtain ⟨rfl, rfl⟩ := he8.nil_inv
  obtain ⟨_, _, _, _, rfl, rfl, hs9, he9⟩ := he7.cp_inv
  obtain ⟨y, _, _, rfl, rfl, he10⟩ := hs9.i_inv
  obtain ⟨rfl, rfl⟩ := he10.nil_inv
  obtain ⟨rfl, rfl⟩ := he9.nil_inv
  obtain ⟨rfl, rfl⟩ := he2.nil_inv
  exact h a b r c l x y hp

def matrix.of.Stack.hint : Nat → Option LoopHint
  | 0 => some { keep := [1, 2, 6, 7, 13, 14], objs := [(8, 2, 108002, .ints 39 .u64 [])], boxes := [6, 7] }
  | 2 => some { keep := [1, 2, 6, 7, 8, 13, 14, 17, 18], objs := [(8, 2, 108002, .ints 39 .u64 [])], boxes := [6, 7] }
  | _ => none
noncomputable def matrix.of.Stack.tab : List (Nat × Entry) := [(58, matrix.Stack_1.spec)]
noncomputable def matrix.of.Stack.E : Env := envOf (tabOf matrix.of.Stack.tab) (fun _ => false) matrix.of.Stack.hint (fun _ => none)
noncomputable def matrix.of.Stack.L0 (N M : Nat) (a : Int) (b : Int) (r : Int) (c : Int) (l : List Int) (p : Int) (q : Int) (m : List Int) (p14 : Int) (p2_1 : List Int) : Option DV := loopAt matrix.of.Stack.E N Try.f39 (bodyOf Try.f39) [1, 1, 0, 1, 0] [] M ⟨mkT 33 [(1, .int .i64 b), (2, .fn 58 [] [.cellp [.int .i64 r, .int .i64 c, .ints .arg .u64 l], .cellp [.int .i64 p, .int .i64 q, .ints .arg .u64 m]]), (6, .ptr 6 0 0), (7, .ptr 7 0 0), (13, .int .i64 a), (14, .int .i64 p14)], [(6, false, .box [.int .i64 (0 : Int), .int .i64 (0 : Int), .nil]), (7, false, .box [.int .i64 a, .int .i64 b, .oref 108002]), (108002, false, .ints 39 .u64 p2_1)]⟩
noncomputable def matrix.of.Stack.L1 (N M0 M : Nat) (a : Int) (b : Int) (r : Int) (c : Int) (l : List Int) (p : Int) (q : Int) (m : List Int) (p8 : Int) (p14_1 : Int) (p18 : Int) (p2 : List Int) : Option DV := loopAt matrix.of.Stack.E N Try.f39 (bodyOf Try.f39) [1, 1, 0, 1, 0, 0, 1, 1, 0, 0, 1, 1, 0] [M0] M ⟨mkT 33 [(1, .int .i64 b), (2, .fn 58 [] [.cellp [.int .i64 r, .int .i64 c, .ints .arg .u64 l], .cellp [.int .i64 p, .int .i64 q, .ints .arg .u64 m]]), (6, .ptr 6 0 0), (7, .ptr 7 0 0), (8, .int .i64 p8), (13, .int .i64 a), (14, .int .i64 p14_1), (17, .int .i64 b), (18, .int .i64 p18)], [(6, false, .box [.int .i64 (0 : Int), .int .i64 (0 : Int), .nil]), (7, false, .box [.int .i64 a, .int .i64 b, .oref 108002]), (108002, false, .ints 39 .u64 p2)]⟩
theorem matrix.of.Stack.L0_step (N M : Nat) (a : Int) (b : Int) (r : Int) (c : Int) (l : List Int) (p : Int) (q : Int) (m : List Int) (p14 : Int) (p2_1 : List Int) : matrix.of.Stack.L0 N (M + 1) a b r c l p q m p14 p2_1 =
  bif (ltI p14 a) then
    matrix.of.Stack.L1 N M N a b r c l p q m p14 p14 (0 : Int) p2_1
  else some (.agg [.int .i64 a, .int .i64 b, .ints (.own 108002 39) .u64 p2_1]) := by kernel_rfl
theorem matrix.of.Stack.L1_step (N M0 M : Nat) (a : Int) (b : Int) (r : Int) (c : Int) (l : List Int) (p : Int) (q : Int) (m : List Int) (p8 : Int) (p14_1 : Int) (p18 : Int) (p2 : List Int) : matrix.of.Stack.L1 N M0 (M + 1) a b r c l p q m p8 p14_1 p18 p2 =
  bif (ltI p18 b) then
    bif (stackPre r c l p q m p8 p18) then
      bif (decide ((List.length p2) + 1 ≤ lim)) then
        matrix.of.Stack.L1 N M0 M a b r c l p q m p8 p14_1 (w_i64 (p18 + (1 : Int))) (p2 ++ [(stackI r c l q m p8 p18)])
      else none
    else none
  else matrix.of.Stack.L0 N M0 a b r c l p q m (w_i64 (p14_1 + (1 : Int))) p2 :=
  Eq.trans (b := bif (ltI p18 b) then
    bif ((stackPre r c l p q m p8 p18) && true) then
      bif ((decide ((List.length p2) + 1 ≤ lim)) && true) then
        matrix.of.Stack.L1 N M0 M a b r c l p q m p8 p14_1 (w_i64 (p18 + (1 : Int))) (p2 ++ [(stackI r c l q m p8 p18)])
      else none
    else none
  else matrix.of.Stack.L0 N M0 a b r c l p q m (w_i64 (p14_1 + (1 : Int))) p2) (by kernel_rfl)
  (ifE (ifS (tt0 _) (ifS (tt0 _) rfl rfl) rfl) rfl)
theorem matrix.of.Stack.ev (N : Nat) (a : Int) (b : Int) (r : Int) (c : Int) (l : List Int) (p : Int) (q : Int) (m : List Int) : funD matrix.of.Stack.E N Try.f39 (bodyOf Try.f39) [.int .i64 a, .int .i64 b, .fn 58 [] [.cellp [.int .i64 r, .int .i64 c, .ints .arg .u64 l], .cellp [.int .i64 p, .int .i64 q, .ints .arg .u64 m]]] =
  matrix.of.Stack.L0 N N a b r c l p q m (0 : Int) [] := by kernel_rfl
theorem matrix.of.Stack.known_of (hk : Knowns Try.prog matrix.of.Stack.tab) (h : ∀ (a : Int) (b : Int) (r : Int) (c : Int) (l : List Int) (p : Int) (q : Int) (m : List Int), matrix.of.Stack.pre [.i a, .i b, .i r, .i c, .l l, .i p, .i q, .l m] = true → ∃ N dv drops, funD matrix.of.Stack.E N Try.f39 (bodyOf Try.f39) [.int .i64 a, .int .i64 b, .fn 58 [] [.cellp [.int .i64 r, .int .i64 c, .ints .arg .u64 l], .cellp [.int .i64 p, .int .i64 q, .ints .arg .u64 m]]] = some dv ∧ Wk drops dv (matrix.of.Stack.out [.i a, .i b, .i r, .i c, .l l, .i p, .i q, .l m])) : Known Try.prog 39 matrix.of.Stack.spec := by
  refine ⟨meets_entry (E := matrix.of.Stack.E) (env_ok hk _ _ _) Try.func39 (show Try.f39.body = some (bodyOf Try.f39) by kernel_rfl) fun ats dvs he hp => ?_, call_enter Try.func39 (by kernel_rfl) (show Try.f39.body = some (bodyOf Try.f39) by kernel_rfl)⟩
  obtain ⟨a, _, _, rfl, rfl, he0⟩ := he.i_inv
  obtain ⟨b, _, _, rfl, rfl, he1⟩ := he0.i_inv
  obtain ⟨_, _, _, _, rfl, rfl, hs2, he2⟩ := he1.fn_inv
  obtain ⟨_, _, _, _, rfl, rfl, hs3, he3⟩ := hs2.cp_inv
  obtain ⟨r, _, _, rfl, rfl, he4⟩ := hs3.i_inv
  obtain ⟨c, _, _, rfl, rfl, he5⟩ := he4.i_inv
  obtain ⟨l, _, _, rfl, rfl, he6⟩ := he5.s_inv
  obtain ⟨rfl, rfl⟩ := he6.nil_inv
  obtain ⟨_, _, _, _, rfl, rfl, hs7, he7⟩ := he3.cp_inv
  obtain ⟨p, _, _, rfl, rfl, he8⟩ := hs7.i_inv
  obtain ⟨q, _, _, rfl, rfl, he9⟩ := he8.i_inv
  obtain ⟨m, _, _, rfl, rfl, he10⟩ := he9.s_inv
  obtain ⟨rfl, rfl⟩ := he10.nil_inv
  obtain ⟨rfl, rfl⟩ := he7.nil_inv
  obtain ⟨rfl, rfl⟩ := he2.nil_inv
  exact h a b r c l p q m hp

def matrix.of.Beside.hint : Nat → Option LoopHint
  | 0 => some { keep := [1, 2, 6, 7, 13, 14], objs := [(8, 2, 108002, .ints 39 .u64 [])], boxes := [6, 7] }
  | 2 => some { keep := [1, 2, 6, 7, 8, 13, 14, 17, 18], objs := [(8, 2, 108002, .ints 39 .u64 [])], boxes := [6, 7] }
  | _ => none
noncomputable def matrix.of.Beside.tab : List (Nat × Entry) := [(59, matrix.Beside_1.spec)]
noncomputable def matrix.of.Beside.E : Env := envOf (tabOf matrix.of.Beside.tab) (fun _ => false) matrix.of.Beside.hint (fun _ => none)
noncomputable def matrix.of.Beside.L0 (N M : Nat) (a : Int) (b : Int) (r : Int) (c : Int) (l : List Int) (p : Int) (q : Int) (m : List Int) (p14 : Int) (p2_1 : List Int) : Option DV := loopAt matrix.of.Beside.E N Try.f39 (bodyOf Try.f39) [1, 1, 0, 1, 0] [] M ⟨mkT 33 [(1, .int .i64 b), (2, .fn 59 [] [.cellp [.int .i64 r, .int .i64 c, .ints .arg .u64 l], .cellp [.int .i64 p, .int .i64 q, .ints .arg .u64 m]]), (6, .ptr 6 0 0), (7, .ptr 7 0 0), (13, .int .i64 a), (14, .int .i64 p14)], [(6, false, .box [.int .i64 (0 : Int), .int .i64 (0 : Int), .nil]), (7, false, .box [.int .i64 a, .int .i64 b, .oref 108002]), (108002, false, .ints 39 .u64 p2_1)]⟩
noncomputable def matrix.of.Beside.L1 (N M0 M : Nat) (a : Int) (b : Int) (r : Int) (c : Int) (l : List Int) (p : Int) (q : Int) (m : List Int) (p8 : Int) (p14_1 : Int) (p18 : Int) (p2 : List Int) : Option DV := loopAt matrix.of.Beside.E N Try.f39 (bodyOf Try.f39) [1, 1, 0, 1, 0, 0, 1, 1, 0, 0, 1, 1, 0] [M0] M ⟨mkT 33 [(1, .int .i64 b), (2, .fn 59 [] [.cellp [.int .i64 r, .int .i64 c, .ints .arg .u64 l], .cellp [.int .i64 p, .int .i64 q, .ints .arg .u64 m]]), (6, .ptr 6 0 0), (7, .ptr 7 0 0), (8, .int .i64 p8), (13, .int .i64 a), (14, .int .i64 p14_1), (17, .int .i64 b), (18, .int .i64 p18)], [(6, false, .box [.int .i64 (0 : Int), .int .i64 (0 : Int), .nil]), (7, false, .box [.int .i64 a, .int .i64 b, .oref 108002]), (108002, false, .ints 39 .u64 p2)]⟩
theorem matrix.of.Beside.L0_step (N M : Nat) (a : Int) (b : Int) (r : Int) (c : Int) (l : List Int) (p : Int) (q : Int) (m : List Int) (p14 : Int) (p2_1 : List Int) : matrix.of.Beside.L0 N (M + 1) a b r c l p q m p14 p2_1 =
  bif (ltI p14 a) then
    matrix.of.Beside.L1 N M N a b r c l p q m p14 p14 (0 : Int) p2_1
  else some (.agg [.int .i64 a, .int .i64 b, .ints (.own 108002 39) .u64 p2_1]) := by kernel_rfl
theorem matrix.of.Beside.L1_step (N M0 M : Nat) (a : Int) (b : Int) (r : Int) (c : Int) (l : List Int) (p : Int) (q : Int) (m : List Int) (p8 : Int) (p14_1 : Int) (p18 : Int) (p2 : List Int) : matrix.of.Beside.L1 N M0 (M + 1) a b r c l p q m p8 p14_1 p18 p2 =
  bif (ltI p18 b) then
    bif (besidePre r c l p q m p8 p18) then
      bif (decide ((List.length p2) + 1 ≤ lim)) then
        matrix.of.Beside.L1 N M0 M a b r c l p q m p8 p14_1 (w_i64 (p18 + (1 : Int))) (p2 ++ [(besideI c l q m p8 p18)])
      else none
    else none
  else matrix.of.Beside.L0 N M0 a b r c l p q m (w_i64 (p14_1 + (1 : Int))) p2 :=
  Eq.trans (b := bif (ltI p18 b) then
    bif ((besidePre r c l p q m p8 p18) && true) then
      bif ((decide ((List.length p2) + 1 ≤ lim)) && true) then
        matrix.of.Beside.L1 N M0 M a b r c l p q m p8 p14_1 (w_i64 (p18 + (1 : Int))) (p2 ++ [(besideI c l q m p8 p18)])
      else none
    else none
  else matrix.of.Beside.L0 N M0 a b r c l p q m (w_i64 (p14_1 + (1 : Int))) p2) (by kernel_rfl)
  (ifE (ifS (tt0 _) (ifS (tt0 _) rfl rfl) rfl) rfl)
theorem matrix.of.Beside.ev (N : Nat) (a : Int) (b : Int) (r : Int) (c : Int) (l : List Int) (p : Int) (q : Int) (m : List Int) : funD matrix.of.Beside.E N Try.f39 (bodyOf Try.f39) [.int .i64 a, .int .i64 b, .fn 59 [] [.cellp [.int .i64 r, .int .i64 c, .ints .arg .u64 l], .cellp [.int .i64 p, .int .i64 q, .ints .arg .u64 m]]] =
  matrix.of.Beside.L0 N N a b r c l p q m (0 : Int) [] := by kernel_rfl
theorem matrix.of.Beside.known_of (hk : Knowns Try.prog matrix.of.Beside.tab) (h : ∀ (a : Int) (b : Int) (r : Int) (c : Int) (l : List Int) (p : Int) (q : Int) (m : List Int), matrix.of.Beside.pre [.i a, .i b, .i r, .i c, .l l, .i p, .i q, .l m] = true → ∃ N dv drops, funD matrix.of.Beside.E N Try.f39 (bodyOf Try.f39) [.int .i64 a, .int .i64 b, .fn 59 [] [.cellp [.int .i64 r, .int .i64 c, .ints .arg .u64 l], .cellp [.int .i64 p, .int .i64 q, .ints .arg .u64 m]]] = some dv ∧ Wk drops dv (matrix.of.Beside.out [.i a, .i b, .i r, .i c, .l l, .i p, .i q, .l m])) : Known Try.prog 39 matrix.of.Beside.spec := by
  refine ⟨meets_entry (E := matrix.of.Beside.E) (env_ok hk _ _ _) Try.func39 (show Try.f39.body = some (bodyOf Try.f39) by kernel_rfl) fun ats dvs he hp => ?_, call_enter Try.func39 (by kernel_rfl) (show Try.f39.body = some (bodyOf Try.f39) by kernel_rfl)⟩
  obtain ⟨a, _, _, rfl, rfl, he0⟩ := he.i_inv
  obtain ⟨b, _, _, rfl, rfl, he1⟩ := he0.i_inv
  obtain ⟨_, _, _, _, rfl, rfl, hs2, he2⟩ := he1.fn_inv
  obtain ⟨_, _, _, _, rfl, rfl, hs3, he3⟩ := hs2.cp_inv
  obtain ⟨r, _, _, rfl, rfl, he4⟩ := hs3.i_inv
  obtain ⟨c, _, _, rfl, rfl, he5⟩ := he4.i_inv
  obtain ⟨l, _, _, rfl, rfl, he6⟩ := he5.s_inv
  obtain ⟨rfl, rfl⟩ := he6.nil_inv
  obtain ⟨_, _, _, _, rfl, rfl, hs7, he7⟩ := he3.cp_inv
  obtain ⟨p, _, _, rfl, rfl, he8⟩ := hs7.i_inv
  obtain ⟨q, _, _, rfl, rfl, he9⟩ := he8.i_inv
  obtain ⟨m, _, _, rfl, rfl, he10⟩ := he9.s_inv
  obtain ⟨rfl, rfl⟩ := he10.nil_inv
  obtain ⟨rfl, rfl⟩ := he7.nil_inv
  obtain ⟨rfl, rfl⟩ := he2.nil_inv
  exact h a b r c l p q m hp

def matrix.of.Mul.hint : Nat → Option LoopHint
  | 0 => some { keep := [1, 2, 6, 7, 13, 14], objs := [(8, 2, 108002, .ints 39 .u64 [])], boxes := [6, 7] }
  | 2 => some { keep := [1, 2, 6, 7, 8, 13, 14, 17, 18], objs := [(8, 2, 108002, .ints 39 .u64 [])], boxes := [6, 7] }
  | _ => none
noncomputable def matrix.of.Mul.tab : List (Nat × Entry) := [(47, matrix.Mul_1.spec)]
noncomputable def matrix.of.Mul.E : Env := envOf (tabOf matrix.of.Mul.tab) (fun _ => false) matrix.of.Mul.hint (fun _ => none)
noncomputable def matrix.of.Mul.L0 (N M : Nat) (a : Int) (b : Int) (r : Int) (c : Int) (l : List Int) (p : Int) (q : Int) (m : List Int) (p14 : Int) (p2_1 : List Int) : Option DV := loopAt matrix.of.Mul.E N Try.f39 (bodyOf Try.f39) [1, 1, 0, 1, 0] [] M ⟨mkT 33 [(1, .int .i64 b), (2, .fn 47 [] [.cellp [.int .i64 r, .int .i64 c, .ints .arg .u64 l], .cellp [.int .i64 p, .int .i64 q, .ints .arg .u64 m]]), (6, .ptr 6 0 0), (7, .ptr 7 0 0), (13, .int .i64 a), (14, .int .i64 p14)], [(6, false, .box [.int .i64 (0 : Int), .int .i64 (0 : Int), .nil]), (7, false, .box [.int .i64 a, .int .i64 b, .oref 108002]), (108002, false, .ints 39 .u64 p2_1)]⟩
noncomputable def matrix.of.Mul.L1 (N M0 M : Nat) (a : Int) (b : Int) (r : Int) (c : Int) (l : List Int) (p : Int) (q : Int) (m : List Int) (p8 : Int) (p14_1 : Int) (p18 : Int) (p2 : List Int) : Option DV := loopAt matrix.of.Mul.E N Try.f39 (bodyOf Try.f39) [1, 1, 0, 1, 0, 0, 1, 1, 0, 0, 1, 1, 0] [M0] M ⟨mkT 33 [(1, .int .i64 b), (2, .fn 47 [] [.cellp [.int .i64 r, .int .i64 c, .ints .arg .u64 l], .cellp [.int .i64 p, .int .i64 q, .ints .arg .u64 m]]), (6, .ptr 6 0 0), (7, .ptr 7 0 0), (8, .int .i64 p8), (13, .int .i64 a), (14, .int .i64 p14_1), (17, .int .i64 b), (18, .int .i64 p18)], [(6, false, .box [.int .i64 (0 : Int), .int .i64 (0 : Int), .nil]), (7, false, .box [.int .i64 a, .int .i64 b, .oref 108002]), (108002, false, .ints 39 .u64 p2)]⟩
theorem matrix.of.Mul.L0_step (N M : Nat) (a : Int) (b : Int) (r : Int) (c : Int) (l : List Int) (p : Int) (q : Int) (m : List Int) (p14 : Int) (p2_1 : List Int) : matrix.of.Mul.L0 N (M + 1) a b r c l p q m p14 p2_1 =
  bif (ltI p14 a) then
    matrix.of.Mul.L1 N M N a b r c l p q m p14 p14 (0 : Int) p2_1
  else some (.agg [.int .i64 a, .int .i64 b, .ints (.own 108002 39) .u64 p2_1]) := by kernel_rfl
theorem matrix.of.Mul.L1_step (N M0 M : Nat) (a : Int) (b : Int) (r : Int) (c : Int) (l : List Int) (p : Int) (q : Int) (m : List Int) (p8 : Int) (p14_1 : Int) (p18 : Int) (p2 : List Int) : matrix.of.Mul.L1 N M0 (M + 1) a b r c l p q m p8 p14_1 p18 p2 =
  bif (ltI p18 b) then
    bif (mulPre r c l p q m p8 p18) then
      bif (decide ((List.length p2) + 1 ≤ lim)) then
        matrix.of.Mul.L1 N M0 M a b r c l p q m p8 p14_1 (w_i64 (p18 + (1 : Int))) (p2 ++ [(dotI (rowI c l p8) (colI p q m p18))])
      else none
    else none
  else matrix.of.Mul.L0 N M0 a b r c l p q m (w_i64 (p14_1 + (1 : Int))) p2 :=
  Eq.trans (b := bif (ltI p18 b) then
    bif ((mulPre r c l p q m p8 p18) && true) then
      bif ((decide ((List.length p2) + 1 ≤ lim)) && true) then
        matrix.of.Mul.L1 N M0 M a b r c l p q m p8 p14_1 (w_i64 (p18 + (1 : Int))) (p2 ++ [(dotI (rowI c l p8) (colI p q m p18))])
      else none
    else none
  else matrix.of.Mul.L0 N M0 a b r c l p q m (w_i64 (p14_1 + (1 : Int))) p2) (by kernel_rfl)
  (ifE (ifS (tt0 _) (ifS (tt0 _) rfl rfl) rfl) rfl)
theorem matrix.of.Mul.ev (N : Nat) (a : Int) (b : Int) (r : Int) (c : Int) (l : List Int) (p : Int) (q : Int) (m : List Int) : funD matrix.of.Mul.E N Try.f39 (bodyOf Try.f39) [.int .i64 a, .int .i64 b, .fn 47 [] [.cellp [.int .i64 r, .int .i64 c, .ints .arg .u64 l], .cellp [.int .i64 p, .int .i64 q, .ints .arg .u64 m]]] =
  matrix.of.Mul.L0 N N a b r c l p q m (0 : Int) [] := by kernel_rfl
theorem matrix.of.Mul.known_of (hk : Knowns Try.prog matrix.of.Mul.tab) (h : ∀ (a : Int) (b : Int) (r : Int) (c : Int) (l : List Int) (p : Int) (q : Int) (m : List Int), matrix.of.Mul.pre [.i a, .i b, .i r, .i c, .l l, .i p, .i q, .l m] = true → ∃ N dv drops, funD matrix.of.Mul.E N Try.f39 (bodyOf Try.f39) [.int .i64 a, .int .i64 b, .fn 47 [] [.cellp [.int .i64 r, .int .i64 c, .ints .arg .u64 l], .cellp [.int .i64 p, .int .i64 q, .ints .arg .u64 m]]] = some dv ∧ Wk drops dv (matrix.of.Mul.out [.i a, .i b, .i r, .i c, .l l, .i p, .i q, .l m])) : Known Try.prog 39 matrix.of.Mul.spec := by
  refine ⟨meets_entry (E := matrix.of.Mul.E) (env_ok hk _ _ _) Try.func39 (show Try.f39.body = some (bodyOf Try.f39) by kernel_rfl) fun ats dvs he hp => ?_, call_enter Try.func39 (by kernel_rfl) (show Try.f39.body = some (bodyOf Try.f39) by kernel_rfl)⟩
  obtain ⟨a, _, _, rfl, rfl, he0⟩ := he.i_inv
  obtain ⟨b, _, _, rfl, rfl, he1⟩ := he0.i_inv
  obtain ⟨_, _, _, _, rfl, rfl, hs2, he2⟩ := he1.fn_inv
  obtain ⟨_, _, _, _, rfl, rfl, hs3, he3⟩ := hs2.cp_inv
  obtain ⟨r, _, _, rfl, rfl, he4⟩ := hs3.i_inv
  obtain ⟨c, _, _, rfl, rfl, he5⟩ := he4.i_inv
  obtain ⟨l, _, _, rfl, rfl, he6⟩ := he5.s_inv
  obtain ⟨rfl, rfl⟩ := he6.nil_inv
  obtain ⟨_, _, _, _, rfl, rfl, hs7, he7⟩ := he3.cp_inv
  obtain ⟨p, _, _, rfl, rfl, he8⟩ := hs7.i_inv
  obtain ⟨q, _, _, rfl, rfl, he9⟩ := he8.i_inv
  obtain ⟨m, _, _, rfl, rfl, he10⟩ := he9.s_inv
  obtain ⟨rfl, rfl⟩ := he10.nil_inv
  obtain ⟨rfl, rfl⟩ := he7.nil_inv
  obtain ⟨rfl, rfl⟩ := he2.nil_inv
  exact h a b r c l p q m hp

noncomputable def matrix.Zeros.tab : List (Nat × Entry) := [(39, matrix.of.Zeros.spec), (38, matrix.size.spec)]
noncomputable def matrix.Zeros.E : Env := envOf (tabOf matrix.Zeros.tab) (fun _ => false) (fun _ => none) (fun _ => none)
theorem matrix.Zeros.ev (N : Nat) (a : Int) (b : Int) : funD matrix.Zeros.E N Try.f10 (bodyOf Try.f10) [.int .i64 a, .int .i64 b] =
  bif ((!(sizeB a)) || (!(sizeB b))) then
    some (.tup [.agg [.int .i64 (0 : Int), .int .i64 (0 : Int), .nil], .int .i64 (3 : Int)])
  else bif ((sizeB a && sizeB b)) then
    some (.tup [.agg [.int .i64 a, .int .i64 b, .ints .fresh .u64 (grid (Int.toNat a) (Int.toNat b) (fun _ _ => 0))], .int .i64 (0 : Int)])
  else none :=
  Eq.trans (b := bif ((!((!(sizeB a)) == false)) || true) then
    bif ((!((!(sizeB a)) == false)) || ((((!((!(sizeB a)) == false)) || ((!(sizeB a)) == false)) && true) && true)) then
      bif ((!((!(sizeB a)) == false)) || ((((!((!(sizeB a)) == false)) || ((!(sizeB a)) == false)) && true) && true)) then
        bif ((!(!(!(sizeB a)))) || ((!(sizeB a)) == false)) then
          bif (bif (!(sizeB a)) then true else (!(sizeB b))) then
            some (.tup [.agg [.int .i64 (0 : Int), .int .i64 (0 : Int), .nil], .int .i64 (3 : Int)])
          else bif ((sizeB a && sizeB b)) then
            some (.tup [.agg [.int .i64 a, .int .i64 b, .ints .fresh .u64 (grid (Int.toNat a) (Int.toNat b) (fun _ _ => 0))], .int .i64 (0 : Int)])
          else none
        else none
      else none
    else none
  else none) (by kernel_rfl)
  (ifT (tt4 _) (ifT (tt3 _) (ifT (tt3 _) (ifT (tt2 _) (ifS (tt1 _ _) rfl rfl)))))
theorem matrix.Zeros.known_of (hk : Knowns Try.prog matrix.Zeros.tab) (h : ∀ (a : Int) (b : Int), matrix.Zeros.pre [.i a, .i b] = true → ∃ N dv drops, funD matrix.Zeros.E N Try.f10 (bodyOf Try.f10) [.int .i64 a, .int .i64 b] = some dv ∧ Wk drops dv (matrix.Zeros.out [.i a, .i b])) : Known Try.prog 10 matrix.Zeros.spec := by
  refine ⟨meets_entry (E := matrix.Zeros.E) (env_ok hk _ _ _) Try.func10 (show Try.f10.body = some (bodyOf Try.f10) by kernel_rfl) fun ats dvs he hp => ?_, call_enter Try.func10 (by kernel_rfl) (show Try.f10.body = some (bodyOf Try.f10) by kernel_rfl)⟩
  obtain ⟨a, _, _, rfl, rfl, he0⟩ := he.i_inv
  obtain ⟨b, _, _, rfl, rfl, he1⟩ := he0.i_inv
  obtain ⟨rfl, rfl⟩ := he1.nil_inv
  exact h a b hp

noncomputable def matrix.Eye.tab : List (Nat × Entry) := [(39, matrix.of.Eye.spec), (38, matrix.size.spec)]
noncomputable def matrix.Eye.E : Env := envOf (tabOf matrix.Eye.tab) (fun _ => false) (fun _ => none) (fun _ => none)
theorem matrix.Eye.ev (N : Nat) (n : Int) : funD matrix.Eye.E N Try.f11 (bodyOf Try.f11) [.int .i64 n] =
  bif (!(sizeB n)) then
    some (.tup [.agg [.int .i64 (0 : Int), .int .i64 (0 : Int), .nil], .int .i64 (3 : Int)])
  else bif ((sizeB n && sizeB n)) then
    some (.tup [.agg [.int .i64 n, .int .i64 n, .ints .fresh .u64 (grid (Int.toNat n) (Int.toNat n) (fun j1 j2 => eyeI j1 j2))], .int .i64 (0 : Int)])
  else none := by kernel_rfl
theorem matrix.Eye.known_of (hk : Knowns Try.prog matrix.Eye.tab) (h : ∀ (n : Int), matrix.Eye.pre [.i n] = true → ∃ N dv drops, funD matrix.Eye.E N Try.f11 (bodyOf Try.f11) [.int .i64 n] = some dv ∧ Wk drops dv (matrix.Eye.out [.i n])) : Known Try.prog 11 matrix.Eye.spec := by
  refine ⟨meets_entry (E := matrix.Eye.E) (env_ok hk _ _ _) Try.func11 (show Try.f11.body = some (bodyOf Try.f11) by kernel_rfl) fun ats dvs he hp => ?_, call_enter Try.func11 (by kernel_rfl) (show Try.f11.body = some (bodyOf Try.f11) by kernel_rfl)⟩
  obtain ⟨n, _, _, rfl, rfl, he0⟩ := he.i_inv
  obtain ⟨rfl, rfl⟩ := he0.nil_inv
  exact h n hp

noncomputable def matrix.Turn.tab : List (Nat × Entry) := [(22, matrix.Check.spec), (39, matrix.of.Turn.spec)]
noncomputable def matrix.Turn.E : Env := envOf (tabOf matrix.Turn.tab) (fun _ => false) (fun _ => none) (fun _ => none)
theorem matrix.Turn.ev (N : Nat) (r : Int) (c : Int) (l : List Int) : funD matrix.Turn.E N Try.f17 (bodyOf Try.f17) [.agg [.int .i64 r, .int .i64 c, .ints .arg .u64 l]] =
  bif ((chkI r c l) != (0 : Int)) then
    some (.tup [.agg [.int .i64 (0 : Int), .int .i64 (0 : Int), .nil], .int .i64 (chkI r c l)])
  else bif ((sizeB c && sizeB r) && rightB r c l && decide (c = c ∧ r = r)) then
    some (.tup [.agg [.int .i64 c, .int .i64 r, .ints .fresh .u64 (grid (Int.toNat c) (Int.toNat r) (fun j1 j2 => atI c l j2 j1))], .int .i64 (0 : Int)])
  else none := by kernel_rfl
theorem matrix.Turn.known_of (hk : Knowns Try.prog matrix.Turn.tab) (h : ∀ (r : Int) (c : Int) (l : List Int), matrix.Turn.pre [.i r, .i c, .l l] = true → ∃ N dv drops, funD matrix.Turn.E N Try.f17 (bodyOf Try.f17) [.agg [.int .i64 r, .int .i64 c, .ints .arg .u64 l]] = some dv ∧ Wk drops dv (matrix.Turn.out [.i r, .i c, .l l])) : Known Try.prog 17 matrix.Turn.spec := by
  refine ⟨meets_entry (E := matrix.Turn.E) (env_ok hk _ _ _) Try.func17 (show Try.f17.body = some (bodyOf Try.f17) by kernel_rfl) fun ats dvs he hp => ?_, call_enter Try.func17 (by kernel_rfl) (show Try.f17.body = some (bodyOf Try.f17) by kernel_rfl)⟩
  obtain ⟨_, _, _, _, rfl, rfl, hs0, he0⟩ := he.st_inv
  obtain ⟨r, _, _, rfl, rfl, he1⟩ := hs0.i_inv
  obtain ⟨c, _, _, rfl, rfl, he2⟩ := he1.i_inv
  obtain ⟨l, _, _, rfl, rfl, he3⟩ := he2.s_inv
  obtain ⟨rfl, rfl⟩ := he3.nil_inv
  obtain ⟨rfl, rfl⟩ := he0.nil_inv
  exact h r c l hp

noncomputable def matrix.Part.tab : List (Nat × Entry) := [(22, matrix.Check.spec), (39, matrix.of.Part.spec)]
noncomputable def matrix.Part.E : Env := envOf (tabOf matrix.Part.tab) (fun _ => false) (fun _ => none) (fun _ => none)
theorem matrix.Part.ev (N : Nat) (r : Int) (c : Int) (l : List Int) (x : Int) (y : Int) (a : Int) (b : Int) : funD matrix.Part.E N Try.f25 (bodyOf Try.f25) [.agg [.int .i64 r, .int .i64 c, .ints .arg .u64 l], .int .i64 x, .int .i64 y, .int .i64 a, .int .i64 b] =
  bif ((chkI r c l) != (0 : Int)) then
    some (.tup [.agg [.int .i64 (0 : Int), .int .i64 (0 : Int), .nil], .int .i64 (chkI r c l)])
  else bif ((((((((ltI x (0 : Int)) || (ltI y (0 : Int))) || (ltI a (0 : Int))) || (ltI b (0 : Int))) || (ltI r x)) || (ltI c y)) || (ltI (w_i64 (r - x)) a)) || (ltI (w_i64 (c - y)) b)) then
    some (.tup [.agg [.int .i64 (0 : Int), .int .i64 (0 : Int), .nil], .int .i64 (3 : Int)])
  else bif ((sizeB a && sizeB b) && rightB r c l && partB r c x y a b) then
    some (.tup [.agg [.int .i64 a, .int .i64 b, .ints .fresh .u64 (grid (Int.toNat a) (Int.toNat b) (fun j1 j2 => atI c l (x + j1) (y + j2)))], .int .i64 (0 : Int)])
  else none :=
  Eq.trans (b := bif ((chkI r c l) != (0 : Int)) then
    some (.tup [.agg [.int .i64 (0 : Int), .int .i64 (0 : Int), .nil], .int .i64 (chkI r c l)])
  else bif ((!((ltI x (0 : Int)) == false)) || true) then
    bif ((!((ltI x (0 : Int)) == false)) || ((((!((ltI x (0 : Int)) == false)) || ((ltI x (0 : Int)) == false)) && true) && true)) then
      bif ((!(!(ltI x (0 : Int)))) || ((ltI x (0 : Int)) == false)) then
        bif ((!((bif (ltI x (0 : Int)) then true else (ltI y (0 : Int))) == false)) || true) then
          bif ((!((bif (ltI x (0 : Int)) then true else (ltI y (0 : Int))) == false)) || ((((!((bif (ltI x (0 : Int)) then true else (ltI y (0 : Int))) == false)) || ((bif (ltI x (0 : Int)) then true else (ltI y (0 : Int))) == false)) && true) && true)) then
            bif ((!(!(bif (ltI x (0 : Int)) then true else (ltI y (0 : Int))))) || ((bif (ltI x (0 : Int)) then true else (ltI y (0 : Int))) == false)) then
              bif ((!((bif (bif (ltI x (0 : Int)) then true else (ltI y (0 : Int))) then true else (ltI a (0 : Int))) == false)) || true) then
                bif ((!((bif (bif (ltI x (0 : Int)) then true else (ltI y (0 : Int))) then true else (ltI a (0 : Int))) == false)) || ((((!((bif (bif (ltI x (0 : Int)) then true else (ltI y (0 : Int))) then true else (ltI a (0 : Int))) == false)) || ((bif (bif (ltI x (0 : Int)) then true else (ltI y (0 : Int))) then true else (ltI a (0 : Int))) == false)) && true) && true)) then
                  bif ((!(!(bif (bif (ltI x (0 : Int)) then true else (ltI y (0 : Int))) then true else (ltI a (0 : Int))))) || ((bif (bif (ltI x (0 : Int)) then true else (ltI y (0 : Int))) then true else (ltI a (0 : Int))) == false)) then
                    bif ((!((bif (bif (bif (ltI x (0 : Int)) then true else (ltI y (0 : Int))) then true else (ltI a (0 : Int))) then true else (ltI b (0 : Int))) == false)) || true) then
                      bif ((!((bif (bif (bif (ltI x (0 : Int)) then true else (ltI y (0 : Int))) then true else (ltI a (0 : Int))) then true else (ltI b (0 : Int))) == false)) || true) then
                        bif ((!((bif (bif (bif (ltI x (0 : Int)) then true else (ltI y (0 : Int))) then true else (ltI a (0 : Int))) then true else (ltI b (0 : Int))) == false)) || ((((!((bif (bif (bif (ltI x (0 : Int)) then true else (ltI y (0 : Int))) then true else (ltI a (0 : Int))) then true else (ltI b (0 : Int))) == false)) || ((bif (bif (bif (ltI x (0 : Int)) then true else (ltI y (0 : Int))) then true else (ltI a (0 : Int))) then true else (ltI b (0 : Int))) == false)) && true) && true)) then
                          bif ((!((bif (bif (bif (ltI x (0 : Int)) then true else (ltI y (0 : Int))) then true else (ltI a (0 : Int))) then true else (ltI b (0 : Int))) == false)) || ((((!((bif (bif (bif (ltI x (0 : Int)) then true else (ltI y (0 : Int))) then true else (ltI a (0 : Int))) then true else (ltI b (0 : Int))) == false)) || ((bif (bif (bif (ltI x (0 : Int)) then true else (ltI y (0 : Int))) then true else (ltI a (0 : Int))) then true else (ltI b (0 : Int))) == false)) && (((!((bif (bif (bif (ltI x (0 : Int)) then true else (ltI y (0 : Int))) then true else (ltI a (0 : Int))) then true else (ltI b (0 : Int))) == false)) || ((bif (bif (bif (ltI x (0 : Int)) then true else (ltI y (0 : Int))) then true else (ltI a (0 : Int))) then true else (ltI b (0 : Int))) == false)) && true)) && true)) then
                            bif ((!(!(bif (bif (bif (ltI x (0 : Int)) then true else (ltI y (0 : Int))) then true else (ltI a (0 : Int))) then true else (ltI b (0 : Int))))) || ((bif (bif (bif (ltI x (0 : Int)) then true else (ltI y (0 : Int))) then true else (ltI a (0 : Int))) then true else (ltI b (0 : Int))) == false)) then
                              bif ((!((bif (bif (bif (bif (ltI x (0 : Int)) then true else (ltI y (0 : Int))) then true else (ltI a (0 : Int))) then true else (ltI b (0 : Int))) then true else (ltI r x)) == false)) || true) then
                                bif ((!((bif (bif (bif (bif (ltI x (0 : Int)) then true else (ltI y (0 : Int))) then true else (ltI a (0 : Int))) then true else (ltI b (0 : Int))) then true else (ltI r x)) == false)) || true) then
                                  bif ((!((bif (bif (bif (bif (ltI x (0 : Int)) then true else (ltI y (0 : Int))) then true else (ltI a (0 : Int))) then true else (ltI b (0 : Int))) then true else (ltI r x)) == false)) || ((((!((bif (bif (bif (bif (ltI x (0 : Int)) then true else (ltI y (0 : Int))) then true else (ltI a (0 : Int))) then true else (ltI b (0 : Int))) then true else (ltI r x)) == false)) || ((bif (bif (bif (bif (ltI x (0 : Int)) then true else (ltI y (0 : Int))) then true else (ltI a (0 : Int))) then true else (ltI b (0 : Int))) then true else (ltI r x)) == false)) && true) && true)) then
                                    bif ((!((bif (bif (bif (bif (ltI x (0 : Int)) then true else (ltI y (0 : Int))) then true else (ltI a (0 : Int))) then true else (ltI b (0 : Int))) then true else (ltI r x)) == false)) || ((((!((bif (bif (bif (bif (ltI x (0 : Int)) then true else (ltI y (0 : Int))) then true else (ltI a (0 : Int))) then true else (ltI b (0 : Int))) then true else (ltI r x)) == false)) || ((bif (bif (bif (bif (ltI x (0 : Int)) then true else (ltI y (0 : Int))) then true else (ltI a (0 : Int))) then true else (ltI b (0 : Int))) then true else (ltI r x)) == false)) && (((!((bif (bif (bif (bif (ltI x (0 : Int)) then true else (ltI y (0 : Int))) then true else (ltI a (0 : Int))) then true else (ltI b (0 : Int))) then true else (ltI r x)) == false)) || ((bif (bif (bif (bif (ltI x (0 : Int)) then true else (ltI y (0 : Int))) then true else (ltI a (0 : Int))) then true else (ltI b (0 : Int))) then true else (ltI r x)) == false)) && true)) && true)) then
                                      bif ((!(!(bif (bif (bif (bif (ltI x (0 : Int)) then true else (ltI y (0 : Int))) then true else (ltI a (0 : Int))) then true else (ltI b (0 : Int))) then true else (ltI r x)))) || ((bif (bif (bif (bif (ltI x (0 : Int)) then true else (ltI y (0 : Int))) then true else (ltI a (0 : Int))) then true else (ltI b (0 : Int))) then true else (ltI r x)) == false)) then
                                        bif ((!((bif (bif (bif (bif (bif (ltI x (0 : Int)) then true else (ltI y (0 : Int))) then true else (ltI a (0 : Int))) then true else (ltI b (0 : Int))) then true else (ltI r x)) then true else (ltI c y)) == false)) || true) then
                                          bif ((!((bif (bif (bif (bif (bif (ltI x (0 : Int)) then true else (ltI y (0 : Int))) then true else (ltI a (0 : Int))) then true else (ltI b (0 : Int))) then true else (ltI r x)) then true else (ltI c y)) == false)) || true) then
                                            bif ((!((bif (bif (bif (bif (bif (ltI x (0 : Int)) then true else (ltI y (0 : Int))) then true else (ltI a (0 : Int))) then true else (ltI b (0 : Int))) then true else (ltI r x)) then true else (ltI c y)) == false)) || ((((!((bif (bif (bif (bif (bif (ltI x (0 : Int)) then true else (ltI y (0 : Int))) then true else (ltI a (0 : Int))) then true else (ltI b (0 : Int))) then true else (ltI r x)) then true else (ltI c y)) == false)) || ((bif (bif (bif (bif (bif (ltI x (0 : Int)) then true else (ltI y (0 : Int))) then true else (ltI a (0 : Int))) then true else (ltI b (0 : Int))) then true else (ltI r x)) then true else (ltI c y)) == false)) && true) && true)) then
                                              bif ((!((bif (bif (bif (bif (bif (ltI x (0 : Int)) then true else (ltI y (0 : Int))) then true else (ltI a (0 : Int))) then true else (ltI b (0 : Int))) then true else (ltI r x)) then true else (ltI c y)) == false)) || true) then
                                                bif ((!((bif (bif (bif (bif (bif (ltI x (0 : Int)) then true else (ltI y (0 : Int))) then true else (ltI a (0 : Int))) then true else (ltI b (0 : Int))) then true else (ltI r x)) then true else (ltI c y)) == false)) || ((((!((bif (bif (bif (bif (bif (ltI x (0 : Int)) then true else (ltI y (0 : Int))) then true else (ltI a (0 : Int))) then true else (ltI b (0 : Int))) then true else (ltI r x)) then true else (ltI c y)) == false)) || ((bif (bif (bif (bif (bif (ltI x (0 : Int)) then true else (ltI y (0 : Int))) then true else (ltI a (0 : Int))) then true else (ltI b (0 : Int))) then true else (ltI r x)) then true else (ltI c y)) == false)) && (((!((bif (bif (bif (bif (bif (ltI x (0 : Int)) then true else (ltI y (0 : Int))) then true else (ltI a (0 : Int))) then true else (ltI b (0 : Int))) then true else (ltI r x)) then true else (ltI c y)) == false)) || ((bif (bif (bif (bif (bif (ltI x (0 : Int)) then true else (ltI y (0 : Int))) then true else (ltI a (0 : Int))) then true else (ltI b (0 : Int))) then true else (ltI r x)) then true else (ltI c y)) == false)) && true)) && true)) then
                                                  bif ((!((bif (bif (bif (bif (bif (ltI x (0 : Int)) then true else (ltI y (0 : Int))) then true else (ltI a (0 : Int))) then true else (ltI b (0 : Int))) then true else (ltI r x)) then true else (ltI c y)) == false)) || ((((!((bif (bif (bif (bif (bif (ltI x (0 : Int)) then true else (ltI y (0 : Int))) then true else (ltI a (0 : Int))) then true else (ltI b (0 : Int))) then true else (ltI r x)) then true else (ltI c y)) == false)) || ((bif (bif (bif (bif (bif (ltI x (0 : Int)) then true else (ltI y (0 : Int))) then true else (ltI a (0 : Int))) then true else (ltI b (0 : Int))) then true else (ltI r x)) then true else (ltI c y)) == false)) && (((!((bif (bif (bif (bif (bif (ltI x (0 : Int)) then true else (ltI y (0 : Int))) then true else (ltI a (0 : Int))) then true else (ltI b (0 : Int))) then true else (ltI r x)) then true else (ltI c y)) == false)) || ((bif (bif (bif (bif (bif (ltI x (0 : Int)) then true else (ltI y (0 : Int))) then true else (ltI a (0 : Int))) then true else (ltI b (0 : Int))) then true else (ltI r x)) then true else (ltI c y)) == false)) && true)) && true)) then
                                                    bif ((!(!(bif (bif (bif (bif (bif (ltI x (0 : Int)) then true else (ltI y (0 : Int))) then true else (ltI a (0 : Int))) then true else (ltI b (0 : Int))) then true else (ltI r x)) then true else (ltI c y)))) || ((bif (bif (bif (bif (bif (ltI x (0 : Int)) then true else (ltI y (0 : Int))) then true else (ltI a (0 : Int))) then true else (ltI b (0 : Int))) then true else (ltI r x)) then true else (ltI c y)) == false)) then
                                                      bif ((!((bif (bif (bif (bif (bif (bif (ltI x (0 : Int)) then true else (ltI y (0 : Int))) then true else (ltI a (0 : Int))) then true else (ltI b (0 : Int))) then true else (ltI r x)) then true else (ltI c y)) then true else (ltI (w_i64 (r - x)) a)) == false)) || true) then
                                                        bif ((!((bif (bif (bif (bif (bif (bif (ltI x (0 : Int)) then true else (ltI y (0 : Int))) then true else (ltI a (0 : Int))) then true else (ltI b (0 : Int))) then true else (ltI r x)) then true else (ltI c y)) then true else (ltI (w_i64 (r - x)) a)) == false)) || true) then
                                                          bif ((!((bif (bif (bif (bif (bif (bif (ltI x (0 : Int)) then true else (ltI y (0 : Int))) then true else (ltI a (0 : Int))) then true else (ltI b (0 : Int))) then true else (ltI r x)) then true else (ltI c y)) then true else (ltI (w_i64 (r - x)) a)) == false)) || ((((!((bif (bif (bif (bif (bif (bif (ltI x (0 : Int)) then true else (ltI y (0 : Int))) then true else (ltI a (0 : Int))) then true else (ltI b (0 : Int))) then true else (ltI r x)) then true else (ltI c y)) then true else (ltI (w_i64 (r - x)) a)) == false)) || ((bif (bif (bif (bif (bif (bif (ltI x (0 : Int)) then true else (ltI y (0 : Int))) then true else (ltI a (0 : Int))) then true else (ltI b (0 : Int))) then true else (ltI r x)) then true else (ltI c y)) then true else (ltI (w_i64 (r - x)) a)) == false)) && true) && true)) then
                                                            bif ((!((bif (bif (bif (bif (bif (bif (ltI x (0 : Int)) then true else (ltI y (0 : Int))) then true else (ltI a (0 : Int))) then true else (ltI b (0 : Int))) then true else (ltI r x)) then true else (ltI c y)) then true else (ltI (w_i64 (r - x)) a)) == false)) || true) then
                                                              bif ((!((bif (bif (bif (bif (bif (bif (ltI x (0 : Int)) then true else (ltI y (0 : Int))) then true else (ltI a (0 : Int))) then true else (ltI b (0 : Int))) then true else (ltI r x)) then true else (ltI c y)) then true else (ltI (w_i64 (r - x)) a)) == false)) || ((((!((bif (bif (bif (bif (bif (bif (ltI x (0 : Int)) then true else (ltI y (0 : Int))) then true else (ltI a (0 : Int))) then true else (ltI b (0 : Int))) then true else (ltI r x)) then true else (ltI c y)) then true else (ltI (w_i64 (r - x)) a)) == false)) || ((bif (bif (bif (bif (bif (bif (ltI x (0 : Int)) then true else (ltI y (0 : Int))) then true else (ltI a (0 : Int))) then true else (ltI b (0 : Int))) then true else (ltI r x)) then true else (ltI c y)) then true else (ltI (w_i64 (r - x)) a)) == false)) && (((!((bif (bif (bif (bif (bif (bif (ltI x (0 : Int)) then true else (ltI y (0 : Int))) then true else (ltI a (0 : Int))) then true else (ltI b (0 : Int))) then true else (ltI r x)) then true else (ltI c y)) then true else (ltI (w_i64 (r - x)) a)) == false)) || ((bif (bif (bif (bif (bif (bif (ltI x (0 : Int)) then true else (ltI y (0 : Int))) then true else (ltI a (0 : Int))) then true else (ltI b (0 : Int))) then true else (ltI r x)) then true else (ltI c y)) then true else (ltI (w_i64 (r - x)) a)) == false)) && true)) && true)) then
                                                                bif ((!((bif (bif (bif (bif (bif (bif (ltI x (0 : Int)) then true else (ltI y (0 : Int))) then true else (ltI a (0 : Int))) then true else (ltI b (0 : Int))) then true else (ltI r x)) then true else (ltI c y)) then true else (ltI (w_i64 (r - x)) a)) == false)) || ((((!((bif (bif (bif (bif (bif (bif (ltI x (0 : Int)) then true else (ltI y (0 : Int))) then true else (ltI a (0 : Int))) then true else (ltI b (0 : Int))) then true else (ltI r x)) then true else (ltI c y)) then true else (ltI (w_i64 (r - x)) a)) == false)) || ((bif (bif (bif (bif (bif (bif (ltI x (0 : Int)) then true else (ltI y (0 : Int))) then true else (ltI a (0 : Int))) then true else (ltI b (0 : Int))) then true else (ltI r x)) then true else (ltI c y)) then true else (ltI (w_i64 (r - x)) a)) == false)) && (((!((bif (bif (bif (bif (bif (bif (ltI x (0 : Int)) then true else (ltI y (0 : Int))) then true else (ltI a (0 : Int))) then true else (ltI b (0 : Int))) then true else (ltI r x)) then true else (ltI c y)) then true else (ltI (w_i64 (r - x)) a)) == false)) || ((bif (bif (bif (bif (bif (bif (ltI x (0 : Int)) then true else (ltI y (0 : Int))) then true else (ltI a (0 : Int))) then true else (ltI b (0 : Int))) then true else (ltI r x)) then true else (ltI c y)) then true else (ltI (w_i64 (r - x)) a)) == false)) && true)) && true)) then
                                                                  bif ((!(!(bif (bif (bif (bif (bif (bif (ltI x (0 : Int)) then true else (ltI y (0 : Int))) then true else (ltI a (0 : Int))) then true else (ltI b (0 : Int))) then true else (ltI r x)) then true else (ltI c y)) then true else (ltI (w_i64 (r - x)) a)))) || ((bif (bif (bif (bif (bif (bif (ltI x (0 : Int)) then true else (ltI y (0 : Int))) then true else (ltI a (0 : Int))) then true else (ltI b (0 : Int))) then true else (ltI r x)) then true else (ltI c y)) then true else (ltI (w_i64 (r - x)) a)) == false)) then
                                                                    bif (bif (bif (bif (bif (bif (bif (bif (ltI x (0 : Int)) then true else (ltI y (0 : Int))) then true else (ltI a (0 : Int))) then true else (ltI b (0 : Int))) then true else (ltI r x)) then true else (ltI c y)) then true else (ltI (w_i64 (r - x)) a)) then true else (ltI (w_i64 (c - y)) b)) then
                                                                      some (.tup [.agg [.int .i64 (0 : Int), .int .i64 (0 : Int), .nil], .int .i64 (3 : Int)])
                                                                    else bif ((sizeB a && sizeB b) && rightB r c l && partB r c x y a b) then
                                                                      some (.tup [.agg [.int .i64 a, .int .i64 b, .ints .fresh .u64 (grid (Int.toNat a) (Int.toNat b) (fun j1 j2 => atI c l (x + j1) (y + j2)))], .int .i64 (0 : Int)])
                                                                    else none
                                                                  else none
                                                                else none
                                                              else none
                                                            else none
                                                          else none
                                                        else none
                                                      else none
                                                    else none
                                                  else none
                                                else none
                                              else none
                                            else none
                                          else none
                                        else none
                                      else none
                                    else none
                                  else none
                                else none
                              else none
                            else none
                          else none
                        else none
                      else none
                    else none
                  else none
                else none
              else none
            else none
          else none
        else none
      else none
    else none
  else none) (by kernel_rfl)
  (ifE rfl (ifT (tt30 _) (ifT (tt29 _) (ifT (tt28 _) (ifT (tt27 _ _) (ifT (tt26 _ _) (ifT (tt25 _ _) (ifT (tt24 _ _ _) (ifT (tt23 _ _ _) (ifT (tt22 _ _ _) (ifT (tt21 _ _ _ _) (ifT (tt21 _ _ _ _) (ifT (tt20 _ _ _ _) (ifT (tt19 _ _ _ _) (ifT (tt18 _ _ _ _) (ifT (tt17 _ _ _ _ _) (ifT (tt17 _ _ _ _ _) (ifT (tt16 _ _ _ _ _) (ifT (tt15 _ _ _ _ _) (ifT (tt14 _ _ _ _ _) (ifT (tt12 _ _ _ _ _ _) (ifT (tt12 _ _ _ _ _ _) (ifT (tt13 _ _ _ _ _ _) (ifT (tt12 _ _ _ _ _ _) (ifT (tt11 _ _ _ _ _ _) (ifT (tt11 _ _ _ _ _ _) (ifT (tt10 _ _ _ _ _ _) (ifT (tt8 _ _ _ _ _ _ _) (ifT (tt8 _ _ _ _ _ _ _) (ifT (tt9 _ _ _ _ _ _ _) (ifT (tt8 _ _ _ _ _ _ _) (ifT (tt7 _ _ _ _ _ _ _) (ifT (tt7 _ _ _ _ _ _ _) (ifT (tt6 _ _ _ _ _ _ _) (ifS (tt5 _ _ _ _ _ _ _ _) rfl rfl)))))))))))))))))))))))))))))))))))
theorem matrix.Part.known_of (hk : Knowns Try.prog matrix.Part.tab) (h : ∀ (r : Int) (c : Int) (l : List Int) (x : Int) (y : Int) (a : Int) (b : Int), matrix.Part.pre [.i r, .i c, .l l, .i x, .i y, .i a, .i b] = true → ∃ N dv drops, funD matrix.Part.E N Try.f25 (bodyOf Try.f25) [.agg [.int .i64 r, .int .i64 c, .ints .arg .u64 l], .int .i64 x, .int .i64 y, .int .i64 a, .int .i64 b] = some dv ∧ Wk drops dv (matrix.Part.out [.i r, .i c, .l l, .i x, .i y, .i a, .i b])) : Known Try.prog 25 matrix.Part.spec := by
  refine ⟨meets_entry (E := matrix.Part.E) (env_ok hk _ _ _) Try.func25 (show Try.f25.body = some (bodyOf Try.f25) by kernel_rfl) fun ats dvs he hp => ?_, call_enter Try.func25 (by kernel_rfl) (show Try.f25.body = some (bodyOf Try.f25) by kernel_rfl)⟩
  obtain ⟨_, _, _, _, rfl, rfl, hs0, he0⟩ := he.st_inv
  obtain ⟨r, _, _, rfl, rfl, he1⟩ := hs0.i_inv
  obtain ⟨c, _, _, rfl, rfl, he2⟩ := he1.i_inv
  obtain ⟨l, _, _, rfl, rfl, he3⟩ := he2.s_inv
  obtain ⟨rfl, rfl⟩ := he3.nil_inv
  obtain ⟨x, _, _, rfl, rfl, he4⟩ := he0.i_inv
  obtain ⟨y, _, _, rfl, rfl, he5⟩ := he4.i_inv
  obtain ⟨a, _, _, rfl, rfl, he6⟩ := he5.i_inv
  obtain ⟨b, _, _, rfl, rfl, he7⟩ := he6.i_inv
  obtain ⟨rfl, rfl⟩ := he7.nil_inv
  exact h r c l x y a b hp

noncomputable def matrix.Stack.tab : List (Nat × Entry) := [(39, matrix.of.Stack.spec), (46, matrix.two.spec)]
noncomputable def matrix.Stack.E : Env := envOf (tabOf matrix.Stack.tab) (fun _ => false) (fun _ => none) (fun _ => none)
theorem matrix.Stack.ev (N : Nat) (r : Int) (c : Int) (l : List Int) (p : Int) (q : Int) (m : List Int) : funD matrix.Stack.E N Try.f33 (bodyOf Try.f33) [.agg [.int .i64 r, .int .i64 c, .ints .arg .u64 l], .agg [.int .i64 p, .int .i64 q, .ints .arg .u64 m]] =
  bif ((twoI r c l p q m) != (0 : Int)) then
    some (.tup [.agg [.int .i64 (0 : Int), .int .i64 (0 : Int), .nil], .int .i64 (twoI r c l p q m)])
  else bif ((c != q) || (ltI (6 : Int) (w_i64 (r + p)))) then
    some (.tup [.agg [.int .i64 (0 : Int), .int .i64 (0 : Int), .nil], .int .i64 (3 : Int)])
  else bif ((sizeB (w_i64 (r + p)) && sizeB c) && (rightB r c l && rightB p q m) && decide ((w_i64 (r + p)) = r + p ∧ c = c ∧ q = c)) then
    some (.tup [.agg [.int .i64 (w_i64 (r + p)), .int .i64 c, .ints .fresh .u64 (grid (Int.toNat (w_i64 (r + p))) (Int.toNat c) (fun j1 j2 => stackI r c l q m j1 j2))], .int .i64 (0 : Int)])
  else none :=
  Eq.trans (b := bif ((twoI r c l p q m) != (0 : Int)) then
    some (.tup [.agg [.int .i64 (0 : Int), .int .i64 (0 : Int), .nil], .int .i64 (twoI r c l p q m)])
  else bif ((!((c != q) == false)) || true) then
    bif ((!((c != q) == false)) || ((((!((c != q) == false)) || ((c != q) == false)) && true) && true)) then
      bif ((!((c != q) == false)) || true) then
        bif ((!((c != q) == false)) || ((((!((c != q) == false)) || ((c != q) == false)) && true) && true)) then
          bif ((!((c != q) == false)) || ((((!((c != q) == false)) || ((c != q) == false)) && (((!((c != q) == false)) || ((c != q) == false)) && true)) && true)) then
            bif ((!((c != q) == false)) || ((((!((c != q) == false)) || ((c != q) == false)) && true) && true)) then
              bif ((!(!(c != q))) || ((c != q) == false)) then
                bif (bif (c != q) then true else (ltI (6 : Int) (w_i64 (r + p)))) then
                  some (.tup [.agg [.int .i64 (0 : Int), .int .i64 (0 : Int), .nil], .int .i64 (3 : Int)])
                else bif ((sizeB (w_i64 (r + p)) && sizeB c) && (rightB r c l && rightB p q m) && decide ((w_i64 (r + p)) = r + p ∧ c = c ∧ q = c)) then
                  some (.tup [.agg [.int .i64 (w_i64 (r + p)), .int .i64 c, .ints .fresh .u64 (grid (Int.toNat (w_i64 (r + p))) (Int.toNat c) (fun j1 j2 => stackI r c l q m j1 j2))], .int .i64 (0 : Int)])
                else none
              else none
            else none
          else none
        else none
      else none
    else none
  else none) (by kernel_rfl)
  (ifE rfl (ifT (tt30 _) (ifT (tt29 _) (ifT (tt30 _) (ifT (tt29 _) (ifT (tt32 _) (ifT (tt29 _) (ifT (tt28 _) (ifS (tt31 _ _) rfl rfl)))))))))
theorem matrix.Stack.known_of (hk : Knowns Try.prog matrix.Stack.tab) (h : ∀ (r : Int) (c : Int) (l : List Int) (p : Int) (q : Int) (m : List Int), matrix.Stack.pre [.i r, .i c, .l l, .i p, .i q, .l m] = true → ∃ N dv drops, funD matrix.Stack.E N Try.f33 (bodyOf Try.f33) [.agg [.int .i64 r, .int .i64 c, .ints .arg .u64 l], .agg [.int .i64 p, .int .i64 q, .ints .arg .u64 m]] = some dv ∧ Wk drops dv (matrix.Stack.out [.i r, .i c, .l l, .i p, .i q, .l m])) : Known Try.prog 33 matrix.Stack.spec := by
  refine ⟨meets_entry (E := matrix.Stack.E) (env_ok hk _ _ _) Try.func33 (show Try.f33.body = some (bodyOf Try.f33) by kernel_rfl) fun ats dvs he hp => ?_, call_enter Try.func33 (by kernel_rfl) (show Try.f33.body = some (bodyOf Try.f33) by kernel_rfl)⟩
  obtain ⟨_, _, _, _, rfl, rfl, hs0, he0⟩ := he.st_inv
  obtain ⟨r, _, _, rfl, rfl, he1⟩ := hs0.i_inv
  obtain ⟨c, _, _, rfl, rfl, he2⟩ := he1.i_inv
  obtain ⟨l, _, _, rfl, rfl, he3⟩ := he2.s_inv
  obtain ⟨rfl, rfl⟩ := he3.nil_inv
  obtain ⟨_, _, _, _, rfl, rfl, hs4, he4⟩ := he0.st_inv
  obtain ⟨p, _, _, rfl, rfl, he5⟩ := hs4.i_inv
  obtain ⟨q, _, _, rfl, rfl, he6⟩ := he5.i_inv
  obtain ⟨m, _, _, rfl, rfl, he7⟩ := he6.s_inv
  obtain ⟨rfl, rfl⟩ := he7.nil_inv
  obtain ⟨rfl, rfl⟩ := he4.nil_inv
  exact h r c l p q m hp

noncomputable def matrix.Beside.tab : List (Nat × Entry) := [(39, matrix.of.Beside.spec), (46, matrix.two.spec)]
noncomputable def matrix.Beside.E : Env := envOf (tabOf matrix.Beside.tab) (fun _ => false) (fun _ => none) (fun _ => none)
theorem matrix.Beside.ev (N : Nat) (r : Int) (c : Int) (l : List Int) (p : Int) (q : Int) (m : List Int) : funD matrix.Beside.E N Try.f34 (bodyOf Try.f34) [.agg [.int .i64 r, .int .i64 c, .ints .arg .u64 l], .agg [.int .i64 p, .int .i64 q, .ints .arg .u64 m]] =
  bif ((twoI r c l p q m) != (0 : Int)) then
    some (.tup [.agg [.int .i64 (0 : Int), .int .i64 (0 : Int), .nil], .int .i64 (twoI r c l p q m)])
  else bif ((r != p) || (ltI (6 : Int) (w_i64 (c + q)))) then
    some (.tup [.agg [.int .i64 (0 : Int), .int .i64 (0 : Int), .nil], .int .i64 (3 : Int)])
  else bif ((sizeB r && sizeB (w_i64 (c + q))) && (rightB r c l && rightB p q m) && decide (r = r ∧ (w_i64 (c + q)) = c + q ∧ p = r)) then
    some (.tup [.agg [.int .i64 r, .int .i64 (w_i64 (c + q)), .ints .fresh .u64 (grid (Int.toNat r) (Int.toNat (w_i64 (c + q))) (fun j1 j2 => besideI c l q m j1 j2))], .int .i64 (0 : Int)])
  else none :=
  Eq.trans (b := bif ((twoI r c l p q m) != (0 : Int)) then
    some (.tup [.agg [.int .i64 (0 : Int), .int .i64 (0 : Int), .nil], .int .i64 (twoI r c l p q m)])
  else bif ((!((r != p) == false)) || true) then
    bif ((!((r != p) == false)) || ((((!((r != p) == false)) || ((r != p) == false)) && true) && true)) then
      bif ((!((r != p) == false)) || true) then
        bif ((!((r != p) == false)) || ((((!((r != p) == false)) || ((r != p) == false)) && true) && true)) then
          bif ((!((r != p) == false)) || ((((!((r != p) == false)) || ((r != p) == false)) && (((!((r != p) == false)) || ((r != p) == false)) && true)) && true)) then
            bif ((!((r != p) == false)) || ((((!((r != p) == false)) || ((r != p) == false)) && true) && true)) then
              bif ((!(!(r != p))) || ((r != p) == false)) then
                bif (bif (r != p) then true else (ltI (6 : Int) (w_i64 (c + q)))) then
                  some (.tup [.agg [.int .i64 (0 : Int), .int .i64 (0 : Int), .nil], .int .i64 (3 : Int)])
                else bif ((sizeB r && sizeB (w_i64 (c + q))) && (rightB r c l && rightB p q m) && decide (r = r ∧ (w_i64 (c + q)) = c + q ∧ p = r)) then
                  some (.tup [.agg [.int .i64 r, .int .i64 (w_i64 (c + q)), .ints .fresh .u64 (grid (Int.toNat r) (Int.toNat (w_i64 (c + q))) (fun j1 j2 => besideI c l q m j1 j2))], .int .i64 (0 : Int)])
                else none
              else none
            else none
          else none
        else none
      else none
    else none
  else none) (by kernel_rfl)
  (ifE rfl (ifT (tt30 _) (ifT (tt29 _) (ifT (tt30 _) (ifT (tt29 _) (ifT (tt32 _) (ifT (tt29 _) (ifT (tt28 _) (ifS (tt31 _ _) rfl rfl)))))))))
theorem matrix.Beside.known_of (hk : Knowns Try.prog matrix.Beside.tab) (h : ∀ (r : Int) (c : Int) (l : List Int) (p : Int) (q : Int) (m : List Int), matrix.Beside.pre [.i r, .i c, .l l, .i p, .i q, .l m] = true → ∃ N dv drops, funD matrix.Beside.E N Try.f34 (bodyOf Try.f34) [.agg [.int .i64 r, .int .i64 c, .ints .arg .u64 l], .agg [.int .i64 p, .int .i64 q, .ints .arg .u64 m]] = some dv ∧ Wk drops dv (matrix.Beside.out [.i r, .i c, .l l, .i p, .i q, .l m])) : Known Try.prog 34 matrix.Beside.spec := by
  refine ⟨meets_entry (E := matrix.Beside.E) (env_ok hk _ _ _) Try.func34 (show Try.f34.body = some (bodyOf Try.f34) by kernel_rfl) fun ats dvs he hp => ?_, call_enter Try.func34 (by kernel_rfl) (show Try.f34.body = some (bodyOf Try.f34) by kernel_rfl)⟩
  obtain ⟨_, _, _, _, rfl, rfl, hs0, he0⟩ := he.st_inv
  obtain ⟨r, _, _, rfl, rfl, he1⟩ := hs0.i_inv
  obtain ⟨c, _, _, rfl, rfl, he2⟩ := he1.i_inv
  obtain ⟨l, _, _, rfl, rfl, he3⟩ := he2.s_inv
  obtain ⟨rfl, rfl⟩ := he3.nil_inv
  obtain ⟨_, _, _, _, rfl, rfl, hs4, he4⟩ := he0.st_inv
  obtain ⟨p, _, _, rfl, rfl, he5⟩ := hs4.i_inv
  obtain ⟨q, _, _, rfl, rfl, he6⟩ := he5.i_inv
  obtain ⟨m, _, _, rfl, rfl, he7⟩ := he6.s_inv
  obtain ⟨rfl, rfl⟩ := he7.nil_inv
  obtain ⟨rfl, rfl⟩ := he4.nil_inv
  exact h r c l p q m hp

noncomputable def matrix.Mul.tab : List (Nat × Entry) := [(39, matrix.of.Mul.spec), (46, matrix.two.spec)]
noncomputable def matrix.Mul.E : Env := envOf (tabOf matrix.Mul.tab) (fun _ => false) (fun _ => none) (fun _ => none)
theorem matrix.Mul.ev (N : Nat) (r : Int) (c : Int) (l : List Int) (p : Int) (q : Int) (m : List Int) : funD matrix.Mul.E N Try.f19 (bodyOf Try.f19) [.agg [.int .i64 r, .int .i64 c, .ints .arg .u64 l], .agg [.int .i64 p, .int .i64 q, .ints .arg .u64 m]] =
  bif ((twoI r c l p q m) != (0 : Int)) then
    some (.tup [.agg [.int .i64 (0 : Int), .int .i64 (0 : Int), .nil], .int .i64 (twoI r c l p q m)])
  else bif (c != p) then
    some (.tup [.agg [.int .i64 (0 : Int), .int .i64 (0 : Int), .nil], .int .i64 (3 : Int)])
  else bif ((sizeB r && sizeB q) && ((rightB r c l && rightB p q m) && (allU64 l && allU64 m)) && decide (r = r ∧ q = q ∧ c = p)) then
    some (.tup [.agg [.int .i64 r, .int .i64 q, .ints .fresh .u64 (grid (Int.toNat r) (Int.toNat q) (fun j1 j2 => dotI (rowI c l j1) (colI p q m j2)))], .int .i64 (0 : Int)])
  else none := by kernel_rfl
theorem matrix.Mul.known_of (hk : Knowns Try.prog matrix.Mul.tab) (h : ∀ (r : Int) (c : Int) (l : List Int) (p : Int) (q : Int) (m : List Int), matrix.Mul.pre [.i r, .i c, .l l, .i p, .i q, .l m] = true → ∃ N dv drops, funD matrix.Mul.E N Try.f19 (bodyOf Try.f19) [.agg [.int .i64 r, .int .i64 c, .ints .arg .u64 l], .agg [.int .i64 p, .int .i64 q, .ints .arg .u64 m]] = some dv ∧ Wk drops dv (matrix.Mul.out [.i r, .i c, .l l, .i p, .i q, .l m])) : Known Try.prog 19 matrix.Mul.spec := by
  refine ⟨meets_entry (E := matrix.Mul.E) (env_ok hk _ _ _) Try.func19 (show Try.f19.body = some (bodyOf Try.f19) by kernel_rfl) fun ats dvs he hp => ?_, call_enter Try.func19 (by kernel_rfl) (show Try.f19.body = some (bodyOf Try.f19) by kernel_rfl)⟩
  obtain ⟨_, _, _, _, rfl, rfl, hs0, he0⟩ := he.st_inv
  obtain ⟨r, _, _, rfl, rfl, he1⟩ := hs0.i_inv
  obtain ⟨c, _, _, rfl, rfl, he2⟩ := he1.i_inv
  obtain ⟨l, _, _, rfl, rfl, he3⟩ := he2.s_inv
  obtain ⟨rfl, rfl⟩ := he3.nil_inv
  obtain ⟨_, _, _, _, rfl, rfl, hs4, he4⟩ := he0.st_inv
  obtain ⟨p, _, _, rfl, rfl, he5⟩ := hs4.i_inv
  obtain ⟨q, _, _, rfl, rfl, he6⟩ := he5.i_inv
  obtain ⟨m, _, _, rfl, rfl, he7⟩ := he6.s_inv
  obtain ⟨rfl, rfl⟩ := he7.nil_inv
  obtain ⟨rfl, rfl⟩ := he4.nil_inv
  exact h r c l p q m hp
end EqOf
end Go.Proofs.S1

/- matrix.of, for each function that it is called with; the functions that call it. Printed by gen_of.py. -/
namespace Go.Proofs.S1
open Go Go.Den Go.Rnd Go.Proofs
open EqOf

theorem of.Zeros.inner (N : Nat)  {A B : Nat} (hA : A ≤ 6) (hB : B ≤ 6) {F : Nat → Nat → Int} (hF : ∀ i j : Nat, F i j = (0 : Int)) {i : Nat} (hi : i < A) : ∀ (k j M0 M : Nat), j + k = B → k < M →
    matrix.of.Zeros.L1 N M0 M (A : Int) (B : Int) (i : Int) (i : Int) (j : Int) (grid i B F ++ (List.range j).map (F i)) = matrix.of.Zeros.L0 N M0 (A : Int) (B : Int) ((i + 1 : Nat) : Int) (grid (i + 1) B F) := by
  intro k
  induction k with
  | zero =>
    intro j M0 M hj hM
    obtain ⟨M, rfl⟩ : ∃ G, M = G + 1 := ⟨M - 1, by omega⟩
    obtain rfl : j = B := by omega
    rw [matrix.of.Zeros.L1_step, ltI_eq, decide_eq_false (by omega), cond_false, w_i64_in (by omega) (by omega), ← grid_succ]
    rfl
  | succ k ih =>
    intro j M0 M hj hM
    obtain ⟨M, rfl⟩ : ∃ G, M = G + 1 := ⟨M - 1, by omega⟩
    have d : decide ((grid i B F ++ (List.range j).map (F i)).length + 1 ≤ lim) = true := by
      refine decide_eq_true ?_
      have := Nat.mul_le_mul (show i ≤ 6 by omega) hB
      rw [List.length_append, grid_length, List.length_map, List.length_range]; unfold lim; omega
    rw [matrix.of.Zeros.L1_step, ltI_eq, decide_eq_true (by omega), cond_true, d, cond_true, w_i64_in (by omega) (by omega), ← hF i j]
    have := ih (j + 1) M0 M (by omega) (by omega)
    rw [row_succ, ← List.append_assoc] at this
    exact this

theorem of.Zeros.outer (N : Nat)  {A B : Nat} (hA : A ≤ 6) (hB : B ≤ 6) (hN : 6 < N) {F : Nat → Nat → Int} (hF : ∀ i j : Nat, F i j = (0 : Int)) : ∀ (k i M : Nat), i + k = A → k < M →
    matrix.of.Zeros.L0 N M (A : Int) (B : Int) (i : Int) (grid i B F) = some (.agg [.int .i64 (A : Int), .int .i64 (B : Int), .ints (.own 108002 39) .u64 (grid A B F)]) := by
  intro k
  induction k with
  | zero =>
    intro i M hi hM
    obtain ⟨M, rfl⟩ : ∃ G, M = G + 1 := ⟨M - 1, by omega⟩
    obtain rfl : i = A := by omega
    rw [matrix.of.Zeros.L0_step, ltI_eq, decide_eq_false (by omega), cond_false]
  | succ k ih =>
    intro i M hi hM
    obtain ⟨M, rfl⟩ : ∃ G, M = G + 1 := ⟨M - 1, by omega⟩
    have n := of.Zeros.inner N hA hB hF (show i < A by omega) B 0 M N (by omega) (by omega)
    rw [List.range_zero, List.map_nil, List.append_nil] at n
    rw [matrix.of.Zeros.L0_step, ltI_eq, decide_eq_true (by omega), cond_true]
    exact n.trans (ih (i + 1) M (by omega) (by omega))

theorem matrix.of.Zeros.known : Known Try.prog 39 matrix.of.Zeros.spec := matrix.of.Zeros.known_of (.cons matrix.Zeros_1.known .nil) fun a b hp => by
  have h1 : (sizeB a && sizeB b) = true := hp
  obtain ⟨ha, hb⟩ := and_true_iff.1 h1
  obtain ⟨A, rfl, hA⟩ := size_nat ha
  obtain ⟨B, rfl, hB⟩ := size_nat hb
  refine ⟨8, .agg [.int .i64 (A : Int), .int .i64 (B : Int), .ints (.own 108002 39) .u64 (grid A B fun (i j : Nat) => (0 : Int))], [108002], ?_, Wk.aggL (.cons .int (.cons .int (.cons (.drop _ _ _ _ (List.mem_singleton.2 rfl)) .nil)))⟩
  rw [matrix.of.Zeros.ev]
  have n := of.Zeros.outer 8 hA hB (by omega) (F := fun (i j : Nat) => (0 : Int)) (fun _ _ => rfl) A 0 8 (by omega) (by omega)
  rw [grid_zero] at n
  exact n

theorem of.Eye.inner (N : Nat)  {A B : Nat} (hA : A ≤ 6) (hB : B ≤ 6) {F : Nat → Nat → Int} (hF : ∀ i j : Nat, F i j = eyeI (i : Int) (j : Int)) {i : Nat} (hi : i < A) : ∀ (k j M0 M : Nat), j + k = B → k < M →
    matrix.of.Eye.L1 N M0 M (A : Int) (B : Int) (i : Int) (i : Int) (j : Int) (grid i B F ++ (List.range j).map (F i)) = matrix.of.Eye.L0 N M0 (A : Int) (B : Int) ((i + 1 : Nat) : Int) (grid (i + 1) B F) := by
  intro k
  induction k with
  | zero =>
    intro j M0 M hj hM
    obtain ⟨M, rfl⟩ : ∃ G, M = G + 1 := ⟨M - 1, by omega⟩
    obtain rfl : j = B := by omega
    rw [matrix.of.Eye.L1_step, ltI_eq, decide_eq_false (by omega), cond_false, w_i64_in (by omega) (by omega), ← grid_succ]
    rfl
  | succ k ih =>
    intro j M0 M hj hM
    obtain ⟨M, rfl⟩ : ∃ G, M = G + 1 := ⟨M - 1, by omega⟩
    have d : decide ((grid i B F ++ (List.range j).map (F i)).length + 1 ≤ lim) = true := by
      refine decide_eq_true ?_
      have := Nat.mul_le_mul (show i ≤ 6 by omega) hB
      rw [List.length_append, grid_length, List.length_map, List.length_range]; unfold lim; omega
    rw [matrix.of.Eye.L1_step, ltI_eq, decide_eq_true (by omega), cond_true, d, cond_true, w_i64_in (by omega) (by omega), ← hF i j]
    have := ih (j + 1) M0 M (by omega) (by omega)
    rw [row_succ, ← List.append_assoc] at this
    exact this

theorem of.Eye.outer (N : Nat)  {A B : Nat} (hA : A ≤ 6) (hB : B ≤ 6) (hN : 6 < N) {F : Nat → Nat → Int} (hF : ∀ i j : Nat, F i j = eyeI (i : Int) (j : Int)) : ∀ (k i M : Nat), i + k = A → k < M →
    matrix.of.Eye.L0 N M (A : Int) (B : Int) (i : Int) (grid i B F) = some (.agg [.int .i64 (A : Int), .int .i64 (B : Int), .ints (.own 108002 39) .u64 (grid A B F)]) := by
  intro k
  induction k with
  | zero =>
    intro i M hi hM
    obtain ⟨M, rfl⟩ : ∃ G, M = G + 1 := ⟨M - 1, by omega⟩
    obtain rfl : i = A := by omega
    rw [matrix.of.Eye.L0_step, ltI_eq, decide_eq_false (by omega), cond_false]
  | succ k ih =>
    intro i M hi hM
    obtain ⟨M, rfl⟩ : ∃ G, M = G + 1 := ⟨M - 1, by omega⟩
    have n := of.Eye.inner N hA hB hF (show i < A by omega) B 0 M N (by omega) (by omega)
    rw [List.range_zero, List.map_nil, List.append_nil] at n
    rw [matrix.of.Eye.L0_step, ltI_eq, decide_eq_true (by omega), cond_true]
    exact n.trans (ih (i + 1) M (by omega) (by omega))

theorem matrix.of.Eye.known : Known Try.prog 39 matrix.of.Eye.spec := matrix.of.Eye.known_of (.cons matrix.Eye_1.known .nil) fun a b hp => by
  have h1 : (sizeB a && sizeB b) = true := hp
  obtain ⟨ha, hb⟩ := and_true_iff.1 h1
  obtain ⟨A, rfl, hA⟩ := size_nat ha
  obtain ⟨B, rfl, hB⟩ := size_nat hb
  refine ⟨8, .agg [.int .i64 (A : Int), .int .i64 (B : Int), .ints (.own 108002 39) .u64 (grid A B fun (i j : Nat) => eyeI (i : Int) (j : Int))], [108002], ?_, Wk.aggL (.cons .int (.cons .int (.cons (.drop _ _ _ _ (List.mem_singleton.2 rfl)) .nil)))⟩
  rw [matrix.of.Eye.ev]
  have n := of.Eye.outer 8 hA hB (by omega) (F := fun (i j : Nat) => eyeI (i : Int) (j : Int)) (fun _ _ => rfl) A 0 8 (by omega) (by omega)
  rw [grid_zero] at n
  exact n

theorem of.Turn.inner (N : Nat) (r c : Int) (l : List Int) {A B : Nat} (hA : A ≤ 6) (hB : B ≤ 6) {F : Nat → Nat → Int} (hF : ∀ i j : Nat, F i j = atI c l (j : Int) (i : Int)) {i : Nat} (hi : i < A) (hp : ∀ j : Nat, j < B → atPre r c l (j : Int) (i : Int) = true) : ∀ (k j M0 M : Nat), j + k = B → k < M →
    matrix.of.Turn.L1 N M0 M (A : Int) (B : Int) r c l (i : Int) (i : Int) (j : Int) (grid i B F ++ (List.range j).map (F i)) = matrix.of.Turn.L0 N M0 (A : Int) (B : Int) r c l ((i + 1 : Nat) : Int) (grid (i + 1) B F) := by
  intro k
  induction k with
  | zero =>
    intro j M0 M hj hM
    obtain ⟨M, rfl⟩ : ∃ G, M = G + 1 := ⟨M - 1, by omega⟩
    obtain rfl : j = B := by omega
    rw [matrix.of.Turn.L1_step, ltI_eq, decide_eq_false (by omega), cond_false, w_i64_in (by omega) (by omega), ← grid_succ]
    rfl
  | succ k ih =>
    intro j M0 M hj hM
    obtain ⟨M, rfl⟩ : ∃ G, M = G + 1 := ⟨M - 1, by omega⟩
    have d : decide ((grid i B F ++ (List.range j).map (F i)).length + 1 ≤ lim) = true := by
      refine decide_eq_true ?_
      have := Nat.mul_le_mul (show i ≤ 6 by omega) hB
      rw [List.length_append, grid_length, List.length_map, List.length_range]; unfold lim; omega
    rw [matrix.of.Turn.L1_step, ltI_eq, decide_eq_true (by omega), cond_true, hp j (by omega), cond_true, d, cond_true, w_i64_in (by omega) (by omega), ← hF i j]
    have := ih (j + 1) M0 M (by omega) (by omega)
    rw [row_succ, ← List.append_assoc] at this
    exact this

theorem of.Turn.outer (N : Nat) (r c : Int) (l : List Int) {A B : Nat} (hA : A ≤ 6) (hB : B ≤ 6) (hN : 6 < N) {F : Nat → Nat → Int} (hF : ∀ i j : Nat, F i j = atI c l (j : Int) (i : Int)) (hp : ∀ i j : Nat, i < A → j < B → atPre r c l (j : Int) (i : Int) = true) : ∀ (k i M : Nat), i + k = A → k < M →
    matrix.of.Turn.L0 N M (A : Int) (B : Int) r c l (i : Int) (grid i B F) = some (.agg [.int .i64 (A : Int), .int .i64 (B : Int), .ints (.own 108002 39) .u64 (grid A B F)]) := by
  intro k
  induction k with
  | zero =>
    intro i M hi hM
    obtain ⟨M, rfl⟩ : ∃ G, M = G + 1 := ⟨M - 1, by omega⟩
    obtain rfl : i = A := by omega
    rw [matrix.of.Turn.L0_step, ltI_eq, decide_eq_false (by omega), cond_false]
  | succ k ih =>
    intro i M hi hM
    obtain ⟨M, rfl⟩ : ∃ G, M = G + 1 := ⟨M - 1, by omega⟩
    have n := of.Turn.inner N r c l hA hB hF (show i < A by omega) (fun j hj => hp i j (by omega) hj) B 0 M N (by omega) (by omega)
    rw [List.range_zero, List.map_nil, List.append_nil] at n
    rw [matrix.of.Turn.L0_step, ltI_eq, decide_eq_true (by omega), cond_true]
    exact n.trans (ih (i + 1) M (by omega) (by omega))

theorem matrix.of.Turn.known : Known Try.prog 39 matrix.of.Turn.spec := matrix.of.Turn.known_of (.cons matrix.Turn_1.known .nil) fun a b r c l hp => by
  obtain ⟨h12, hy⟩ := and_true_iff.1 (show (((sizeB a && sizeB b) && rightB r c l) && decide (a = c ∧ b = r)) = true from hp)
  obtain ⟨h1, hx⟩ := and_true_iff.1 h12
  have h2 := and_true_iff.2 ⟨hx, hy⟩
  obtain ⟨ha, hb⟩ := and_true_iff.1 h1
  obtain ⟨A, rfl, hA⟩ := size_nat ha
  obtain ⟨B, rfl, hB⟩ := size_nat hb
  obtain ⟨hr, he⟩ := and_true_iff.1 h2
  obtain ⟨e1, e2⟩ := of_decide_eq_true he
  have hp : ∀ i j : Nat, i < A → j < B → atPre r c l (j : Int) (i : Int) = true := fun i j hi hj => at_of_right hr (by omega) (by omega) (by omega) (by omega) r
  refine ⟨8, .agg [.int .i64 (A : Int), .int .i64 (B : Int), .ints (.own 108002 39) .u64 (grid A B fun (i j : Nat) => atI c l (j : Int) (i : Int))], [108002], ?_, Wk.aggL (.cons .int (.cons .int (.cons (.drop _ _ _ _ (List.mem_singleton.2 rfl)) .nil)))⟩
  rw [matrix.of.Turn.ev]
  have n := of.Turn.outer 8 r c l hA hB (by omega) (F := fun (i j : Nat) => atI c l (j : Int) (i : Int)) (fun _ _ => rfl) hp A 0 8 (by omega) (by omega)
  rw [grid_zero] at n
  exact n

theorem of.Part.inner (N : Nat) (r c : Int) (l : List Int) (x y : Int) {A B : Nat} (hA : A ≤ 6) (hB : B ≤ 6) {F : Nat → Nat → Int} (hF : ∀ i j : Nat, F i j = atI c l (x + (i : Int)) (y + (j : Int))) {i : Nat} (hi : i < A) (hp : ∀ j : Nat, j < B → (atPre r c l (x + (i : Int)) (y + (j : Int)) && smallI x y (i : Int) (j : Int)) = true) : ∀ (k j M0 M : Nat), j + k = B → k < M →
    matrix.of.Part.L1 N M0 M (A : Int) (B : Int) r c l x y (i : Int) (i : Int) (j : Int) (grid i B F ++ (List.range j).map (F i)) = matrix.of.Part.L0 N M0 (A : Int) (B : Int) r c l x y ((i + 1 : Nat) : Int) (grid (i + 1) B F) := by
  intro k
  induction k with
  | zero =>
    intro j M0 M hj hM
    obtain ⟨M, rfl⟩ : ∃ G, M = G + 1 := ⟨M - 1, by omega⟩
    obtain rfl : j = B := by omega
    rw [matrix.of.Part.L1_step, ltI_eq, decide_eq_false (by omega), cond_false, w_i64_in (by omega) (by omega), ← grid_succ]
    rfl
  | succ k ih =>
    intro j M0 M hj hM
    obtain ⟨M, rfl⟩ : ∃ G, M = G + 1 := ⟨M - 1, by omega⟩
    have d : decide ((grid i B F ++ (List.range j).map (F i)).length + 1 ≤ lim) = true := by
      refine decide_eq_true ?_
      have := Nat.mul_le_mul (show i ≤ 6 by omega) hB
      rw [List.length_append, grid_length, List.length_map, List.length_range]; unfold lim; omega
    rw [matrix.of.Part.L1_step, ltI_eq, decide_eq_true (by omega), cond_true, hp j (by omega), cond_true, d, cond_true, w_i64_in (by omega) (by omega), ← hF i j]
    have := ih (j + 1) M0 M (by omega) (by omega)
    rw [row_succ, ← List.append_assoc] at this
    exact this

theorem of.Part.outer (N : Nat) (r c : Int) (l : List Int) (x y : Int) {A B : Nat} (hA : A ≤ 6) (hB : B ≤ 6) (hN : 6 < N) {F : Nat → Nat → Int} (hF : ∀ i j : Nat, F i j = atI c l (x + (i : Int)) (y + (j : Int))) (hp : ∀ i j : Nat, i < A → j < B → (atPre r c l (x + (i : Int)) (y + (j : Int)) && smallI x y (i : Int) (j : Int)) = true) : ∀ (k i M : Nat), i + k = A → k < M →
    matrix.of.Part.L0 N M (A : Int) (B : Int) r c l x y (i : Int) (grid i B F) = some (.agg [.int .i64 (A : Int), .int .i64 (B : Int), .ints (.own 108002 39) .u64 (grid A B F)]) := by
  intro k
  induction k with
  | zero =>
    intro i M hi hM
    obtain ⟨M, rfl⟩ : ∃ G, M = G + 1 := ⟨M - 1, by omega⟩
    obtain rfl : i = A := by omega
    rw [matrix.of.Part.L0_step, ltI_eq, decide_eq_false (by omega), cond_false]
  | succ k ih =>
    intro i M hi hM
    obtain ⟨M, rfl⟩ : ∃ G, M = G + 1 := ⟨M - 1, by omega⟩
    have n := of.Part.inner N r c l x y hA hB hF (show i < A by omega) (fun j hj => hp i j (by omega) hj) B 0 M N (by omega) (by omega)
    rw [List.range_zero, List.map_nil, List.append_nil] at n
    rw [matrix.of.Part.L0_step, ltI_eq, decide_eq_true (by omega), cond_true]
    exact n.trans (ih (i + 1) M (by omega) (by omega))

theorem matrix.of.Part.known : Known Try.prog 39 matrix.of.Part.spec := matrix.of.Part.known_of (.cons matrix.Part_1.known .nil) fun a b r c l x y hp => by
  obtain ⟨h12, hy⟩ := and_true_iff.1 (show (((sizeB a && sizeB b) && rightB r c l) && partB r c x y a b) = true from hp)
  obtain ⟨h1, hx⟩ := and_true_iff.1 h12
  have h2 := and_true_iff.2 ⟨hx, hy⟩
  obtain ⟨ha, hb⟩ := and_true_iff.1 h1
  obtain ⟨A, rfl, hA⟩ := size_nat ha
  obtain ⟨B, rfl, hB⟩ := size_nat hb
  obtain ⟨hr, he⟩ := and_true_iff.1 h2
  have he := of_decide_eq_true he
  have hs := right_iff.1 hr
  have hp : ∀ i j : Nat, i < A → j < B → (atPre r c l (x + (i : Int)) (y + (j : Int)) && smallI x y (i : Int) (j : Int)) = true := fun i j hi hj =>
    and_true_iff.2 ⟨at_of_right hr (by omega) (by omega) (by omega) (by omega) r, cdec_eq.2 (by omega)⟩
  refine ⟨8, .agg [.int .i64 (A : Int), .int .i64 (B : Int), .ints (.own 108002 39) .u64 (grid A B fun (i j : Nat) => atI c l (x + (i : Int)) (y + (j : Int)))], [108002], ?_, Wk.aggL (.cons .int (.cons .int (.cons (.drop _ _ _ _ (List.mem_singleton.2 rfl)) .nil)))⟩
  rw [matrix.of.Part.ev]
  have n := of.Part.outer 8 r c l x y hA hB (by omega) (F := fun (i j : Nat) => atI c l (x + (i : Int)) (y + (j : Int))) (fun _ _ => rfl) hp A 0 8 (by omega) (by omega)
  rw [grid_zero] at n
  exact n

theorem of.Stack.inner (N : Nat) (r c : Int) (l : List Int) (p q : Int) (m : List Int) {A B : Nat} (hA : A ≤ 6) (hB : B ≤ 6) {F : Nat → Nat → Int} (hF : ∀ i j : Nat, F i j = stackI r c l q m (i : Int) (j : Int)) {i : Nat} (hi : i < A) (hp : ∀ j : Nat, j < B → stackPre r c l p q m (i : Int) (j : Int) = true) : ∀ (k j M0 M : Nat), j + k = B → k < M →
    matrix.of.Stack.L1 N M0 M (A : Int) (B : Int) r c l p q m (i : Int) (i : Int) (j : Int) (grid i B F ++ (List.range j).map (F i)) = matrix.of.Stack.L0 N M0 (A : Int) (B : Int) r c l p q m ((i + 1 : Nat) : Int) (grid (i + 1) B F) := by
  intro k
  induction k with
  | zero =>
    intro j M0 M hj hM
    obtain ⟨M, rfl⟩ : ∃ G, M = G + 1 := ⟨M - 1, by omega⟩
    obtain rfl : j = B := by omega
    rw [matrix.of.Stack.L1_step, ltI_eq, decide_eq_false (by omega), cond_false, w_i64_in (by omega) (by omega), ← grid_succ]
    rfl
  | succ k ih =>
    intro j M0 M hj hM
    obtain ⟨M, rfl⟩ : ∃ G, M = G + 1 := ⟨M - 1, by omega⟩
    have d : decide ((grid i B F ++ (List.range j).map (F i)).length + 1 ≤ lim) = true := by
      refine decide_eq_true ?_
      have := Nat.mul_le_mul (show i ≤ 6 by omega) hB
      rw [List.length_append, grid_length, List.length_map, List.length_range]; unfold lim; omega
    rw [matrix.of.Stack.L1_step, ltI_eq, decide_eq_true (by omega), cond_true, hp j (by omega), cond_true, d, cond_true, w_i64_in (by omega) (by omega), ← hF i j]
    have := ih (j + 1) M0 M (by omega) (by omega)
    rw [row_succ, ← List.append_assoc] at this
    exact this

theorem of.Stack.outer (N : Nat) (r c : Int) (l : List Int) (p q : Int) (m : List Int) {A B : Nat} (hA : A ≤ 6) (hB : B ≤ 6) (hN : 6 < N) {F : Nat → Nat → Int} (hF : ∀ i j : Nat, F i j = stackI r c l q m (i : Int) (j : Int)) (hp : ∀ i j : Nat, i < A → j < B → stackPre r c l p q m (i : Int) (j : Int) = true) : ∀ (k i M : Nat), i + k = A → k < M →
    matrix.of.Stack.L0 N M (A : Int) (B : Int) r c l p q m (i : Int) (grid i B F) = some (.agg [.int .i64 (A : Int), .int .i64 (B : Int), .ints (.own 108002 39) .u64 (grid A B F)]) := by
  intro k
  induction k with
  | zero =>
    intro i M hi hM
    obtain ⟨M, rfl⟩ : ∃ G, M = G + 1 := ⟨M - 1, by omega⟩
    obtain rfl : i = A := by omega
    rw [matrix.of.Stack.L0_step, ltI_eq, decide_eq_false (by omega), cond_false]
  | succ k ih =>
    intro i M hi hM
    obtain ⟨M, rfl⟩ : ∃ G, M = G + 1 := ⟨M - 1, by omega⟩
    have n := of.Stack.inner N r c l p q m hA hB hF (show i < A by omega) (fun j hj => hp i j (by omega) hj) B 0 M N (by omega) (by omega)
    rw [List.range_zero, List.map_nil, List.append_nil] at n
    rw [matrix.of.Stack.L0_step, ltI_eq, decide_eq_true (by omega), cond_true]
    exact n.trans (ih (i + 1) M (by omega) (by omega))

theorem matrix.of.Stack.known : Known Try.prog 39 matrix.of.Stack.spec := matrix.of.Stack.known_of (.cons matrix.Stack_1.known .nil) fun a b r c l p q m hp => by
  obtain ⟨h12, hy⟩ := and_true_iff.1 (show (((sizeB a && sizeB b) && (rightB r c l && rightB p q m)) && decide (a = r + p ∧ b = c ∧ q = c)) = true from hp)
  obtain ⟨h1, hx⟩ := and_true_iff.1 h12
  have h2 := and_true_iff.2 ⟨hx, hy⟩
  obtain ⟨ha, hb⟩ := and_true_iff.1 h1
  obtain ⟨A, rfl, hA⟩ := size_nat ha
  obtain ⟨B, rfl, hB⟩ := size_nat hb
  obtain ⟨h3, he⟩ := and_true_iff.1 h2
  obtain ⟨hr, hm⟩ := and_true_iff.1 h3
  obtain ⟨e1, e2, e3⟩ := of_decide_eq_true he
  have hs := right_iff.1 hr
  have hp : ∀ i j : Nat, i < A → j < B → stackPre r c l p q m (i : Int) (j : Int) = true := fun i j hi hj => by
    refine cdec_eq.2 ⟨by omega, by omega, by omega, by omega, ?_⟩
    by_cases h : (i : Int) < r
    · rw [if_pos h]; exact at_of_right hr (by omega) (by omega) (by omega) (by omega) r
    · rw [if_neg h]; exact at_of_right hm (by omega) (by omega) (by omega) (by omega) p
  refine ⟨8, .agg [.int .i64 (A : Int), .int .i64 (B : Int), .ints (.own 108002 39) .u64 (grid A B fun (i j : Nat) => stackI r c l q m (i : Int) (j : Int))], [108002], ?_, Wk.aggL (.cons .int (.cons .int (.cons (.drop _ _ _ _ (List.mem_singleton.2 rfl)) .nil)))⟩
  rw [matrix.of.Stack.ev]
  have n := of.Stack.outer 8 r c l p q m hA hB (by omega) (F := fun (i j : Nat) => stackI r c l q m (i : Int) (j : Int)) (fun _ _ => rfl) hp A 0 8 (by omega) (by omega)
  rw [grid_zero] at n
  exact n

theorem of.Beside.inner (N : Nat) (r c : Int) (l : List Int) (p q : Int) (m : List Int) {A B : Nat} (hA : A ≤ 6) (hB : B ≤ 6) {F : Nat → Nat → Int} (hF : ∀ i j : Nat, F i j = besideI c l q m (i : Int) (j : Int)) {i : Nat} (hi : i < A) (hp : ∀ j : Nat, j < B → besidePre r c l p q m (i : Int) (j : Int) = true) : ∀ (k j M0 M : Nat), j + k = B → k < M →
    matrix.of.Beside.L1 N M0 M (A : Int) (B : Int) r c l p q m (i : Int) (i : Int) (j : Int) (grid i B F ++ (List.range j).map (F i)) = matrix.of.Beside.L0 N M0 (A : Int) (B : Int) r c l p q m ((i + 1 : Nat) : Int) (grid (i + 1) B F) := by
  intro k
  induction k with
  | zero =>
    intro j M0 M hj hM
    obtain ⟨M, rfl⟩ : ∃ G, M = G + 1 := ⟨M - 1, by omega⟩
    obtain rfl : j = B := by omega
    rw [matrix.of.Beside.L1_step, ltI_eq, decide_eq_false (by omega), cond_false, w_i64_in (by omega) (by omega), ← grid_succ]
    rfl
  | succ k ih =>
    intro j M0 M hj hM
    obtain ⟨M, rfl⟩ : ∃ G, M = G + 1 := ⟨M - 1, by omega⟩
    have d : decide ((grid i B F ++ (List.range j).map (F i)).length + 1 ≤ lim) = true := by
      refine decide_eq_true ?_
      have := Nat.mul_le_mul (show i ≤ 6 by omega) hB
      rw [List.length_append, grid_length, List.length_map, List.length_range]; unfold lim; omega
    rw [matrix.of.Beside.L1_step, ltI_eq, decide_eq_true (by omega), cond_true, hp j (by omega), cond_true, d, cond_true, w_i64_in (by omega) (by omega), ← hF i j]
    have := ih (j + 1) M0 M (by omega) (by omega)
    rw [row_succ, ← List.append_assoc] at this
    exact this

theorem of.Beside.outer (N : Nat) (r c : Int) (l : List Int) (p q : Int) (m : List Int) {A B : Nat} (hA : A ≤ 6) (hB : B ≤ 6) (hN : 6 < N) {F : Nat → Nat → Int} (hF : ∀ i j : Nat, F i j = besideI c l q m (i : Int) (j : Int)) (hp : ∀ i j : Nat, i < A → j < B → besidePre r c l p q m (i : Int) (j : Int) = true) : ∀ (k i M : Nat), i + k = A → k < M →
    matrix.of.Beside.L0 N M (A : Int) (B : Int) r c l p q m (i : Int) (grid i B F) = some (.agg [.int .i64 (A : Int), .int .i64 (B : Int), .ints (.own 108002 39) .u64 (grid A B F)]) := by
  intro k
  induction k with
  | zero =>
    intro i M hi hM
    obtain ⟨M, rfl⟩ : ∃ G, M = G + 1 := ⟨M - 1, by omega⟩
    obtain rfl : i = A := by omega
    rw [matrix.of.Beside.L0_step, ltI_eq, decide_eq_false (by omega), cond_false]
  | succ k ih =>
    intro i M hi hM
    obtain ⟨M, rfl⟩ : ∃ G, M = G + 1 := ⟨M - 1, by omega⟩
    have n := of.Beside.inner N r c l p q m hA hB hF (show i < A by omega) (fun j hj => hp i j (by omega) hj) B 0 M N (by omega) (by omega)
    rw [List.range_zero, List.map_nil, List.append_nil] at n
    rw [matrix.of.Beside.L0_step, ltI_eq, decide_eq_true (by omega), cond_true]
    exact n.trans (ih (i + 1) M (by omega) (by omega))

theorem matrix.of.Beside.known : Known Try.prog 39 matrix.of.Beside.spec := matrix.of.Beside.known_of (.cons matrix.Beside_1.known .nil) fun a b r c l p q m hp => by
  obtain ⟨h12, hy⟩ := and_true_iff.1 (show (((sizeB a && sizeB b) && (rightB r c l && rightB p q m)) && decide (a = r ∧ b = c + q ∧ p = r)) = true from hp)
  obtain ⟨h1, hx⟩ := and_true_iff.1 h12
  have h2 := and_true_iff.2 ⟨hx, hy⟩
  obtain ⟨ha, hb⟩ := and_true_iff.1 h1
  obtain ⟨A, rfl, hA⟩ := size_nat ha
  obtain ⟨B, rfl, hB⟩ := size_nat hb
  obtain ⟨h3, he⟩ := and_true_iff.1 h2
  obtain ⟨hr, hm⟩ := and_true_iff.1 h3
  obtain ⟨e1, e2, e3⟩ := of_decide_eq_true he
  have hs := right_iff.1 hr
  have hp : ∀ i j : Nat, i < A → j < B → besidePre r c l p q m (i : Int) (j : Int) = true := fun i j hi hj => by
    refine cdec_eq.2 ⟨by omega, by omega, by omega, by omega, ?_⟩
    by_cases h : (j : Int) < c
    · rw [if_pos h]; exact at_of_right hr (by omega) (by omega) (by omega) (by omega) r
    · rw [if_neg h]; exact at_of_right hm (by omega) (by omega) (by omega) (by omega) p
  refine ⟨8, .agg [.int .i64 (A : Int), .int .i64 (B : Int), .ints (.own 108002 39) .u64 (grid A B fun (i j : Nat) => besideI c l q m (i : Int) (j : Int))], [108002], ?_, Wk.aggL (.cons .int (.cons .int (.cons (.drop _ _ _ _ (List.mem_singleton.2 rfl)) .nil)))⟩
  rw [matrix.of.Beside.ev]
  have n := of.Beside.outer 8 r c l p q m hA hB (by omega) (F := fun (i j : Nat) => besideI c l q m (i : Int) (j : Int)) (fun _ _ => rfl) hp A 0 8 (by omega) (by omega)
  rw [grid_zero] at n
  exact n

theorem of.Mul.inner (N : Nat) (r c : Int) (l : List Int) (p q : Int) (m : List Int) {A B : Nat} (hA : A ≤ 6) (hB : B ≤ 6) {F : Nat → Nat → Int} (hF : ∀ i j : Nat, F i j = dotI (rowI c l (i : Int)) (colI p q m (j : Int))) {i : Nat} (hi : i < A) (hp : ∀ j : Nat, j < B → mulPre r c l p q m (i : Int) (j : Int) = true) : ∀ (k j M0 M : Nat), j + k = B → k < M →
    matrix.of.Mul.L1 N M0 M (A : Int) (B : Int) r c l p q m (i : Int) (i : Int) (j : Int) (grid i B F ++ (List.range j).map (F i)) = matrix.of.Mul.L0 N M0 (A : Int) (B : Int) r c l p q m ((i + 1 : Nat) : Int) (grid (i + 1) B F) := by
  intro k
  induction k with
  | zero =>
    intro j M0 M hj hM
    obtain ⟨M, rfl⟩ : ∃ G, M = G + 1 := ⟨M - 1, by omega⟩
    obtain rfl : j = B := by omega
    rw [matrix.of.Mul.L1_step, ltI_eq, decide_eq_false (by omega), cond_false, w_i64_in (by omega) (by omega), ← grid_succ]
    rfl
  | succ k ih =>
    intro j M0 M hj hM
    obtain ⟨M, rfl⟩ : ∃ G, M = G + 1 := ⟨M - 1, by omega⟩
    have d : decide ((grid i B F ++ (List.range j).map (F i)).length + 1 ≤ lim) = true := by
      refine decide_eq_true ?_
      have := Nat.mul_le_mul (show i ≤ 6 by omega) hB
      rw [List.length_append, grid_length, List.length_map, List.length_range]; unfold lim; omega
    rw [matrix.of.Mul.L1_step, ltI_eq, decide_eq_true (by omega), cond_true, hp j (by omega), cond_true, d, cond_true, w_i64_in (by omega) (by omega), ← hF i j]
    have := ih (j + 1) M0 M (by omega) (by omega)
    rw [row_succ, ← List.append_assoc] at this
    exact this

theorem of.Mul.outer (N : Nat) (r c : Int) (l : List Int) (p q : Int) (m : List Int) {A B : Nat} (hA : A ≤ 6) (hB : B ≤ 6) (hN : 6 < N) {F : Nat → Nat → Int} (hF : ∀ i j : Nat, F i j = dotI (rowI c l (i : Int)) (colI p q m (j : Int))) (hp : ∀ i j : Nat, i < A → j < B → mulPre r c l p q m (i : Int) (j : Int) = true) : ∀ (k i M : Nat), i + k = A → k < M →
    matrix.of.Mul.L0 N M (A : Int) (B : Int) r c l p q m (i : Int) (grid i B F) = some (.agg [.int .i64 (A : Int), .int .i64 (B : Int), .ints (.own 108002 39) .u64 (grid A B F)]) := by
  intro k
  induction k with
  | zero =>
    intro i M hi hM
    obtain ⟨M, rfl⟩ : ∃ G, M = G + 1 := ⟨M - 1, by omega⟩
    obtain rfl : i = A := by omega
    rw [matrix.of.Mul.L0_step, ltI_eq, decide_eq_false (by omega), cond_false]
  | succ k ih =>
    intro i M hi hM
    obtain ⟨M, rfl⟩ : ∃ G, M = G + 1 := ⟨M - 1, by omega⟩
    have n := of.Mul.inner N r c l p q m hA hB hF (show i < A by omega) (fun j hj => hp i j (by omega) hj) B 0 M N (by omega) (by omega)
    rw [List.range_zero, List.map_nil, List.append_nil] at n
    rw [matrix.of.Mul.L0_step, ltI_eq, decide_eq_true (by omega), cond_true]
    exact n.trans (ih (i + 1) M (by omega) (by omega))

theorem matrix.of.Mul.known : Known Try.prog 39 matrix.of.Mul.spec := matrix.of.Mul.known_of (.cons matrix.Mul_1.known .nil) fun a b r c l p q m hp => by
  obtain ⟨h12, hy⟩ := and_true_iff.1 (show (((sizeB a && sizeB b) && ((rightB r c l && rightB p q m) && (allU64 l && allU64 m))) && decide (a = r ∧ b = q ∧ c = p)) = true from hp)
  obtain ⟨h1, hx⟩ := and_true_iff.1 h12
  have h2 := and_true_iff.2 ⟨hx, hy⟩
  obtain ⟨ha, hb⟩ := and_true_iff.1 h1
  obtain ⟨A, rfl, hA⟩ := size_nat ha
  obtain ⟨B, rfl, hB⟩ := size_nat hb
  obtain ⟨h3, he⟩ := and_true_iff.1 h2
  obtain ⟨h4, h5⟩ := and_true_iff.1 h3
  obtain ⟨hr, hm⟩ := and_true_iff.1 h4
  obtain ⟨e1, e2, e3⟩ := of_decide_eq_true he
  have hp : ∀ i j : Nat, i < A → j < B → mulPre r c l p q m (i : Int) (j : Int) = true := fun i j hi hj =>
    and_true_iff.2 ⟨and_true_iff.2 ⟨and_true_iff.2 ⟨hr, cdec_eq.2 (by omega)⟩, and_true_iff.2 ⟨hm, cdec_eq.2 (by omega)⟩⟩, and_true_iff.2 ⟨h5, cdec_eq.2 e3⟩⟩
  refine ⟨8, .agg [.int .i64 (A : Int), .int .i64 (B : Int), .ints (.own 108002 39) .u64 (grid A B fun (i j : Nat) => dotI (rowI c l (i : Int)) (colI p q m (j : Int)))], [108002], ?_, Wk.aggL (.cons .int (.cons .int (.cons (.drop _ _ _ _ (List.mem_singleton.2 rfl)) .nil)))⟩
  rw [matrix.of.Mul.ev]
  have n := of.Mul.outer 8 r c l p q m hA hB (by omega) (F := fun (i j : Nat) => dotI (rowI c l (i : Int)) (colI p q m (j : Int))) (fun _ _ => rfl) hp A 0 8 (by omega) (by omega)
  rw [grid_zero] at n
  exact n

end Go.Proofs.S1

/- Package matrix: what its own functions answer. -/
namespace Go.Proofs.S1
open Go Go.Den Go.Rnd Go.Proofs
open EqOf

/-- A matrix and an error; the empty one is nil. -/
def outX (x : MX) : DV := .tup [.agg [.int .i64 x.1, .int .i64 x.2.1, .ints .fresh .u64 x.2.2.1], .int .i64 x.2.2.2]
def nilX (e : Int) : DV := .tup [.agg [.int .i64 0, .int .i64 0, .nil], .int .i64 e]
theorem wk_mat {drops : List Nat} {x : MX} : Wk drops (outX x) (outX x) :=
  Wk.tupL (.cons (Wk.aggL (.cons .int (.cons .int (.cons .freshL .nil)))) (.cons .int .nil))
theorem wk_no {drops : List Nat} {e : Int} : Wk drops (nilX e) (outX (noX e)) :=
  Wk.tupL (.cons (Wk.aggL (.cons .int (.cons .int (.cons (.nil _ _) .nil)))) (.cons .int .nil))

theorem matrix.Zeros.known : Known Try.prog 10 matrix.Zeros.spec := matrix.Zeros.known_of (.cons matrix.of.Zeros.known (.cons matrix.size.known .nil)) fun a b _ => by
  show ∃ N dv drops, _ = some dv ∧ Wk drops dv (outX (zerosX a b))
  unfold zerosX
  by_cases h : (sizeB a && sizeB b) = true
  · obtain ⟨h1, h2⟩ := and_true_iff.1 h
    rw [if_pos h]
    exact ⟨0, _, [], by rw [matrix.Zeros.ev, h1, h2]; rfl, wk_mat⟩
  · have e : ((!(sizeB a)) || (!(sizeB b))) = true := by
      cases h1 : sizeB a <;> cases h2 : sizeB b <;> simp_all
    rw [if_neg h]
    exact ⟨0, _, [], by rw [matrix.Zeros.ev, e]; rfl, wk_no⟩

theorem matrix.Eye.known : Known Try.prog 11 matrix.Eye.spec := matrix.Eye.known_of (.cons matrix.of.Eye.known (.cons matrix.size.known .nil)) fun n _ => by
  show ∃ N dv drops, _ = some dv ∧ Wk drops dv (outX (eyeX n))
  unfold eyeX
  by_cases h : sizeB n = true
  · rw [if_pos h]
    exact ⟨0, _, [], by rw [matrix.Eye.ev, h]; rfl, wk_mat⟩
  · have e : sizeB n = false := by simpa using h
    rw [if_neg h]
    exact ⟨0, _, [], by rw [matrix.Eye.ev, e]; rfl, wk_no⟩

theorem right_sizes {r c : Int} {l : List Int} (h : rightB r c l = true) : sizeB r = true ∧ sizeB c = true := by
  obtain ⟨h1, h2, _⟩ := right_iff.1 h
  exact ⟨size_iff.2 h1, size_iff.2 h2⟩

theorem matrix.Turn.known : Known Try.prog 17 matrix.Turn.spec := matrix.Turn.known_of (.cons matrix.Check.known (.cons matrix.of.Turn.known .nil)) fun r c l _ => by
  show ∃ N dv drops, _ = some dv ∧ Wk drops dv (outX (turnX r c l))
  unfold turnX
  by_cases h : rightB r c l = true
  · obtain ⟨h1, h2⟩ := right_sizes h
    rw [if_pos h]
    exact ⟨0, _, [], by rw [matrix.Turn.ev, chk_ne, h, h1, h2, decide_eq_true ⟨rfl, rfl⟩]; rfl, wk_mat⟩
  · have e : rightB r c l = false := by simpa using h
    have ec : chkI r c l = 1 := by unfold chkI; rw [e]; rfl
    rw [if_neg h]
    exact ⟨0, _, [], by rw [matrix.Turn.ev, chk_ne, e, ec]; rfl, wk_no⟩

theorem part_code {r c x y a b : Int} (hr : 0 ≤ r ∧ r ≤ 6) (hc : 0 ≤ c ∧ c ≤ 6) :
    ((((((((ltI x (0 : Int)) || (ltI y (0 : Int))) || (ltI a (0 : Int))) || (ltI b (0 : Int))) || (ltI r x)) || (ltI c y)) || (ltI (w_i64 (r - x)) a)) || (ltI (w_i64 (c - y)) b)) = !(partB r c x y a b) := by
  unfold partB
  simp only [ltI_eq]
  by_cases h : 0 ≤ x ∧ 0 ≤ y ∧ x ≤ r ∧ y ≤ c
  · rw [w_i64_in (x := r - x) (by omega) (by omega), w_i64_in (x := c - y) (by omega) (by omega), Bool.eq_iff_iff]
    simp only [Bool.or_eq_true, decide_eq_true_eq, Bool.not_eq_true', decide_eq_false_iff_not]
    omega
  · have e : decide (0 ≤ x ∧ 0 ≤ y ∧ 0 ≤ a ∧ 0 ≤ b ∧ x ≤ r ∧ y ≤ c ∧ a ≤ r - x ∧ b ≤ c - y) = false := decide_eq_false (by omega)
    rw [e, Bool.eq_iff_iff]
    simp only [Bool.or_eq_true, decide_eq_true_eq, Bool.not_false, iff_true]
    omega

theorem part_sizes {r c x y a b : Int} {l : List Int} (h : rightB r c l = true) (hp : partB r c x y a b = true) : sizeB a = true ∧ sizeB b = true := by
  obtain ⟨h1, h2, _⟩ := right_iff.1 h
  have := of_decide_eq_true hp
  exact ⟨size_iff.2 (by omega), size_iff.2 (by omega)⟩

theorem matrix.Part.known : Known Try.prog 25 matrix.Part.spec := matrix.Part.known_of (.cons matrix.Check.known (.cons matrix.of.Part.known .nil)) fun r c l x y a b _ => by
  show ∃ N dv drops, _ = some dv ∧ Wk drops dv (outX (partX r c l x y a b))
  unfold partX
  by_cases h : rightB r c l = true
  · obtain ⟨h1, h2, _⟩ := right_iff.1 h
    by_cases hp : partB r c x y a b = true
    · obtain ⟨s1, s2⟩ := part_sizes h hp
      rw [if_pos h, if_pos hp]
      exact ⟨0, _, [], by rw [matrix.Part.ev, chk_ne, part_code h1 h2, h, hp, s1, s2]; rfl, wk_mat⟩
    · have e : partB r c x y a b = false := by simpa using hp
      rw [if_pos h, if_neg hp]
      exact ⟨0, _, [], by rw [matrix.Part.ev, chk_ne, part_code h1 h2, h, e]; rfl, wk_no⟩
  · have e : rightB r c l = false := by simpa using h
    have ec : chkI r c l = 1 := by unfold chkI; rw [e]; rfl
    rw [if_neg h]
    exact ⟨0, _, [], by rw [matrix.Part.ev, chk_ne, e, ec]; rfl, wk_no⟩

theorem two_ne (r c : Int) (l : List Int) (p q : Int) (m : List Int) : ((twoI r c l p q m) != (0 : Int)) = !(rightB r c l && rightB p q m) := by
  unfold twoI
  cases rightB r c l && rightB p q m <;> rfl
theorem two_no {r c : Int} {l : List Int} {p q : Int} {m : List Int} (h : (rightB r c l && rightB p q m) = false) : twoI r c l p q m = 1 := by
  unfold twoI; rw [h]; rfl

theorem matrix.Mul.known : Known Try.prog 19 matrix.Mul.spec := matrix.Mul.known_of (.cons matrix.of.Mul.known (.cons matrix.two.known .nil)) fun r c l p q m hp => by
  show ∃ N dv drops, _ = some dv ∧ Wk drops dv (outX (mulX r c l p q m))
  unfold mulX
  have hp : (allU64 l && allU64 m) = true := hp
  by_cases h : (rightB r c l && rightB p q m) = true
  · obtain ⟨h1, h2⟩ := and_true_iff.1 h
    by_cases hc : c = p
    · have e : (c != p) = false := by rw [hc]; simp
      rw [if_pos h, if_pos hc]
      exact ⟨0, _, [], by rw [matrix.Mul.ev, two_ne, h, e, (right_sizes h1).1, (right_sizes h2).2, hp, decide_eq_true ⟨rfl, rfl, hc⟩]; rfl, wk_mat⟩
    · have e : (c != p) = true := by simpa using hc
      rw [if_pos h, if_neg hc]
      exact ⟨0, _, [], by rw [matrix.Mul.ev, two_ne, h, e]; rfl, wk_no⟩
  · have e : (rightB r c l && rightB p q m) = false := by simpa using h
    rw [if_neg h]
    exact ⟨0, _, [], by rw [matrix.Mul.ev, two_ne, e, two_no e]; rfl, wk_no⟩

theorem matrix.Stack.known : Known Try.prog 33 matrix.Stack.spec := matrix.Stack.known_of (.cons matrix.of.Stack.known (.cons matrix.two.known .nil)) fun r c l p q m _ => by
  show ∃ N dv drops, _ = some dv ∧ Wk drops dv (outX (stackX r c l p q m))
  unfold stackX
  by_cases h : (rightB r c l && rightB p q m) = true
  · obtain ⟨h1, h2⟩ := and_true_iff.1 h
    obtain ⟨r1, c1, _⟩ := right_iff.1 h1
    obtain ⟨p1, q1, _⟩ := right_iff.1 h2
    have ew : w_i64 (r + p) = r + p := w_i64_in (by omega) (by omega)
    by_cases hc : c = q ∧ r + p ≤ 6
    · have e : ((c != q) || (ltI (6 : Int) (r + p))) = false := by rw [ltI_eq, hc.1]; simp; omega
      rw [if_pos h, if_pos hc]
      exact ⟨0, _, [], by rw [matrix.Stack.ev, ew, two_ne, h, e, (right_sizes h1).2, size_iff.2 (show 0 ≤ r + p ∧ r + p ≤ 6 by omega), decide_eq_true ⟨rfl, rfl, hc.1.symm⟩]; rfl, wk_mat⟩
    · have e : ((c != q) || (ltI (6 : Int) (r + p))) = true := by rw [ltI_eq]; simp; omega
      rw [if_pos h, if_neg hc]
      exact ⟨0, _, [], by rw [matrix.Stack.ev, ew, two_ne, h, e]; rfl, wk_no⟩
  · have e : (rightB r c l && rightB p q m) = false := by simpa using h
    rw [if_neg h]
    exact ⟨0, _, [], by rw [matrix.Stack.ev, two_ne, e, two_no e]; rfl, wk_no⟩

theorem matrix.Beside.known : Known Try.prog 34 matrix.Beside.spec := matrix.Beside.known_of (.cons matrix.of.Beside.known (.cons matrix.two.known .nil)) fun r c l p q m _ => by
  show ∃ N dv drops, _ = some dv ∧ Wk drops dv (outX (besideX r c l p q m))
  unfold besideX
  by_cases h : (rightB r c l && rightB p q m) = true
  · obtain ⟨h1, h2⟩ := and_true_iff.1 h
    obtain ⟨r1, c1, _⟩ := right_iff.1 h1
    obtain ⟨p1, q1, _⟩ := right_iff.1 h2
    have ew : w_i64 (c + q) = c + q := w_i64_in (by omega) (by omega)
    by_cases hc : r = p ∧ c + q ≤ 6
    · have e : ((r != p) || (ltI (6 : Int) (c + q))) = false := by rw [ltI_eq, hc.1]; simp; omega
      rw [if_pos h, if_pos hc]
      exact ⟨0, _, [], by rw [matrix.Beside.ev, ew, two_ne, h, e, (right_sizes h1).1, size_iff.2 (show 0 ≤ c + q ∧ c + q ≤ 6 by omega), decide_eq_true ⟨rfl, rfl, hc.1.symm⟩]; rfl, wk_mat⟩
    · have e : ((r != p) || (ltI (6 : Int) (c + q))) = true := by rw [ltI_eq]; simp; omega
      rw [if_pos h, if_neg hc]
      exact ⟨0, _, [], by rw [matrix.Beside.ev, ew, two_ne, h, e]; rfl, wk_no⟩
  · have e : (rightB r c l && rightB p q m) = false := by simpa using h
    rw [if_neg h]
    exact ⟨0, _, [], by rw [matrix.Beside.ev, two_ne, e, two_no e]; rfl, wk_no⟩

end Go.Proofs.S1
