/- LawK of the verified evaluator and its use for this seat (of my texts S1EqLaw10K, S1PLaw10K). -/
import Derived.Test.YtakfdnpjnbopbaaSpe
import Derived.Test.YtakfdnpjnbopbaaLawP

/- The evaluator's equations: dioptraref10.Stack, dioptraref10.Beside, dioptralaw10.MatrixStacks. Printed by denpy.py. -/
namespace Go.Proofs.S1
open Go Go.Den Go.Rnd Go.Proofs
set_option linter.unusedVariables false
set_option maxRecDepth 100000
namespace EqLaw10K
theorem tt0 (a : Bool) : (a && true) = a := by cases a <;> rfl
theorem tt1 (a b : Bool) : (((!(bif a then b else false)) || ((bif a then b else false) == true)) && true) = true := by cases a <;> cases b <;> rfl
theorem tt2 (a b : Bool) : ((!((bif a then b else false) == true)) || true) = true := by cases a <;> cases b <;> rfl
theorem tt3 (a : Bool) : (((!a) || (a == true)) && true) = true := by cases a <;> rfl
theorem tt4 (a b : Bool) : ((!(a == true)) || ((((!(a == true)) || (a == true)) && (((!(a == true)) || (a == true)) && (((!(a == true)) || (a == true)) && true))) && b)) = ((!a) || b) := by cases a <;> cases b <;> rfl
theorem tt5 (a : Bool) : ((!(a == true)) || true) = true := by cases a <;> rfl
theorem tt6 (a b : Bool) : ((!(a == true)) || ((((!(a == true)) || (a == true)) && (((!(a == true)) || (a == true)) && (((!(a == true)) || (a == true)) && (((!(a == true)) || (a == true)) && true)))) && b)) = ((!a) || b) := by cases a <;> cases b <;> rfl
theorem tt7 (a b : Bool) : (bif a then b else false) = (a && b) := by cases a <;> cases b <;> rfl
theorem tt8 (a : Bool) : ((!(a == true)) || ((((!(a == true)) || (a == true)) && true) && true)) = true := by cases a <;> rfl
theorem tt9 (a : Bool) : ((!(a == true)) || ((((!(a == true)) || (a == true)) && (((!(a == true)) || (a == true)) && true)) && true)) = true := by cases a <;> rfl
noncomputable def ref10.Stack.tab : List (Nat × Entry) := []
noncomputable def ref10.Stack.E : Env := envOf (tabOf ref10.Stack.tab) (fun _ => false) (fun _ => none) (fun _ => none)
theorem ref10.Stack.ev (N : Nat) (r : Int) (c : Int) (l : List Int) (p : Int) (q : Int) (m : List Int) : funD ref10.Stack.E N Try.f35 (bodyOf Try.f35) [.agg [.int .i64 r, .int .i64 c, .ints .arg .u64 l], .agg [.int .i64 p, .int .i64 q, .ints .arg .u64 m]] =
  bif (decide (0 + (List.length l) ≤ lim)) then
    bif (decide ((List.length ([] ++ l)) + (List.length m) ≤ lim)) then
      some (.agg [.int .i64 (w_i64 (r + p)), .int .i64 c, .ints (.own 20 39) .u64 (([] ++ l) ++ m)])
    else none
  else none :=
  Eq.trans (b := bif (decide (0 + (List.length l) ≤ lim)) then
    bif ((decide ((List.length ([] ++ l)) + (List.length m) ≤ lim)) && true) then
      some (.agg [.int .i64 (w_i64 (r + p)), .int .i64 c, .ints (.own 20 39) .u64 (([] ++ l) ++ m)])
    else none
  else none) (by kernel_rfl)
  (ifE (ifS (tt0 _) rfl rfl) rfl)
theorem ref10.Stack.known_of (hk : Knowns Try.prog ref10.Stack.tab) (h : ∀ (r : Int) (c : Int) (l : List Int) (p : Int) (q : Int) (m : List Int), ref10.Stack.pre [.i r, .i c, .l l, .i p, .i q, .l m] = true → ∃ N dv drops, funD ref10.Stack.E N Try.f35 (bodyOf Try.f35) [.agg [.int .i64 r, .int .i64 c, .ints .arg .u64 l], .agg [.int .i64 p, .int .i64 q, .ints .arg .u64 m]] = some dv ∧ Wk drops dv (ref10.Stack.out [.i r, .i c, .l l, .i p, .i q, .l m])) : Known Try.prog 35 ref10.Stack.spec := by
  refine ⟨meets_entry (E := ref10.Stack.E) (env_ok hk _ _ _) Try.func35 (show Try.f35.body = some (bodyOf Try.f35) by kernel_rfl) fun ats dvs he hp => ?_, call_enter Try.func35 (by kernel_rfl) (show Try.f35.body = some (bodyOf Try.f35) by kernel_rfl)⟩
  obtain ⟨_, _, _, _, rfl, rfl, hs0, he0⟩ := he.st_inv
  obtain ⟨r, _, _, rfl, rfl, he1⟩ := hs0.i_inv
  obtain ⟨c, _, _, rfl, rfl, he2⟩ := he1.i_inv
  obtain ⟨l, _, _, rfl, rfl, he3⟩ := he2.s_inv
  obtain ⟨rfl, rfl⟩ := he3.nil_inv
  obtain ⟨_, _, _, _, rfl, rfl, hs4, he4⟩ := he0.st_inv
  obtain ⟨p, _, _, rfl, rfl, he5⟩ := hs4.i_inv
  obtain ⟨q, _, _, rfl, rfl, he6⟩ := he5.i_inv
  obtain ⟨m, _, _, rfl, rfl, he7⟩ := he6.s_inv
  obtain ⟨rfl, rfl⟩ := he7.nil_inv
  obtain ⟨rfl, rfl⟩ := he4.nil_inv
  exact h r c l p q m hp

noncomputable def ref10.Beside.tab : List (Nat × Entry) := [(35, ref10.Stack.spec), (27, ref10.Turn.spec)]
noncomputable def ref10.Beside.E : Env := envOf (tabOf ref10.Beside.tab) (fun _ => false) (fun _ => none) (fun _ => none)
theorem ref10.Beside.ev (N : Nat) (r : Int) (c : Int) (l : List Int) (p : Int) (q : Int) (m : List Int) : funD ref10.Beside.E N Try.f36 (bodyOf Try.f36) [.agg [.int .i64 r, .int .i64 c, .ints .arg .u64 l], .agg [.int .i64 p, .int .i64 q, .ints .arg .u64 m]] =
  bif (rightB r c l) then
    bif (rightB p q m) then
      bif ((rightB c r (grid (Int.toNat c) (Int.toNat r) (fun j1 j2 => atI c l j2 j1)) && rightB q p (grid (Int.toNat q) (Int.toNat p) (fun j1 j2 => atI q m j2 j1))) && decide (p = r)) then
        bif (rightB (c + q) r ((grid (Int.toNat c) (Int.toNat r) (fun j1 j2 => atI c l j2 j1)) ++ (grid (Int.toNat q) (Int.toNat p) (fun j1 j2 => atI q m j2 j1)))) then
          some (.agg [.int .i64 r, .int .i64 (c + q), .ints .fresh .u64 (grid (Int.toNat r) (Int.toNat (c + q)) (fun j1 j2 => atI r ((grid (Int.toNat c) (Int.toNat r) (fun j1 j2 => atI c l j2 j1)) ++ (grid (Int.toNat q) (Int.toNat p) (fun j1 j2 => atI q m j2 j1))) j2 j1))])
        else none
      else none
    else none
  else none :=
  Eq.trans (b := bif ((rightB r c l) && true) then
    bif ((rightB p q m) && true) then
      bif (((rightB c r (grid (Int.toNat c) (Int.toNat r) (fun j1 j2 => atI c l j2 j1)) && rightB q p (grid (Int.toNat q) (Int.toNat p) (fun j1 j2 => atI q m j2 j1))) && decide (p = r)) && true) then
        bif ((rightB (c + q) r ((grid (Int.toNat c) (Int.toNat r) (fun j1 j2 => atI c l j2 j1)) ++ (grid (Int.toNat q) (Int.toNat p) (fun j1 j2 => atI q m j2 j1)))) && true) then
          some (.agg [.int .i64 r, .int .i64 (c + q), .ints .fresh .u64 (grid (Int.toNat r) (Int.toNat (c + q)) (fun j1 j2 => atI r ((grid (Int.toNat c) (Int.toNat r) (fun j1 j2 => atI c l j2 j1)) ++ (grid (Int.toNat q) (Int.toNat p) (fun j1 j2 => atI q m j2 j1))) j2 j1))])
        else none
      else none
    else none
  else none) (by kernel_rfl)
  (ifS (tt0 _) (ifS (tt0 _) (ifS (tt0 _) (ifS (tt0 _) rfl rfl) rfl) rfl) rfl)
theorem ref10.Beside.known_of (hk : Knowns Try.prog ref10.Beside.tab) (h : ∀ (r : Int) (c : Int) (l : List Int) (p : Int) (q : Int) (m : List Int), ref10.Beside.pre [.i r, .i c, .l l, .i p, .i q, .l m] = true → ∃ N dv drops, funD ref10.Beside.E N Try.f36 (bodyOf Try.f36) [.agg [.int .i64 r, .int .i64 c, .ints .arg .u64 l], .agg [.int .i64 p, .int .i64 q, .ints .arg .u64 m]] = some dv ∧ Wk drops dv (ref10.Beside.out [.i r, .i c, .l l, .i p, .i q, .l m])) : Known Try.prog 36 ref10.Beside.spec := by
  refine ⟨meets_entry (E := ref10.Beside.E) (env_ok hk _ _ _) Try.func36 (show Try.f36.body = some (bodyOf Try.f36) by kernel_rfl) fun ats dvs he hp => ?_, call_enter Try.func36 (by kernel_rfl) (show Try.f36.body = some (bodyOf Try.f36) by kernel_rfl)⟩
  obtain ⟨_, _, _, _, rfl, rfl, hs0, he0⟩ := he.st_inv
  obtain ⟨r, _, _, rfl, rfl, he1⟩ := hs0.i_inv
  obtain ⟨c, _, _, rfl, rfl, he2⟩ := he1.i_inv
  obtain ⟨l, _, _, rfl, rfl, he3⟩ := he2.s_inv
  obtain ⟨rfl, rfl⟩ := he3.nil_inv
  obtain ⟨_, _, _, _, rfl, rfl, hs4, he4⟩ := he0.st_inv
  obtain ⟨p, _, _, rfl, rfl, he5⟩ := hs4.i_inv
  obtain ⟨q, _, _, rfl, rfl, he6⟩ := he5.i_inv
  obtain ⟨m, _, _, rfl, rfl, he7⟩ := he6.s_inv
  obtain ⟨rfl, rfl⟩ := he7.nil_inv
  obtain ⟨rfl, rfl⟩ := he4.nil_inv
  exact h r c l p q m hp

noncomputable def law10.MatrixStacks.tab : List (Nat × Entry) := [(14, law10.awake.spec), (16, law10.form.spec), (12, law10.told.spec), (34, matrix.Beside.spec), (33, matrix.Stack.spec), (36, ref10.Beside.spec), (24, ref10.Copy.own.spec), (35, ref10.Stack.spec)]
noncomputable def law10.MatrixStacks.E : Env := envOfS (tabOf law10.MatrixStacks.tab) (fun n => Nat.beq n 16 || Nat.beq n 18) (fun _ => none) (fun _ => none) (spoilOf 26 39)
theorem law10.MatrixStacks.ev (N : Nat) (r : Int) (c : Int) (l : List Int) (p : Int) (q : Int) (m : List Int) : funD law10.MatrixStacks.E N Try.f8 (bodyOf Try.f8) [.agg [.int .i64 r, .int .i64 c, .ints .arg .u64 l], .agg [.int .i64 p, .int .i64 q, .ints .arg .u64 m]] =
  bif (okLen l) then
    bif (okLen m) then
      bif ((twoI r c l p q m) != (0 : Int)) then
        bif (okLen ((stackX r c l p q m).2.2.1)) then
          bif ((!(toldB ((stackX r c l p q m).1) ((stackX r c l p q m).2.1) ((stackX r c l p q m).2.2.1) ((stackX r c l p q m).2.2.2) (0 : Int) (0 : Int) [] (1 : Int))) || (okLen ((besideX r c l p q m).2.2.1))) then
            some (.bool (bif (bif (toldB ((stackX r c l p q m).1) ((stackX r c l p q m).2.1) ((stackX r c l p q m).2.2.1) ((stackX r c l p q m).2.2.2) (0 : Int) (0 : Int) [] (1 : Int)) then (toldB ((besideX r c l p q m).1) ((besideX r c l p q m).2.1) ((besideX r c l p q m).2.2.1) ((besideX r c l p q m).2.2.2) (0 : Int) (0 : Int) [] (1 : Int)) else false) then true else false))
          else none
        else none
      else bif ((c == q) && (leI (w_i64 (r + p)) (6 : Int))) then
        bif ((rightB r c l && rightB p q m) && decide (q = c)) then
          bif ((r == p) && (leI (w_i64 (c + q)) (6 : Int))) then
            bif ((rightB r c l && rightB p q m) && decide (p = r ∧ c + q ≤ 6)) then
              bif (okLen ((stackX r c l p q m).2.2.1)) then
                bif ((!(toldB ((stackX r c l p q m).1) ((stackX r c l p q m).2.1) ((stackX r c l p q m).2.2.1) ((stackX r c l p q m).2.2.2) (r + p) c (l ++ m) (0 : Int))) || (okLen ((besideX r c l p q m).2.2.1))) then
                  some (.bool (bif (bif (toldB ((stackX r c l p q m).1) ((stackX r c l p q m).2.1) ((stackX r c l p q m).2.2.1) ((stackX r c l p q m).2.2.2) (r + p) c (l ++ m) (0 : Int)) then (toldB ((besideX r c l p q m).1) ((besideX r c l p q m).2.1) ((besideX r c l p q m).2.2.1) ((besideX r c l p q m).2.2.2) r (c + q) (grid (Int.toNat r) (Int.toNat (c + q)) (fun j1 j2 => besideI c l q m j1 j2)) (0 : Int)) else false) then true else false))
                else none
              else none
            else none
          else bif (okLen ((stackX r c l p q m).2.2.1)) then
            bif ((!(toldB ((stackX r c l p q m).1) ((stackX r c l p q m).2.1) ((stackX r c l p q m).2.2.1) ((stackX r c l p q m).2.2.2) (r + p) c (l ++ m) (0 : Int))) || (okLen ((besideX r c l p q m).2.2.1))) then
              some (.bool (bif (bif (toldB ((stackX r c l p q m).1) ((stackX r c l p q m).2.1) ((stackX r c l p q m).2.2.1) ((stackX r c l p q m).2.2.2) (r + p) c (l ++ m) (0 : Int)) then (toldB ((besideX r c l p q m).1) ((besideX r c l p q m).2.1) ((besideX r c l p q m).2.2.1) ((besideX r c l p q m).2.2.2) (0 : Int) (0 : Int) [] (3 : Int)) else false) then true else false))
            else none
          else none
        else none
      else bif ((r == p) && (leI (w_i64 (c + q)) (6 : Int))) then
        bif ((rightB r c l && rightB p q m) && decide (p = r ∧ c + q ≤ 6)) then
          bif (okLen ((stackX r c l p q m).2.2.1)) then
            bif ((!(toldB ((stackX r c l p q m).1) ((stackX r c l p q m).2.1) ((stackX r c l p q m).2.2.1) ((stackX r c l p q m).2.2.2) (0 : Int) (0 : Int) [] (3 : Int))) || (okLen ((besideX r c l p q m).2.2.1))) then
              some (.bool (bif (bif (toldB ((stackX r c l p q m).1) ((stackX r c l p q m).2.1) ((stackX r c l p q m).2.2.1) ((stackX r c l p q m).2.2.2) (0 : Int) (0 : Int) [] (3 : Int)) then (toldB ((besideX r c l p q m).1) ((besideX r c l p q m).2.1) ((besideX r c l p q m).2.2.1) ((besideX r c l p q m).2.2.2) r (c + q) (grid (Int.toNat r) (Int.toNat (c + q)) (fun j1 j2 => besideI c l q m j1 j2)) (0 : Int)) else false) then true else false))
            else none
          else none
        else none
      else bif (okLen ((stackX r c l p q m).2.2.1)) then
        bif ((!(toldB ((stackX r c l p q m).1) ((stackX r c l p q m).2.1) ((stackX r c l p q m).2.2.1) ((stackX r c l p q m).2.2.2) (0 : Int) (0 : Int) [] (3 : Int))) || (okLen ((besideX r c l p q m).2.2.1))) then
          some (.bool (bif (bif (toldB ((stackX r c l p q m).1) ((stackX r c l p q m).2.1) ((stackX r c l p q m).2.2.1) ((stackX r c l p q m).2.2.2) (0 : Int) (0 : Int) [] (3 : Int)) then (toldB ((besideX r c l p q m).1) ((besideX r c l p q m).2.1) ((besideX r c l p q m).2.2.1) ((besideX r c l p q m).2.2.2) (0 : Int) (0 : Int) [] (3 : Int)) else false) then true else false))
        else none
      else none
    else none
  else none :=
  Eq.trans (b := bif (okLen l) then
    bif (okLen m) then
      bif ((twoI r c l p q m) != (0 : Int)) then
        bif (okLen ((stackX r c l p q m).2.2.1)) then
          bif ((!((toldB ((stackX r c l p q m).1) ((stackX r c l p q m).2.1) ((stackX r c l p q m).2.2.1) ((stackX r c l p q m).2.2.2) (0 : Int) (0 : Int) [] (1 : Int)) == true)) || true) then
            bif ((!((toldB ((stackX r c l p q m).1) ((stackX r c l p q m).2.1) ((stackX r c l p q m).2.2.1) ((stackX r c l p q m).2.2.2) (0 : Int) (0 : Int) [] (1 : Int)) == true)) || true) then
              bif ((!((toldB ((stackX r c l p q m).1) ((stackX r c l p q m).2.1) ((stackX r c l p q m).2.2.1) ((stackX r c l p q m).2.2.2) (0 : Int) (0 : Int) [] (1 : Int)) == true)) || true) then
                bif ((!((toldB ((stackX r c l p q m).1) ((stackX r c l p q m).2.1) ((stackX r c l p q m).2.2.1) ((stackX r c l p q m).2.2.2) (0 : Int) (0 : Int) [] (1 : Int)) == true)) || ((((!((toldB ((stackX r c l p q m).1) ((stackX r c l p q m).2.1) ((stackX r c l p q m).2.2.1) ((stackX r c l p q m).2.2.2) (0 : Int) (0 : Int) [] (1 : Int)) == true)) || ((toldB ((stackX r c l p q m).1) ((stackX r c l p q m).2.1) ((stackX r c l p q m).2.2.1) ((stackX r c l p q m).2.2.2) (0 : Int) (0 : Int) [] (1 : Int)) == true)) && (((!((toldB ((stackX r c l p q m).1) ((stackX r c l p q m).2.1) ((stackX r c l p q m).2.2.1) ((stackX r c l p q m).2.2.2) (0 : Int) (0 : Int) [] (1 : Int)) == true)) || ((toldB ((stackX r c l p q m).1) ((stackX r c l p q m).2.1) ((stackX r c l p q m).2.2.1) ((stackX r c l p q m).2.2.2) (0 : Int) (0 : Int) [] (1 : Int)) == true)) && (((!((toldB ((stackX r c l p q m).1) ((stackX r c l p q m).2.1) ((stackX r c l p q m).2.2.1) ((stackX r c l p q m).2.2.2) (0 : Int) (0 : Int) [] (1 : Int)) == true)) || ((toldB ((stackX r c l p q m).1) ((stackX r c l p q m).2.1) ((stackX r c l p q m).2.2.1) ((stackX r c l p q m).2.2.2) (0 : Int) (0 : Int) [] (1 : Int)) == true)) && true))) && (okLen ((besideX r c l p q m).2.2.1)))) then
                  bif (((!(toldB ((stackX r c l p q m).1) ((stackX r c l p q m).2.1) ((stackX r c l p q m).2.2.1) ((stackX r c l p q m).2.2.2) (0 : Int) (0 : Int) [] (1 : Int))) || ((toldB ((stackX r c l p q m).1) ((stackX r c l p q m).2.1) ((stackX r c l p q m).2.2.1) ((stackX r c l p q m).2.2.2) (0 : Int) (0 : Int) [] (1 : Int)) == true)) && true) then
                    bif ((!((bif (toldB ((stackX r c l p q m).1) ((stackX r c l p q m).2.1) ((stackX r c l p q m).2.2.1) ((stackX r c l p q m).2.2.2) (0 : Int) (0 : Int) [] (1 : Int)) then (toldB ((besideX r c l p q m).1) ((besideX r c l p q m).2.1) ((besideX r c l p q m).2.2.1) ((besideX r c l p q m).2.2.2) (0 : Int) (0 : Int) [] (1 : Int)) else false) == true)) || true) then
                      bif (((!(bif (toldB ((stackX r c l p q m).1) ((stackX r c l p q m).2.1) ((stackX r c l p q m).2.2.1) ((stackX r c l p q m).2.2.2) (0 : Int) (0 : Int) [] (1 : Int)) then (toldB ((besideX r c l p q m).1) ((besideX r c l p q m).2.1) ((besideX r c l p q m).2.2.1) ((besideX r c l p q m).2.2.2) (0 : Int) (0 : Int) [] (1 : Int)) else false)) || ((bif (toldB ((stackX r c l p q m).1) ((stackX r c l p q m).2.1) ((stackX r c l p q m).2.2.1) ((stackX r c l p q m).2.2.2) (0 : Int) (0 : Int) [] (1 : Int)) then (toldB ((besideX r c l p q m).1) ((besideX r c l p q m).2.1) ((besideX r c l p q m).2.2.1) ((besideX r c l p q m).2.2.2) (0 : Int) (0 : Int) [] (1 : Int)) else false) == true)) && true) then
                        some (.bool (bif (bif (toldB ((stackX r c l p q m).1) ((stackX r c l p q m).2.1) ((stackX r c l p q m).2.2.1) ((stackX r c l p q m).2.2.2) (0 : Int) (0 : Int) [] (1 : Int)) then (toldB ((besideX r c l p q m).1) ((besideX r c l p q m).2.1) ((besideX r c l p q m).2.2.1) ((besideX r c l p q m).2.2.2) (0 : Int) (0 : Int) [] (1 : Int)) else false) then true else false))
                      else none
                    else none
                  else none
                else none
              else none
            else none
          else none
        else none
      else bif ((!((c == q) == true)) || true) then
        bif ((!((c == q) == true)) || ((((!((c == q) == true)) || ((c == q) == true)) && true) && true)) then
          bif ((!((c == q) == true)) || true) then
            bif ((!((c == q) == true)) || ((((!((c == q) == true)) || ((c == q) == true)) && true) && true)) then
              bif ((!((c == q) == true)) || ((((!((c == q) == true)) || ((c == q) == true)) && (((!((c == q) == true)) || ((c == q) == true)) && true)) && true)) then
                bif ((!((c == q) == true)) || ((((!((c == q) == true)) || ((c == q) == true)) && true) && true)) then
                  bif (((!(c == q)) || ((c == q) == true)) && true) then
                    bif (bif (c == q) then (leI (w_i64 (r + p)) (6 : Int)) else false) then
                      bif ((rightB r c l && rightB p q m) && decide (q = c)) then
                        bif ((!((r == p) == true)) || true) then
                          bif ((!((r == p) == true)) || ((((!((r == p) == true)) || ((r == p) == true)) && true) && true)) then
                            bif ((!((r == p) == true)) || true) then
                              bif ((!((r == p) == true)) || ((((!((r == p) == true)) || ((r == p) == true)) && true) && true)) then
                                bif ((!((r == p) == true)) || ((((!((r == p) == true)) || ((r == p) == true)) && (((!((r == p) == true)) || ((r == p) == true)) && true)) && true)) then
                                  bif ((!((r == p) == true)) || ((((!((r == p) == true)) || ((r == p) == true)) && true) && true)) then
                                    bif (((!(r == p)) || ((r == p) == true)) && true) then
                                      bif (bif (r == p) then (leI (w_i64 (c + q)) (6 : Int)) else false) then
                                        bif ((rightB r c l && rightB p q m) && decide (p = r ∧ c + q ≤ 6)) then
                                          bif (okLen ((stackX r c l p q m).2.2.1)) then
                                            bif ((!((toldB ((stackX r c l p q m).1) ((stackX r c l p q m).2.1) ((stackX r c l p q m).2.2.1) ((stackX r c l p q m).2.2.2) (r + p) c (l ++ m) (0 : Int)) == true)) || true) then
                                              bif ((!((toldB ((stackX r c l p q m).1) ((stackX r c l p q m).2.1) ((stackX r c l p q m).2.2.1) ((stackX r c l p q m).2.2.2) (r + p) c (l ++ m) (0 : Int)) == true)) || true) then
                                                bif ((!((toldB ((stackX r c l p q m).1) ((stackX r c l p q m).2.1) ((stackX r c l p q m).2.2.1) ((stackX r c l p q m).2.2.2) (r + p) c (l ++ m) (0 : Int)) == true)) || true) then
                                                  bif ((!((toldB ((stackX r c l p q m).1) ((stackX r c l p q m).2.1) ((stackX r c l p q m).2.2.1) ((stackX r c l p q m).2.2.2) (r + p) c (l ++ m) (0 : Int)) == true)) || true) then
                                                    bif ((!((toldB ((stackX r c l p q m).1) ((stackX r c l p q m).2.1) ((stackX r c l p q m).2.2.1) ((stackX r c l p q m).2.2.2) (r + p) c (l ++ m) (0 : Int)) == true)) || ((((!((toldB ((stackX r c l p q m).1) ((stackX r c l p q m).2.1) ((stackX r c l p q m).2.2.1) ((stackX r c l p q m).2.2.2) (r + p) c (l ++ m) (0 : Int)) == true)) || ((toldB ((stackX r c l p q m).1) ((stackX r c l p q m).2.1) ((stackX r c l p q m).2.2.1) ((stackX r c l p q m).2.2.2) (r + p) c (l ++ m) (0 : Int)) == true)) && (((!((toldB ((stackX r c l p q m).1) ((stackX r c l p q m).2.1) ((stackX r c l p q m).2.2.1) ((stackX r c l p q m).2.2.2) (r + p) c (l ++ m) (0 : Int)) == true)) || ((toldB ((stackX r c l p q m).1) ((stackX r c l p q m).2.1) ((stackX r c l p q m).2.2.1) ((stackX r c l p q m).2.2.2) (r + p) c (l ++ m) (0 : Int)) == true)) && (((!((toldB ((stackX r c l p q m).1) ((stackX r c l p q m).2.1) ((stackX r c l p q m).2.2.1) ((stackX r c l p q m).2.2.2) (r + p) c (l ++ m) (0 : Int)) == true)) || ((toldB ((stackX r c l p q m).1) ((stackX r c l p q m).2.1) ((stackX r c l p q m).2.2.1) ((stackX r c l p q m).2.2.2) (r + p) c (l ++ m) (0 : Int)) == true)) && (((!((toldB ((stackX r c l p q m).1) ((stackX r c l p q m).2.1) ((stackX r c l p q m).2.2.1) ((stackX r c l p q m).2.2.2) (r + p) c (l ++ m) (0 : Int)) == true)) || ((toldB ((stackX r c l p q m).1) ((stackX r c l p q m).2.1) ((stackX r c l p q m).2.2.1) ((stackX r c l p q m).2.2.2) (r + p) c (l ++ m) (0 : Int)) == true)) && true)))) && (okLen ((besideX r c l p q m).2.2.1)))) then
                                                      bif (((!(toldB ((stackX r c l p q m).1) ((stackX r c l p q m).2.1) ((stackX r c l p q m).2.2.1) ((stackX r c l p q m).2.2.2) (r + p) c (l ++ m) (0 : Int))) || ((toldB ((stackX r c l p q m).1) ((stackX r c l p q m).2.1) ((stackX r c l p q m).2.2.1) ((stackX r c l p q m).2.2.2) (r + p) c (l ++ m) (0 : Int)) == true)) && true) then
                                                        bif ((!((bif (toldB ((stackX r c l p q m).1) ((stackX r c l p q m).2.1) ((stackX r c l p q m).2.2.1) ((stackX r c l p q m).2.2.2) (r + p) c (l ++ m) (0 : Int)) then (toldB ((besideX r c l p q m).1) ((besideX r c l p q m).2.1) ((besideX r c l p q m).2.2.1) ((besideX r c l p q m).2.2.2) r (c + q) (grid (Int.toNat r) (Int.toNat (c + q)) (fun j1 j2 => besideI c l q m j1 j2)) (0 : Int)) else false) == true)) || true) then
                                                          bif (((!(bif (toldB ((stackX r c l p q m).1) ((stackX r c l p q m).2.1) ((stackX r c l p q m).2.2.1) ((stackX r c l p q m).2.2.2) (r + p) c (l ++ m) (0 : Int)) then (toldB ((besideX r c l p q m).1) ((besideX r c l p q m).2.1) ((besideX r c l p q m).2.2.1) ((besideX r c l p q m).2.2.2) r (c + q) (grid (Int.toNat r) (Int.toNat (c + q)) (fun j1 j2 => besideI c l q m j1 j2)) (0 : Int)) else false)) || ((bif (toldB ((stackX r c l p q m).1) ((stackX r c l p q m).2.1) ((stackX r c l p q m).2.2.1) ((stackX r c l p q m).2.2.2) (r + p) c (l ++ m) (0 : Int)) then (toldB ((besideX r c l p q m).1) ((besideX r c l p q m).2.1) ((besideX r c l p q m).2.2.1) ((besideX r c l p q m).2.2.2) r (c + q) (grid (Int.toNat r) (Int.toNat (c + q)) (fun j1 j2 => besideI c l q m j1 j2)) (0 : Int)) else false) == true)) && true) then
                                                            some (.bool (bif (bif (toldB ((stackX r c l p q m).1) ((stackX r c l p q m).2.1) ((stackX r c l p q m).2.2.1) ((stackX r c l p q m).2.2.2) (r + p) c (l ++ m) (0 : Int)) then (toldB ((besideX r c l p q m).1) ((besideX r c l p q m).2.1) ((besideX r c l p q m).2.2.1) ((besideX r c l p q m).2.2.2) r (c + q) (grid (Int.toNat r) (Int.toNat (c + q)) (fun j1 j2 => besideI c l q m j1 j2)) (0 : Int)) else false) then true else false))
                                                          else none
                                                        else none
                                                      else none
                                                    else none
                                                  else none
                                                else none
                                              else none
                                            else none
                                          else none
                                        else none
                                      else bif (okLen ((stackX r c l p q m).2.2.1)) then
                                        bif ((!((toldB ((stackX r c l p q m).1) ((stackX r c l p q m).2.1) ((stackX r c l p q m).2.2.1) ((stackX r c l p q m).2.2.2) (r + p) c (l ++ m) (0 : Int)) == true)) || true) then
                                          bif ((!((toldB ((stackX r c l p q m).1) ((stackX r c l p q m).2.1) ((stackX r c l p q m).2.2.1) ((stackX r c l p q m).2.2.2) (r + p) c (l ++ m) (0 : Int)) == true)) || true) then
                                            bif ((!((toldB ((stackX r c l p q m).1) ((stackX r c l p q m).2.1) ((stackX r c l p q m).2.2.1) ((stackX r c l p q m).2.2.2) (r + p) c (l ++ m) (0 : Int)) == true)) || true) then
                                              bif ((!((toldB ((stackX r c l p q m).1) ((stackX r c l p q m).2.1) ((stackX r c l p q m).2.2.1) ((stackX r c l p q m).2.2.2) (r + p) c (l ++ m) (0 : Int)) == true)) || true) then
                                                bif ((!((toldB ((stackX r c l p q m).1) ((stackX r c l p q m).2.1) ((stackX r c l p q m).2.2.1) ((stackX r c l p q m).2.2.2) (r + p) c (l ++ m) (0 : Int)) == true)) || ((((!((toldB ((stackX r c l p q m).1) ((stackX r c l p q m).2.1) ((stackX r c l p q m).2.2.1) ((stackX r c l p q m).2.2.2) (r + p) c (l ++ m) (0 : Int)) == true)) || ((toldB ((stackX r c l p q m).1) ((stackX r c l p q m).2.1) ((stackX r c l p q m).2.2.1) ((stackX r c l p q m).2.2.2) (r + p) c (l ++ m) (0 : Int)) == true)) && (((!((toldB ((stackX r c l p q m).1) ((stackX r c l p q m).2.1) ((stackX r c l p q m).2.2.1) ((stackX r c l p q m).2.2.2) (r + p) c (l ++ m) (0 : Int)) == true)) || ((toldB ((stackX r c l p q m).1) ((stackX r c l p q m).2.1) ((stackX r c l p q m).2.2.1) ((stackX r c l p q m).2.2.2) (r + p) c (l ++ m) (0 : Int)) == true)) && (((!((toldB ((stackX r c l p q m).1) ((stackX r c l p q m).2.1) ((stackX r c l p q m).2.2.1) ((stackX r c l p q m).2.2.2) (r + p) c (l ++ m) (0 : Int)) == true)) || ((toldB ((stackX r c l p q m).1) ((stackX r c l p q m).2.1) ((stackX r c l p q m).2.2.1) ((stackX r c l p q m).2.2.2) (r + p) c (l ++ m) (0 : Int)) == true)) && (((!((toldB ((stackX r c l p q m).1) ((stackX r c l p q m).2.1) ((stackX r c l p q m).2.2.1) ((stackX r c l p q m).2.2.2) (r + p) c (l ++ m) (0 : Int)) == true)) || ((toldB ((stackX r c l p q m).1) ((stackX r c l p q m).2.1) ((stackX r c l p q m).2.2.1) ((stackX r c l p q m).2.2.2) (r + p) c (l ++ m) (0 : Int)) == true)) && true)))) && (okLen ((besideX r c l p q m).2.2.1)))) then
                                                  bif (((!(toldB ((stackX r c l p q m).1) ((stackX r c l p q m).2.1) ((stackX r c l p q m).2.2.1) ((stackX r c l p q m).2.2.2) (r + p) c (l ++ m) (0 : Int))) || ((toldB ((stackX r c l p q m).1) ((stackX r c l p q m).2.1) ((stackX r c l p q m).2.2.1) ((stackX r c l p q m).2.2.2) (r + p) c (l ++ m) (0 : Int)) == true)) && true) then
                                                    bif ((!((bif (toldB ((stackX r c l p q m).1) ((stackX r c l p q m).2.1) ((stackX r c l p q m).2.2.1) ((stackX r c l p q m).2.2.2) (r + p) c (l ++ m) (0 : Int)) then (toldB ((besideX r c l p q m).1) ((besideX r c l p q m).2.1) ((besideX r c l p q m).2.2.1) ((besideX r c l p q m).2.2.2) (0 : Int) (0 : Int) [] (3 : Int)) else false) == true)) || true) then
                                                      bif (((!(bif (toldB ((stackX r c l p q m).1) ((stackX r c l p q m).2.1) ((stackX r c l p q m).2.2.1) ((stackX r c l p q m).2.2.2) (r + p) c (l ++ m) (0 : Int)) then (toldB ((besideX r c l p q m).1) ((besideX r c l p q m).2.1) ((besideX r c l p q m).2.2.1) ((besideX r c l p q m).2.2.2) (0 : Int) (0 : Int) [] (3 : Int)) else false)) || ((bif (toldB ((stackX r c l p q m).1) ((stackX r c l p q m).2.1) ((stackX r c l p q m).2.2.1) ((stackX r c l p q m).2.2.2) (r + p) c (l ++ m) (0 : Int)) then (toldB ((besideX r c l p q m).1) ((besideX r c l p q m).2.1) ((besideX r c l p q m).2.2.1) ((besideX r c l p q m).2.2.2) (0 : Int) (0 : Int) [] (3 : Int)) else false) == true)) && true) then
                                                        some (.bool (bif (bif (toldB ((stackX r c l p q m).1) ((stackX r c l p q m).2.1) ((stackX r c l p q m).2.2.1) ((stackX r c l p q m).2.2.2) (r + p) c (l ++ m) (0 : Int)) then (toldB ((besideX r c l p q m).1) ((besideX r c l p q m).2.1) ((besideX r c l p q m).2.2.1) ((besideX r c l p q m).2.2.2) (0 : Int) (0 : Int) [] (3 : Int)) else false) then true else false))
                                                      else none
                                                    else none
                                                  else none
                                                else none
                                              else none
                                            else none
                                          else none
                                        else none
                                      else none
                                    else none
                                  else none
                                else none
                              else none
                            else none
                          else none
                        else none
                      else none
                    else bif ((!((r == p) == true)) || true) then
                      bif ((!((r == p) == true)) || ((((!((r == p) == true)) || ((r == p) == true)) && true) && true)) then
                        bif ((!((r == p) == true)) || true) then
                          bif ((!((r == p) == true)) || ((((!((r == p) == true)) || ((r == p) == true)) && true) && true)) then
                            bif ((!((r == p) == true)) || ((((!((r == p) == true)) || ((r == p) == true)) && (((!((r == p) == true)) || ((r == p) == true)) && true)) && true)) then
                              bif ((!((r == p) == true)) || ((((!((r == p) == true)) || ((r == p) == true)) && true) && true)) then
                                bif (((!(r == p)) || ((r == p) == true)) && true) then
                                  bif (bif (r == p) then (leI (w_i64 (c + q)) (6 : Int)) else false) then
                                    bif ((rightB r c l && rightB p q m) && decide (p = r ∧ c + q ≤ 6)) then
                                      bif (okLen ((stackX r c l p q m).2.2.1)) then
                                        bif ((!((toldB ((stackX r c l p q m).1) ((stackX r c l p q m).2.1) ((stackX r c l p q m).2.2.1) ((stackX r c l p q m).2.2.2) (0 : Int) (0 : Int) [] (3 : Int)) == true)) || true) then
                                          bif ((!((toldB ((stackX r c l p q m).1) ((stackX r c l p q m).2.1) ((stackX r c l p q m).2.2.1) ((stackX r c l p q m).2.2.2) (0 : Int) (0 : Int) [] (3 : Int)) == true)) || true) then
                                            bif ((!((toldB ((stackX r c l p q m).1) ((stackX r c l p q m).2.1) ((stackX r c l p q m).2.2.1) ((stackX r c l p q m).2.2.2) (0 : Int) (0 : Int) [] (3 : Int)) == true)) || true) then
                                              bif ((!((toldB ((stackX r c l p q m).1) ((stackX r c l p q m).2.1) ((stackX r c l p q m).2.2.1) ((stackX r c l p q m).2.2.2) (0 : Int) (0 : Int) [] (3 : Int)) == true)) || true) then
                                                bif ((!((toldB ((stackX r c l p q m).1) ((stackX r c l p q m).2.1) ((stackX r c l p q m).2.2.1) ((stackX r c l p q m).2.2.2) (0 : Int) (0 : Int) [] (3 : Int)) == true)) || ((((!((toldB ((stackX r c l p q m).1) ((stackX r c l p q m).2.1) ((stackX r c l p q m).2.2.1) ((stackX r c l p q m).2.2.2) (0 : Int) (0 : Int) [] (3 : Int)) == true)) || ((toldB ((stackX r c l p q m).1) ((stackX r c l p q m).2.1) ((stackX r c l p q m).2.2.1) ((stackX r c l p q m).2.2.2) (0 : Int) (0 : Int) [] (3 : Int)) == true)) && (((!((toldB ((stackX r c l p q m).1) ((stackX r c l p q m).2.1) ((stackX r c l p q m).2.2.1) ((stackX r c l p q m).2.2.2) (0 : Int) (0 : Int) [] (3 : Int)) == true)) || ((toldB ((stackX r c l p q m).1) ((stackX r c l p q m).2.1) ((stackX r c l p q m).2.2.1) ((stackX r c l p q m).2.2.2) (0 : Int) (0 : Int) [] (3 : Int)) == true)) && (((!((toldB ((stackX r c l p q m).1) ((stackX r c l p q m).2.1) ((stackX r c l p q m).2.2.1) ((stackX r c l p q m).2.2.2) (0 : Int) (0 : Int) [] (3 : Int)) == true)) || ((toldB ((stackX r c l p q m).1) ((stackX r c l p q m).2.1) ((stackX r c l p q m).2.2.1) ((stackX r c l p q m).2.2.2) (0 : Int) (0 : Int) [] (3 : Int)) == true)) && (((!((toldB ((stackX r c l p q m).1) ((stackX r c l p q m).2.1) ((stackX r c l p q m).2.2.1) ((stackX r c l p q m).2.2.2) (0 : Int) (0 : Int) [] (3 : Int)) == true)) || ((toldB ((stackX r c l p q m).1) ((stackX r c l p q m).2.1) ((stackX r c l p q m).2.2.1) ((stackX r c l p q m).2.2.2) (0 : Int) (0 : Int) [] (3 : Int)) == true)) && true)))) && (okLen ((besideX r c l p q m).2.2.1)))) then
                                                  bif (((!(toldB ((stackX r c l p q m).1) ((stackX r c l p q m).2.1) ((stackX r c l p q m).2.2.1) ((stackX r c l p q m).2.2.2) (0 : Int) (0 : Int) [] (3 : Int))) || ((toldB ((stackX r c l p q m).1) ((stackX r c l p q m).2.1) ((stackX r c l p q m).2.2.1) ((stackX r c l p q m).2.2.2) (0 : Int) (0 : Int) [] (3 : Int)) == true)) && true) then
                                                    bif ((!((bif (toldB ((stackX r c l p q m).1) ((stackX r c l p q m).2.1) ((stackX r c l p q m).2.2.1) ((stackX r c l p q m).2.2.2) (0 : Int) (0 : Int) [] (3 : Int)) then (toldB ((besideX r c l p q m).1) ((besideX r c l p q m).2.1) ((besideX r c l p q m).2.2.1) ((besideX r c l p q m).2.2.2) r (c + q) (grid (Int.toNat r) (Int.toNat (c + q)) (fun j1 j2 => besideI c l q m j1 j2)) (0 : Int)) else false) == true)) || true) then
                                                      bif (((!(bif (toldB ((stackX r c l p q m).1) ((stackX r c l p q m).2.1) ((stackX r c l p q m).2.2.1) ((stackX r c l p q m).2.2.2) (0 : Int) (0 : Int) [] (3 : Int)) then (toldB ((besideX r c l p q m).1) ((besideX r c l p q m).2.1) ((besideX r c l p q m).2.2.1) ((besideX r c l p q m).2.2.2) r (c + q) (grid (Int.toNat r) (Int.toNat (c + q)) (fun j1 j2 => besideI c l q m j1 j2)) (0 : Int)) else false)) || ((bif (toldB ((stackX r c l p q m).1) ((stackX r c l p q m).2.1) ((stackX r c l p q m).2.2.1) ((stackX r c l p q m).2.2.2) (0 : Int) (0 : Int) [] (3 : Int)) then (toldB ((besideX r c l p q m).1) ((besideX r c l p q m).2.1) ((besideX r c l p q m).2.2.1) ((besideX r c l p q m).2.2.2) r (c + q) (grid (Int.toNat r) (Int.toNat (c + q)) (fun j1 j2 => besideI c l q m j1 j2)) (0 : Int)) else false) == true)) && true) then
                                                        some (.bool (bif (bif (toldB ((stackX r c l p q m).1) ((stackX r c l p q m).2.1) ((stackX r c l p q m).2.2.1) ((stackX r c l p q m).2.2.2) (0 : Int) (0 : Int) [] (3 : Int)) then (toldB ((besideX r c l p q m).1) ((besideX r c l p q m).2.1) ((besideX r c l p q m).2.2.1) ((besideX r c l p q m).2.2.2) r (c + q) (grid (Int.toNat r) (Int.toNat (c + q)) (fun j1 j2 => besideI c l q m j1 j2)) (0 : Int)) else false) then true else false))
                                                      else none
                                                    else none
                                                  else none
                                                else none
                                              else none
                                            else none
                                          else none
                                        else none
                                      else none
                                    else none
                                  else bif (okLen ((stackX r c l p q m).2.2.1)) then
                                    bif ((!((toldB ((stackX r c l p q m).1) ((stackX r c l p q m).2.1) ((stackX r c l p q m).2.2.1) ((stackX r c l p q m).2.2.2) (0 : Int) (0 : Int) [] (3 : Int)) == true)) || true) then
                                      bif ((!((toldB ((stackX r c l p q m).1) ((stackX r c l p q m).2.1) ((stackX r c l p q m).2.2.1) ((stackX r c l p q m).2.2.2) (0 : Int) (0 : Int) [] (3 : Int)) == true)) || true) then
                                        bif ((!((toldB ((stackX r c l p q m).1) ((stackX r c l p q m).2.1) ((stackX r c l p q m).2.2.1) ((stackX r c l p q m).2.2.2) (0 : Int) (0 : Int) [] (3 : Int)) == true)) || true) then
                                          bif ((!((toldB ((stackX r c l p q m).1) ((stackX r c l p q m).2.1) ((stackX r c l p q m).2.2.1) ((stackX r c l p q m).2.2.2) (0 : Int) (0 : Int) [] (3 : Int)) == true)) || true) then
                                            bif ((!((toldB ((stackX r c l p q m).1) ((stackX r c l p q m).2.1) ((stackX r c l p q m).2.2.1) ((stackX r c l p q m).2.2.2) (0 : Int) (0 : Int) [] (3 : Int)) == true)) || ((((!((toldB ((stackX r c l p q m).1) ((stackX r c l p q m).2.1) ((stackX r c l p q m).2.2.1) ((stackX r c l p q m).2.2.2) (0 : Int) (0 : Int) [] (3 : Int)) == true)) || ((toldB ((stackX r c l p q m).1) ((stackX r c l p q m).2.1) ((stackX r c l p q m).2.2.1) ((stackX r c l p q m).2.2.2) (0 : Int) (0 : Int) [] (3 : Int)) == true)) && (((!((toldB ((stackX r c l p q m).1) ((stackX r c l p q m).2.1) ((stackX r c l p q m).2.2.1) ((stackX r c l p q m).2.2.2) (0 : Int) (0 : Int) [] (3 : Int)) == true)) || ((toldB ((stackX r c l p q m).1) ((stackX r c l p q m).2.1) ((stackX r c l p q m).2.2.1) ((stackX r c l p q m).2.2.2) (0 : Int) (0 : Int) [] (3 : Int)) == true)) && (((!((toldB ((stackX r c l p q m).1) ((stackX r c l p q m).2.1) ((stackX r c l p q m).2.2.1) ((stackX r c l p q m).2.2.2) (0 : Int) (0 : Int) [] (3 : Int)) == true)) || ((toldB ((stackX r c l p q m).1) ((stackX r c l p q m).2.1) ((stackX r c l p q m).2.2.1) ((stackX r c l p q m).2.2.2) (0 : Int) (0 : Int) [] (3 : Int)) == true)) && (((!((toldB ((stackX r c l p q m).1) ((stackX r c l p q m).2.1) ((stackX r c l p q m).2.2.1) ((stackX r c l p q m).2.2.2) (0 : Int) (0 : Int) [] (3 : Int)) == true)) || ((toldB ((stackX r c l p q m).1) ((stackX r c l p q m).2.1) ((stackX r c l p q m).2.2.1) ((stackX r c l p q m).2.2.2) (0 : Int) (0 : Int) [] (3 : Int)) == true)) && true)))) && (okLen ((besideX r c l p q m).2.2.1)))) then
                                              bif (((!(toldB ((stackX r c l p q m).1) ((stackX r c l p q m).2.1) ((stackX r c l p q m).2.2.1) ((stackX r c l p q m).2.2.2) (0 : Int) (0 : Int) [] (3 : Int))) || ((toldB ((stackX r c l p q m).1) ((stackX r c l p q m).2.1) ((stackX r c l p q m).2.2.1) ((stackX r c l p q m).2.2.2) (0 : Int) (0 : Int) [] (3 : Int)) == true)) && true) then
                                                bif ((!((bif (toldB ((stackX r c l p q m).1) ((stackX r c l p q m).2.1) ((stackX r c l p q m).2.2.1) ((stackX r c l p q m).2.2.2) (0 : Int) (0 : Int) [] (3 : Int)) then (toldB ((besideX r c l p q m).1) ((besideX r c l p q m).2.1) ((besideX r c l p q m).2.2.1) ((besideX r c l p q m).2.2.2) (0 : Int) (0 : Int) [] (3 : Int)) else false) == true)) || true) then
                                                  bif (((!(bif (toldB ((stackX r c l p q m).1) ((stackX r c l p q m).2.1) ((stackX r c l p q m).2.2.1) ((stackX r c l p q m).2.2.2) (0 : Int) (0 : Int) [] (3 : Int)) then (toldB ((besideX r c l p q m).1) ((besideX r c l p q m).2.1) ((besideX r c l p q m).2.2.1) ((besideX r c l p q m).2.2.2) (0 : Int) (0 : Int) [] (3 : Int)) else false)) || ((bif (toldB ((stackX r c l p q m).1) ((stackX r c l p q m).2.1) ((stackX r c l p q m).2.2.1) ((stackX r c l p q m).2.2.2) (0 : Int) (0 : Int) [] (3 : Int)) then (toldB ((besideX r c l p q m).1) ((besideX r c l p q m).2.1) ((besideX r c l p q m).2.2.1) ((besideX r c l p q m).2.2.2) (0 : Int) (0 : Int) [] (3 : Int)) else false) == true)) && true) then
                                                    some (.bool (bif (bif (toldB ((stackX r c l p q m).1) ((stackX r c l p q m).2.1) ((stackX r c l p q m).2.2.1) ((stackX r c l p q m).2.2.2) (0 : Int) (0 : Int) [] (3 : Int)) then (toldB ((besideX r c l p q m).1) ((besideX r c l p q m).2.1) ((besideX r c l p q m).2.2.1) ((besideX r c l p q m).2.2.2) (0 : Int) (0 : Int) [] (3 : Int)) else false) then true else false))
                                                  else none
                                                else none
                                              else none
                                            else none
                                          else none
                                        else none
                                      else none
                                    else none
                                  else none
                                else none
                              else none
                            else none
                          else none
                        else none
                      else none
                    else none
                  else none
                else none
              else none
            else none
          else none
        else none
      else none
    else none
  else none) (by kernel_rfl)
  (ifE (ifE (ifE (ifE (ifT (tt5 _) (ifT (tt5 _) (ifT (tt5 _) (ifS (tt4 _ _) (ifT (tt3 _) (ifT (tt2 _ _) (ifT (tt1 _ _) rfl))) rfl)))) rfl) (ifT (tt5 _) (ifT (tt8 _) (ifT (tt5 _) (ifT (tt8 _) (ifT (tt9 _) (ifT (tt8 _) (ifT (tt3 _) (ifS (tt7 _ _) (ifE (ifT (tt5 _) (ifT (tt8 _) (ifT (tt5 _) (ifT (tt8 _) (ifT (tt9 _) (ifT (tt8 _) (ifT (tt3 _) (ifS (tt7 _ _) (ifE (ifE (ifT (tt5 _) (ifT (tt5 _) (ifT (tt5 _) (ifT (tt5 _) (ifS (tt6 _ _) (ifT (tt3 _) (ifT (tt2 _ _) (ifT (tt1 _ _) rfl))) rfl))))) rfl) rfl) (ifE (ifT (tt5 _) (ifT (tt5 _) (ifT (tt5 _) (ifT (tt5 _) (ifS (tt6 _ _) (ifT (tt3 _) (ifT (tt2 _ _) (ifT (tt1 _ _) rfl))) rfl))))) rfl))))))))) rfl) (ifT (tt5 _) (ifT (tt8 _) (ifT (tt5 _) (ifT (tt8 _) (ifT (tt9 _) (ifT (tt8 _) (ifT (tt3 _) (ifS (tt7 _ _) (ifE (ifE (ifT (tt5 _) (ifT (tt5 _) (ifT (tt5 _) (ifT (tt5 _) (ifS (tt6 _ _) (ifT (tt3 _) (ifT (tt2 _ _) (ifT (tt1 _ _) rfl))) rfl))))) rfl) rfl) (ifE (ifT (tt5 _) (ifT (tt5 _) (ifT (tt5 _) (ifT (tt5 _) (ifS (tt6 _ _) (ifT (tt3 _) (ifT (tt2 _ _) (ifT (tt1 _ _) rfl))) rfl))))) rfl)))))))))))))))))) rfl) rfl)
theorem law10.MatrixStacks.known_of (hk : Knowns Try.prog law10.MatrixStacks.tab) (hsp : SpoilFact Try.prog 26 39) (h : ∀ (r : Int) (c : Int) (l : List Int) (p : Int) (q : Int) (m : List Int), law10.MatrixStacks.pre [.i r, .i c, .l l, .i p, .i q, .l m] = true → ∃ N dv drops, funD law10.MatrixStacks.E N Try.f8 (bodyOf Try.f8) [.agg [.int .i64 r, .int .i64 c, .ints .arg .u64 l], .agg [.int .i64 p, .int .i64 q, .ints .arg .u64 m]] = some dv ∧ Wk drops dv (law10.MatrixStacks.out [.i r, .i c, .l l, .i p, .i q, .l m])) : Known Try.prog 8 law10.MatrixStacks.spec := by
  refine ⟨meets_entry (E := law10.MatrixStacks.E) (env_okS hk (spoilOf_ok hsp) _ _ _) Try.func8 (show Try.f8.body = some (bodyOf Try.f8) by kernel_rfl) fun ats dvs he hp => ?_, call_enter Try.func8 (by kernel_rfl) (show Try.f8.body = some (bodyOf Try.f8) by kernel_rfl)⟩
  obtain ⟨_, _, _, _, rfl, rfl, hs0, he0⟩ := he.st_inv
  obtain ⟨r, _, _, rfl, rfl, he1⟩ := hs0.i_inv
  obtain ⟨c, _, _, rfl, rfl, he2⟩ := he1.i_inv
  obtain ⟨l, _, _, rfl, rfl, he3⟩ := he2.s_inv
  obtain ⟨rfl, rfl⟩ := he3.nil_inv
  obtain ⟨_, _, _, _, rfl, rfl, hs4, he4⟩ := he0.st_inv
  obtain ⟨p, _, _, rfl, rfl, he5⟩ := hs4.i_inv
  obtain ⟨q, _, _, rfl, rfl, he6⟩ := he5.i_inv
  obtain ⟨m, _, _, rfl, rfl, he7⟩ := he6.s_inv
  obtain ⟨rfl, rfl⟩ := he7.nil_inv
  obtain ⟨rfl, rfl⟩ := he4.nil_inv
  exact h r c l p q m hp
end EqLaw10K
end Go.Proofs.S1

/- Chapter 10's laws: one below the other, one beside the other, in new memory. -/
namespace Go.Proofs.S1
open Go Go.Den Go.Rnd Go.Proofs
open EqLaw10K

theorem ref10.Stack.known : Known Try.prog 35 ref10.Stack.spec := ref10.Stack.known_of .nil fun r c l p q m hp => by
  obtain ⟨h1, h2⟩ := and_true_iff.1 (show ((rightB r c l && rightB p q m) && decide (q = c)) = true from hp)
  obtain ⟨hr, hm⟩ := and_true_iff.1 h1
  obtain ⟨R, C, rfl, rfl, r6, c6, hl⟩ := right_nat hr
  obtain ⟨P, Q, rfl, rfl, p6, q6, hl2⟩ := right_nat hm
  have h36 := Nat.mul_le_mul r6 c6
  have h36' := Nat.mul_le_mul p6 q6
  refine ⟨0, .agg [.int .i64 ((R : Int) + (P : Int)), .int .i64 (C : Int), .ints (.own 20 39) .u64 (l ++ m)], [20], ?_, wk_own (List.mem_singleton.2 rfl)⟩
  rw [ref10.Stack.ev, List.nil_append, decide_eq_true (show 0 + l.length ≤ lim by unfold lim; omega), cond_true, decide_eq_true (show l.length + m.length ≤ lim by unfold lim; omega), cond_true, w_i64_in (by omega) (by omega)]

/-- Rows below rows. -/
theorem stack_list {R P C : Nat} {l m : List Int} (hl : l.length = R * C) (hm : m.length = P * C) :
    (grid (R + P) C fun (i k : Nat) => stackI (R : Int) (C : Int) l (C : Int) m (i : Int) (k : Int)) = l ++ m := by
  have h : (l ++ m).length = (R + P) * C := by rw [List.length_append, hl, hm, Nat.add_mul]
  conv => rhs; rw [← grid_back h]
  refine grid_congr fun i k hi hk => ?_
  unfold stackI
  by_cases hlt : (i : Int) < (R : Int)
  · have := place_lt' (r := R) (c := C) (i := i) (k := k) (by omega) hk
    rw [if_pos hlt, atI_nat, atI_nat, List.getD_eq_getElem?_getD, List.getD_eq_getElem?_getD, List.getElem?_append_left (by omega)]
  · have es : (i : Int) - (R : Int) = ((i - R : Nat) : Int) := by omega
    have e2 : i * C = R * C + (i - R) * C := by rw [← Nat.add_mul]; congr 1; omega
    rw [if_neg hlt, es, atI_nat, atI_nat, List.getD_eq_getElem?_getD, List.getD_eq_getElem?_getD, List.getElem?_append_right (by omega), hl, e2]
    congr 2; omega

theorem beside_code {R C Q : Nat} {l m : List Int} :
    (grid R (C + Q) fun (j1 j2 : Nat) => atI (R : Int) ((grid C R fun (j1 j2 : Nat) => atI (C : Int) l (j2 : Int) (j1 : Int)) ++ (grid Q R fun (j1 j2 : Nat) => atI (Q : Int) m (j2 : Int) (j1 : Int))) (j2 : Int) (j1 : Int)) =
    grid R (C + Q) fun (j1 j2 : Nat) => besideI (C : Int) l (Q : Int) m (j1 : Int) (j2 : Int) := by
  refine grid_congr fun i k hi hk => ?_
  rw [← stack_list (grid_length C R _) (grid_length Q R _), grid_at hk hi]
  unfold stackI besideI
  by_cases h : (k : Int) < (C : Int)
  · rw [if_pos h, if_pos h, grid_at (by omega) hi]
  · have es : (k : Int) - (C : Int) = ((k - C : Nat) : Int) := by omega
    rw [if_neg h, if_neg h, es, grid_at (by omega) hi]

theorem ref10.Beside.known : Known Try.prog 36 ref10.Beside.spec := ref10.Beside.known_of (.cons ref10.Stack.known (.cons ref10.Turn.known .nil)) fun r c l p q m hp => by
  obtain ⟨h1, h2⟩ := and_true_iff.1 (show ((rightB r c l && rightB p q m) && decide (p = r ∧ c + q ≤ 6)) = true from hp)
  obtain ⟨hr, hm⟩ := and_true_iff.1 h1
  obtain ⟨rfl, hcq⟩ := of_decide_eq_true h2
  obtain ⟨R, C, rfl, rfl, r6, c6, hl⟩ := right_nat hr
  obtain ⟨P, Q, hP, rfl, p6, q6, hl2⟩ := right_nat hm
  have ecq : (C : Int) + (Q : Int) = ((C + Q : Nat) : Int) := (Int.natCast_add _ _).symm
  have g1 : rightB ((C + Q : Nat) : Int) (R : Int) ((grid C R fun (j1 j2 : Nat) => atI (C : Int) l (j2 : Int) (j1 : Int)) ++ (grid Q R fun (j1 j2 : Nat) => atI (Q : Int) m (j2 : Int) (j1 : Int))) = true :=
    right_of (by omega) r6 (by rw [List.length_append, grid_length, grid_length, Nat.add_mul])
  refine ⟨0, .agg [.int .i64 (R : Int), .int .i64 ((C : Int) + (Q : Int)), .ints .fresh .u64 (grid (Int.toNat (R : Int)) (Int.toNat ((C : Int) + (Q : Int))) fun (j1 j2 : Nat) => besideI (C : Int) l (Q : Int) m (j1 : Int) (j2 : Int))], [], ?_, wk_fresh⟩
  rw [ref10.Beside.ev, hr, cond_true, hm, cond_true, ecq, Int.toNat_natCast, Int.toNat_natCast, Int.toNat_natCast, Int.toNat_natCast, grid_right _ c6 r6, grid_right _ q6 r6, Bool.and_self, decide_eq_true rfl, Bool.and_self, cond_true, g1, cond_true, beside_code]

theorem law10.MatrixStacks.known : Known Try.prog 8 law10.MatrixStacks.spec := law10.MatrixStacks.known_of (.cons law10.awake.known (.cons law10.form.known (.cons law10.told.known (.cons matrix.Beside.known (.cons matrix.Stack.known (.cons ref10.Beside.known (.cons ref10.Copy.own.known (.cons ref10.Stack.known .nil)))))))) law10.spoil.fact fun r c l p q m hp => by
  obtain ⟨ol, om⟩ := and_true_iff.1 (show (okLen l && okLen m) = true from hp)
  refine ⟨0, law10.MatrixStacks.out [.i r, .i c, .l l, .i p, .i q, .l m], [], ?_, .bool⟩
  show _ = some (DV.bool true)
  have o0 : okLen [] = true := okLen_of (by decide)
  rw [law10.MatrixStacks.ev, ol, om, cond_true, cond_true, two_ne]
  unfold stackX besideX
  cases hf : (rightB r c l && rightB p q m) with
  | false =>
    rw [if_neg (by decide), if_neg (by decide)]
    unfold noX
    dsimp only
    rw [o0, told_none (by decide)]
    rfl
  | true =>
    obtain ⟨hr, hm⟩ := and_true_iff.1 hf
    obtain ⟨R, C, rfl, rfl, r6, c6, hl⟩ := right_nat hr
    obtain ⟨P, Q, rfl, rfl, p6, q6, hl2⟩ := right_nat hm
    have erp : (R : Int) + (P : Int) = ((R + P : Nat) : Int) := (Int.natCast_add _ _).symm
    have ecq : (C : Int) + (Q : Int) = ((C + Q : Nat) : Int) := (Int.natCast_add _ _).symm
    rw [Bool.not_true, cond_false, if_pos rfl, if_pos rfl, Bool.true_and, Bool.true_and, eqI, eqI, leI_eq, leI_eq, w_i64_in (x := (R : Int) + (P : Int)) (by omega) (by omega), w_i64_in (x := (C : Int) + (Q : Int)) (by omega) (by omega), erp, ecq]
    by_cases hc : (C : Int) = (Q : Int) ∧ ((R + P : Nat) : Int) ≤ 6
    · have hCQ : C = Q := by omega
      subst hCQ
      have e1 : (decide ((C : Int) = (C : Int)) && decide (((R + P : Nat) : Int) ≤ 6)) = true := by rw [decide_eq_true rfl, decide_eq_true hc.2]; rfl
      by_cases hd : (R : Int) = (P : Int) ∧ ((C + C : Nat) : Int) ≤ 6
      · have hRP : R = P := by omega
        subst hRP
        have e2 : (decide ((R : Int) = (R : Int)) && decide (((C + C : Nat) : Int) ≤ 6)) = true := by rw [decide_eq_true rfl, decide_eq_true hd.2]; rfl
        rw [if_pos hc, if_pos hd, e1, e2, decide_eq_true (show (C : Int) = (C : Int) from rfl), decide_eq_true (show (R : Int) = (R : Int) ∧ ((C + C : Nat) : Int) ≤ 6 from hd)]
        dsimp only
        rw [Int.toNat_natCast, Int.toNat_natCast, Int.toNat_natCast, Int.toNat_natCast, stack_list hl hl2, okLen_of (l := l ++ m) (by have := Nat.mul_le_mul r6 c6; rw [List.length_append]; omega), grid_ok r6 (by omega), told_self, told_self]
        rfl
      · have e2 : (decide ((R : Int) = (P : Int)) && decide (((C + C : Nat) : Int) ≤ 6)) = false := by simpa using hd
        rw [if_pos hc, if_neg hd, e1, e2, decide_eq_true (show (C : Int) = (C : Int) from rfl)]
        unfold noX
        dsimp only
        rw [Int.toNat_natCast, Int.toNat_natCast, stack_list hl hl2, okLen_of (l := l ++ m) (by have := Nat.mul_le_mul r6 c6; have := Nat.mul_le_mul p6 c6; rw [List.length_append]; omega), o0, told_self, told_none (by decide)]
        rfl
    · have e1 : (decide ((C : Int) = (Q : Int)) && decide (((R + P : Nat) : Int) ≤ 6)) = false := by simpa using hc
      by_cases hd : (R : Int) = (P : Int) ∧ ((C + Q : Nat) : Int) ≤ 6
      · have hRP : R = P := by omega
        subst hRP
        have e2 : (decide ((R : Int) = (R : Int)) && decide (((C + Q : Nat) : Int) ≤ 6)) = true := by rw [decide_eq_true rfl, decide_eq_true hd.2]; rfl
        rw [if_neg hc, if_pos hd, e1, e2, decide_eq_true (show (R : Int) = (R : Int) ∧ ((C + Q : Nat) : Int) ≤ 6 from hd)]
        unfold noX
        dsimp only
        rw [Int.toNat_natCast, Int.toNat_natCast, grid_ok r6 (by omega), o0, told_self, told_none (by decide)]
        rfl
      · have e2 : (decide ((R : Int) = (P : Int)) && decide (((C + Q : Nat) : Int) ≤ 6)) = false := by simpa using hd
        rw [if_neg hc, if_neg hd, e1, e2]
        unfold noX
        dsimp only
        rw [o0, told_none (by decide)]
        rfl

end Go.Proofs.S1
