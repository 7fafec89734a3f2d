/- LawQ of the verified evaluator and its use for this seat (of my texts S1EqLaw17, S1PLaw17). -/
import Derived.Test.YtnnoocnokacpmaaGreatSpe
import Derived.Test.YtnnoocnokacpmaaGreatRefS

/- The evaluator's equations: dioptralaw17.same, dioptralaw17.awake, dioptralaw17.SolveUppers. Printed by denpy.py. -/
namespace Go.Proofs.S1
open Go Go.Den Go.Rnd Go.Proofs
set_option linter.unusedVariables false
set_option maxRecDepth 100000
namespace EqLaw17
theorem tt0 (a : Bool) : (((!a) || (a == true)) && true) = true := by cases a <;> rfl
theorem tt1 (a b : Bool) : ((!(a == true)) || ((((!(a == true)) || (a == true)) && (((!(a == true)) || (a == true)) && true)) && b)) = ((!a) || b) := by cases a <;> cases b <;> rfl
theorem tt2 (a : Bool) : ((!(a == true)) || true) = true := by cases a <;> rfl
theorem tt3 (a b : Bool) : (((!(bif a then b else false)) || ((bif a then b else false) == true)) && true) = true := by cases a <;> cases b <;> rfl
theorem tt4 (a b : Bool) : ((!((bif a then b else false) == true)) || ((((!((bif a then b else false) == true)) || ((bif a then b else false) == true)) && true) && true)) = true := by cases a <;> cases b <;> rfl
theorem tt5 (a b c : Bool) : ((!((bif a then b else false) == true)) || ((((!((bif a then b else false) == true)) || ((bif a then b else false) == true)) && true) && c)) = ((!(a && b)) || c) := by cases a <;> cases b <;> cases c <;> rfl
theorem tt6 (a b : Bool) : ((!((bif a then b else false) == true)) || true) = true := by cases a <;> cases b <;> rfl
theorem tt7 (a : Bool) : ((!(a == true)) || ((((!(a == true)) || (a == true)) && true) && true)) = true := by cases a <;> rfl
noncomputable def law17.same.tab : List (Nat × Entry) := [(24, ref10.Same.spec)]
noncomputable def law17.same.E : Env := envOf (tabOf law17.same.tab) (fun _ => false) (fun _ => none) (fun _ => none)
theorem law17.same.ev (N : Nat) (r : Int) (c : Int) (l : List Int) (e : Int) (p : Int) (q : Int) (m : List Int) (f : Int) : funD law17.same.E N Tryz.f15 (bodyOf Tryz.f15) [.agg [.int .i64 r, .int .i64 c, .ints .arg .u64 l], .int .i64 e, .agg [.int .i64 p, .int .i64 q, .ints .arg .u64 m], .int .i64 f] =
  bif ((!(e == f)) || (okLen l)) then
  some (.bool (bif (e == f) then (sameM r c l p q m) else false))
  else none :=
  Eq.trans (by kernel_rfl)
  (ifTn (tt2 (e == f)) (ifTn (tt2 (e == f)) (ifS (tt1 (e == f) (okLen l)) (ifTn (tt0 (e == f)) rfl) rfl)))
theorem law17.same.known_of (hk : Knowns Tryz.prog law17.same.tab) (h : ∀ (r : Int) (c : Int) (l : List Int) (e : Int) (p : Int) (q : Int) (m : List Int) (f : Int), law17.same.pre [.i r, .i c, .l l, .i e, .i p, .i q, .l m, .i f] = true → ∃ N dv drops, funD law17.same.E N Tryz.f15 (bodyOf Tryz.f15) [.agg [.int .i64 r, .int .i64 c, .ints .arg .u64 l], .int .i64 e, .agg [.int .i64 p, .int .i64 q, .ints .arg .u64 m], .int .i64 f] = some dv ∧ Wk drops dv (law17.same.out [.i r, .i c, .l l, .i e, .i p, .i q, .l m, .i f])) : Known Tryz.prog 15 law17.same.spec := by
  refine ⟨meets_entry (E := law17.same.E) (env_ok hk _ _ _) Tryz.func15 (show Tryz.f15.body = some (bodyOf Tryz.f15) by kernel_rfl) fun ats dvs he hp => ?_, call_enter Tryz.func15 (by kernel_rfl) (show Tryz.f15.body = some (bodyOf Tryz.f15) by kernel_rfl)⟩
  obtain ⟨_, _, _, _, rfl, rfl, hs0, he0⟩ := he.st_inv
  obtain ⟨r, _, _, rfl, rfl, he1⟩ := hs0.i_inv
  obtain ⟨c, _, _, rfl, rfl, he2⟩ := he1.i_inv
  obtain ⟨l, _, _, rfl, rfl, he3⟩ := he2.s_inv
  obtain ⟨rfl, rfl⟩ := he3.nil_inv
  obtain ⟨e, _, _, rfl, rfl, he4⟩ := he0.i_inv
  obtain ⟨_, _, _, _, rfl, rfl, hs5, he5⟩ := he4.st_inv
  obtain ⟨p, _, _, rfl, rfl, he6⟩ := hs5.i_inv
  obtain ⟨q, _, _, rfl, rfl, he7⟩ := he6.i_inv
  obtain ⟨m, _, _, rfl, rfl, he8⟩ := he7.s_inv
  obtain ⟨rfl, rfl⟩ := he8.nil_inv
  obtain ⟨f, _, _, rfl, rfl, he9⟩ := he5.i_inv
  obtain ⟨rfl, rfl⟩ := he9.nil_inv
  exact h r c l e p q m f hp

noncomputable def law17.awake.tab : List (Nat × Entry) := [(23, solve.Least.Few.spec)]
noncomputable def law17.awake.E : Env := envOf (tabOf law17.awake.tab) (fun _ => false) (fun _ => none) (fun _ => none)
theorem law17.awake.ev (N : Nat) : funD law17.awake.E N Tryz.f16 (bodyOf Tryz.f16) [] =
  bif ((fewB (1 : Int) (1 : Int) [(4611686018427387904 : Int)] && allU64 [(4611686018427387904 : Int)]) && allU64 [(4616189618054758400 : Int)]) then
  bif ((!((((leastF (1 : Int) (1 : Int) [(4611686018427387904 : Int)] (1 : Int) (1 : Int) [(4616189618054758400 : Int)]).2.2.2) == (0 : Int)) && ((List.length ((leastF (1 : Int) (1 : Int) [(4611686018427387904 : Int)] (1 : Int) (1 : Int) [(4616189618054758400 : Int)]).2.2.1) : Int) == (1 : Int)))) || (decide ((0 : Int) < (List.length ((leastF (1 : Int) (1 : Int) [(4611686018427387904 : Int)] (1 : Int) (1 : Int) [(4616189618054758400 : Int)]).2.2.1) : Int)))) then
  some (.bool (bif (bif (((leastF (1 : Int) (1 : Int) [(4611686018427387904 : Int)] (1 : Int) (1 : Int) [(4616189618054758400 : Int)]).2.2.2) == (0 : Int)) then ((List.length ((leastF (1 : Int) (1 : Int) [(4611686018427387904 : Int)] (1 : Int) (1 : Int) [(4616189618054758400 : Int)]).2.2.1) : Int) == (1 : Int)) else false) then ((List.getD ((leastF (1 : Int) (1 : Int) [(4611686018427387904 : Int)] (1 : Int) (1 : Int) [(4616189618054758400 : Int)]).2.2.1) 0 0) == (4611686018427387904 : Int)) else false))
  else none
  else none :=
  Eq.trans (by kernel_rfl)
  (ifE (ifTn (tt2 (((leastF (1 : Int) (1 : Int) [(4611686018427387904 : Int)] (1 : Int) (1 : Int) [(4616189618054758400 : Int)]).2.2.2) == (0 : Int))) (ifTn (tt7 (((leastF (1 : Int) (1 : Int) [(4611686018427387904 : Int)] (1 : Int) (1 : Int) [(4616189618054758400 : Int)]).2.2.2) == (0 : Int))) (ifTn (tt7 (((leastF (1 : Int) (1 : Int) [(4611686018427387904 : Int)] (1 : Int) (1 : Int) [(4616189618054758400 : Int)]).2.2.2) == (0 : Int))) (ifTn (tt7 (((leastF (1 : Int) (1 : Int) [(4611686018427387904 : Int)] (1 : Int) (1 : Int) [(4616189618054758400 : Int)]).2.2.2) == (0 : Int))) (ifTn (tt0 (((leastF (1 : Int) (1 : Int) [(4611686018427387904 : Int)] (1 : Int) (1 : Int) [(4616189618054758400 : Int)]).2.2.2) == (0 : Int))) (ifTn (tt6 (((leastF (1 : Int) (1 : Int) [(4611686018427387904 : Int)] (1 : Int) (1 : Int) [(4616189618054758400 : Int)]).2.2.2) == (0 : Int)) ((List.length ((leastF (1 : Int) (1 : Int) [(4611686018427387904 : Int)] (1 : Int) (1 : Int) [(4616189618054758400 : Int)]).2.2.1) : Int) == (1 : Int))) (ifTn (tt4 (((leastF (1 : Int) (1 : Int) [(4611686018427387904 : Int)] (1 : Int) (1 : Int) [(4616189618054758400 : Int)]).2.2.2) == (0 : Int)) ((List.length ((leastF (1 : Int) (1 : Int) [(4611686018427387904 : Int)] (1 : Int) (1 : Int) [(4616189618054758400 : Int)]).2.2.1) : Int) == (1 : Int))) (ifS (tt5 (((leastF (1 : Int) (1 : Int) [(4611686018427387904 : Int)] (1 : Int) (1 : Int) [(4616189618054758400 : Int)]).2.2.2) == (0 : Int)) ((List.length ((leastF (1 : Int) (1 : Int) [(4611686018427387904 : Int)] (1 : Int) (1 : Int) [(4616189618054758400 : Int)]).2.2.1) : Int) == (1 : Int)) (decide ((0 : Int) < (List.length ((leastF (1 : Int) (1 : Int) [(4611686018427387904 : Int)] (1 : Int) (1 : Int) [(4616189618054758400 : Int)]).2.2.1) : Int)))) (ifTn (tt4 (((leastF (1 : Int) (1 : Int) [(4611686018427387904 : Int)] (1 : Int) (1 : Int) [(4616189618054758400 : Int)]).2.2.2) == (0 : Int)) ((List.length ((leastF (1 : Int) (1 : Int) [(4611686018427387904 : Int)] (1 : Int) (1 : Int) [(4616189618054758400 : Int)]).2.2.1) : Int) == (1 : Int))) (ifTn (tt4 (((leastF (1 : Int) (1 : Int) [(4611686018427387904 : Int)] (1 : Int) (1 : Int) [(4616189618054758400 : Int)]).2.2.2) == (0 : Int)) ((List.length ((leastF (1 : Int) (1 : Int) [(4611686018427387904 : Int)] (1 : Int) (1 : Int) [(4616189618054758400 : Int)]).2.2.1) : Int) == (1 : Int))) (ifTn (tt3 (((leastF (1 : Int) (1 : Int) [(4611686018427387904 : Int)] (1 : Int) (1 : Int) [(4616189618054758400 : Int)]).2.2.2) == (0 : Int)) ((List.length ((leastF (1 : Int) (1 : Int) [(4611686018427387904 : Int)] (1 : Int) (1 : Int) [(4616189618054758400 : Int)]).2.2.1) : Int) == (1 : Int))) rfl))) rfl)))))))) rfl)
theorem law17.awake.known_of (hk : Knowns Tryz.prog law17.awake.tab) (h : ∀ (_ : Unit), law17.awake.pre [] = true → ∃ N dv drops, funD law17.awake.E N Tryz.f16 (bodyOf Tryz.f16) [] = some dv ∧ Wk drops dv (law17.awake.out [])) : Known Tryz.prog 16 law17.awake.spec := by
  refine ⟨meets_entry (E := law17.awake.E) (env_ok hk _ _ _) Tryz.func16 (show Tryz.f16.body = some (bodyOf Tryz.f16) by kernel_rfl) fun ats dvs he hp => ?_, call_enter Tryz.func16 (by kernel_rfl) (show Tryz.f16.body = some (bodyOf Tryz.f16) by kernel_rfl)⟩
  obtain ⟨rfl, rfl⟩ := he.nil_inv
  exact h () hp

noncomputable def law17.SolveUppers.tab : List (Nat × Entry) := [(16, law17.awake.spec), (15, law17.same.spec), (14, ref17.Upper.spec), (13, solve.Upper.spec)]
noncomputable def law17.SolveUppers.E : Env := envOf (tabOf law17.SolveUppers.tab) (fun _ => false) (fun _ => none) (fun _ => none)
theorem law17.SolveUppers.ev (N : Nat) (r : Int) (c : Int) (l : List Int) (p : Int) (q : Int) (m : List Int) : funD law17.SolveUppers.E N Tryz.f3 (bodyOf Tryz.f3) [.agg [.int .i64 r, .int .i64 c, .ints .arg .u64 l], .agg [.int .i64 p, .int .i64 q, .ints .arg .u64 m]] =
  bif (allU64 l && allU64 m) then
  bif (allU64 l && allU64 m) then
  bif (okLen ((upX r c l p q m).2.2.1)) then
  some (.bool (bif (decide (((upX r c l p q m).2.2.2) = ((upX r c l p q m).2.2.2)) && sameM ((upX r c l p q m).1) ((upX r c l p q m).2.1) ((upX r c l p q m).2.2.1) ((upX r c l p q m).1) ((upX r c l p q m).2.1) ((upX r c l p q m).2.2.1)) then true else false))
  else none
  else none
  else none :=
  Eq.trans (by kernel_rfl)
  (ifE (ifE (ifE (ifTn (tt2 (decide (((upX r c l p q m).2.2.2) = ((upX r c l p q m).2.2.2)) && sameM ((upX r c l p q m).1) ((upX r c l p q m).2.1) ((upX r c l p q m).2.2.1) ((upX r c l p q m).1) ((upX r c l p q m).2.1) ((upX r c l p q m).2.2.1))) (ifTn (tt0 (decide (((upX r c l p q m).2.2.2) = ((upX r c l p q m).2.2.2)) && sameM ((upX r c l p q m).1) ((upX r c l p q m).2.1) ((upX r c l p q m).2.2.1) ((upX r c l p q m).1) ((upX r c l p q m).2.1) ((upX r c l p q m).2.2.1))) rfl)) rfl) rfl) rfl)
theorem law17.SolveUppers.known_of (hk : Knowns Tryz.prog law17.SolveUppers.tab) (h : ∀ (r : Int) (c : Int) (l : List Int) (p : Int) (q : Int) (m : List Int), law17.SolveUppers.pre [.i r, .i c, .l l, .i p, .i q, .l m] = true → ∃ N dv drops, funD law17.SolveUppers.E N Tryz.f3 (bodyOf Tryz.f3) [.agg [.int .i64 r, .int .i64 c, .ints .arg .u64 l], .agg [.int .i64 p, .int .i64 q, .ints .arg .u64 m]] = some dv ∧ Wk drops dv (law17.SolveUppers.out [.i r, .i c, .l l, .i p, .i q, .l m])) : Known Tryz.prog 3 law17.SolveUppers.spec := by
  refine ⟨meets_entry (E := law17.SolveUppers.E) (env_ok hk _ _ _) Tryz.func3 (show Tryz.f3.body = some (bodyOf Tryz.f3) by kernel_rfl) fun ats dvs he hp => ?_, call_enter Tryz.func3 (by kernel_rfl) (show Tryz.f3.body = some (bodyOf Tryz.f3) by kernel_rfl)⟩
  obtain ⟨_, _, _, _, rfl, rfl, hs0, he0⟩ := he.st_inv
  obtain ⟨r, _, _, rfl, rfl, he1⟩ := hs0.i_inv
  obtain ⟨c, _, _, rfl, rfl, he2⟩ := he1.i_inv
  obtain ⟨l, _, _, rfl, rfl, he3⟩ := he2.s_inv
  obtain ⟨rfl, rfl⟩ := he3.nil_inv
  obtain ⟨_, _, _, _, rfl, rfl, hs4, he4⟩ := he0.st_inv
  obtain ⟨p, _, _, rfl, rfl, he5⟩ := hs4.i_inv
  obtain ⟨q, _, _, rfl, rfl, he6⟩ := he5.i_inv
  obtain ⟨m, _, _, rfl, rfl, he7⟩ := he6.s_inv
  obtain ⟨rfl, rfl⟩ := he7.nil_inv
  obtain ⟨rfl, rfl⟩ := he4.nil_inv
  exact h r c l p q m hp
end EqLaw17
end Go.Proofs.S1

/- Chapter 17's laws: triangles from above. -/
namespace Go.Proofs.S1
open Go Go.Den Go.Rnd Go.Proofs
open EqLaw17

theorem law17.same.known : Known Tryz.prog 15 law17.same.spec := law17.same.known_of (.cons ref10.Same.known .nil) fun r c l e p q m f hp => by
  have hp : okLen l = true := hp
  refine ⟨0, law17.same.out [.i r, .i c, .l l, .i e, .i p, .i q, .l m, .i f], [], ?_, .bool⟩
  show _ = some (DV.bool (decide (e = f) && sameM r c l p q m))
  have he : (e == f) = decide (e = f) := by rw [Bool.eq_iff_iff]; simp
  rw [law17.same.ev, hp, Bool.or_true, cond_true, he]
  cases decide (e = f) <;> rfl

def two1 : List Int := [4611686018427387904]
def four1 : List Int := [4616189618054758400]
theorem least_two : leastF 1 1 two1 1 1 four1 = (1, 1, two1, 0) := by decide +kernel
theorem few_two : fewB 1 1 two1 = true := by decide +kernel
theorem all_two : allU64 two1 = true := cdec_eq.2 fun x hx => by
  rw [List.mem_singleton.1 hx]; exact inU64_of (n := 4611686018427387904) (by decide)
theorem all_four : allU64 four1 = true := cdec_eq.2 fun x hx => by
  rw [List.mem_singleton.1 hx]; exact inU64_of (n := 4616189618054758400) (by decide)

theorem law17.awake.known : Known Tryz.prog 16 law17.awake.spec := law17.awake.known_of (.cons solve.Least.Few.known .nil) fun _ _ => by
  refine ⟨0, law17.awake.out [], [], ?_, .bool⟩
  have h1 : fewB (1 : Int) (1 : Int) [(4611686018427387904 : Int)] = true := few_two
  have h2 : allU64 [(4611686018427387904 : Int)] = true := all_two
  have h3 : allU64 [(4616189618054758400 : Int)] = true := all_four
  have h4 : leastF (1 : Int) (1 : Int) [(4611686018427387904 : Int)] (1 : Int) (1 : Int) [(4616189618054758400 : Int)] = (1, 1, two1, 0) := least_two
  rw [law17.awake.ev, h1, h2, h3, h4]
  rfl

theorem finX_len {r c : Nat} {l : List Int} (h : l.length ≤ 36) : (finX r c l).2.2.1.length ≤ 36 := by
  unfold finX
  split
  · exact h
  · exact Nat.zero_le _
theorem upX_len (r c : Int) (l : List Int) (p q : Int) (m : List Int) : okLen (upX r c l p q m).2.2.1 = true := cdec_eq.2 (by
  unfold upX
  by_cases h : chkT r c l p q m = 0
  · rw [if_neg (by rw [h]; decide)]
    obtain ⟨h1, h2, rfl, rfl⟩ := chkT_zero h
    obtain ⟨R, C, rfl, hC, r6, c6, hl⟩ := right_nat h1
    obtain ⟨P, Q, hP, rfl, p6, q6, hl2⟩ := right_nat h2
    have := Nat.mul_le_mul r6 q6
    have h3 := finX_len (r := R) (c := Q) (l := upG (R : Int) l (Q : Int) m (R : Int).toNat (Q : Int).toNat) (by unfold upG; rw [grid_length, Int.toNat_natCast, Int.toNat_natCast]; omega)
    omega
  · rw [if_pos h]; exact Nat.zero_le _)

theorem same_refl (r c : Int) (l : List Int) : sameM r c l r c l = true := by unfold sameM; simp

theorem law17.SolveUppers.known : Known Tryz.prog 3 law17.SolveUppers.spec := law17.SolveUppers.known_of (.cons law17.awake.known (.cons law17.same.known (.cons ref17.Upper.known (.cons solve.Upper.known .nil)))) fun r c l p q m hp => by
  have hp : (allU64 l && allU64 m) = true := hp
  refine ⟨0, law17.SolveUppers.out [.i r, .i c, .l l, .i p, .i q, .l m], [], ?_, .bool⟩
  show _ = some (DV.bool true)
  rw [law17.SolveUppers.ev, hp, cond_true, cond_true, upX_len, cond_true, same_refl, decide_eq_true rfl]
  rfl
end Go.Proofs.S1
