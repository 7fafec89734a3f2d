/- LawT of the verified evaluator and its use for this seat (of my texts S1EqLaw10, S1PLaw10). -/
import Derived.Test.YtakfdnpjnbopbaaSpe
import Derived.Test.YtakfdnpjnbopbaaRefT

/- The evaluator's equations: dioptralaw10.told, dioptralaw10.form, dioptralaw10.awake, dioptralaw10.MatrixMakes, dioptralaw10.MatrixChecks, dioptralaw10.MatrixTurns. Printed by denpy.py. -/
namespace Go.Proofs.S1
open Go Go.Den Go.Rnd Go.Proofs
set_option linter.unusedVariables false
set_option maxRecDepth 100000
namespace EqLaw10
theorem tt0 (a : Bool) : (((!a) || (a == true)) && true) = true := by cases a <;> rfl
theorem tt1 (a b : Bool) : ((!(a == true)) || ((((!(a == true)) || (a == true)) && (((!(a == true)) || (a == true)) && true)) && b)) = ((!a) || b) := by cases a <;> cases b <;> rfl
theorem tt2 (a : Bool) : ((!(a == true)) || true) = true := by cases a <;> rfl
theorem tt3 (a b : Bool) : (bif (!a) then true else (!b)) = ((!a) || (!b)) := by cases a <;> cases b <;> rfl
theorem tt4 (a : Bool) : ((!(!(!a))) || ((!a) == false)) = true := by cases a <;> rfl
theorem tt5 (a : Bool) : ((!((!a) == false)) || ((((!((!a) == false)) || ((!a) == false)) && true) && true)) = true := by cases a <;> rfl
theorem tt6 (a : Bool) : ((!((!a) == false)) || true) = true := by cases a <;> rfl
theorem tt7 (a b : Bool) : ((((!(bif a then b else false)) || ((bif a then b else false) == true)) && true) && true) = true := by cases a <;> cases b <;> rfl
theorem tt8 (a b c : Bool) : (((!((bif a then b else false) == true)) || ((((!((bif a then b else false) == true)) || ((bif a then b else false) == true)) && (((!((bif a then b else false) == true)) || ((bif a then b else false) == true)) && true)) && c)) && true) = ((!(a && b)) || c) := by cases a <;> cases b <;> cases c <;> rfl
theorem tt9 (a b c : Bool) : (((!((bif a then b else false) == true)) || c) && true) = ((!(a && b)) || c) := by cases a <;> cases b <;> cases c <;> rfl
theorem tt10 (a b : Bool) : (((!((bif a then b else false) == true)) || true) && true) = true := by cases a <;> cases b <;> rfl
theorem tt11 (a : Bool) : ((((!a) || (a == true)) && true) && true) = true := by cases a <;> rfl
theorem tt12 (a : Bool) : (((!(a == true)) || ((((!(a == true)) || (a == true)) && true) && true)) && true) = true := by cases a <;> rfl
theorem tt13 (a : Bool) : (((!(a == true)) || true) && true) = true := by cases a <;> rfl
theorem tt14 (a : Bool) : (a && true) = a := by cases a <;> rfl
theorem tt15 (a b c d : Bool) : (bif (bif (bif a then b else false) then (!c) else false) then true else (bif (!(bif a then b else false)) then (!d) else false)) = (((a && b) && (!c)) || ((!(a && b)) && (!d))) := by cases a <;> cases b <;> cases c <;> cases d <;> rfl
theorem tt16 (a b c : Bool) : (((!(!(bif (bif a then b else false) then (!c) else false))) || ((bif (bif a then b else false) then (!c) else false) == false)) && true) = true := by cases a <;> cases b <;> cases c <;> rfl
theorem tt17 (a b c : Bool) : (((!((bif (bif a then b else false) then (!c) else false) == false)) || (((!((bif (bif a then b else false) then (!c) else false) == false)) || ((bif (bif a then b else false) then (!c) else false) == false)) && (((!(!(bif a then b else false))) || (((bif (bif a then b else false) then (!c) else false) == false) && ((!(bif a then b else false)) == true))) && true))) && true) = true := by cases a <;> cases b <;> cases c <;> rfl
theorem tt18 (a b c : Bool) : (((!(((bif (bif a then b else false) then (!c) else false) == false) && ((!(bif a then b else false)) == true))) || ((((!(((bif (bif a then b else false) then (!c) else false) == false) && ((!(bif a then b else false)) == true))) || (((bif (bif a then b else false) then (!c) else false) == false) && ((!(bif a then b else false)) == true))) && true) && true)) && true) = true := by cases a <;> cases b <;> cases c <;> rfl
theorem tt19 (a b c d : Bool) : (((!(((bif (bif a then b else false) then (!c) else false) == false) && ((!(bif a then b else false)) == true))) || ((((!(((bif (bif a then b else false) then (!c) else false) == false) && ((!(bif a then b else false)) == true))) || (((bif (bif a then b else false) then (!c) else false) == false) && ((!(bif a then b else false)) == true))) && (((!(((bif (bif a then b else false) then (!c) else false) == false) && ((!(bif a then b else false)) == true))) || (((bif (bif a then b else false) then (!c) else false) == false) && ((!(bif a then b else false)) == true))) && (((!(((bif (bif a then b else false) then (!c) else false) == false) && ((!(bif a then b else false)) == true))) || (((bif (bif a then b else false) then (!c) else false) == false) && ((!(bif a then b else false)) == true))) && true))) && d)) && true) = ((!((!((a && b) && (!c))) && (!(a && b)))) || d) := by cases a <;> cases b <;> cases c <;> cases d <;> rfl
theorem tt20 (a b c : Bool) : (((!(((bif (bif a then b else false) then (!c) else false) == false) && ((!(bif a then b else false)) == true))) || true) && true) = true := by cases a <;> cases b <;> cases c <;> rfl
theorem tt21 (a b c : Bool) : (((!((bif (bif a then b else false) then (!c) else false) == false)) || ((((!((bif (bif a then b else false) then (!c) else false) == false)) || ((bif (bif a then b else false) then (!c) else false) == false)) && true) && true)) && true) = true := by cases a <;> cases b <;> cases c <;> rfl
theorem tt22 (a b c : Bool) : (((!((bif (bif a then b else false) then (!c) else false) == false)) || true) && true) = true := by cases a <;> cases b <;> cases c <;> rfl
theorem tt23 (a b : Bool) : (((!((bif a then b else false) == true)) || ((((!((bif a then b else false) == true)) || ((bif a then b else false) == true)) && true) && true)) && true) = true := by cases a <;> cases b <;> rfl
theorem tt24 (a b c : Bool) : (((!((bif a then b else false) == true)) || ((((!((bif a then b else false) == true)) || ((bif a then b else false) == true)) && (((!((bif a then b else false) == true)) || ((bif a then b else false) == true)) && (((!((bif a then b else false) == true)) || ((bif a then b else false) == true)) && true))) && c)) && true) = ((!(a && b)) || c) := by cases a <;> cases b <;> cases c <;> rfl
theorem tt25 (a b c : Bool) : (((!((bif a then b else false) == true)) || ((((!((bif a then b else false) == true)) || ((bif a then b else false) == true)) && true) && c)) && true) = ((!(a && b)) || c) := by cases a <;> cases b <;> cases c <;> rfl
theorem tt26 (a b c d e f : Bool) : (bif (!((bif a then b else false) == c)) then true else (!((bif (bif (bif a then b else false) then d else false) then e else false) == f))) = ((!((a && b) == c)) || (!((((a && b) && d) && e) == f))) := by cases a <;> cases b <;> cases c <;> cases d <;> cases e <;> cases f <;> rfl
theorem tt27 (a b c : Bool) : ((!(!(!((bif a then b else false) == c)))) || ((!((bif a then b else false) == c)) == false)) = true := by cases a <;> cases b <;> cases c <;> rfl
theorem tt28 (a b c : Bool) : ((!((!((bif a then b else false) == c)) == false)) || ((((!((!((bif a then b else false) == c)) == false)) || ((!((bif a then b else false) == c)) == false)) && (((!((!((bif a then b else false) == c)) == false)) || ((!((bif a then b else false) == c)) == false)) && true)) && true)) = true := by cases a <;> cases b <;> cases c <;> rfl
theorem tt29 (a b c : Bool) : ((!((!((bif a then b else false) == c)) == false)) || ((((!((!((bif a then b else false) == c)) == false)) || ((!((bif a then b else false) == c)) == false)) && true) && true)) = true := by cases a <;> cases b <;> cases c <;> rfl
theorem tt30 (a b c : Bool) : ((!((!((bif a then b else false) == c)) == false)) || true) = true := by cases a <;> cases b <;> cases c <;> rfl
theorem tt31 (a b c d : Bool) : ((!((!((bif a then b else false) == c)) == false)) || (((!((!((bif a then b else false) == c)) == false)) || ((!((bif a then b else false) == c)) == false)) && (((!(bif (bif a then b else false) then d else false)) || (((!((bif a then b else false) == c)) == false) && ((bif (bif a then b else false) then d else false) == true))) && true))) = true := by cases a <;> cases b <;> cases c <;> cases d <;> rfl
theorem tt32 (a b c d : Bool) : ((!(((!((bif a then b else false) == c)) == false) && ((bif (bif a then b else false) then d else false) == true))) || ((((!(((!((bif a then b else false) == c)) == false) && ((bif (bif a then b else false) then d else false) == true))) || (((!((bif a then b else false) == c)) == false) && ((bif (bif a then b else false) then d else false) == true))) && true) && true)) = true := by cases a <;> cases b <;> cases c <;> cases d <;> rfl
theorem tt33 (a b c d : Bool) : ((!(((!((bif a then b else false) == c)) == false) && ((bif (bif a then b else false) then d else false) == true))) || true) = true := by cases a <;> cases b <;> cases c <;> cases d <;> rfl
theorem tt34 (a b c : Bool) : ((!((!((bif a then b else false) == c)) == false)) || (((!((!((bif a then b else false) == c)) == false)) || ((!((bif a then b else false) == c)) == false)) && (((!(bif a then b else false)) || (((!((bif a then b else false) == c)) == false) && ((bif a then b else false) == true))) && true))) = ((!((a && b) == c)) || ((!(a && b)) || c)) := by cases a <;> cases b <;> cases c <;> rfl
theorem tt35 (a b c : Bool) : ((!(((!((bif a then b else false) == c)) == false) && ((bif a then b else false) == true))) || ((((!(((!((bif a then b else false) == c)) == false) && ((bif a then b else false) == true))) || (((!((bif a then b else false) == c)) == false) && ((bif a then b else false) == true))) && true) && true)) = true := by cases a <;> cases b <;> cases c <;> rfl
theorem tt36 (a b c : Bool) : ((!(((!((bif a then b else false) == c)) == false) && ((bif a then b else false) == true))) || true) = true := by cases a <;> cases b <;> cases c <;> rfl
theorem tt37 (a : Bool) : ((!(a == true)) || ((((!(a == true)) || (a == true)) && true) && true)) = true := by cases a <;> rfl
theorem tt38 (a b c : Bool) : (((!(bif (bif a then b else false) then c else false)) || ((bif (bif a then b else false) then c else false) == true)) && true) = true := by cases a <;> cases b <;> cases c <;> rfl
theorem tt39 (a b c : Bool) : ((!((bif (bif a then b else false) then c else false) == true)) || true) = true := by cases a <;> cases b <;> cases c <;> rfl
theorem tt40 (a b : Bool) : (((!(bif a then b else false)) || ((bif a then b else false) == true)) && true) = true := by cases a <;> cases b <;> rfl
theorem tt41 (a b : Bool) : ((!((bif a then b else false) == true)) || ((((!((bif a then b else false) == true)) || ((bif a then b else false) == true)) && true) && true)) = true := by cases a <;> cases b <;> rfl
theorem tt42 (a b : Bool) : ((!((bif a then b else false) == true)) || true) = true := by cases a <;> cases b <;> rfl
theorem tt43 (a : Bool) : ((!(a == true)) || ((((!(a == true)) || (a == true)) && (((!(a == true)) || (a == true)) && true)) && true)) = true := by cases a <;> rfl
theorem tt44 (a b : Bool) : ((!(a == true)) || ((((!(a == true)) || (a == true)) && (((!(a == true)) || (a == true)) && (((!(a == true)) || (a == true)) && true))) && b)) = ((!a) || b) := by cases a <;> cases b <;> rfl
theorem tt45 (a b c d : Bool) : (bif (bif (bif a then true else b) then true else c) then true else d) = (((a || b) || c) || d) := by cases a <;> cases b <;> cases c <;> cases d <;> rfl
theorem tt46 (a b c : Bool) : ((!(!(bif (bif a then true else b) then true else c))) || ((bif (bif a then true else b) then true else c) == false)) = true := by cases a <;> cases b <;> cases c <;> rfl
theorem tt47 (a b c : Bool) : ((!((bif (bif a then true else b) then true else c) == false)) || ((((!((bif (bif a then true else b) then true else c) == false)) || ((bif (bif a then true else b) then true else c) == false)) && (((!((bif (bif a then true else b) then true else c) == false)) || ((bif (bif a then true else b) then true else c) == false)) && true)) && true)) = true := by cases a <;> cases b <;> cases c <;> rfl
theorem tt48 (a b c : Bool) : ((!((bif (bif a then true else b) then true else c) == false)) || ((((!((bif (bif a then true else b) then true else c) == false)) || ((bif (bif a then true else b) then true else c) == false)) && true) && true)) = true := by cases a <;> cases b <;> cases c <;> rfl
theorem tt49 (a b c : Bool) : ((!((bif (bif a then true else b) then true else c) == false)) || true) = true := by cases a <;> cases b <;> cases c <;> rfl
theorem tt50 (a b : Bool) : ((!(!(bif a then true else b))) || ((bif a then true else b) == false)) = true := by cases a <;> cases b <;> rfl
theorem tt51 (a b : Bool) : ((!((bif a then true else b) == false)) || ((((!((bif a then true else b) == false)) || ((bif a then true else b) == false)) && true) && true)) = true := by cases a <;> cases b <;> rfl
theorem tt52 (a b : Bool) : ((!((bif a then true else b) == false)) || true) = true := by cases a <;> cases b <;> rfl
theorem tt53 (a : Bool) : ((!(!a)) || (a == false)) = true := by cases a <;> rfl
theorem tt54 (a : Bool) : ((!(a == false)) || ((((!(a == false)) || (a == false)) && (((!(a == false)) || (a == false)) && true)) && true)) = true := by cases a <;> rfl
theorem tt55 (a : Bool) : ((!(a == false)) || ((((!(a == false)) || (a == false)) && true) && true)) = true := by cases a <;> rfl
theorem tt56 (a : Bool) : ((!(a == false)) || true) = true := by cases a <;> rfl
theorem tt57 (a b c : Bool) : (bif (bif a then true else b) then true else (!c)) = ((a || b) || (!c)) := by cases a <;> cases b <;> cases c <;> rfl
theorem tt58 (a b c : Bool) : ((!((bif a then true else b) == false)) || ((((!((bif a then true else b) == false)) || ((bif a then true else b) == false)) && (((!((bif a then true else b) == false)) || ((bif a then true else b) == false)) && true)) && c)) = ((a || b) || c) := by cases a <;> cases b <;> cases c <;> rfl
noncomputable def law10.told.tab : List (Nat × Entry) := [(18, ref10.Same.spec)]
noncomputable def law10.told.E : Env := envOf (tabOf law10.told.tab) (fun _ => false) (fun _ => none) (fun _ => none)
theorem law10.told.ev (N : Nat) (r : Int) (c : Int) (l : List Int) (e : Int) (p : Int) (q : Int) (m : List Int) (f : Int) : funD law10.told.E N Try.f12 (bodyOf Try.f12) [.agg [.int .i64 r, .int .i64 c, .ints .arg .u64 l], .int .i64 e, .agg [.int .i64 p, .int .i64 q, .ints .arg .u64 m], .int .i64 f] =
  bif (f != (0 : Int)) then
    bif ((!(e == f)) || (okLen l)) then
      some (.bool (bif (e == f) then (sameM r c l (0 : Int) (0 : Int) []) else false))
    else none
  else bif ((!(e == (0 : Int))) || (okLen l)) then
    some (.bool (bif (e == (0 : Int)) then (sameM r c l p q m) else false))
  else none :=
  Eq.trans (b := bif (f != (0 : Int)) then
    bif ((!((e == f) == true)) || true) then
      bif ((!((e == f) == true)) || true) then
        bif ((!((e == f) == true)) || ((((!((e == f) == true)) || ((e == f) == true)) && (((!((e == f) == true)) || ((e == f) == true)) && true)) && (okLen l))) then
          bif (((!(e == f)) || ((e == f) == true)) && true) then
            some (.bool (bif (e == f) then (sameM r c l (0 : Int) (0 : Int) []) else false))
          else none
        else none
      else none
    else none
  else bif ((!((e == (0 : Int)) == true)) || true) then
    bif ((!((e == (0 : Int)) == true)) || true) then
      bif ((!((e == (0 : Int)) == true)) || ((((!((e == (0 : Int)) == true)) || ((e == (0 : Int)) == true)) && (((!((e == (0 : Int)) == true)) || ((e == (0 : Int)) == true)) && true)) && (okLen l))) then
        bif (((!(e == (0 : Int))) || ((e == (0 : Int)) == true)) && true) then
          some (.bool (bif (e == (0 : Int)) then (sameM r c l p q m) else false))
        else none
      else none
    else none
  else none) (by kernel_rfl)
  (ifE (ifT (tt2 _) (ifT (tt2 _) (ifS (tt1 _ _) (ifT (tt0 _) rfl) rfl))) (ifT (tt2 _) (ifT (tt2 _) (ifS (tt1 _ _) (ifT (tt0 _) rfl) rfl))))
theorem law10.told.known_of (hk : Knowns Try.prog law10.told.tab) (h : ∀ (r : Int) (c : Int) (l : List Int) (e : Int) (p : Int) (q : Int) (m : List Int) (f : Int), law10.told.pre [.i r, .i c, .l l, .i e, .i p, .i q, .l m, .i f] = true → ∃ N dv drops, funD law10.told.E N Try.f12 (bodyOf Try.f12) [.agg [.int .i64 r, .int .i64 c, .ints .arg .u64 l], .int .i64 e, .agg [.int .i64 p, .int .i64 q, .ints .arg .u64 m], .int .i64 f] = some dv ∧ Wk drops dv (law10.told.out [.i r, .i c, .l l, .i e, .i p, .i q, .l m, .i f])) : Known Try.prog 12 law10.told.spec := by
  refine ⟨meets_entry (E := law10.told.E) (env_ok hk _ _ _) Try.func12 (show Try.f12.body = some (bodyOf Try.f12) by kernel_rfl) fun ats dvs he hp => ?_, call_enter Try.func12 (by kernel_rfl) (show Try.f12.body = some (bodyOf Try.f12) by kernel_rfl)⟩
  obtain ⟨_, _, _, _, rfl, rfl, hs0, he0⟩ := he.st_inv
  obtain ⟨r, _, _, rfl, rfl, he1⟩ := hs0.i_inv
  obtain ⟨c, _, _, rfl, rfl, he2⟩ := he1.i_inv
  obtain ⟨l, _, _, rfl, rfl, he3⟩ := he2.s_inv
  obtain ⟨rfl, rfl⟩ := he3.nil_inv
  obtain ⟨e, _, _, rfl, rfl, he4⟩ := he0.i_inv
  obtain ⟨_, _, _, _, rfl, rfl, hs5, he5⟩ := he4.st_inv
  obtain ⟨p, _, _, rfl, rfl, he6⟩ := hs5.i_inv
  obtain ⟨q, _, _, rfl, rfl, he7⟩ := he6.i_inv
  obtain ⟨m, _, _, rfl, rfl, he8⟩ := he7.s_inv
  obtain ⟨rfl, rfl⟩ := he8.nil_inv
  obtain ⟨f, _, _, rfl, rfl, he9⟩ := he5.i_inv
  obtain ⟨rfl, rfl⟩ := he9.nil_inv
  exact h r c l e p q m f hp

noncomputable def law10.form.tab : List (Nat × Entry) := [(21, ref10.Right.spec)]
noncomputable def law10.form.E : Env := envOf (tabOf law10.form.tab) (fun _ => false) (fun _ => none) (fun _ => none)
theorem law10.form.ev (N : Nat) (r : Int) (c : Int) (l : List Int) (p : Int) (q : Int) (m : List Int) : funD law10.form.E N Try.f16 (bodyOf Try.f16) [.agg [.int .i64 r, .int .i64 c, .ints .arg .u64 l], .agg [.int .i64 p, .int .i64 q, .ints .arg .u64 m]] =
  bif ((!(rightB r c l)) || (!(rightB p q m))) then
    some (.int .i64 (1 : Int))
  else some (.int .i64 (0 : Int)) :=
  Eq.trans (b := bif ((!((!(rightB r c l)) == false)) || true) then
    bif ((!((!(rightB r c l)) == false)) || ((((!((!(rightB r c l)) == false)) || ((!(rightB r c l)) == false)) && true) && true)) then
      bif ((!((!(rightB r c l)) == false)) || ((((!((!(rightB r c l)) == false)) || ((!(rightB r c l)) == false)) && true) && true)) then
        bif ((!(!(!(rightB r c l)))) || ((!(rightB r c l)) == false)) then
          bif (bif (!(rightB r c l)) then true else (!(rightB p q m))) then
            some (.int .i64 (1 : Int))
          else some (.int .i64 (0 : Int))
        else none
      else none
    else none
  else none) (by kernel_rfl)
  (ifT (tt6 _) (ifT (tt5 _) (ifT (tt5 _) (ifT (tt4 _) (ifS (tt3 _ _) rfl rfl)))))
theorem law10.form.known_of (hk : Knowns Try.prog law10.form.tab) (h : ∀ (r : Int) (c : Int) (l : List Int) (p : Int) (q : Int) (m : List Int), law10.form.pre [.i r, .i c, .l l, .i p, .i q, .l m] = true → ∃ N dv drops, funD law10.form.E N Try.f16 (bodyOf Try.f16) [.agg [.int .i64 r, .int .i64 c, .ints .arg .u64 l], .agg [.int .i64 p, .int .i64 q, .ints .arg .u64 m]] = some dv ∧ Wk drops dv (law10.form.out [.i r, .i c, .l l, .i p, .i q, .l m])) : Known Try.prog 16 law10.form.spec := by
  refine ⟨meets_entry (E := law10.form.E) (env_ok hk _ _ _) Try.func16 (show Try.f16.body = some (bodyOf Try.f16) by kernel_rfl) fun ats dvs he hp => ?_, call_enter Try.func16 (by kernel_rfl) (show Try.f16.body = some (bodyOf Try.f16) by kernel_rfl)⟩
  obtain ⟨_, _, _, _, rfl, rfl, hs0, he0⟩ := he.st_inv
  obtain ⟨r, _, _, rfl, rfl, he1⟩ := hs0.i_inv
  obtain ⟨c, _, _, rfl, rfl, he2⟩ := he1.i_inv
  obtain ⟨l, _, _, rfl, rfl, he3⟩ := he2.s_inv
  obtain ⟨rfl, rfl⟩ := he3.nil_inv
  obtain ⟨_, _, _, _, rfl, rfl, hs4, he4⟩ := he0.st_inv
  obtain ⟨p, _, _, rfl, rfl, he5⟩ := hs4.i_inv
  obtain ⟨q, _, _, rfl, rfl, he6⟩ := he5.i_inv
  obtain ⟨m, _, _, rfl, rfl, he7⟩ := he6.s_inv
  obtain ⟨rfl, rfl⟩ := he7.nil_inv
  obtain ⟨rfl, rfl⟩ := he4.nil_inv
  exact h r c l p q m hp

noncomputable def law10.awake.tab : List (Nat × Entry) := [(11, matrix.Eye.spec), (19, matrix.Mul.spec), (13, ref10.Eye.spec), (18, ref10.Same.spec)]
noncomputable def law10.awake.E : Env := envOf (tabOf law10.awake.tab) (fun _ => false) (fun _ => none) (fun _ => none)
theorem law10.awake.ev (N : Nat) : funD law10.awake.E N Try.f14 (bodyOf Try.f14) [] =
  bif (allU64 ((eyeX (2 : Int)).2.2.1) && allU64 ((eyeX (2 : Int)).2.2.1)) then
    bif ((!((((eyeX (2 : Int)).2.2.2) == (0 : Int)) && (((mulX ((eyeX (2 : Int)).1) ((eyeX (2 : Int)).2.1) ((eyeX (2 : Int)).2.2.1) ((eyeX (2 : Int)).1) ((eyeX (2 : Int)).2.1) ((eyeX (2 : Int)).2.2.1)).2.2.2) == (0 : Int)))) || (sizeB (2 : Int))) then
      bif ((!((((eyeX (2 : Int)).2.2.2) == (0 : Int)) && (((mulX ((eyeX (2 : Int)).1) ((eyeX (2 : Int)).2.1) ((eyeX (2 : Int)).2.2.1) ((eyeX (2 : Int)).1) ((eyeX (2 : Int)).2.1) ((eyeX (2 : Int)).2.2.1)).2.2.2) == (0 : Int)))) || (okLen ((mulX ((eyeX (2 : Int)).1) ((eyeX (2 : Int)).2.1) ((eyeX (2 : Int)).2.2.1) ((eyeX (2 : Int)).1) ((eyeX (2 : Int)).2.1) ((eyeX (2 : Int)).2.2.1)).2.2.1))) then
        some (.bool (bif (bif (((eyeX (2 : Int)).2.2.2) == (0 : Int)) then (((mulX ((eyeX (2 : Int)).1) ((eyeX (2 : Int)).2.1) ((eyeX (2 : Int)).2.2.1) ((eyeX (2 : Int)).1) ((eyeX (2 : Int)).2.1) ((eyeX (2 : Int)).2.2.1)).2.2.2) == (0 : Int)) else false) then (sameM ((mulX ((eyeX (2 : Int)).1) ((eyeX (2 : Int)).2.1) ((eyeX (2 : Int)).2.2.1) ((eyeX (2 : Int)).1) ((eyeX (2 : Int)).2.1) ((eyeX (2 : Int)).2.2.1)).1) ((mulX ((eyeX (2 : Int)).1) ((eyeX (2 : Int)).2.1) ((eyeX (2 : Int)).2.2.1) ((eyeX (2 : Int)).1) ((eyeX (2 : Int)).2.1) ((eyeX (2 : Int)).2.2.1)).2.1) ((mulX ((eyeX (2 : Int)).1) ((eyeX (2 : Int)).2.1) ((eyeX (2 : Int)).2.2.1) ((eyeX (2 : Int)).1) ((eyeX (2 : Int)).2.1) ((eyeX (2 : Int)).2.2.1)).2.2.1) (2 : Int) (2 : Int) (grid (Int.toNat (2 : Int)) (Int.toNat (2 : Int)) (fun j1 j2 => eyeI j1 j2))) else false))
      else none
    else none
  else none :=
  Eq.trans (b := bif (allU64 ((eyeX (2 : Int)).2.2.1) && allU64 ((eyeX (2 : Int)).2.2.1)) then
    bif (((!((((eyeX (2 : Int)).2.2.2) == (0 : Int)) == true)) || true) && true) then
      bif (((!((((eyeX (2 : Int)).2.2.2) == (0 : Int)) == true)) || ((((!((((eyeX (2 : Int)).2.2.2) == (0 : Int)) == true)) || ((((eyeX (2 : Int)).2.2.2) == (0 : Int)) == true)) && true) && true)) && true) then
        bif ((((!(((eyeX (2 : Int)).2.2.2) == (0 : Int))) || ((((eyeX (2 : Int)).2.2.2) == (0 : Int)) == true)) && true) && true) then
          bif (((!((bif (((eyeX (2 : Int)).2.2.2) == (0 : Int)) then (((mulX ((eyeX (2 : Int)).1) ((eyeX (2 : Int)).2.1) ((eyeX (2 : Int)).2.2.1) ((eyeX (2 : Int)).1) ((eyeX (2 : Int)).2.1) ((eyeX (2 : Int)).2.2.1)).2.2.2) == (0 : Int)) else false) == true)) || true) && true) then
            bif (((!((bif (((eyeX (2 : Int)).2.2.2) == (0 : Int)) then (((mulX ((eyeX (2 : Int)).1) ((eyeX (2 : Int)).2.1) ((eyeX (2 : Int)).2.2.1) ((eyeX (2 : Int)).1) ((eyeX (2 : Int)).2.1) ((eyeX (2 : Int)).2.2.1)).2.2.2) == (0 : Int)) else false) == true)) || (sizeB (2 : Int))) && true) then
              bif (((!((bif (((eyeX (2 : Int)).2.2.2) == (0 : Int)) then (((mulX ((eyeX (2 : Int)).1) ((eyeX (2 : Int)).2.1) ((eyeX (2 : Int)).2.2.1) ((eyeX (2 : Int)).1) ((eyeX (2 : Int)).2.1) ((eyeX (2 : Int)).2.2.1)).2.2.2) == (0 : Int)) else false) == true)) || ((((!((bif (((eyeX (2 : Int)).2.2.2) == (0 : Int)) then (((mulX ((eyeX (2 : Int)).1) ((eyeX (2 : Int)).2.1) ((eyeX (2 : Int)).2.2.1) ((eyeX (2 : Int)).1) ((eyeX (2 : Int)).2.1) ((eyeX (2 : Int)).2.2.1)).2.2.2) == (0 : Int)) else false) == true)) || ((bif (((eyeX (2 : Int)).2.2.2) == (0 : Int)) then (((mulX ((eyeX (2 : Int)).1) ((eyeX (2 : Int)).2.1) ((eyeX (2 : Int)).2.2.1) ((eyeX (2 : Int)).1) ((eyeX (2 : Int)).2.1) ((eyeX (2 : Int)).2.2.1)).2.2.2) == (0 : Int)) else false) == true)) && (((!((bif (((eyeX (2 : Int)).2.2.2) == (0 : Int)) then (((mulX ((eyeX (2 : Int)).1) ((eyeX (2 : Int)).2.1) ((eyeX (2 : Int)).2.2.1) ((eyeX (2 : Int)).1) ((eyeX (2 : Int)).2.1) ((eyeX (2 : Int)).2.2.1)).2.2.2) == (0 : Int)) else false) == true)) || ((bif (((eyeX (2 : Int)).2.2.2) == (0 : Int)) then (((mulX ((eyeX (2 : Int)).1) ((eyeX (2 : Int)).2.1) ((eyeX (2 : Int)).2.2.1) ((eyeX (2 : Int)).1) ((eyeX (2 : Int)).2.1) ((eyeX (2 : Int)).2.2.1)).2.2.2) == (0 : Int)) else false) == true)) && true)) && (okLen ((mulX ((eyeX (2 : Int)).1) ((eyeX (2 : Int)).2.1) ((eyeX (2 : Int)).2.2.1) ((eyeX (2 : Int)).1) ((eyeX (2 : Int)).2.1) ((eyeX (2 : Int)).2.2.1)).2.2.1)))) && true) then
                bif ((((!(bif (((eyeX (2 : Int)).2.2.2) == (0 : Int)) then (((mulX ((eyeX (2 : Int)).1) ((eyeX (2 : Int)).2.1) ((eyeX (2 : Int)).2.2.1) ((eyeX (2 : Int)).1) ((eyeX (2 : Int)).2.1) ((eyeX (2 : Int)).2.2.1)).2.2.2) == (0 : Int)) else false)) || ((bif (((eyeX (2 : Int)).2.2.2) == (0 : Int)) then (((mulX ((eyeX (2 : Int)).1) ((eyeX (2 : Int)).2.1) ((eyeX (2 : Int)).2.2.1) ((eyeX (2 : Int)).1) ((eyeX (2 : Int)).2.1) ((eyeX (2 : Int)).2.2.1)).2.2.2) == (0 : Int)) else false) == true)) && true) && true) then
                  some (.bool (bif (bif (((eyeX (2 : Int)).2.2.2) == (0 : Int)) then (((mulX ((eyeX (2 : Int)).1) ((eyeX (2 : Int)).2.1) ((eyeX (2 : Int)).2.2.1) ((eyeX (2 : Int)).1) ((eyeX (2 : Int)).2.1) ((eyeX (2 : Int)).2.2.1)).2.2.2) == (0 : Int)) else false) then (sameM ((mulX ((eyeX (2 : Int)).1) ((eyeX (2 : Int)).2.1) ((eyeX (2 : Int)).2.2.1) ((eyeX (2 : Int)).1) ((eyeX (2 : Int)).2.1) ((eyeX (2 : Int)).2.2.1)).1) ((mulX ((eyeX (2 : Int)).1) ((eyeX (2 : Int)).2.1) ((eyeX (2 : Int)).2.2.1) ((eyeX (2 : Int)).1) ((eyeX (2 : Int)).2.1) ((eyeX (2 : Int)).2.2.1)).2.1) ((mulX ((eyeX (2 : Int)).1) ((eyeX (2 : Int)).2.1) ((eyeX (2 : Int)).2.2.1) ((eyeX (2 : Int)).1) ((eyeX (2 : Int)).2.1) ((eyeX (2 : Int)).2.2.1)).2.2.1) (2 : Int) (2 : Int) (grid (Int.toNat (2 : Int)) (Int.toNat (2 : Int)) (fun j1 j2 => eyeI j1 j2))) else false))
                else none
              else none
            else none
          else none
        else none
      else none
    else none
  else none) (by kernel_rfl)
  (ifE (ifT (tt13 _) (ifT (tt12 _) (ifT (tt11 _) (ifT (tt10 _ _) (ifS (tt9 _ _ _) (ifS (tt8 _ _ _) (ifT (tt7 _ _) rfl) rfl) rfl))))) rfl)
theorem law10.awake.known_of (hk : Knowns Try.prog law10.awake.tab) (h : ∀ (_ : Unit), law10.awake.pre [] = true → ∃ N dv drops, funD law10.awake.E N Try.f14 (bodyOf Try.f14) [] = some dv ∧ Wk drops dv (law10.awake.out [])) : Known Try.prog 14 law10.awake.spec := by
  refine ⟨meets_entry (E := law10.awake.E) (env_ok hk _ _ _) Try.func14 (show Try.f14.body = some (bodyOf Try.f14) by kernel_rfl) fun ats dvs he hp => ?_, call_enter Try.func14 (by kernel_rfl) (show Try.f14.body = some (bodyOf Try.f14) by kernel_rfl)⟩
  obtain ⟨rfl, rfl⟩ := he.nil_inv
  exact h () hp

noncomputable def law10.MatrixMakes.tab : List (Nat × Entry) := [(14, law10.awake.spec), (12, law10.told.spec), (11, matrix.Eye.spec), (10, matrix.Zeros.spec), (13, ref10.Eye.spec), (15, ref10.Zeros.spec)]
noncomputable def law10.MatrixMakes.E : Env := envOf (tabOf law10.MatrixMakes.tab) (fun _ => false) (fun _ => none) (fun _ => none)
theorem law10.MatrixMakes.ev (N : Nat) (a : Int) (b : Int) : funD law10.MatrixMakes.E N Try.f3 (bodyOf Try.f3) [.int .i64 a, .int .i64 b] =
  bif ((!(((leI (0 : Int) a) && (leI a (6 : Int))) == (((eyeX a).2.2.2) == (0 : Int)))) || ((!((leI (0 : Int) a) && (leI a (6 : Int)))) || (((eyeX a).2.2.2) == (0 : Int)))) then
    bif ((!(((leI (0 : Int) a) && (leI a (6 : Int))) == (((eyeX a).2.2.2) == (0 : Int)))) || (!(((((leI (0 : Int) a) && (leI a (6 : Int))) && (leI (0 : Int) b)) && (leI b (6 : Int))) == (((zerosX a b).2.2.2) == (0 : Int))))) then
      some (.bool false)
    else bif ((!((leI (0 : Int) a) && (leI a (6 : Int)))) || (sizeB a)) then
      bif ((!((leI (0 : Int) a) && (leI a (6 : Int)))) || (okLen ((eyeX a).2.2.1))) then
        bif ((!((!(((leI (0 : Int) a) && (leI a (6 : Int))) && (!(toldB ((eyeX a).1) ((eyeX a).2.1) ((eyeX a).2.2.1) ((eyeX a).2.2.2) a a (grid (Int.toNat a) (Int.toNat a) (fun j1 j2 => eyeI j1 j2)) (0 : Int))))) && (!((leI (0 : Int) a) && (leI a (6 : Int)))))) || (okLen ((eyeX a).2.2.1))) then
          bif ((((leI (0 : Int) a) && (leI a (6 : Int))) && (!(toldB ((eyeX a).1) ((eyeX a).2.1) ((eyeX a).2.2.1) ((eyeX a).2.2.2) a a (grid (Int.toNat a) (Int.toNat a) (fun j1 j2 => eyeI j1 j2)) (0 : Int)))) || ((!((leI (0 : Int) a) && (leI a (6 : Int)))) && (!(toldB ((eyeX a).1) ((eyeX a).2.1) ((eyeX a).2.2.1) ((eyeX a).2.2.2) (0 : Int) (0 : Int) [] (3 : Int))))) then
            some (.bool false)
          else bif (((zerosX a b).2.2.2) != (0 : Int)) then
            bif (okLen ((zerosX a b).2.2.1)) then
              some (.bool (bif (toldB ((zerosX a b).1) ((zerosX a b).2.1) ((zerosX a b).2.2.1) ((zerosX a b).2.2.2) (0 : Int) (0 : Int) [] (3 : Int)) then true else false))
            else none
          else bif (sizeB a && sizeB b) then
            bif (okLen ((zerosX a b).2.2.1)) then
              some (.bool (bif (toldB ((zerosX a b).1) ((zerosX a b).2.1) ((zerosX a b).2.2.1) ((zerosX a b).2.2.2) a b (grid (Int.toNat a) (Int.toNat b) (fun _ _ => 0)) (0 : Int)) then true else false))
            else none
          else none
        else none
      else none
    else none
  else none :=
  Eq.trans (b := bif ((!((leI (0 : Int) a) == true)) || true) then
    bif ((!((leI (0 : Int) a) == true)) || ((((!((leI (0 : Int) a) == true)) || ((leI (0 : Int) a) == true)) && true) && true)) then
      bif (((!(leI (0 : Int) a)) || ((leI (0 : Int) a) == true)) && true) then
        bif ((!((!((bif (leI (0 : Int) a) then (leI a (6 : Int)) else false) == (((eyeX a).2.2.2) == (0 : Int)))) == false)) || true) then
          bif ((!((!((bif (leI (0 : Int) a) then (leI a (6 : Int)) else false) == (((eyeX a).2.2.2) == (0 : Int)))) == false)) || ((((!((!((bif (leI (0 : Int) a) then (leI a (6 : Int)) else false) == (((eyeX a).2.2.2) == (0 : Int)))) == false)) || ((!((bif (leI (0 : Int) a) then (leI a (6 : Int)) else false) == (((eyeX a).2.2.2) == (0 : Int)))) == false)) && true) && true)) then
            bif ((!(((!((bif (leI (0 : Int) a) then (leI a (6 : Int)) else false) == (((eyeX a).2.2.2) == (0 : Int)))) == false) && ((bif (leI (0 : Int) a) then (leI a (6 : Int)) else false) == true))) || true) then
              bif ((!(((!((bif (leI (0 : Int) a) then (leI a (6 : Int)) else false) == (((eyeX a).2.2.2) == (0 : Int)))) == false) && ((bif (leI (0 : Int) a) then (leI a (6 : Int)) else false) == true))) || ((((!(((!((bif (leI (0 : Int) a) then (leI a (6 : Int)) else false) == (((eyeX a).2.2.2) == (0 : Int)))) == false) && ((bif (leI (0 : Int) a) then (leI a (6 : Int)) else false) == true))) || (((!((bif (leI (0 : Int) a) then (leI a (6 : Int)) else false) == (((eyeX a).2.2.2) == (0 : Int)))) == false) && ((bif (leI (0 : Int) a) then (leI a (6 : Int)) else false) == true))) && true) && true)) then
                bif ((!((!((bif (leI (0 : Int) a) then (leI a (6 : Int)) else false) == (((eyeX a).2.2.2) == (0 : Int)))) == false)) || (((!((!((bif (leI (0 : Int) a) then (leI a (6 : Int)) else false) == (((eyeX a).2.2.2) == (0 : Int)))) == false)) || ((!((bif (leI (0 : Int) a) then (leI a (6 : Int)) else false) == (((eyeX a).2.2.2) == (0 : Int)))) == false)) && (((!(bif (leI (0 : Int) a) then (leI a (6 : Int)) else false)) || (((!((bif (leI (0 : Int) a) then (leI a (6 : Int)) else false) == (((eyeX a).2.2.2) == (0 : Int)))) == false) && ((bif (leI (0 : Int) a) then (leI a (6 : Int)) else false) == true))) && true))) then
                  bif ((!((!((bif (leI (0 : Int) a) then (leI a (6 : Int)) else false) == (((eyeX a).2.2.2) == (0 : Int)))) == false)) || ((((!((!((bif (leI (0 : Int) a) then (leI a (6 : Int)) else false) == (((eyeX a).2.2.2) == (0 : Int)))) == false)) || ((!((bif (leI (0 : Int) a) then (leI a (6 : Int)) else false) == (((eyeX a).2.2.2) == (0 : Int)))) == false)) && true) && true)) then
                    bif ((!(((!((bif (leI (0 : Int) a) then (leI a (6 : Int)) else false) == (((eyeX a).2.2.2) == (0 : Int)))) == false) && ((bif (bif (leI (0 : Int) a) then (leI a (6 : Int)) else false) then (leI (0 : Int) b) else false) == true))) || true) then
                      bif ((!(((!((bif (leI (0 : Int) a) then (leI a (6 : Int)) else false) == (((eyeX a).2.2.2) == (0 : Int)))) == false) && ((bif (bif (leI (0 : Int) a) then (leI a (6 : Int)) else false) then (leI (0 : Int) b) else false) == true))) || ((((!(((!((bif (leI (0 : Int) a) then (leI a (6 : Int)) else false) == (((eyeX a).2.2.2) == (0 : Int)))) == false) && ((bif (bif (leI (0 : Int) a) then (leI a (6 : Int)) else false) then (leI (0 : Int) b) else false) == true))) || (((!((bif (leI (0 : Int) a) then (leI a (6 : Int)) else false) == (((eyeX a).2.2.2) == (0 : Int)))) == false) && ((bif (bif (leI (0 : Int) a) then (leI a (6 : Int)) else false) then (leI (0 : Int) b) else false) == true))) && true) && true)) then
                        bif ((!((!((bif (leI (0 : Int) a) then (leI a (6 : Int)) else false) == (((eyeX a).2.2.2) == (0 : Int)))) == false)) || (((!((!((bif (leI (0 : Int) a) then (leI a (6 : Int)) else false) == (((eyeX a).2.2.2) == (0 : Int)))) == false)) || ((!((bif (leI (0 : Int) a) then (leI a (6 : Int)) else false) == (((eyeX a).2.2.2) == (0 : Int)))) == false)) && (((!(bif (bif (leI (0 : Int) a) then (leI a (6 : Int)) else false) then (leI (0 : Int) b) else false)) || (((!((bif (leI (0 : Int) a) then (leI a (6 : Int)) else false) == (((eyeX a).2.2.2) == (0 : Int)))) == false) && ((bif (bif (leI (0 : Int) a) then (leI a (6 : Int)) else false) then (leI (0 : Int) b) else false) == true))) && true))) then
                          bif ((!((!((bif (leI (0 : Int) a) then (leI a (6 : Int)) else false) == (((eyeX a).2.2.2) == (0 : Int)))) == false)) || true) then
                            bif ((!((!((bif (leI (0 : Int) a) then (leI a (6 : Int)) else false) == (((eyeX a).2.2.2) == (0 : Int)))) == false)) || ((((!((!((bif (leI (0 : Int) a) then (leI a (6 : Int)) else false) == (((eyeX a).2.2.2) == (0 : Int)))) == false)) || ((!((bif (leI (0 : Int) a) then (leI a (6 : Int)) else false) == (((eyeX a).2.2.2) == (0 : Int)))) == false)) && true) && true)) then
                              bif ((!((!((bif (leI (0 : Int) a) then (leI a (6 : Int)) else false) == (((eyeX a).2.2.2) == (0 : Int)))) == false)) || ((((!((!((bif (leI (0 : Int) a) then (leI a (6 : Int)) else false) == (((eyeX a).2.2.2) == (0 : Int)))) == false)) || ((!((bif (leI (0 : Int) a) then (leI a (6 : Int)) else false) == (((eyeX a).2.2.2) == (0 : Int)))) == false)) && (((!((!((bif (leI (0 : Int) a) then (leI a (6 : Int)) else false) == (((eyeX a).2.2.2) == (0 : Int)))) == false)) || ((!((bif (leI (0 : Int) a) then (leI a (6 : Int)) else false) == (((eyeX a).2.2.2) == (0 : Int)))) == false)) && true)) && true)) then
                                bif ((!(!(!((bif (leI (0 : Int) a) then (leI a (6 : Int)) else false) == (((eyeX a).2.2.2) == (0 : Int)))))) || ((!((bif (leI (0 : Int) a) then (leI a (6 : Int)) else false) == (((eyeX a).2.2.2) == (0 : Int)))) == false)) then
                                  bif (bif (!((bif (leI (0 : Int) a) then (leI a (6 : Int)) else false) == (((eyeX a).2.2.2) == (0 : Int)))) then true else (!((bif (bif (bif (leI (0 : Int) a) then (leI a (6 : Int)) else false) then (leI (0 : Int) b) else false) then (leI b (6 : Int)) else false) == (((zerosX a b).2.2.2) == (0 : Int))))) then
                                    some (.bool false)
                                  else bif (((!((bif (leI (0 : Int) a) then (leI a (6 : Int)) else false) == true)) || true) && true) then
                                    bif (((!((bif (leI (0 : Int) a) then (leI a (6 : Int)) else false) == true)) || true) && true) then
                                      bif (((!((bif (leI (0 : Int) a) then (leI a (6 : Int)) else false) == true)) || true) && true) then
                                        bif (((!((bif (leI (0 : Int) a) then (leI a (6 : Int)) else false) == true)) || ((((!((bif (leI (0 : Int) a) then (leI a (6 : Int)) else false) == true)) || ((bif (leI (0 : Int) a) then (leI a (6 : Int)) else false) == true)) && true) && (sizeB a))) && true) then
                                          bif (((!((bif (leI (0 : Int) a) then (leI a (6 : Int)) else false) == true)) || ((((!((bif (leI (0 : Int) a) then (leI a (6 : Int)) else false) == true)) || ((bif (leI (0 : Int) a) then (leI a (6 : Int)) else false) == true)) && (((!((bif (leI (0 : Int) a) then (leI a (6 : Int)) else false) == true)) || ((bif (leI (0 : Int) a) then (leI a (6 : Int)) else false) == true)) && (((!((bif (leI (0 : Int) a) then (leI a (6 : Int)) else false) == true)) || ((bif (leI (0 : Int) a) then (leI a (6 : Int)) else false) == true)) && true))) && (okLen ((eyeX a).2.2.1)))) && true) then
                                            bif (((!((bif (leI (0 : Int) a) then (leI a (6 : Int)) else false) == true)) || ((((!((bif (leI (0 : Int) a) then (leI a (6 : Int)) else false) == true)) || ((bif (leI (0 : Int) a) then (leI a (6 : Int)) else false) == true)) && true) && true)) && true) then
                                              bif ((((!(bif (leI (0 : Int) a) then (leI a (6 : Int)) else false)) || ((bif (leI (0 : Int) a) then (leI a (6 : Int)) else false) == true)) && true) && true) then
                                                bif (((!((bif (bif (leI (0 : Int) a) then (leI a (6 : Int)) else false) then (!(toldB ((eyeX a).1) ((eyeX a).2.1) ((eyeX a).2.2.1) ((eyeX a).2.2.2) a a (grid (Int.toNat a) (Int.toNat a) (fun j1 j2 => eyeI j1 j2)) (0 : Int))) else false) == false)) || true) && true) then
                                                  bif (((!((bif (bif (leI (0 : Int) a) then (leI a (6 : Int)) else false) then (!(toldB ((eyeX a).1) ((eyeX a).2.1) ((eyeX a).2.2.1) ((eyeX a).2.2.2) a a (grid (Int.toNat a) (Int.toNat a) (fun j1 j2 => eyeI j1 j2)) (0 : Int))) else false) == false)) || ((((!((bif (bif (leI (0 : Int) a) then (leI a (6 : Int)) else false) then (!(toldB ((eyeX a).1) ((eyeX a).2.1) ((eyeX a).2.2.1) ((eyeX a).2.2.2) a a (grid (Int.toNat a) (Int.toNat a) (fun j1 j2 => eyeI j1 j2)) (0 : Int))) else false) == false)) || ((bif (bif (leI (0 : Int) a) then (leI a (6 : Int)) else false) then (!(toldB ((eyeX a).1) ((eyeX a).2.1) ((eyeX a).2.2.1) ((eyeX a).2.2.2) a a (grid (Int.toNat a) (Int.toNat a) (fun j1 j2 => eyeI j1 j2)) (0 : Int))) else false) == false)) && true) && true)) && true) then
                                                    bif (((!((bif (bif (leI (0 : Int) a) then (leI a (6 : Int)) else false) then (!(toldB ((eyeX a).1) ((eyeX a).2.1) ((eyeX a).2.2.1) ((eyeX a).2.2.2) a a (grid (Int.toNat a) (Int.toNat a) (fun j1 j2 => eyeI j1 j2)) (0 : Int))) else false) == false)) || ((((!((bif (bif (leI (0 : Int) a) then (leI a (6 : Int)) else false) then (!(toldB ((eyeX a).1) ((eyeX a).2.1) ((eyeX a).2.2.1) ((eyeX a).2.2.2) a a (grid (Int.toNat a) (Int.toNat a) (fun j1 j2 => eyeI j1 j2)) (0 : Int))) else false) == false)) || ((bif (bif (leI (0 : Int) a) then (leI a (6 : Int)) else false) then (!(toldB ((eyeX a).1) ((eyeX a).2.1) ((eyeX a).2.2.1) ((eyeX a).2.2.2) a a (grid (Int.toNat a) (Int.toNat a) (fun j1 j2 => eyeI j1 j2)) (0 : Int))) else false) == false)) && true) && true)) && true) then
                                                      bif (((!(((bif (bif (leI (0 : Int) a) then (leI a (6 : Int)) else false) then (!(toldB ((eyeX a).1) ((eyeX a).2.1) ((eyeX a).2.2.1) ((eyeX a).2.2.2) a a (grid (Int.toNat a) (Int.toNat a) (fun j1 j2 => eyeI j1 j2)) (0 : Int))) else false) == false) && ((!(bif (leI (0 : Int) a) then (leI a (6 : Int)) else false)) == true))) || true) && true) then
                                                        bif (((!(((bif (bif (leI (0 : Int) a) then (leI a (6 : Int)) else false) then (!(toldB ((eyeX a).1) ((eyeX a).2.1) ((eyeX a).2.2.1) ((eyeX a).2.2.2) a a (grid (Int.toNat a) (Int.toNat a) (fun j1 j2 => eyeI j1 j2)) (0 : Int))) else false) == false) && ((!(bif (leI (0 : Int) a) then (leI a (6 : Int)) else false)) == true))) || true) && true) then
                                                          bif (((!(((bif (bif (leI (0 : Int) a) then (leI a (6 : Int)) else false) then (!(toldB ((eyeX a).1) ((eyeX a).2.1) ((eyeX a).2.2.1) ((eyeX a).2.2.2) a a (grid (Int.toNat a) (Int.toNat a) (fun j1 j2 => eyeI j1 j2)) (0 : Int))) else false) == false) && ((!(bif (leI (0 : Int) a) then (leI a (6 : Int)) else false)) == true))) || true) && true) then
                                                            bif (((!(((bif (bif (leI (0 : Int) a) then (leI a (6 : Int)) else false) then (!(toldB ((eyeX a).1) ((eyeX a).2.1) ((eyeX a).2.2.1) ((eyeX a).2.2.2) a a (grid (Int.toNat a) (Int.toNat a) (fun j1 j2 => eyeI j1 j2)) (0 : Int))) else false) == false) && ((!(bif (leI (0 : Int) a) then (leI a (6 : Int)) else false)) == true))) || ((((!(((bif (bif (leI (0 : Int) a) then (leI a (6 : Int)) else false) then (!(toldB ((eyeX a).1) ((eyeX a).2.1) ((eyeX a).2.2.1) ((eyeX a).2.2.2) a a (grid (Int.toNat a) (Int.toNat a) (fun j1 j2 => eyeI j1 j2)) (0 : Int))) else false) == false) && ((!(bif (leI (0 : Int) a) then (leI a (6 : Int)) else false)) == true))) || (((bif (bif (leI (0 : Int) a) then (leI a (6 : Int)) else false) then (!(toldB ((eyeX a).1) ((eyeX a).2.1) ((eyeX a).2.2.1) ((eyeX a).2.2.2) a a (grid (Int.toNat a) (Int.toNat a) (fun j1 j2 => eyeI j1 j2)) (0 : Int))) else false) == false) && ((!(bif (leI (0 : Int) a) then (leI a (6 : Int)) else false)) == true))) && (((!(((bif (bif (leI (0 : Int) a) then (leI a (6 : Int)) else false) then (!(toldB ((eyeX a).1) ((eyeX a).2.1) ((eyeX a).2.2.1) ((eyeX a).2.2.2) a a (grid (Int.toNat a) (Int.toNat a) (fun j1 j2 => eyeI j1 j2)) (0 : Int))) else false) == false) && ((!(bif (leI (0 : Int) a) then (leI a (6 : Int)) else false)) == true))) || (((bif (bif (leI (0 : Int) a) then (leI a (6 : Int)) else false) then (!(toldB ((eyeX a).1) ((eyeX a).2.1) ((eyeX a).2.2.1) ((eyeX a).2.2.2) a a (grid (Int.toNat a) (Int.toNat a) (fun j1 j2 => eyeI j1 j2)) (0 : Int))) else false) == false) && ((!(bif (leI (0 : Int) a) then (leI a (6 : Int)) else false)) == true))) && (((!(((bif (bif (leI (0 : Int) a) then (leI a (6 : Int)) else false) then (!(toldB ((eyeX a).1) ((eyeX a).2.1) ((eyeX a).2.2.1) ((eyeX a).2.2.2) a a (grid (Int.toNat a) (Int.toNat a) (fun j1 j2 => eyeI j1 j2)) (0 : Int))) else false) == false) && ((!(bif (leI (0 : Int) a) then (leI a (6 : Int)) else false)) == true))) || (((bif (bif (leI (0 : Int) a) then (leI a (6 : Int)) else false) then (!(toldB ((eyeX a).1) ((eyeX a).2.1) ((eyeX a).2.2.1) ((eyeX a).2.2.2) a a (grid (Int.toNat a) (Int.toNat a) (fun j1 j2 => eyeI j1 j2)) (0 : Int))) else false) == false) && ((!(bif (leI (0 : Int) a) then (leI a (6 : Int)) else false)) == true))) && true))) && (okLen ((eyeX a).2.2.1)))) && true) then
                                                              bif (((!(((bif (bif (leI (0 : Int) a) then (leI a (6 : Int)) else false) then (!(toldB ((eyeX a).1) ((eyeX a).2.1) ((eyeX a).2.2.1) ((eyeX a).2.2.2) a a (grid (Int.toNat a) (Int.toNat a) (fun j1 j2 => eyeI j1 j2)) (0 : Int))) else false) == false) && ((!(bif (leI (0 : Int) a) then (leI a (6 : Int)) else false)) == true))) || ((((!(((bif (bif (leI (0 : Int) a) then (leI a (6 : Int)) else false) then (!(toldB ((eyeX a).1) ((eyeX a).2.1) ((eyeX a).2.2.1) ((eyeX a).2.2.2) a a (grid (Int.toNat a) (Int.toNat a) (fun j1 j2 => eyeI j1 j2)) (0 : Int))) else false) == false) && ((!(bif (leI (0 : Int) a) then (leI a (6 : Int)) else false)) == true))) || (((bif (bif (leI (0 : Int) a) then (leI a (6 : Int)) else false) then (!(toldB ((eyeX a).1) ((eyeX a).2.1) ((eyeX a).2.2.1) ((eyeX a).2.2.2) a a (grid (Int.toNat a) (Int.toNat a) (fun j1 j2 => eyeI j1 j2)) (0 : Int))) else false) == false) && ((!(bif (leI (0 : Int) a) then (leI a (6 : Int)) else false)) == true))) && true) && true)) && true) then
                                                                bif (((!((bif (bif (leI (0 : Int) a) then (leI a (6 : Int)) else false) then (!(toldB ((eyeX a).1) ((eyeX a).2.1) ((eyeX a).2.2.1) ((eyeX a).2.2.2) a a (grid (Int.toNat a) (Int.toNat a) (fun j1 j2 => eyeI j1 j2)) (0 : Int))) else false) == false)) || (((!((bif (bif (leI (0 : Int) a) then (leI a (6 : Int)) else false) then (!(toldB ((eyeX a).1) ((eyeX a).2.1) ((eyeX a).2.2.1) ((eyeX a).2.2.2) a a (grid (Int.toNat a) (Int.toNat a) (fun j1 j2 => eyeI j1 j2)) (0 : Int))) else false) == false)) || ((bif (bif (leI (0 : Int) a) then (leI a (6 : Int)) else false) then (!(toldB ((eyeX a).1) ((eyeX a).2.1) ((eyeX a).2.2.1) ((eyeX a).2.2.2) a a (grid (Int.toNat a) (Int.toNat a) (fun j1 j2 => eyeI j1 j2)) (0 : Int))) else false) == false)) && (((!(!(bif (leI (0 : Int) a) then (leI a (6 : Int)) else false))) || (((bif (bif (leI (0 : Int) a) then (leI a (6 : Int)) else false) then (!(toldB ((eyeX a).1) ((eyeX a).2.1) ((eyeX a).2.2.1) ((eyeX a).2.2.2) a a (grid (Int.toNat a) (Int.toNat a) (fun j1 j2 => eyeI j1 j2)) (0 : Int))) else false) == false) && ((!(bif (leI (0 : Int) a) then (leI a (6 : Int)) else false)) == true))) && true))) && true) then
                                                                  bif (((!(!(bif (bif (leI (0 : Int) a) then (leI a (6 : Int)) else false) then (!(toldB ((eyeX a).1) ((eyeX a).2.1) ((eyeX a).2.2.1) ((eyeX a).2.2.2) a a (grid (Int.toNat a) (Int.toNat a) (fun j1 j2 => eyeI j1 j2)) (0 : Int))) else false))) || ((bif (bif (leI (0 : Int) a) then (leI a (6 : Int)) else false) then (!(toldB ((eyeX a).1) ((eyeX a).2.1) ((eyeX a).2.2.1) ((eyeX a).2.2.2) a a (grid (Int.toNat a) (Int.toNat a) (fun j1 j2 => eyeI j1 j2)) (0 : Int))) else false) == false)) && true) then
                                                                    bif (bif (bif (bif (leI (0 : Int) a) then (leI a (6 : Int)) else false) then (!(toldB ((eyeX a).1) ((eyeX a).2.1) ((eyeX a).2.2.1) ((eyeX a).2.2.2) a a (grid (Int.toNat a) (Int.toNat a) (fun j1 j2 => eyeI j1 j2)) (0 : Int))) else false) then true else (bif (!(bif (leI (0 : Int) a) then (leI a (6 : Int)) else false)) then (!(toldB ((eyeX a).1) ((eyeX a).2.1) ((eyeX a).2.2.1) ((eyeX a).2.2.2) (0 : Int) (0 : Int) [] (3 : Int))) else false)) then
                                                                      some (.bool false)
                                                                    else bif (((zerosX a b).2.2.2) != (0 : Int)) then
                                                                      bif (okLen ((zerosX a b).2.2.1)) then
                                                                        bif ((!((toldB ((zerosX a b).1) ((zerosX a b).2.1) ((zerosX a b).2.2.1) ((zerosX a b).2.2.2) (0 : Int) (0 : Int) [] (3 : Int)) == true)) || true) then
                                                                          bif (((!(toldB ((zerosX a b).1) ((zerosX a b).2.1) ((zerosX a b).2.2.1) ((zerosX a b).2.2.2) (0 : Int) (0 : Int) [] (3 : Int))) || ((toldB ((zerosX a b).1) ((zerosX a b).2.1) ((zerosX a b).2.2.1) ((zerosX a b).2.2.2) (0 : Int) (0 : Int) [] (3 : Int)) == true)) && true) then
                                                                            some (.bool (bif (toldB ((zerosX a b).1) ((zerosX a b).2.1) ((zerosX a b).2.2.1) ((zerosX a b).2.2.2) (0 : Int) (0 : Int) [] (3 : Int)) then true else false))
                                                                          else none
                                                                        else none
                                                                      else none
                                                                    else bif ((sizeB a && sizeB b) && true) then
                                                                      bif ((okLen ((zerosX a b).2.2.1)) && true) then
                                                                        bif (((!((toldB ((zerosX a b).1) ((zerosX a b).2.1) ((zerosX a b).2.2.1) ((zerosX a b).2.2.2) a b (grid (Int.toNat a) (Int.toNat b) (fun _ _ => 0)) (0 : Int)) == true)) || true) && true) then
                                                                          bif ((((!(toldB ((zerosX a b).1) ((zerosX a b).2.1) ((zerosX a b).2.2.1) ((zerosX a b).2.2.2) a b (grid (Int.toNat a) (Int.toNat b) (fun _ _ => 0)) (0 : Int))) || ((toldB ((zerosX a b).1) ((zerosX a b).2.1) ((zerosX a b).2.2.1) ((zerosX a b).2.2.2) a b (grid (Int.toNat a) (Int.toNat b) (fun _ _ => 0)) (0 : Int)) == true)) && true) && true) then
                                                                            some (.bool (bif (toldB ((zerosX a b).1) ((zerosX a b).2.1) ((zerosX a b).2.2.1) ((zerosX a b).2.2.2) a b (grid (Int.toNat a) (Int.toNat b) (fun _ _ => 0)) (0 : Int)) then true else false))
                                                                          else none
                                                                        else none
                                                                      else none
                                                                    else none
                                                                  else none
                                                                else none
                                                              else none
                                                            else none
                                                          else none
                                                        else none
                                                      else none
                                                    else none
                                                  else none
                                                else none
                                              else none
                                            else none
                                          else none
                                        else none
                                      else none
                                    else none
                                  else none
                                else none
                              else none
                            else none
                          else none
                        else none
                      else none
                    else none
                  else none
                else none
              else none
            else none
          else none
        else none
      else none
    else none
  else none) (by kernel_rfl)
  (ifT (tt2 _) (ifT (tt37 _) (ifT (tt0 _) (ifT (tt30 _ _ _) (ifT (tt29 _ _ _) (ifT (tt36 _ _ _) (ifT (tt35 _ _ _) (ifS (tt34 _ _ _) (ifT (tt29 _ _ _) (ifT (tt33 _ _ _ _) (ifT (tt32 _ _ _ _) (ifT (tt31 _ _ _ _) (ifT (tt30 _ _ _) (ifT (tt29 _ _ _) (ifT (tt28 _ _ _) (ifT (tt27 _ _ _) (ifS (tt26 _ _ _ _ _ _) rfl (ifT (tt10 _ _) (ifT (tt10 _ _) (ifT (tt10 _ _) (ifS (tt25 _ _ _) (ifS (tt24 _ _ _) (ifT (tt23 _ _) (ifT (tt7 _ _) (ifT (tt22 _ _ _) (ifT (tt21 _ _ _) (ifT (tt21 _ _ _) (ifT (tt20 _ _ _) (ifT (tt20 _ _ _) (ifT (tt20 _ _ _) (ifS (tt19 _ _ _ _) (ifT (tt18 _ _ _) (ifT (tt17 _ _ _) (ifT (tt16 _ _ _) (ifS (tt15 _ _ _ _) rfl (ifE (ifE (ifT (tt2 _) (ifT (tt0 _) rfl)) rfl) (ifS (tt14 _) (ifS (tt14 _) (ifT (tt13 _) (ifT (tt11 _) rfl)) rfl) rfl)))))) rfl))))))))) rfl) rfl))))))))))))) rfl))))))))
theorem law10.MatrixMakes.known_of (hk : Knowns Try.prog law10.MatrixMakes.tab) (h : ∀ (a : Int) (b : Int), law10.MatrixMakes.pre [.i a, .i b] = true → ∃ N dv drops, funD law10.MatrixMakes.E N Try.f3 (bodyOf Try.f3) [.int .i64 a, .int .i64 b] = some dv ∧ Wk drops dv (law10.MatrixMakes.out [.i a, .i b])) : Known Try.prog 3 law10.MatrixMakes.spec := by
  refine ⟨meets_entry (E := law10.MatrixMakes.E) (env_ok hk _ _ _) Try.func3 (show Try.f3.body = some (bodyOf Try.f3) by kernel_rfl) fun ats dvs he hp => ?_, call_enter Try.func3 (by kernel_rfl) (show Try.f3.body = some (bodyOf Try.f3) by kernel_rfl)⟩
  obtain ⟨a, _, _, rfl, rfl, he0⟩ := he.i_inv
  obtain ⟨b, _, _, rfl, rfl, he1⟩ := he0.i_inv
  obtain ⟨rfl, rfl⟩ := he1.nil_inv
  exact h a b hp

noncomputable def law10.MatrixChecks.tab : List (Nat × Entry) := [(14, law10.awake.spec), (20, matrix.At.spec), (22, matrix.Check.spec), (23, ref10.At.spec), (21, ref10.Right.spec)]
noncomputable def law10.MatrixChecks.E : Env := envOf (tabOf law10.MatrixChecks.tab) (fun _ => false) (fun _ => none) (fun _ => none)
theorem law10.MatrixChecks.ev (N : Nat) (r : Int) (c : Int) (l : List Int) (i : Int) (k : Int) : funD law10.MatrixChecks.E N Try.f5 (bodyOf Try.f5) [.agg [.int .i64 r, .int .i64 c, .ints .arg .u64 l], .int .i64 i, .int .i64 k] =
  bif (!(rightB r c l)) then
    some (.bool (bif (bif (bif ((chkI r c l) == (1 : Int)) then (((getX r c l i k).1) == (0 : Int)) else false) then (((getX r c l i k).2) == (1 : Int)) else false) then true else false))
  else bif ((((ltI i (0 : Int)) || (leI r i)) || (ltI k (0 : Int))) || (leI c k)) then
    some (.bool (bif (bif (bif ((chkI r c l) == (0 : Int)) then (((getX r c l i k).1) == (0 : Int)) else false) then (((getX r c l i k).2) == (7 : Int)) else false) then true else false))
  else bif ((!((chkI r c l) == (0 : Int))) || (atPre r c l i k)) then
    some (.bool (bif (bif (bif ((chkI r c l) == (0 : Int)) then (((getX r c l i k).1) == (atI c l i k)) else false) then (((getX r c l i k).2) == (0 : Int)) else false) then true else false))
  else none :=
  Eq.trans (b := bif (!(rightB r c l)) then
    bif ((!(((chkI r c l) == (1 : Int)) == true)) || true) then
      bif ((!(((chkI r c l) == (1 : Int)) == true)) || ((((!(((chkI r c l) == (1 : Int)) == true)) || (((chkI r c l) == (1 : Int)) == true)) && true) && true)) then
        bif (((!((chkI r c l) == (1 : Int))) || (((chkI r c l) == (1 : Int)) == true)) && true) then
          bif ((!((bif ((chkI r c l) == (1 : Int)) then (((getX r c l i k).1) == (0 : Int)) else false) == true)) || true) then
            bif ((!((bif ((chkI r c l) == (1 : Int)) then (((getX r c l i k).1) == (0 : Int)) else false) == true)) || ((((!((bif ((chkI r c l) == (1 : Int)) then (((getX r c l i k).1) == (0 : Int)) else false) == true)) || ((bif ((chkI r c l) == (1 : Int)) then (((getX r c l i k).1) == (0 : Int)) else false) == true)) && true) && true)) then
              bif (((!(bif ((chkI r c l) == (1 : Int)) then (((getX r c l i k).1) == (0 : Int)) else false)) || ((bif ((chkI r c l) == (1 : Int)) then (((getX r c l i k).1) == (0 : Int)) else false) == true)) && true) then
                bif ((!((bif (bif ((chkI r c l) == (1 : Int)) then (((getX r c l i k).1) == (0 : Int)) else false) then (((getX r c l i k).2) == (1 : Int)) else false) == true)) || true) then
                  bif (((!(bif (bif ((chkI r c l) == (1 : Int)) then (((getX r c l i k).1) == (0 : Int)) else false) then (((getX r c l i k).2) == (1 : Int)) else false)) || ((bif (bif ((chkI r c l) == (1 : Int)) then (((getX r c l i k).1) == (0 : Int)) else false) then (((getX r c l i k).2) == (1 : Int)) else false) == true)) && true) then
                    some (.bool (bif (bif (bif ((chkI r c l) == (1 : Int)) then (((getX r c l i k).1) == (0 : Int)) else false) then (((getX r c l i k).2) == (1 : Int)) else false) then true else false))
                  else none
                else none
              else none
            else none
          else none
        else none
      else none
    else none
  else bif ((!((ltI i (0 : Int)) == false)) || true) then
    bif ((!((ltI i (0 : Int)) == false)) || true) then
      bif ((!((ltI i (0 : Int)) == false)) || ((((!((ltI i (0 : Int)) == false)) || ((ltI i (0 : Int)) == false)) && true) && true)) then
        bif ((!((ltI i (0 : Int)) == false)) || ((((!((ltI i (0 : Int)) == false)) || ((ltI i (0 : Int)) == false)) && (((!((ltI i (0 : Int)) == false)) || ((ltI i (0 : Int)) == false)) && true)) && true)) then
          bif ((!(!(ltI i (0 : Int)))) || ((ltI i (0 : Int)) == false)) then
            bif ((!((bif (ltI i (0 : Int)) then true else (leI r i)) == false)) || true) then
              bif ((!((bif (ltI i (0 : Int)) then true else (leI r i)) == false)) || ((((!((bif (ltI i (0 : Int)) then true else (leI r i)) == false)) || ((bif (ltI i (0 : Int)) then true else (leI r i)) == false)) && true) && true)) then
                bif ((!(!(bif (ltI i (0 : Int)) then true else (leI r i)))) || ((bif (ltI i (0 : Int)) then true else (leI r i)) == false)) then
                  bif ((!((bif (bif (ltI i (0 : Int)) then true else (leI r i)) then true else (ltI k (0 : Int))) == false)) || true) then
                    bif ((!((bif (bif (ltI i (0 : Int)) then true else (leI r i)) then true else (ltI k (0 : Int))) == false)) || true) then
                      bif ((!((bif (bif (ltI i (0 : Int)) then true else (leI r i)) then true else (ltI k (0 : Int))) == false)) || ((((!((bif (bif (ltI i (0 : Int)) then true else (leI r i)) then true else (ltI k (0 : Int))) == false)) || ((bif (bif (ltI i (0 : Int)) then true else (leI r i)) then true else (ltI k (0 : Int))) == false)) && true) && true)) then
                        bif ((!((bif (bif (ltI i (0 : Int)) then true else (leI r i)) then true else (ltI k (0 : Int))) == false)) || ((((!((bif (bif (ltI i (0 : Int)) then true else (leI r i)) then true else (ltI k (0 : Int))) == false)) || ((bif (bif (ltI i (0 : Int)) then true else (leI r i)) then true else (ltI k (0 : Int))) == false)) && (((!((bif (bif (ltI i (0 : Int)) then true else (leI r i)) then true else (ltI k (0 : Int))) == false)) || ((bif (bif (ltI i (0 : Int)) then true else (leI r i)) then true else (ltI k (0 : Int))) == false)) && true)) && true)) then
                          bif ((!(!(bif (bif (ltI i (0 : Int)) then true else (leI r i)) then true else (ltI k (0 : Int))))) || ((bif (bif (ltI i (0 : Int)) then true else (leI r i)) then true else (ltI k (0 : Int))) == false)) then
                            bif (bif (bif (bif (ltI i (0 : Int)) then true else (leI r i)) then true else (ltI k (0 : Int))) then true else (leI c k)) then
                              bif ((!(((chkI r c l) == (0 : Int)) == true)) || true) then
                                bif ((!(((chkI r c l) == (0 : Int)) == true)) || ((((!(((chkI r c l) == (0 : Int)) == true)) || (((chkI r c l) == (0 : Int)) == true)) && true) && true)) then
                                  bif (((!((chkI r c l) == (0 : Int))) || (((chkI r c l) == (0 : Int)) == true)) && true) then
                                    bif ((!((bif ((chkI r c l) == (0 : Int)) then (((getX r c l i k).1) == (0 : Int)) else false) == true)) || true) then
                                      bif ((!((bif ((chkI r c l) == (0 : Int)) then (((getX r c l i k).1) == (0 : Int)) else false) == true)) || ((((!((bif ((chkI r c l) == (0 : Int)) then (((getX r c l i k).1) == (0 : Int)) else false) == true)) || ((bif ((chkI r c l) == (0 : Int)) then (((getX r c l i k).1) == (0 : Int)) else false) == true)) && true) && true)) then
                                        bif (((!(bif ((chkI r c l) == (0 : Int)) then (((getX r c l i k).1) == (0 : Int)) else false)) || ((bif ((chkI r c l) == (0 : Int)) then (((getX r c l i k).1) == (0 : Int)) else false) == true)) && true) then
                                          bif ((!((bif (bif ((chkI r c l) == (0 : Int)) then (((getX r c l i k).1) == (0 : Int)) else false) then (((getX r c l i k).2) == (7 : Int)) else false) == true)) || true) then
                                            bif (((!(bif (bif ((chkI r c l) == (0 : Int)) then (((getX r c l i k).1) == (0 : Int)) else false) then (((getX r c l i k).2) == (7 : Int)) else false)) || ((bif (bif ((chkI r c l) == (0 : Int)) then (((getX r c l i k).1) == (0 : Int)) else false) then (((getX r c l i k).2) == (7 : Int)) else false) == true)) && true) then
                                              some (.bool (bif (bif (bif ((chkI r c l) == (0 : Int)) then (((getX r c l i k).1) == (0 : Int)) else false) then (((getX r c l i k).2) == (7 : Int)) else false) then true else false))
                                            else none
                                          else none
                                        else none
                                      else none
                                    else none
                                  else none
                                else none
                              else none
                            else bif ((!(((chkI r c l) == (0 : Int)) == true)) || true) then
                              bif ((!(((chkI r c l) == (0 : Int)) == true)) || true) then
                                bif ((!(((chkI r c l) == (0 : Int)) == true)) || true) then
                                  bif ((!(((chkI r c l) == (0 : Int)) == true)) || true) then
                                    bif ((!(((chkI r c l) == (0 : Int)) == true)) || ((((!(((chkI r c l) == (0 : Int)) == true)) || (((chkI r c l) == (0 : Int)) == true)) && (((!(((chkI r c l) == (0 : Int)) == true)) || (((chkI r c l) == (0 : Int)) == true)) && (((!(((chkI r c l) == (0 : Int)) == true)) || (((chkI r c l) == (0 : Int)) == true)) && true))) && (atPre r c l i k))) then
                                      bif ((!(((chkI r c l) == (0 : Int)) == true)) || ((((!(((chkI r c l) == (0 : Int)) == true)) || (((chkI r c l) == (0 : Int)) == true)) && (((!(((chkI r c l) == (0 : Int)) == true)) || (((chkI r c l) == (0 : Int)) == true)) && true)) && true)) then
                                        bif (((!((chkI r c l) == (0 : Int))) || (((chkI r c l) == (0 : Int)) == true)) && true) then
                                          bif ((!((bif ((chkI r c l) == (0 : Int)) then (((getX r c l i k).1) == (atI c l i k)) else false) == true)) || true) then
                                            bif ((!((bif ((chkI r c l) == (0 : Int)) then (((getX r c l i k).1) == (atI c l i k)) else false) == true)) || ((((!((bif ((chkI r c l) == (0 : Int)) then (((getX r c l i k).1) == (atI c l i k)) else false) == true)) || ((bif ((chkI r c l) == (0 : Int)) then (((getX r c l i k).1) == (atI c l i k)) else false) == true)) && true) && true)) then
                                              bif (((!(bif ((chkI r c l) == (0 : Int)) then (((getX r c l i k).1) == (atI c l i k)) else false)) || ((bif ((chkI r c l) == (0 : Int)) then (((getX r c l i k).1) == (atI c l i k)) else false) == true)) && true) then
                                                bif ((!((bif (bif ((chkI r c l) == (0 : Int)) then (((getX r c l i k).1) == (atI c l i k)) else false) then (((getX r c l i k).2) == (0 : Int)) else false) == true)) || true) then
                                                  bif (((!(bif (bif ((chkI r c l) == (0 : Int)) then (((getX r c l i k).1) == (atI c l i k)) else false) then (((getX r c l i k).2) == (0 : Int)) else false)) || ((bif (bif ((chkI r c l) == (0 : Int)) then (((getX r c l i k).1) == (atI c l i k)) else false) then (((getX r c l i k).2) == (0 : Int)) else false) == true)) && true) then
                                                    some (.bool (bif (bif (bif ((chkI r c l) == (0 : Int)) then (((getX r c l i k).1) == (atI c l i k)) else false) then (((getX r c l i k).2) == (0 : Int)) else false) then true else false))
                                                  else none
                                                else none
                                              else none
                                            else none
                                          else none
                                        else none
                                      else none
                                    else none
                                  else none
                                else none
                              else none
                            else none
                          else none
                        else none
                      else none
                    else none
                  else none
                else none
              else none
            else none
          else none
        else none
      else none
    else none
  else none) (by kernel_rfl)
  (ifE (ifT (tt2 _) (ifT (tt37 _) (ifT (tt0 _) (ifT (tt42 _ _) (ifT (tt41 _ _) (ifT (tt40 _ _) (ifT (tt39 _ _ _) (ifT (tt38 _ _ _) rfl)))))))) (ifT (tt56 _) (ifT (tt56 _) (ifT (tt55 _) (ifT (tt54 _) (ifT (tt53 _) (ifT (tt52 _ _) (ifT (tt51 _ _) (ifT (tt50 _ _) (ifT (tt49 _ _ _) (ifT (tt49 _ _ _) (ifT (tt48 _ _ _) (ifT (tt47 _ _ _) (ifT (tt46 _ _ _) (ifS (tt45 _ _ _ _) (ifT (tt2 _) (ifT (tt37 _) (ifT (tt0 _) (ifT (tt42 _ _) (ifT (tt41 _ _) (ifT (tt40 _ _) (ifT (tt39 _ _ _) (ifT (tt38 _ _ _) rfl)))))))) (ifT (tt2 _) (ifT (tt2 _) (ifT (tt2 _) (ifT (tt2 _) (ifS (tt44 _ _) (ifT (tt43 _) (ifT (tt0 _) (ifT (tt42 _ _) (ifT (tt41 _ _) (ifT (tt40 _ _) (ifT (tt39 _ _ _) (ifT (tt38 _ _ _) rfl))))))) rfl))))))))))))))))))))
theorem law10.MatrixChecks.known_of (hk : Knowns Try.prog law10.MatrixChecks.tab) (h : ∀ (r : Int) (c : Int) (l : List Int) (i : Int) (k : Int), law10.MatrixChecks.pre [.i r, .i c, .l l, .i i, .i k] = true → ∃ N dv drops, funD law10.MatrixChecks.E N Try.f5 (bodyOf Try.f5) [.agg [.int .i64 r, .int .i64 c, .ints .arg .u64 l], .int .i64 i, .int .i64 k] = some dv ∧ Wk drops dv (law10.MatrixChecks.out [.i r, .i c, .l l, .i i, .i k])) : Known Try.prog 5 law10.MatrixChecks.spec := by
  refine ⟨meets_entry (E := law10.MatrixChecks.E) (env_ok hk _ _ _) Try.func5 (show Try.f5.body = some (bodyOf Try.f5) by kernel_rfl) fun ats dvs he hp => ?_, call_enter Try.func5 (by kernel_rfl) (show Try.f5.body = some (bodyOf Try.f5) by kernel_rfl)⟩
  obtain ⟨_, _, _, _, rfl, rfl, hs0, he0⟩ := he.st_inv
  obtain ⟨r, _, _, rfl, rfl, he1⟩ := hs0.i_inv
  obtain ⟨c, _, _, rfl, rfl, he2⟩ := he1.i_inv
  obtain ⟨l, _, _, rfl, rfl, he3⟩ := he2.s_inv
  obtain ⟨rfl, rfl⟩ := he3.nil_inv
  obtain ⟨i, _, _, rfl, rfl, he4⟩ := he0.i_inv
  obtain ⟨k, _, _, rfl, rfl, he5⟩ := he4.i_inv
  obtain ⟨rfl, rfl⟩ := he5.nil_inv
  exact h r c l i k hp

noncomputable def law10.MatrixTurns.tab : List (Nat × Entry) := [(14, law10.awake.spec), (16, law10.form.spec), (19, matrix.Mul.spec), (17, matrix.Turn.spec), (18, ref10.Same.spec)]
noncomputable def law10.MatrixTurns.E : Env := envOf (tabOf law10.MatrixTurns.tab) (fun _ => false) (fun _ => none) (fun _ => none)
theorem law10.MatrixTurns.ev (N : Nat) (r : Int) (c : Int) (l : List Int) (p : Int) (q : Int) (m : List Int) : funD law10.MatrixTurns.E N Try.f4 (bodyOf Try.f4) [.agg [.int .i64 r, .int .i64 c, .ints .arg .u64 l], .agg [.int .i64 p, .int .i64 q, .ints .arg .u64 m]] =
  bif ((twoI r c l p q m) != (0 : Int)) then
    some (.bool true)
  else bif (((((turnX r c l).2.2.2) != (0 : Int)) || (((turnX ((turnX r c l).1) ((turnX r c l).2.1) ((turnX r c l).2.2.1)).2.2.2) != (0 : Int))) || (okLen ((turnX ((turnX r c l).1) ((turnX r c l).2.1) ((turnX r c l).2.2.1)).2.2.1))) then
    bif (((((turnX r c l).2.2.2) != (0 : Int)) || (((turnX ((turnX r c l).1) ((turnX r c l).2.1) ((turnX r c l).2.2.1)).2.2.2) != (0 : Int))) || (!(sameM ((turnX ((turnX r c l).1) ((turnX r c l).2.1) ((turnX r c l).2.2.1)).1) ((turnX ((turnX r c l).1) ((turnX r c l).2.1) ((turnX r c l).2.2.1)).2.1) ((turnX ((turnX r c l).1) ((turnX r c l).2.1) ((turnX r c l).2.2.1)).2.2.1) r c l))) then
      some (.bool false)
    else bif (c != p) then
      some (.bool true)
    else bif (allU64 l && allU64 m) then
      bif (allU64 ((turnX p q m).2.2.1) && allU64 ((turnX r c l).2.2.1)) then
        bif ((!(((mulX ((turnX p q m).1) ((turnX p q m).2.1) ((turnX p q m).2.2.1) ((turnX r c l).1) ((turnX r c l).2.1) ((turnX r c l).2.2.1)).2.2.2) == (0 : Int))) || (okLen ((turnX ((mulX r c l p q m).1) ((mulX r c l p q m).2.1) ((mulX r c l p q m).2.2.1)).2.2.1))) then
          some (.bool (bif (bif (((mulX ((turnX p q m).1) ((turnX p q m).2.1) ((turnX p q m).2.2.1) ((turnX r c l).1) ((turnX r c l).2.1) ((turnX r c l).2.2.1)).2.2.2) == (0 : Int)) then (sameM ((turnX ((mulX r c l p q m).1) ((mulX r c l p q m).2.1) ((mulX r c l p q m).2.2.1)).1) ((turnX ((mulX r c l p q m).1) ((mulX r c l p q m).2.1) ((mulX r c l p q m).2.2.1)).2.1) ((turnX ((mulX r c l p q m).1) ((mulX r c l p q m).2.1) ((mulX r c l p q m).2.2.1)).2.2.1) ((mulX ((turnX p q m).1) ((turnX p q m).2.1) ((turnX p q m).2.2.1) ((turnX r c l).1) ((turnX r c l).2.1) ((turnX r c l).2.2.1)).1) ((mulX ((turnX p q m).1) ((turnX p q m).2.1) ((turnX p q m).2.2.1) ((turnX r c l).1) ((turnX r c l).2.1) ((turnX r c l).2.2.1)).2.1) ((mulX ((turnX p q m).1) ((turnX p q m).2.1) ((turnX p q m).2.2.1) ((turnX r c l).1) ((turnX r c l).2.1) ((turnX r c l).2.2.1)).2.2.1)) else false) then true else false))
        else none
      else none
    else none
  else none :=
  Eq.trans (b := bif ((twoI r c l p q m) != (0 : Int)) then
    some (.bool true)
  else bif ((!((((turnX r c l).2.2.2) != (0 : Int)) == false)) || true) then
    bif ((!((((turnX r c l).2.2.2) != (0 : Int)) == false)) || ((((!((((turnX r c l).2.2.2) != (0 : Int)) == false)) || ((((turnX r c l).2.2.2) != (0 : Int)) == false)) && true) && true)) then
      bif ((!(!(((turnX r c l).2.2.2) != (0 : Int)))) || ((((turnX r c l).2.2.2) != (0 : Int)) == false)) then
        bif ((!((bif (((turnX r c l).2.2.2) != (0 : Int)) then true else (((turnX ((turnX r c l).1) ((turnX r c l).2.1) ((turnX r c l).2.2.1)).2.2.2) != (0 : Int))) == false)) || true) then
          bif ((!((bif (((turnX r c l).2.2.2) != (0 : Int)) then true else (((turnX ((turnX r c l).1) ((turnX r c l).2.1) ((turnX r c l).2.2.1)).2.2.2) != (0 : Int))) == false)) || true) then
            bif ((!((bif (((turnX r c l).2.2.2) != (0 : Int)) then true else (((turnX ((turnX r c l).1) ((turnX r c l).2.1) ((turnX r c l).2.2.1)).2.2.2) != (0 : Int))) == false)) || ((((!((bif (((turnX r c l).2.2.2) != (0 : Int)) then true else (((turnX ((turnX r c l).1) ((turnX r c l).2.1) ((turnX r c l).2.2.1)).2.2.2) != (0 : Int))) == false)) || ((bif (((turnX r c l).2.2.2) != (0 : Int)) then true else (((turnX ((turnX r c l).1) ((turnX r c l).2.1) ((turnX r c l).2.2.1)).2.2.2) != (0 : Int))) == false)) && (((!((bif (((turnX r c l).2.2.2) != (0 : Int)) then true else (((turnX ((turnX r c l).1) ((turnX r c l).2.1) ((turnX r c l).2.2.1)).2.2.2) != (0 : Int))) == false)) || ((bif (((turnX r c l).2.2.2) != (0 : Int)) then true else (((turnX ((turnX r c l).1) ((turnX r c l).2.1) ((turnX r c l).2.2.1)).2.2.2) != (0 : Int))) == false)) && true)) && (okLen ((turnX ((turnX r c l).1) ((turnX r c l).2.1) ((turnX r c l).2.2.1)).2.2.1)))) then
              bif ((!((bif (((turnX r c l).2.2.2) != (0 : Int)) then true else (((turnX ((turnX r c l).1) ((turnX r c l).2.1) ((turnX r c l).2.2.1)).2.2.2) != (0 : Int))) == false)) || ((((!((bif (((turnX r c l).2.2.2) != (0 : Int)) then true else (((turnX ((turnX r c l).1) ((turnX r c l).2.1) ((turnX r c l).2.2.1)).2.2.2) != (0 : Int))) == false)) || ((bif (((turnX r c l).2.2.2) != (0 : Int)) then true else (((turnX ((turnX r c l).1) ((turnX r c l).2.1) ((turnX r c l).2.2.1)).2.2.2) != (0 : Int))) == false)) && true) && true)) then
                bif ((!(!(bif (((turnX r c l).2.2.2) != (0 : Int)) then true else (((turnX ((turnX r c l).1) ((turnX r c l).2.1) ((turnX r c l).2.2.1)).2.2.2) != (0 : Int))))) || ((bif (((turnX r c l).2.2.2) != (0 : Int)) then true else (((turnX ((turnX r c l).1) ((turnX r c l).2.1) ((turnX r c l).2.2.1)).2.2.2) != (0 : Int))) == false)) then
                  bif (bif (bif (((turnX r c l).2.2.2) != (0 : Int)) then true else (((turnX ((turnX r c l).1) ((turnX r c l).2.1) ((turnX r c l).2.2.1)).2.2.2) != (0 : Int))) then true else (!(sameM ((turnX ((turnX r c l).1) ((turnX r c l).2.1) ((turnX r c l).2.2.1)).1) ((turnX ((turnX r c l).1) ((turnX r c l).2.1) ((turnX r c l).2.2.1)).2.1) ((turnX ((turnX r c l).1) ((turnX r c l).2.1) ((turnX r c l).2.2.1)).2.2.1) r c l))) then
                    some (.bool false)
                  else bif (c != p) then
                    some (.bool true)
                  else bif (allU64 l && allU64 m) then
                    bif (allU64 ((turnX p q m).2.2.1) && allU64 ((turnX r c l).2.2.1)) then
                      bif ((!((((mulX ((turnX p q m).1) ((turnX p q m).2.1) ((turnX p q m).2.2.1) ((turnX r c l).1) ((turnX r c l).2.1) ((turnX r c l).2.2.1)).2.2.2) == (0 : Int)) == true)) || true) then
                        bif ((!((((mulX ((turnX p q m).1) ((turnX p q m).2.1) ((turnX p q m).2.2.1) ((turnX r c l).1) ((turnX r c l).2.1) ((turnX r c l).2.2.1)).2.2.2) == (0 : Int)) == true)) || true) then
                          bif ((!((((mulX ((turnX p q m).1) ((turnX p q m).2.1) ((turnX p q m).2.2.1) ((turnX r c l).1) ((turnX r c l).2.1) ((turnX r c l).2.2.1)).2.2.2) == (0 : Int)) == true)) || ((((!((((mulX ((turnX p q m).1) ((turnX p q m).2.1) ((turnX p q m).2.2.1) ((turnX r c l).1) ((turnX r c l).2.1) ((turnX r c l).2.2.1)).2.2.2) == (0 : Int)) == true)) || ((((mulX ((turnX p q m).1) ((turnX p q m).2.1) ((turnX p q m).2.2.1) ((turnX r c l).1) ((turnX r c l).2.1) ((turnX r c l).2.2.1)).2.2.2) == (0 : Int)) == true)) && (((!((((mulX ((turnX p q m).1) ((turnX p q m).2.1) ((turnX p q m).2.2.1) ((turnX r c l).1) ((turnX r c l).2.1) ((turnX r c l).2.2.1)).2.2.2) == (0 : Int)) == true)) || ((((mulX ((turnX p q m).1) ((turnX p q m).2.1) ((turnX p q m).2.2.1) ((turnX r c l).1) ((turnX r c l).2.1) ((turnX r c l).2.2.1)).2.2.2) == (0 : Int)) == true)) && true)) && (okLen ((turnX ((mulX r c l p q m).1) ((mulX r c l p q m).2.1) ((mulX r c l p q m).2.2.1)).2.2.1)))) then
                            bif (((!(((mulX ((turnX p q m).1) ((turnX p q m).2.1) ((turnX p q m).2.2.1) ((turnX r c l).1) ((turnX r c l).2.1) ((turnX r c l).2.2.1)).2.2.2) == (0 : Int))) || ((((mulX ((turnX p q m).1) ((turnX p q m).2.1) ((turnX p q m).2.2.1) ((turnX r c l).1) ((turnX r c l).2.1) ((turnX r c l).2.2.1)).2.2.2) == (0 : Int)) == true)) && true) then
                              bif ((!((bif (((mulX ((turnX p q m).1) ((turnX p q m).2.1) ((turnX p q m).2.2.1) ((turnX r c l).1) ((turnX r c l).2.1) ((turnX r c l).2.2.1)).2.2.2) == (0 : Int)) then (sameM ((turnX ((mulX r c l p q m).1) ((mulX r c l p q m).2.1) ((mulX r c l p q m).2.2.1)).1) ((turnX ((mulX r c l p q m).1) ((mulX r c l p q m).2.1) ((mulX r c l p q m).2.2.1)).2.1) ((turnX ((mulX r c l p q m).1) ((mulX r c l p q m).2.1) ((mulX r c l p q m).2.2.1)).2.2.1) ((mulX ((turnX p q m).1) ((turnX p q m).2.1) ((turnX p q m).2.2.1) ((turnX r c l).1) ((turnX r c l).2.1) ((turnX r c l).2.2.1)).1) ((mulX ((turnX p q m).1) ((turnX p q m).2.1) ((turnX p q m).2.2.1) ((turnX r c l).1) ((turnX r c l).2.1) ((turnX r c l).2.2.1)).2.1) ((mulX ((turnX p q m).1) ((turnX p q m).2.1) ((turnX p q m).2.2.1) ((turnX r c l).1) ((turnX r c l).2.1) ((turnX r c l).2.2.1)).2.2.1)) else false) == true)) || true) then
                                bif (((!(bif (((mulX ((turnX p q m).1) ((turnX p q m).2.1) ((turnX p q m).2.2.1) ((turnX r c l).1) ((turnX r c l).2.1) ((turnX r c l).2.2.1)).2.2.2) == (0 : Int)) then (sameM ((turnX ((mulX r c l p q m).1) ((mulX r c l p q m).2.1) ((mulX r c l p q m).2.2.1)).1) ((turnX ((mulX r c l p q m).1) ((mulX r c l p q m).2.1) ((mulX r c l p q m).2.2.1)).2.1) ((turnX ((mulX r c l p q m).1) ((mulX r c l p q m).2.1) ((mulX r c l p q m).2.2.1)).2.2.1) ((mulX ((turnX p q m).1) ((turnX p q m).2.1) ((turnX p q m).2.2.1) ((turnX r c l).1) ((turnX r c l).2.1) ((turnX r c l).2.2.1)).1) ((mulX ((turnX p q m).1) ((turnX p q m).2.1) ((turnX p q m).2.2.1) ((turnX r c l).1) ((turnX r c l).2.1) ((turnX r c l).2.2.1)).2.1) ((mulX ((turnX p q m).1) ((turnX p q m).2.1) ((turnX p q m).2.2.1) ((turnX r c l).1) ((turnX r c l).2.1) ((turnX r c l).2.2.1)).2.2.1)) else false)) || ((bif (((mulX ((turnX p q m).1) ((turnX p q m).2.1) ((turnX p q m).2.2.1) ((turnX r c l).1) ((turnX r c l).2.1) ((turnX r c l).2.2.1)).2.2.2) == (0 : Int)) then (sameM ((turnX ((mulX r c l p q m).1) ((mulX r c l p q m).2.1) ((mulX r c l p q m).2.2.1)).1) ((turnX ((mulX r c l p q m).1) ((mulX r c l p q m).2.1) ((mulX r c l p q m).2.2.1)).2.1) ((turnX ((mulX r c l p q m).1) ((mulX r c l p q m).2.1) ((mulX r c l p q m).2.2.1)).2.2.1) ((mulX ((turnX p q m).1) ((turnX p q m).2.1) ((turnX p q m).2.2.1) ((turnX r c l).1) ((turnX r c l).2.1) ((turnX r c l).2.2.1)).1) ((mulX ((turnX p q m).1) ((turnX p q m).2.1) ((turnX p q m).2.2.1) ((turnX r c l).1) ((turnX r c l).2.1) ((turnX r c l).2.2.1)).2.1) ((mulX ((turnX p q m).1) ((turnX p q m).2.1) ((turnX p q m).2.2.1) ((turnX r c l).1) ((turnX r c l).2.1) ((turnX r c l).2.2.1)).2.2.1)) else false) == true)) && true) then
                                  some (.bool (bif (bif (((mulX ((turnX p q m).1) ((turnX p q m).2.1) ((turnX p q m).2.2.1) ((turnX r c l).1) ((turnX r c l).2.1) ((turnX r c l).2.2.1)).2.2.2) == (0 : Int)) then (sameM ((turnX ((mulX r c l p q m).1) ((mulX r c l p q m).2.1) ((mulX r c l p q m).2.2.1)).1) ((turnX ((mulX r c l p q m).1) ((mulX r c l p q m).2.1) ((mulX r c l p q m).2.2.1)).2.1) ((turnX ((mulX r c l p q m).1) ((mulX r c l p q m).2.1) ((mulX r c l p q m).2.2.1)).2.2.1) ((mulX ((turnX p q m).1) ((turnX p q m).2.1) ((turnX p q m).2.2.1) ((turnX r c l).1) ((turnX r c l).2.1) ((turnX r c l).2.2.1)).1) ((mulX ((turnX p q m).1) ((turnX p q m).2.1) ((turnX p q m).2.2.1) ((turnX r c l).1) ((turnX r c l).2.1) ((turnX r c l).2.2.1)).2.1) ((mulX ((turnX p q m).1) ((turnX p q m).2.1) ((turnX p q m).2.2.1) ((turnX r c l).1) ((turnX r c l).2.1) ((turnX r c l).2.2.1)).2.2.1)) else false) then true else false))
                                else none
                              else none
                            else none
                          else none
                        else none
                      else none
                    else none
                  else none
                else none
              else none
            else none
          else none
        else none
      else none
    else none
  else none) (by kernel_rfl)
  (ifE rfl (ifT (tt56 _) (ifT (tt55 _) (ifT (tt53 _) (ifT (tt52 _ _) (ifT (tt52 _ _) (ifS (tt58 _ _ _) (ifT (tt51 _ _) (ifT (tt50 _ _) (ifS (tt57 _ _ _) rfl (ifE rfl (ifE (ifE (ifT (tt2 _) (ifT (tt2 _) (ifS (tt1 _ _) (ifT (tt0 _) (ifT (tt42 _ _) (ifT (tt40 _ _) rfl))) rfl))) rfl) rfl))))) rfl)))))))
theorem law10.MatrixTurns.known_of (hk : Knowns Try.prog law10.MatrixTurns.tab) (h : ∀ (r : Int) (c : Int) (l : List Int) (p : Int) (q : Int) (m : List Int), law10.MatrixTurns.pre [.i r, .i c, .l l, .i p, .i q, .l m] = true → ∃ N dv drops, funD law10.MatrixTurns.E N Try.f4 (bodyOf Try.f4) [.agg [.int .i64 r, .int .i64 c, .ints .arg .u64 l], .agg [.int .i64 p, .int .i64 q, .ints .arg .u64 m]] = some dv ∧ Wk drops dv (law10.MatrixTurns.out [.i r, .i c, .l l, .i p, .i q, .l m])) : Known Try.prog 4 law10.MatrixTurns.spec := by
  refine ⟨meets_entry (E := law10.MatrixTurns.E) (env_ok hk _ _ _) Try.func4 (show Try.f4.body = some (bodyOf Try.f4) by kernel_rfl) fun ats dvs he hp => ?_, call_enter Try.func4 (by kernel_rfl) (show Try.f4.body = some (bodyOf Try.f4) by kernel_rfl)⟩
  obtain ⟨_, _, _, _, rfl, rfl, hs0, he0⟩ := he.st_inv
  obtain ⟨r, _, _, rfl, rfl, he1⟩ := hs0.i_inv
  obtain ⟨c, _, _, rfl, rfl, he2⟩ := he1.i_inv
  obtain ⟨l, _, _, rfl, rfl, he3⟩ := he2.s_inv
  obtain ⟨rfl, rfl⟩ := he3.nil_inv
  obtain ⟨_, _, _, _, rfl, rfl, hs4, he4⟩ := he0.st_inv
  obtain ⟨p, _, _, rfl, rfl, he5⟩ := hs4.i_inv
  obtain ⟨q, _, _, rfl, rfl, he6⟩ := he5.i_inv
  obtain ⟨m, _, _, rfl, rfl, he7⟩ := he6.s_inv
  obtain ⟨rfl, rfl⟩ := he7.nil_inv
  obtain ⟨rfl, rfl⟩ := he4.nil_inv
  exact h r c l p q m hp
end EqLaw10
end Go.Proofs.S1

/- Chapter 10's laws: sizes, places, matrices that are turned. -/
namespace Go.Proofs.S1
open Go Go.Den Go.Rnd Go.Proofs
open EqLaw10

theorem eqI (x y : Int) : (x == y) = decide (x = y) := by rw [Bool.eq_iff_iff]; simp

theorem law10.told.known : Known Try.prog 12 law10.told.spec := law10.told.known_of (.cons ref10.Same.known .nil) fun r c l e p q m f hp => by
  have hp : okLen l = true := hp
  refine ⟨0, law10.told.out [.i r, .i c, .l l, .i e, .i p, .i q, .l m, .i f], [], ?_, .bool⟩
  show _ = some (DV.bool (toldB r c l e p q m f))
  unfold toldB
  rw [law10.told.ev, hp, Bool.or_true, Bool.or_true, cond_true, cond_true, eqI, eqI]
  by_cases hf : f = 0
  · have h : (f != (0 : Int)) = false := by rw [hf]; rfl
    rw [h, cond_false, if_pos hf]
    cases decide (e = 0) <;> rfl
  · have h : (f != (0 : Int)) = true := by simpa using hf
    rw [h, cond_true, if_neg hf]
    cases decide (e = f) <;> rfl

theorem law10.form.known : Known Try.prog 16 law10.form.spec := law10.form.known_of (.cons ref10.Right.known .nil) fun r c l p q m _ => by
  refine ⟨0, law10.form.out [.i r, .i c, .l l, .i p, .i q, .l m], [], ?_, .int⟩
  show _ = some (DV.int .i64 (twoI r c l p q m))
  unfold twoI
  rw [law10.form.ev]
  cases rightB r c l <;> cases rightB p q m <;> rfl

def eye2 : List Int := [4607182418800017408, 0, 0, 4607182418800017408]
theorem eye_two : eyeX 2 = (2, 2, eye2, 0) := by decide +kernel
theorem grid_two : (grid (Int.toNat 2) (Int.toNat 2) fun (j1 j2 : Nat) => eyeI (j1 : Int) (j2 : Int)) = eye2 := by decide +kernel
theorem mul_two : mulX 2 2 eye2 2 2 eye2 = (2, 2, eye2, 0) := by decide +kernel
theorem all_eye2 : allU64 eye2 = true := cdec_eq.2 fun x hx => by
  simp only [eye2, List.mem_cons, List.not_mem_nil, or_false] at hx
  rcases hx with rfl | rfl | rfl | rfl
  · exact inU64_of (n := 4607182418800017408) (by decide)
  · exact inU64_of (n := 0) (by decide)
  · exact inU64_of (n := 0) (by decide)
  · exact inU64_of (n := 4607182418800017408) (by decide)

theorem okLen_of {l : List Int} (h : l.length ≤ 1000) : okLen l = true := cdec_eq.2 (by omega)

theorem law10.awake.known : Known Try.prog 14 law10.awake.spec := law10.awake.known_of (.cons matrix.Eye.known (.cons matrix.Mul.known (.cons ref10.Eye.known (.cons ref10.Same.known .nil)))) fun _ _ => by
  refine ⟨0, law10.awake.out [], [], ?_, .bool⟩
  have o : okLen eye2 = true := okLen_of (by decide)
  have s : sizeB (2 : Int) = true := by decide
  have sm : sameM 2 2 eye2 2 2 eye2 = true := by decide
  rw [law10.awake.ev, eye_two]
  dsimp only
  rw [mul_two]
  dsimp only
  rw [all_eye2, o, s, grid_two, sm]
  rfl

theorem size_code (a : Int) : ((leI (0 : Int) a) && (leI a (6 : Int))) = sizeB a := by
  unfold sizeB; rw [leI_eq, leI_eq]

theorem same_self (r c : Int) (l : List Int) : sameM r c l r c l = true := by unfold sameM; simp

theorem grid_ok {A B : Nat} (hA : A ≤ 6) (hB : B ≤ 6) (f : Nat → Nat → Int) : okLen (grid A B f) = true := okLen_of (by
  have := Nat.mul_le_mul hA hB
  rw [grid_length]; omega)

theorem law10.MatrixMakes.known : Known Try.prog 3 law10.MatrixMakes.spec := law10.MatrixMakes.known_of (.cons law10.awake.known (.cons law10.told.known (.cons matrix.Eye.known (.cons matrix.Zeros.known (.cons ref10.Eye.known (.cons ref10.Zeros.known .nil)))))) fun a b _ => by
  refine ⟨0, law10.MatrixMakes.out [.i a, .i b], [], ?_, .bool⟩
  show _ = some (DV.bool true)
  have o0 : okLen [] = true := okLen_of (by decide)
  have t0 : toldB 0 0 [] 3 0 0 [] 3 = true := by decide
  rw [law10.MatrixMakes.ev, Bool.and_assoc (leI 0 a && leI a 6), size_code, size_code]
  unfold eyeX zerosX
  cases ha : sizeB a with
  | false =>
    rw [if_neg (by decide), if_neg (by rw [Bool.false_and]; decide)]
    unfold noX
    dsimp only
    rw [o0, t0]
    rfl
  | true =>
    obtain ⟨A, rfl, hA⟩ := size_nat ha
    rw [if_pos rfl]
    dsimp only
    have te : toldB (A : Int) (A : Int) (grid (Int.toNat (A : Int)) (Int.toNat (A : Int)) fun (j1 j2 : Nat) => eyeI (j1 : Int) (j2 : Int)) 0 (A : Int) (A : Int) (grid (Int.toNat (A : Int)) (Int.toNat (A : Int)) fun (j1 j2 : Nat) => eyeI (j1 : Int) (j2 : Int)) 0 = true := by
      unfold toldB; rw [if_pos rfl, same_self]; rfl
    rw [te, Int.toNat_natCast, grid_ok hA hA]
    cases hb : sizeB b with
    | false =>
      rw [if_neg (by decide)]
      unfold noX
      dsimp only
      rw [o0, t0]
      rfl
    | true =>
      obtain ⟨B, rfl, hB⟩ := size_nat hb
      rw [if_pos (by rfl)]
      dsimp only
      have tz : toldB (A : Int) (B : Int) (grid A (Int.toNat (B : Int)) fun _ _ => 0) 0 (A : Int) (B : Int) (grid A (Int.toNat (B : Int)) fun _ _ => 0) 0 = true := by
        unfold toldB; rw [if_pos rfl, same_self]; rfl
      rw [tz, Int.toNat_natCast, grid_ok hA hB]
      rfl

theorem law10.MatrixChecks.known : Known Try.prog 5 law10.MatrixChecks.spec := law10.MatrixChecks.known_of (.cons law10.awake.known (.cons matrix.At.known (.cons matrix.Check.known (.cons ref10.At.known (.cons ref10.Right.known .nil))))) fun r c l i k _ => by
  refine ⟨0, law10.MatrixChecks.out [.i r, .i c, .l l, .i i, .i k], [], ?_, .bool⟩
  show _ = some (DV.bool true)
  rw [law10.MatrixChecks.ev]
  unfold chkI getX
  cases hr : rightB r c l with
  | false => rfl
  | true =>
    rw [Bool.not_true, cond_false, if_pos rfl, if_pos rfl, ltI_eq, ltI_eq, leI_eq, leI_eq]
    by_cases h : 0 ≤ i ∧ i < r ∧ 0 ≤ k ∧ k < c
    · have e : (((decide (i < 0) || decide (r ≤ i)) || decide (k < 0)) || decide (c ≤ k)) = false := by simp; omega
      rw [e, cond_false, at_of_right hr h.1 h.2.1 h.2.2.1 h.2.2.2 r, if_pos h, Bool.or_true, cond_true]
      dsimp only
      simp only [BEq.rfl, cond_true]
    · have e : (((decide (i < 0) || decide (r ≤ i)) || decide (k < 0)) || decide (c ≤ k)) = true := by simp; omega
      rw [e, cond_true, if_neg h]
      rfl

/-! ### Turned matrices -/

theorem row_list {R C I : Nat} {l : List Int} (hl : l.length = R * C) (hI : I < R) : rowI (C : Int) l (I : Int) = (List.range C).map fun k : Nat => atI (C : Int) l (I : Int) (k : Int) := by
  have hlen := row_length hl hI
  have e1 : ((I : Int) * (C : Int)).toNat = I * C := by rw [← Int.natCast_mul, Int.toNat_natCast]
  have e2 : (((I : Int) + 1) * (C : Int)).toNat = (I + 1) * C := by
    have : ((I : Int) + 1) * (C : Int) = (((I + 1) * C : Nat) : Int) := by rw [Int.natCast_mul]; rfl
    rw [this, Int.toNat_natCast]
  refine list_ext (by rw [hlen, List.length_map, List.length_range]) fun j hj => ?_
  rw [hlen] at hj
  have hp := place_lt' hI hj
  have h1 : (I + 1) * C = I * C + C := by rw [Nat.add_mul, Nat.one_mul]
  rw [List.getElem?_map, List.getElem?_range hj]
  unfold rowI
  rw [List.getElem?_drop, e1, e2, List.getElem?_take, if_pos (by omega)]
  show l[I * C + j]? = some (atI (C : Int) l (I : Int) (j : Int))
  rw [atI_nat, List.getD_eq_getElem?_getD, List.getElem?_eq_getElem (by omega)]
  rfl

theorem row_grid {R C I : Nat} (f : Nat → Nat → Int) (hI : I < R) : rowI (C : Int) (grid R C f) (I : Int) = (List.range C).map (f I) := by
  rw [row_list (grid_length R C f) hI]
  refine List.map_congr_left fun k hk => ?_
  exact grid_at hI (List.mem_range.1 hk)

theorem col_grid {R C K : Nat} (f : Nat → Nat → Int) (hK : K < C) : colI (R : Int) (C : Int) (grid R C f) (K : Int) = (List.range R).map fun j => f j K := by
  unfold colI
  rw [Int.toNat_natCast]
  refine List.map_congr_left fun j hj => ?_
  exact grid_at (List.mem_range.1 hj) hK

theorem grid_all {r c : Nat} {f : Nat → Nat → Int} (h : ∀ i k, inU64 (f i k) = true) : allU64 (grid r c f) = true := cdec_eq.2 fun x hx => by
  obtain ⟨j, _, rfl⟩ := List.mem_map.1 hx
  exact h _ _

theorem turn_nat {R C : Nat} {l : List Int} (hr : rightB (R : Int) (C : Int) l = true) : turnX (R : Int) (C : Int) l = ((C : Int), (R : Int), grid C R fun (i k : Nat) => atI (C : Int) l (k : Int) (i : Int), 0) := by
  unfold turnX
  rw [if_pos hr, Int.toNat_natCast, Int.toNat_natCast]

theorem dot_in (x y : List Int) : inU64 (dotI x y) = true := inU64_of (dotP_lt x y 0 (by decide))

theorem law10.MatrixTurns.known : Known Try.prog 4 law10.MatrixTurns.spec := law10.MatrixTurns.known_of (.cons law10.awake.known (.cons law10.form.known (.cons matrix.Mul.known (.cons matrix.Turn.known (.cons ref10.Same.known .nil))))) fun r c l p q m hp => by
  obtain ⟨al, am⟩ := and_true_iff.1 (show (allU64 l && allU64 m) = true from hp)
  refine ⟨0, law10.MatrixTurns.out [.i r, .i c, .l l, .i p, .i q, .l m], [], ?_, .bool⟩
  show _ = some (DV.bool true)
  rw [law10.MatrixTurns.ev, two_ne]
  cases hf : (rightB r c l && rightB p q m) with
  | false => rfl
  | true =>
    obtain ⟨hr, hm⟩ := and_true_iff.1 hf
    obtain ⟨R, C, rfl, rfl, r6, c6, hl⟩ := right_nat hr
    obtain ⟨P, Q, rfl, rfl, p6, q6, hl2⟩ := right_nat hm
    have t2 : turnX (C : Int) (R : Int) (grid C R fun (i k : Nat) => atI (C : Int) l (k : Int) (i : Int)) = ((R : Int), (C : Int), l, 0) := by
      rw [turn_nat (grid_right _ c6 r6)]
      have : (grid R C fun (i k : Nat) => atI (R : Int) (grid C R fun (i k : Nat) => atI (C : Int) l (k : Int) (i : Int)) (k : Int) (i : Int)) = l := by
        conv => rhs; rw [← grid_back hl]
        exact grid_congr fun i k hi hk => grid_at hk hi
      rw [this]
    have ol : okLen l = true := okLen_of (by have := Nat.mul_le_mul r6 c6; omega)
    rw [Bool.not_true, cond_false, turn_nat hr]
    dsimp only
    rw [t2]
    dsimp only
    rw [ol, same_self, Bool.or_true, cond_true]
    have z : (((0 : Int) != 0 || (0 : Int) != 0) || !true) = false := by decide
    rw [z, cond_false]
    by_cases hc : C = P
    · subst hc
      have hne : ((C : Int) != (C : Int)) = false := by simp
      have em : mulX (R : Int) (C : Int) l (C : Int) (Q : Int) m = ((R : Int), (Q : Int), grid R Q fun (i k : Nat) => dotI (rowI (C : Int) l (i : Int)) (colI (C : Int) (Q : Int) m (k : Int)), 0) := by
        unfold mulX
        rw [hf, if_pos rfl, if_pos rfl, Int.toNat_natCast, Int.toNat_natCast]
      have et : turnX (R : Int) (Q : Int) (grid R Q fun (i k : Nat) => dotI (rowI (C : Int) l (i : Int)) (colI (C : Int) (Q : Int) m (k : Int))) = ((Q : Int), (R : Int), grid Q R fun (i k : Nat) => dotI (rowI (C : Int) l (k : Int)) (colI (C : Int) (Q : Int) m (i : Int)), 0) := by
        rw [turn_nat (grid_right _ r6 q6)]
        have : (grid Q R fun (i k : Nat) => atI (Q : Int) (grid R Q fun (i k : Nat) => dotI (rowI (C : Int) l (i : Int)) (colI (C : Int) (Q : Int) m (k : Int))) (k : Int) (i : Int)) = grid Q R fun (i k : Nat) => dotI (rowI (C : Int) l (k : Int)) (colI (C : Int) (Q : Int) m (i : Int)) :=
          grid_congr fun i k hi hk => grid_at hk hi
        rw [this]
      have ev : mulX (Q : Int) (C : Int) (grid Q C fun (i k : Nat) => atI (Q : Int) m (k : Int) (i : Int)) (C : Int) (R : Int) (grid C R fun (i k : Nat) => atI (C : Int) l (k : Int) (i : Int)) = ((Q : Int), (R : Int), grid Q R fun (i k : Nat) => dotI (rowI (C : Int) l (k : Int)) (colI (C : Int) (Q : Int) m (i : Int)), 0) := by
        unfold mulX
        rw [grid_right _ q6 c6, grid_right _ c6 r6, Bool.and_self, if_pos rfl, if_pos rfl, Int.toNat_natCast, Int.toNat_natCast]
        have : (grid Q R fun (i k : Nat) => dotI (rowI (C : Int) (grid Q C fun (i k : Nat) => atI (Q : Int) m (k : Int) (i : Int)) (i : Int)) (colI (C : Int) (R : Int) (grid C R fun (i k : Nat) => atI (C : Int) l (k : Int) (i : Int)) (k : Int))) = grid Q R fun (i k : Nat) => dotI (rowI (C : Int) l (k : Int)) (colI (C : Int) (Q : Int) m (i : Int)) := by
          refine grid_congr fun i k hi hk => ?_
          rw [row_grid _ hi, col_grid _ hk, row_list hl hk, dotI_comm]
          unfold colI
          rw [Int.toNat_natCast]
        rw [this]
      rw [hne, cond_false, al, am, turn_nat hm]
      dsimp only
      rw [em]
      dsimp only
      rw [et, ev]
      dsimp only
      rw [grid_all (fun i k => at_all am), grid_all (fun i k => at_all al), grid_ok q6 r6, same_self]
      rfl
    · have hne : ((C : Int) != (P : Int)) = true := by simp only [bne_iff_ne, ne_eq]; omega
      rw [hne, cond_true]

end Go.Proofs.S1
