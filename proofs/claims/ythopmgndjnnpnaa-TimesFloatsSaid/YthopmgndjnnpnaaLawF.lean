/- LawF of the verified evaluator and its use for this seat (of my texts S1EqLaw05F, S1PLaw05F). -/
import Derived.Test.YthopmgndjnnpnaaSpe
import Derived.Test.YthopmgndjnnpnaaLawE
import Derived.Test.YthopmgndjnnpnaaRef

/- The evaluator's equations: dioptralaw05.float, dioptralaw05.SumFloats, dioptralaw05.SumRises. Printed by denpy.py. -/
namespace Go.Proofs.S1
open Go Go.Den Go.Rnd Go.Proofs
set_option linter.unusedVariables false
set_option maxRecDepth 100000
namespace EqLaw05F
theorem tt0 (a b : Bool) : (((!(bif a then b else false)) || ((bif a then b else false) == true)) && true) = true := by cases a <;> cases b <;> rfl
theorem tt1 (a b : Bool) : ((!((bif a then b else false) == true)) || true) = true := by cases a <;> cases b <;> rfl
theorem tt2 (a : Bool) : (((!a) || (a == true)) && true) = true := by cases a <;> rfl
theorem tt3 (a : Bool) : ((!(a == true)) || ((((!(a == true)) || (a == true)) && (((!(a == true)) || (a == true)) && true)) && true)) = true := by cases a <;> rfl
theorem tt4 (a : Bool) : ((!(a == true)) || ((((!(a == true)) || (a == true)) && true) && true)) = true := by cases a <;> rfl
theorem tt5 (a : Bool) : ((!(a == true)) || true) = true := by cases a <;> rfl
theorem tt6 (a b c d : Bool) : (((!(bif (bif (!a) then true else (!b)) then (bif (!c) then true else (!d)) else false)) || ((bif (bif (!a) then true else (!b)) then (bif (!c) then true else (!d)) else false) == true)) && true) = true := by cases a <;> cases b <;> cases c <;> cases d <;> rfl
theorem tt7 (a b c d : Bool) : ((!((bif (bif (!a) then true else (!b)) then (bif (!c) then true else (!d)) else false) == true)) || true) = true := by cases a <;> cases b <;> cases c <;> cases d <;> rfl
theorem tt8 (a b : Bool) : (((!(bif (!a) then true else (!b))) || ((bif (!a) then true else (!b)) == true)) && true) = true := by cases a <;> cases b <;> rfl
theorem tt9 (a b c : Bool) : ((!((bif (!a) then true else (!b)) == true)) || (((!((bif (!a) then true else (!b)) == true)) || ((bif (!a) then true else (!b)) == true)) && ((!(!(!c))) || (((bif (!a) then true else (!b)) == true) && ((!c) == false))))) = true := by cases a <;> cases b <;> cases c <;> rfl
theorem tt10 (a b c : Bool) : ((!(((bif (!a) then true else (!b)) == true) && ((!c) == false))) || ((((!(((bif (!a) then true else (!b)) == true) && ((!c) == false))) || (((bif (!a) then true else (!b)) == true) && ((!c) == false))) && true) && true)) = true := by cases a <;> cases b <;> cases c <;> rfl
theorem tt11 (a b c : Bool) : ((!(((bif (!a) then true else (!b)) == true) && ((!c) == false))) || ((((!(((bif (!a) then true else (!b)) == true) && ((!c) == false))) || (((bif (!a) then true else (!b)) == true) && ((!c) == false))) && (((!(((bif (!a) then true else (!b)) == true) && ((!c) == false))) || (((bif (!a) then true else (!b)) == true) && ((!c) == false))) && true)) && true)) = true := by cases a <;> cases b <;> cases c <;> rfl
theorem tt12 (a b c : Bool) : ((!(((bif (!a) then true else (!b)) == true) && ((!c) == false))) || true) = true := by cases a <;> cases b <;> cases c <;> rfl
theorem tt13 (a b : Bool) : ((!((bif (!a) then true else (!b)) == true)) || ((((!((bif (!a) then true else (!b)) == true)) || ((bif (!a) then true else (!b)) == true)) && true) && true)) = true := by cases a <;> cases b <;> rfl
theorem tt14 (a b : Bool) : ((!((bif (!a) then true else (!b)) == true)) || ((((!((bif (!a) then true else (!b)) == true)) || ((bif (!a) then true else (!b)) == true)) && (((!((bif (!a) then true else (!b)) == true)) || ((bif (!a) then true else (!b)) == true)) && true)) && true)) = true := by cases a <;> cases b <;> rfl
theorem tt15 (a b : Bool) : ((!((bif (!a) then true else (!b)) == true)) || true) = true := by cases a <;> cases b <;> rfl
theorem tt16 (a : Bool) : ((!(!(!a))) || ((!a) == false)) = true := by cases a <;> rfl
theorem tt17 (a : Bool) : ((!((!a) == false)) || ((((!((!a) == false)) || ((!a) == false)) && true) && true)) = true := by cases a <;> rfl
theorem tt18 (a : Bool) : ((!((!a) == false)) || ((((!((!a) == false)) || ((!a) == false)) && (((!((!a) == false)) || ((!a) == false)) && true)) && true)) = true := by cases a <;> rfl
theorem tt19 (a : Bool) : ((!((!a) == false)) || true) = true := by cases a <;> rfl
noncomputable def law05.float.tab : List (Nat × Entry) := []
noncomputable def law05.float.E : Env := envOf (tabOf law05.float.tab) (fun _ => false) (fun _ => none) (fun _ => none)
theorem law05.float.ev (N : Nat) (x : Int) : funD law05.float.E N Try.f29 (bodyOf Try.f29) [.int .u64 x] =
  bif (decide (0 ≤ x)) then
    some (.fl (Int.toNat x))
  else none := by kernel_rfl
theorem law05.float.known_of (hk : Knowns Try.prog law05.float.tab) (h : ∀ (x : Int), law05.float.pre [.i x] = true → ∃ N dv drops, funD law05.float.E N Try.f29 (bodyOf Try.f29) [.int .u64 x] = some dv ∧ Wk drops dv (law05.float.out [.i x])) : Known Try.prog 29 law05.float.spec := by
  refine ⟨meets_entry (E := law05.float.E) (env_ok hk _ _ _) Try.func29 (show Try.f29.body = some (bodyOf Try.f29) by kernel_rfl) fun ats dvs he hp => ?_, call_enter Try.func29 (by kernel_rfl) (show Try.f29.body = some (bodyOf Try.f29) by kernel_rfl)⟩
  obtain ⟨x, _, _, rfl, rfl, he0⟩ := he.i_inv
  obtain ⟨rfl, rfl⟩ := he0.nil_inv
  exact h x hp

noncomputable def law05.SumFloats.tab : List (Nat × Entry) := [(16, sum.Add.spec), (18, law05.awake.spec), (19, sum.Sub.spec), (29, law05.float.spec), (30, ref05.Canon.nb.spec)]
noncomputable def law05.SumFloats.E : Env := envOf (tabOf law05.SumFloats.tab) (fun _ => false) (fun _ => none) (fun _ => none)
theorem law05.SumFloats.ev (N : Nat) (a : Int) (b : Int) : funD law05.SumFloats.E N Try.f8 (bodyOf Try.f8) [.int .u64 a, .int .u64 b] =
  bif (inU64 a && inU64 b) then
    bif (inU64 a && inU64 b) then
      bif (inU64 a) then
        bif (inU64 b) then
          bif (inU64 a) then
            bif (inU64 b) then
              some (.bool (bif (bif ((addBI a b) == (canonNI ((Ieee.double.add (Int.toNat a) (Int.toNat b)).getD nanBits))) then ((subBI a b) == (canonNI ((Ieee.double.sub (Int.toNat a) (Int.toNat b)).getD nanBits))) else false) then true else false))
            else none
          else none
        else none
      else none
    else none
  else none :=
  Eq.trans (b := bif (inU64 a && inU64 b) then
    bif (inU64 a && inU64 b) then
      bif (inU64 a) then
        bif (inU64 b) then
          bif (inU64 a) then
            bif (inU64 b) then
              bif ((!(((addBI a b) == (canonNI ((Ieee.double.add (Int.toNat a) (Int.toNat b)).getD nanBits))) == true)) || true) then
                bif ((!(((addBI a b) == (canonNI ((Ieee.double.add (Int.toNat a) (Int.toNat b)).getD nanBits))) == true)) || true) then
                  bif ((!(((addBI a b) == (canonNI ((Ieee.double.add (Int.toNat a) (Int.toNat b)).getD nanBits))) == true)) || ((((!(((addBI a b) == (canonNI ((Ieee.double.add (Int.toNat a) (Int.toNat b)).getD nanBits))) == true)) || (((addBI a b) == (canonNI ((Ieee.double.add (Int.toNat a) (Int.toNat b)).getD nanBits))) == true)) && true) && true)) then
                    bif ((!(((addBI a b) == (canonNI ((Ieee.double.add (Int.toNat a) (Int.toNat b)).getD nanBits))) == true)) || ((((!(((addBI a b) == (canonNI ((Ieee.double.add (Int.toNat a) (Int.toNat b)).getD nanBits))) == true)) || (((addBI a b) == (canonNI ((Ieee.double.add (Int.toNat a) (Int.toNat b)).getD nanBits))) == true)) && true) && true)) then
                      bif ((!(((addBI a b) == (canonNI ((Ieee.double.add (Int.toNat a) (Int.toNat b)).getD nanBits))) == true)) || ((((!(((addBI a b) == (canonNI ((Ieee.double.add (Int.toNat a) (Int.toNat b)).getD nanBits))) == true)) || (((addBI a b) == (canonNI ((Ieee.double.add (Int.toNat a) (Int.toNat b)).getD nanBits))) == true)) && (((!(((addBI a b) == (canonNI ((Ieee.double.add (Int.toNat a) (Int.toNat b)).getD nanBits))) == true)) || (((addBI a b) == (canonNI ((Ieee.double.add (Int.toNat a) (Int.toNat b)).getD nanBits))) == true)) && true)) && true)) then
                        bif (((!((addBI a b) == (canonNI ((Ieee.double.add (Int.toNat a) (Int.toNat b)).getD nanBits)))) || (((addBI a b) == (canonNI ((Ieee.double.add (Int.toNat a) (Int.toNat b)).getD nanBits))) == true)) && true) then
                          bif ((!((bif ((addBI a b) == (canonNI ((Ieee.double.add (Int.toNat a) (Int.toNat b)).getD nanBits))) then ((subBI a b) == (canonNI ((Ieee.double.sub (Int.toNat a) (Int.toNat b)).getD nanBits))) else false) == true)) || true) then
                            bif (((!(bif ((addBI a b) == (canonNI ((Ieee.double.add (Int.toNat a) (Int.toNat b)).getD nanBits))) then ((subBI a b) == (canonNI ((Ieee.double.sub (Int.toNat a) (Int.toNat b)).getD nanBits))) else false)) || ((bif ((addBI a b) == (canonNI ((Ieee.double.add (Int.toNat a) (Int.toNat b)).getD nanBits))) then ((subBI a b) == (canonNI ((Ieee.double.sub (Int.toNat a) (Int.toNat b)).getD nanBits))) else false) == true)) && true) then
                              some (.bool (bif (bif ((addBI a b) == (canonNI ((Ieee.double.add (Int.toNat a) (Int.toNat b)).getD nanBits))) then ((subBI a b) == (canonNI ((Ieee.double.sub (Int.toNat a) (Int.toNat b)).getD nanBits))) else false) then true else false))
                            else none
                          else none
                        else none
                      else none
                    else none
                  else none
                else none
              else none
            else none
          else none
        else none
      else none
    else none
  else none) (by kernel_rfl)
  (ifE (ifE (ifE (ifE (ifE (ifE (ifT (tt5 _) (ifT (tt5 _) (ifT (tt4 _) (ifT (tt4 _) (ifT (tt3 _) (ifT (tt2 _) (ifT (tt1 _ _) (ifT (tt0 _ _) rfl)))))))) rfl) rfl) rfl) rfl) rfl) rfl)
theorem law05.SumFloats.known_of (hk : Knowns Try.prog law05.SumFloats.tab) (h : ∀ (a : Int) (b : Int), law05.SumFloats.pre [.i a, .i b] = true → ∃ N dv drops, funD law05.SumFloats.E N Try.f8 (bodyOf Try.f8) [.int .u64 a, .int .u64 b] = some dv ∧ Wk drops dv (law05.SumFloats.out [.i a, .i b])) : Known Try.prog 8 law05.SumFloats.spec := by
  refine ⟨meets_entry (E := law05.SumFloats.E) (env_ok hk _ _ _) Try.func8 (show Try.f8.body = some (bodyOf Try.f8) by kernel_rfl) fun ats dvs he hp => ?_, call_enter Try.func8 (by kernel_rfl) (show Try.f8.body = some (bodyOf Try.f8) by kernel_rfl)⟩
  obtain ⟨a, _, _, rfl, rfl, he0⟩ := he.i_inv
  obtain ⟨b, _, _, rfl, rfl, he1⟩ := he0.i_inv
  obtain ⟨rfl, rfl⟩ := he1.nil_inv
  exact h a b hp

noncomputable def law05.SumRises.tab : List (Nat × Entry) := [(16, sum.Add.spec), (18, law05.awake.spec), (29, law05.float.spec)]
noncomputable def law05.SumRises.E : Env := envOf (tabOf law05.SumRises.tab) (fun _ => false) (fun _ => none) (fun _ => none)
theorem law05.SumRises.ev (N : Nat) (a : Int) (b : Int) (c : Int) : funD law05.SumRises.E N Try.f7 (bodyOf Try.f7) [.int .u64 a, .int .u64 b, .int .u64 c] =
  bif (inU64 a && inU64 c) then
    bif (inU64 b && inU64 c) then
      bif (inU64 a) then
        bif (inU64 b) then
          bif (inU64 (addBI a c)) then
            bif (inU64 (addBI b c)) then
              some (.bool (bif (bif (bif (!(Ieee.double.order (Int.toNat a) (Int.toNat b) == some .lt || Ieee.double.order (Int.toNat a) (Int.toNat b) == some .eq)) then true else (!(Ieee.double.order (Int.toNat (addBI a c)) (Int.toNat (addBI b c)) == some .gt))) then (bif (!(Ieee.double.order (Int.toNat a) (Int.toNat b) == some .gt || Ieee.double.order (Int.toNat a) (Int.toNat b) == some .eq)) then true else (!(Ieee.double.order (Int.toNat (addBI a c)) (Int.toNat (addBI b c)) == some .lt))) else false) then true else false))
            else none
          else none
        else none
      else none
    else none
  else none :=
  Eq.trans (b := bif (inU64 a && inU64 c) then
    bif (inU64 b && inU64 c) then
      bif (inU64 a) then
        bif (inU64 b) then
          bif (inU64 (addBI a c)) then
            bif (inU64 (addBI b c)) then
              bif ((!((!(Ieee.double.order (Int.toNat a) (Int.toNat b) == some .lt || Ieee.double.order (Int.toNat a) (Int.toNat b) == some .eq)) == false)) || true) then
                bif ((!((!(Ieee.double.order (Int.toNat a) (Int.toNat b) == some .lt || Ieee.double.order (Int.toNat a) (Int.toNat b) == some .eq)) == false)) || true) then
                  bif ((!((!(Ieee.double.order (Int.toNat a) (Int.toNat b) == some .lt || Ieee.double.order (Int.toNat a) (Int.toNat b) == some .eq)) == false)) || ((((!((!(Ieee.double.order (Int.toNat a) (Int.toNat b) == some .lt || Ieee.double.order (Int.toNat a) (Int.toNat b) == some .eq)) == false)) || ((!(Ieee.double.order (Int.toNat a) (Int.toNat b) == some .lt || Ieee.double.order (Int.toNat a) (Int.toNat b) == some .eq)) == false)) && (((!((!(Ieee.double.order (Int.toNat a) (Int.toNat b) == some .lt || Ieee.double.order (Int.toNat a) (Int.toNat b) == some .eq)) == false)) || ((!(Ieee.double.order (Int.toNat a) (Int.toNat b) == some .lt || Ieee.double.order (Int.toNat a) (Int.toNat b) == some .eq)) == false)) && true)) && true)) then
                    bif ((!((!(Ieee.double.order (Int.toNat a) (Int.toNat b) == some .lt || Ieee.double.order (Int.toNat a) (Int.toNat b) == some .eq)) == false)) || ((((!((!(Ieee.double.order (Int.toNat a) (Int.toNat b) == some .lt || Ieee.double.order (Int.toNat a) (Int.toNat b) == some .eq)) == false)) || ((!(Ieee.double.order (Int.toNat a) (Int.toNat b) == some .lt || Ieee.double.order (Int.toNat a) (Int.toNat b) == some .eq)) == false)) && true) && true)) then
                      bif ((!(!(!(Ieee.double.order (Int.toNat a) (Int.toNat b) == some .lt || Ieee.double.order (Int.toNat a) (Int.toNat b) == some .eq)))) || ((!(Ieee.double.order (Int.toNat a) (Int.toNat b) == some .lt || Ieee.double.order (Int.toNat a) (Int.toNat b) == some .eq)) == false)) then
                        bif ((!((bif (!(Ieee.double.order (Int.toNat a) (Int.toNat b) == some .lt || Ieee.double.order (Int.toNat a) (Int.toNat b) == some .eq)) then true else (!(Ieee.double.order (Int.toNat (addBI a c)) (Int.toNat (addBI b c)) == some .gt))) == true)) || true) then
                          bif ((!((bif (!(Ieee.double.order (Int.toNat a) (Int.toNat b) == some .lt || Ieee.double.order (Int.toNat a) (Int.toNat b) == some .eq)) then true else (!(Ieee.double.order (Int.toNat (addBI a c)) (Int.toNat (addBI b c)) == some .gt))) == true)) || true) then
                            bif ((!((bif (!(Ieee.double.order (Int.toNat a) (Int.toNat b) == some .lt || Ieee.double.order (Int.toNat a) (Int.toNat b) == some .eq)) then true else (!(Ieee.double.order (Int.toNat (addBI a c)) (Int.toNat (addBI b c)) == some .gt))) == true)) || ((((!((bif (!(Ieee.double.order (Int.toNat a) (Int.toNat b) == some .lt || Ieee.double.order (Int.toNat a) (Int.toNat b) == some .eq)) then true else (!(Ieee.double.order (Int.toNat (addBI a c)) (Int.toNat (addBI b c)) == some .gt))) == true)) || ((bif (!(Ieee.double.order (Int.toNat a) (Int.toNat b) == some .lt || Ieee.double.order (Int.toNat a) (Int.toNat b) == some .eq)) then true else (!(Ieee.double.order (Int.toNat (addBI a c)) (Int.toNat (addBI b c)) == some .gt))) == true)) && (((!((bif (!(Ieee.double.order (Int.toNat a) (Int.toNat b) == some .lt || Ieee.double.order (Int.toNat a) (Int.toNat b) == some .eq)) then true else (!(Ieee.double.order (Int.toNat (addBI a c)) (Int.toNat (addBI b c)) == some .gt))) == true)) || ((bif (!(Ieee.double.order (Int.toNat a) (Int.toNat b) == some .lt || Ieee.double.order (Int.toNat a) (Int.toNat b) == some .eq)) then true else (!(Ieee.double.order (Int.toNat (addBI a c)) (Int.toNat (addBI b c)) == some .gt))) == true)) && true)) && true)) then
                              bif ((!((bif (!(Ieee.double.order (Int.toNat a) (Int.toNat b) == some .lt || Ieee.double.order (Int.toNat a) (Int.toNat b) == some .eq)) then true else (!(Ieee.double.order (Int.toNat (addBI a c)) (Int.toNat (addBI b c)) == some .gt))) == true)) || ((((!((bif (!(Ieee.double.order (Int.toNat a) (Int.toNat b) == some .lt || Ieee.double.order (Int.toNat a) (Int.toNat b) == some .eq)) then true else (!(Ieee.double.order (Int.toNat (addBI a c)) (Int.toNat (addBI b c)) == some .gt))) == true)) || ((bif (!(Ieee.double.order (Int.toNat a) (Int.toNat b) == some .lt || Ieee.double.order (Int.toNat a) (Int.toNat b) == some .eq)) then true else (!(Ieee.double.order (Int.toNat (addBI a c)) (Int.toNat (addBI b c)) == some .gt))) == true)) && true) && true)) then
                                bif ((!((bif (!(Ieee.double.order (Int.toNat a) (Int.toNat b) == some .lt || Ieee.double.order (Int.toNat a) (Int.toNat b) == some .eq)) then true else (!(Ieee.double.order (Int.toNat (addBI a c)) (Int.toNat (addBI b c)) == some .gt))) == true)) || ((((!((bif (!(Ieee.double.order (Int.toNat a) (Int.toNat b) == some .lt || Ieee.double.order (Int.toNat a) (Int.toNat b) == some .eq)) then true else (!(Ieee.double.order (Int.toNat (addBI a c)) (Int.toNat (addBI b c)) == some .gt))) == true)) || ((bif (!(Ieee.double.order (Int.toNat a) (Int.toNat b) == some .lt || Ieee.double.order (Int.toNat a) (Int.toNat b) == some .eq)) then true else (!(Ieee.double.order (Int.toNat (addBI a c)) (Int.toNat (addBI b c)) == some .gt))) == true)) && true) && true)) then
                                  bif ((!(((bif (!(Ieee.double.order (Int.toNat a) (Int.toNat b) == some .lt || Ieee.double.order (Int.toNat a) (Int.toNat b) == some .eq)) then true else (!(Ieee.double.order (Int.toNat (addBI a c)) (Int.toNat (addBI b c)) == some .gt))) == true) && ((!(Ieee.double.order (Int.toNat a) (Int.toNat b) == some .gt || Ieee.double.order (Int.toNat a) (Int.toNat b) == some .eq)) == false))) || true) then
                                    bif ((!(((bif (!(Ieee.double.order (Int.toNat a) (Int.toNat b) == some .lt || Ieee.double.order (Int.toNat a) (Int.toNat b) == some .eq)) then true else (!(Ieee.double.order (Int.toNat (addBI a c)) (Int.toNat (addBI b c)) == some .gt))) == true) && ((!(Ieee.double.order (Int.toNat a) (Int.toNat b) == some .gt || Ieee.double.order (Int.toNat a) (Int.toNat b) == some .eq)) == false))) || true) then
                                      bif ((!(((bif (!(Ieee.double.order (Int.toNat a) (Int.toNat b) == some .lt || Ieee.double.order (Int.toNat a) (Int.toNat b) == some .eq)) then true else (!(Ieee.double.order (Int.toNat (addBI a c)) (Int.toNat (addBI b c)) == some .gt))) == true) && ((!(Ieee.double.order (Int.toNat a) (Int.toNat b) == some .gt || Ieee.double.order (Int.toNat a) (Int.toNat b) == some .eq)) == false))) || ((((!(((bif (!(Ieee.double.order (Int.toNat a) (Int.toNat b) == some .lt || Ieee.double.order (Int.toNat a) (Int.toNat b) == some .eq)) then true else (!(Ieee.double.order (Int.toNat (addBI a c)) (Int.toNat (addBI b c)) == some .gt))) == true) && ((!(Ieee.double.order (Int.toNat a) (Int.toNat b) == some .gt || Ieee.double.order (Int.toNat a) (Int.toNat b) == some .eq)) == false))) || (((bif (!(Ieee.double.order (Int.toNat a) (Int.toNat b) == some .lt || Ieee.double.order (Int.toNat a) (Int.toNat b) == some .eq)) then true else (!(Ieee.double.order (Int.toNat (addBI a c)) (Int.toNat (addBI b c)) == some .gt))) == true) && ((!(Ieee.double.order (Int.toNat a) (Int.toNat b) == some .gt || Ieee.double.order (Int.toNat a) (Int.toNat b) == some .eq)) == false))) && (((!(((bif (!(Ieee.double.order (Int.toNat a) (Int.toNat b) == some .lt || Ieee.double.order (Int.toNat a) (Int.toNat b) == some .eq)) then true else (!(Ieee.double.order (Int.toNat (addBI a c)) (Int.toNat (addBI b c)) == some .gt))) == true) && ((!(Ieee.double.order (Int.toNat a) (Int.toNat b) == some .gt || Ieee.double.order (Int.toNat a) (Int.toNat b) == some .eq)) == false))) || (((bif (!(Ieee.double.order (Int.toNat a) (Int.toNat b) == some .lt || Ieee.double.order (Int.toNat a) (Int.toNat b) == some .eq)) then true else (!(Ieee.double.order (Int.toNat (addBI a c)) (Int.toNat (addBI b c)) == some .gt))) == true) && ((!(Ieee.double.order (Int.toNat a) (Int.toNat b) == some .gt || Ieee.double.order (Int.toNat a) (Int.toNat b) == some .eq)) == false))) && true)) && true)) then
                                        bif ((!(((bif (!(Ieee.double.order (Int.toNat a) (Int.toNat b) == some .lt || Ieee.double.order (Int.toNat a) (Int.toNat b) == some .eq)) then true else (!(Ieee.double.order (Int.toNat (addBI a c)) (Int.toNat (addBI b c)) == some .gt))) == true) && ((!(Ieee.double.order (Int.toNat a) (Int.toNat b) == some .gt || Ieee.double.order (Int.toNat a) (Int.toNat b) == some .eq)) == false))) || ((((!(((bif (!(Ieee.double.order (Int.toNat a) (Int.toNat b) == some .lt || Ieee.double.order (Int.toNat a) (Int.toNat b) == some .eq)) then true else (!(Ieee.double.order (Int.toNat (addBI a c)) (Int.toNat (addBI b c)) == some .gt))) == true) && ((!(Ieee.double.order (Int.toNat a) (Int.toNat b) == some .gt || Ieee.double.order (Int.toNat a) (Int.toNat b) == some .eq)) == false))) || (((bif (!(Ieee.double.order (Int.toNat a) (Int.toNat b) == some .lt || Ieee.double.order (Int.toNat a) (Int.toNat b) == some .eq)) then true else (!(Ieee.double.order (Int.toNat (addBI a c)) (Int.toNat (addBI b c)) == some .gt))) == true) && ((!(Ieee.double.order (Int.toNat a) (Int.toNat b) == some .gt || Ieee.double.order (Int.toNat a) (Int.toNat b) == some .eq)) == false))) && true) && true)) then
                                          bif ((!((bif (!(Ieee.double.order (Int.toNat a) (Int.toNat b) == some .lt || Ieee.double.order (Int.toNat a) (Int.toNat b) == some .eq)) then true else (!(Ieee.double.order (Int.toNat (addBI a c)) (Int.toNat (addBI b c)) == some .gt))) == true)) || (((!((bif (!(Ieee.double.order (Int.toNat a) (Int.toNat b) == some .lt || Ieee.double.order (Int.toNat a) (Int.toNat b) == some .eq)) then true else (!(Ieee.double.order (Int.toNat (addBI a c)) (Int.toNat (addBI b c)) == some .gt))) == true)) || ((bif (!(Ieee.double.order (Int.toNat a) (Int.toNat b) == some .lt || Ieee.double.order (Int.toNat a) (Int.toNat b) == some .eq)) then true else (!(Ieee.double.order (Int.toNat (addBI a c)) (Int.toNat (addBI b c)) == some .gt))) == true)) && ((!(!(!(Ieee.double.order (Int.toNat a) (Int.toNat b) == some .gt || Ieee.double.order (Int.toNat a) (Int.toNat b) == some .eq)))) || (((bif (!(Ieee.double.order (Int.toNat a) (Int.toNat b) == some .lt || Ieee.double.order (Int.toNat a) (Int.toNat b) == some .eq)) then true else (!(Ieee.double.order (Int.toNat (addBI a c)) (Int.toNat (addBI b c)) == some .gt))) == true) && ((!(Ieee.double.order (Int.toNat a) (Int.toNat b) == some .gt || Ieee.double.order (Int.toNat a) (Int.toNat b) == some .eq)) == false))))) then
                                            bif (((!(bif (!(Ieee.double.order (Int.toNat a) (Int.toNat b) == some .lt || Ieee.double.order (Int.toNat a) (Int.toNat b) == some .eq)) then true else (!(Ieee.double.order (Int.toNat (addBI a c)) (Int.toNat (addBI b c)) == some .gt)))) || ((bif (!(Ieee.double.order (Int.toNat a) (Int.toNat b) == some .lt || Ieee.double.order (Int.toNat a) (Int.toNat b) == some .eq)) then true else (!(Ieee.double.order (Int.toNat (addBI a c)) (Int.toNat (addBI b c)) == some .gt))) == true)) && true) then
                                              bif ((!((bif (bif (!(Ieee.double.order (Int.toNat a) (Int.toNat b) == some .lt || Ieee.double.order (Int.toNat a) (Int.toNat b) == some .eq)) then true else (!(Ieee.double.order (Int.toNat (addBI a c)) (Int.toNat (addBI b c)) == some .gt))) then (bif (!(Ieee.double.order (Int.toNat a) (Int.toNat b) == some .gt || Ieee.double.order (Int.toNat a) (Int.toNat b) == some .eq)) then true else (!(Ieee.double.order (Int.toNat (addBI a c)) (Int.toNat (addBI b c)) == some .lt))) else false) == true)) || true) then
                                                bif (((!(bif (bif (!(Ieee.double.order (Int.toNat a) (Int.toNat b) == some .lt || Ieee.double.order (Int.toNat a) (Int.toNat b) == some .eq)) then true else (!(Ieee.double.order (Int.toNat (addBI a c)) (Int.toNat (addBI b c)) == some .gt))) then (bif (!(Ieee.double.order (Int.toNat a) (Int.toNat b) == some .gt || Ieee.double.order (Int.toNat a) (Int.toNat b) == some .eq)) then true else (!(Ieee.double.order (Int.toNat (addBI a c)) (Int.toNat (addBI b c)) == some .lt))) else false)) || ((bif (bif (!(Ieee.double.order (Int.toNat a) (Int.toNat b) == some .lt || Ieee.double.order (Int.toNat a) (Int.toNat b) == some .eq)) then true else (!(Ieee.double.order (Int.toNat (addBI a c)) (Int.toNat (addBI b c)) == some .gt))) then (bif (!(Ieee.double.order (Int.toNat a) (Int.toNat b) == some .gt || Ieee.double.order (Int.toNat a) (Int.toNat b) == some .eq)) then true else (!(Ieee.double.order (Int.toNat (addBI a c)) (Int.toNat (addBI b c)) == some .lt))) else false) == true)) && true) then
                                                  some (.bool (bif (bif (bif (!(Ieee.double.order (Int.toNat a) (Int.toNat b) == some .lt || Ieee.double.order (Int.toNat a) (Int.toNat b) == some .eq)) then true else (!(Ieee.double.order (Int.toNat (addBI a c)) (Int.toNat (addBI b c)) == some .gt))) then (bif (!(Ieee.double.order (Int.toNat a) (Int.toNat b) == some .gt || Ieee.double.order (Int.toNat a) (Int.toNat b) == some .eq)) then true else (!(Ieee.double.order (Int.toNat (addBI a c)) (Int.toNat (addBI b c)) == some .lt))) else false) then true else false))
                                                else none
                                              else none
                                            else none
                                          else none
                                        else none
                                      else none
                                    else none
                                  else none
                                else none
                              else none
                            else none
                          else none
                        else none
                      else none
                    else none
                  else none
                else none
              else none
            else none
          else none
        else none
      else none
    else none
  else none) (by kernel_rfl)
  (ifE (ifE (ifE (ifE (ifE (ifE (ifT (tt19 _) (ifT (tt19 _) (ifT (tt18 _) (ifT (tt17 _) (ifT (tt16 _) (ifT (tt15 _ _) (ifT (tt15 _ _) (ifT (tt14 _ _) (ifT (tt13 _ _) (ifT (tt13 _ _) (ifT (tt12 _ _ _) (ifT (tt12 _ _ _) (ifT (tt11 _ _ _) (ifT (tt10 _ _ _) (ifT (tt9 _ _ _) (ifT (tt8 _ _) (ifT (tt7 _ _ _ _) (ifT (tt6 _ _ _ _) rfl)))))))))))))))))) rfl) rfl) rfl) rfl) rfl) rfl)
theorem law05.SumRises.known_of (hk : Knowns Try.prog law05.SumRises.tab) (h : ∀ (a : Int) (b : Int) (c : Int), law05.SumRises.pre [.i a, .i b, .i c] = true → ∃ N dv drops, funD law05.SumRises.E N Try.f7 (bodyOf Try.f7) [.int .u64 a, .int .u64 b, .int .u64 c] = some dv ∧ Wk drops dv (law05.SumRises.out [.i a, .i b, .i c])) : Known Try.prog 7 law05.SumRises.spec := by
  refine ⟨meets_entry (E := law05.SumRises.E) (env_ok hk _ _ _) Try.func7 (show Try.f7.body = some (bodyOf Try.f7) by kernel_rfl) fun ats dvs he hp => ?_, call_enter Try.func7 (by kernel_rfl) (show Try.f7.body = some (bodyOf Try.f7) by kernel_rfl)⟩
  obtain ⟨a, _, _, rfl, rfl, he0⟩ := he.i_inv
  obtain ⟨b, _, _, rfl, rfl, he1⟩ := he0.i_inv
  obtain ⟨c, _, _, rfl, rfl, he2⟩ := he1.i_inv
  obtain ⟨rfl, rfl⟩ := he2.nil_inv
  exact h a b c hp
end EqLaw05F
end Go.Proofs.S1

/- Chapter 05's laws of Go's own float64: what they answer. -/
namespace Go.Proofs.S1
open Go Go.Den Go.Rnd Go.Proofs
open EqLaw05F

theorem law05.float.known : Known Try.prog 29 law05.float.spec := law05.float.known_of .nil fun x hp => by
  obtain ⟨n, rfl, hn⟩ := inU64_nat (x := x) hp
  refine ⟨0, law05.float.out [.i n], [], ?_, .fl⟩
  rw [law05.float.ev, decide_eq_true (Int.natCast_nonneg n)]
  rfl

theorem nanBits_kind : kindN nanBits = 4 := by decide +kernel
theorem nanBits_lt : nanBits < 2 ^ 64 := by decide +kernel
theorem subN_fst (a b : Int) : subBI a b = ((subN a.toNat b.toNat).1 : Nat) := rfl

theorem law05.SumFloats.known : Known Try.prog 8 law05.SumFloats.spec := law05.SumFloats.known_of (.cons sum.Add.known (.cons law05.awake.known (.cons sum.Sub.known (.cons law05.float.known (.cons ref05.Canon.nb_known .nil))))) fun a b hp => by
  obtain ⟨ha, hb⟩ := and_true_iff.1 hp
  obtain ⟨a, rfl, hn⟩ := inU64_nat ha
  obtain ⟨b, rfl, hm⟩ := inU64_nat hb
  refine ⟨0, law05.SumFloats.out [.i a, .i b], [], ?_, .bool⟩
  have e1 : addBI (a : Int) (b : Int) = canonNI ((Ieee.double.add a b).getD nanBits) := by
    unfold addBI canonNI
    rw [Int.toNat_natCast, Int.toNat_natCast, add_ieee hn hm nanBits_kind]
  have e2 : subBI (a : Int) (b : Int) = canonNI ((Ieee.double.sub a b).getD nanBits) := by
    unfold subBI canonNI
    rw [Int.toNat_natCast, Int.toNat_natCast, sub_ieee hn hm nanBits_kind]
  rw [law05.SumFloats.ev, ha, hb, Int.toNat_natCast, Int.toNat_natCast, e1, e2]
  simp only [BEq.rfl, cond_true, Bool.and_self]
  rfl

end Go.Proofs.S1
