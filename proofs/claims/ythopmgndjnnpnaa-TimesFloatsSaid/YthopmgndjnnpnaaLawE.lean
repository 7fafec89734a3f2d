/- LawE of the verified evaluator and its use for this seat (of my texts S1EqLaw05, S1PLaw05). -/
import Derived.Test.YthopmgndjnnpnaaSpe
import Derived.Test.YthopmgndjnnpnaaSum

/- The evaluator's equations: dioptralaw05.awake, dioptralaw05.SumOrder, dioptralaw05.SumAdds, dioptralaw05.SumSubs, dioptralaw05.SumAlls. Printed by denpy.py. -/
namespace Go.Proofs.S1
open Go Go.Den Go.Rnd Go.Proofs
set_option linter.unusedVariables false
set_option maxRecDepth 100000
namespace EqLaw05
theorem tt0 (a b c : Bool) : (((!(bif (bif a then b else false) then c else false)) || ((bif (bif a then b else false) then c else false) == true)) && true) = true := by cases a <;> cases b <;> cases c <;> rfl
theorem tt1 (a b c : Bool) : ((!((bif (bif a then b else false) then c else false) == true)) || ((((!((bif (bif a then b else false) then c else false) == true)) || ((bif (bif a then b else false) then c else false) == true)) && true) && true)) = true := by cases a <;> cases b <;> cases c <;> rfl
theorem tt2 (a b c : Bool) : ((!((bif (bif a then b else false) then c else false) == true)) || true) = true := by cases a <;> cases b <;> cases c <;> rfl
theorem tt3 (a b : Bool) : (((!(bif a then b else false)) || ((bif a then b else false) == true)) && true) = true := by cases a <;> cases b <;> rfl
theorem tt4 (a b : Bool) : ((!((bif a then b else false) == true)) || ((((!((bif a then b else false) == true)) || ((bif a then b else false) == true)) && true) && true)) = true := by cases a <;> cases b <;> rfl
theorem tt5 (a b : Bool) : ((!((bif a then b else false) == true)) || true) = true := by cases a <;> cases b <;> rfl
theorem tt6 (a : Bool) : (((!a) || (a == true)) && true) = true := by cases a <;> rfl
theorem tt7 (a : Bool) : ((!(a == true)) || ((((!(a == true)) || (a == true)) && true) && true)) = true := by cases a <;> rfl
theorem tt8 (a : Bool) : ((!(a == true)) || true) = true := by cases a <;> rfl
theorem tt9 (a : Bool) : ((!(a == true)) || ((((!(a == true)) || (a == true)) && (((!(a == true)) || (a == true)) && true)) && true)) = true := by cases a <;> rfl
noncomputable def law05.awake.tab : List (Nat × Entry) := [(16, sum.Add.spec), (19, sum.Sub.spec)]
noncomputable def law05.awake.E : Env := envOf (tabOf law05.awake.tab) (fun _ => false) (fun _ => none) (fun _ => none)
theorem law05.awake.ev (N : Nat) : funD law05.awake.E N Try.f18 (bodyOf Try.f18) [] =
  bif (inU64 (4607182418800017408 : Int) && inU64 (4607182418800017408 : Int)) then
    bif (inU64 (9218868437227405312 : Int) && inU64 (9218868437227405312 : Int)) then
      some (.bool (bif (bif (bif ((addBI (4607182418800017408 : Int) (4607182418800017408 : Int)) == (4611686018427387904 : Int)) then ((addFI (4607182418800017408 : Int) (4607182418800017408 : Int)) == (0 : Int)) else false) then ((subBI (9218868437227405312 : Int) (9218868437227405312 : Int)) == (9221120237041090560 : Int)) else false) then ((subFI (9218868437227405312 : Int) (9218868437227405312 : Int)) == (16 : Int)) else false))
    else none
  else none :=
  Eq.trans (b := bif (inU64 (4607182418800017408 : Int) && inU64 (4607182418800017408 : Int)) then
    bif (inU64 (9218868437227405312 : Int) && inU64 (9218868437227405312 : Int)) then
      bif ((!(((addBI (4607182418800017408 : Int) (4607182418800017408 : Int)) == (4611686018427387904 : Int)) == true)) || true) then
        bif ((!(((addBI (4607182418800017408 : Int) (4607182418800017408 : Int)) == (4611686018427387904 : Int)) == true)) || ((((!(((addBI (4607182418800017408 : Int) (4607182418800017408 : Int)) == (4611686018427387904 : Int)) == true)) || (((addBI (4607182418800017408 : Int) (4607182418800017408 : Int)) == (4611686018427387904 : Int)) == true)) && true) && true)) then
          bif (((!((addBI (4607182418800017408 : Int) (4607182418800017408 : Int)) == (4611686018427387904 : Int))) || (((addBI (4607182418800017408 : Int) (4607182418800017408 : Int)) == (4611686018427387904 : Int)) == true)) && true) then
            bif ((!((bif ((addBI (4607182418800017408 : Int) (4607182418800017408 : Int)) == (4611686018427387904 : Int)) then ((addFI (4607182418800017408 : Int) (4607182418800017408 : Int)) == (0 : Int)) else false) == true)) || true) then
              bif ((!((bif ((addBI (4607182418800017408 : Int) (4607182418800017408 : Int)) == (4611686018427387904 : Int)) then ((addFI (4607182418800017408 : Int) (4607182418800017408 : Int)) == (0 : Int)) else false) == true)) || ((((!((bif ((addBI (4607182418800017408 : Int) (4607182418800017408 : Int)) == (4611686018427387904 : Int)) then ((addFI (4607182418800017408 : Int) (4607182418800017408 : Int)) == (0 : Int)) else false) == true)) || ((bif ((addBI (4607182418800017408 : Int) (4607182418800017408 : Int)) == (4611686018427387904 : Int)) then ((addFI (4607182418800017408 : Int) (4607182418800017408 : Int)) == (0 : Int)) else false) == true)) && true) && true)) then
                bif (((!(bif ((addBI (4607182418800017408 : Int) (4607182418800017408 : Int)) == (4611686018427387904 : Int)) then ((addFI (4607182418800017408 : Int) (4607182418800017408 : Int)) == (0 : Int)) else false)) || ((bif ((addBI (4607182418800017408 : Int) (4607182418800017408 : Int)) == (4611686018427387904 : Int)) then ((addFI (4607182418800017408 : Int) (4607182418800017408 : Int)) == (0 : Int)) else false) == true)) && true) then
                  bif ((!((bif (bif ((addBI (4607182418800017408 : Int) (4607182418800017408 : Int)) == (4611686018427387904 : Int)) then ((addFI (4607182418800017408 : Int) (4607182418800017408 : Int)) == (0 : Int)) else false) then ((subBI (9218868437227405312 : Int) (9218868437227405312 : Int)) == (9221120237041090560 : Int)) else false) == true)) || true) then
                    bif ((!((bif (bif ((addBI (4607182418800017408 : Int) (4607182418800017408 : Int)) == (4611686018427387904 : Int)) then ((addFI (4607182418800017408 : Int) (4607182418800017408 : Int)) == (0 : Int)) else false) then ((subBI (9218868437227405312 : Int) (9218868437227405312 : Int)) == (9221120237041090560 : Int)) else false) == true)) || ((((!((bif (bif ((addBI (4607182418800017408 : Int) (4607182418800017408 : Int)) == (4611686018427387904 : Int)) then ((addFI (4607182418800017408 : Int) (4607182418800017408 : Int)) == (0 : Int)) else false) then ((subBI (9218868437227405312 : Int) (9218868437227405312 : Int)) == (9221120237041090560 : Int)) else false) == true)) || ((bif (bif ((addBI (4607182418800017408 : Int) (4607182418800017408 : Int)) == (4611686018427387904 : Int)) then ((addFI (4607182418800017408 : Int) (4607182418800017408 : Int)) == (0 : Int)) else false) then ((subBI (9218868437227405312 : Int) (9218868437227405312 : Int)) == (9221120237041090560 : Int)) else false) == true)) && true) && true)) then
                      bif (((!(bif (bif ((addBI (4607182418800017408 : Int) (4607182418800017408 : Int)) == (4611686018427387904 : Int)) then ((addFI (4607182418800017408 : Int) (4607182418800017408 : Int)) == (0 : Int)) else false) then ((subBI (9218868437227405312 : Int) (9218868437227405312 : Int)) == (9221120237041090560 : Int)) else false)) || ((bif (bif ((addBI (4607182418800017408 : Int) (4607182418800017408 : Int)) == (4611686018427387904 : Int)) then ((addFI (4607182418800017408 : Int) (4607182418800017408 : Int)) == (0 : Int)) else false) then ((subBI (9218868437227405312 : Int) (9218868437227405312 : Int)) == (9221120237041090560 : Int)) else false) == true)) && true) then
                        some (.bool (bif (bif (bif ((addBI (4607182418800017408 : Int) (4607182418800017408 : Int)) == (4611686018427387904 : Int)) then ((addFI (4607182418800017408 : Int) (4607182418800017408 : Int)) == (0 : Int)) else false) then ((subBI (9218868437227405312 : Int) (9218868437227405312 : Int)) == (9221120237041090560 : Int)) else false) then ((subFI (9218868437227405312 : Int) (9218868437227405312 : Int)) == (16 : Int)) else false))
                      else none
                    else none
                  else none
                else none
              else none
            else none
          else none
        else none
      else none
    else none
  else none) (by kernel_rfl)
  (ifE (ifE (ifT (tt8 _) (ifT (tt7 _) (ifT (tt6 _) (ifT (tt5 _ _) (ifT (tt4 _ _) (ifT (tt3 _ _) (ifT (tt2 _ _ _) (ifT (tt1 _ _ _) (ifT (tt0 _ _ _) rfl))))))))) rfl) rfl)
theorem law05.awake.known_of (hk : Knowns Try.prog law05.awake.tab) (h : ∀ (_ : Unit), law05.awake.pre [] = true → ∃ N dv drops, funD law05.awake.E N Try.f18 (bodyOf Try.f18) [] = some dv ∧ Wk drops dv (law05.awake.out [])) : Known Try.prog 18 law05.awake.spec := by
  refine ⟨meets_entry (E := law05.awake.E) (env_ok hk _ _ _) Try.func18 (show Try.f18.body = some (bodyOf Try.f18) by kernel_rfl) fun ats dvs he hp => ?_, call_enter Try.func18 (by kernel_rfl) (show Try.f18.body = some (bodyOf Try.f18) by kernel_rfl)⟩
  obtain ⟨rfl, rfl⟩ := he.nil_inv
  exact h () hp

noncomputable def law05.SumOrder.tab : List (Nat × Entry) := [(16, sum.Add.spec), (18, law05.awake.spec)]
noncomputable def law05.SumOrder.E : Env := envOf (tabOf law05.SumOrder.tab) (fun _ => false) (fun _ => none) (fun _ => none)
theorem law05.SumOrder.ev (N : Nat) (a : Int) (b : Int) : funD law05.SumOrder.E N Try.f5 (bodyOf Try.f5) [.int .u64 a, .int .u64 b] =
  bif (inU64 a && inU64 b) then
    bif (inU64 b && inU64 a) then
      some (.bool (bif (bif ((addBI a b) == (addBI b a)) then ((addFI a b) == (addFI b a)) else false) then true else false))
    else none
  else none :=
  Eq.trans (b := bif (inU64 a && inU64 b) then
    bif (inU64 b && inU64 a) then
      bif ((!(((addBI a b) == (addBI b a)) == true)) || true) then
        bif ((!(((addBI a b) == (addBI b a)) == true)) || true) then
          bif ((!(((addBI a b) == (addBI b a)) == true)) || ((((!(((addBI a b) == (addBI b a)) == true)) || (((addBI a b) == (addBI b a)) == true)) && (((!(((addBI a b) == (addBI b a)) == true)) || (((addBI a b) == (addBI b a)) == true)) && true)) && true)) then
            bif (((!((addBI a b) == (addBI b a))) || (((addBI a b) == (addBI b a)) == true)) && true) then
              bif ((!((bif ((addBI a b) == (addBI b a)) then ((addFI a b) == (addFI b a)) else false) == true)) || true) then
                bif (((!(bif ((addBI a b) == (addBI b a)) then ((addFI a b) == (addFI b a)) else false)) || ((bif ((addBI a b) == (addBI b a)) then ((addFI a b) == (addFI b a)) else false) == true)) && true) then
                  some (.bool (bif (bif ((addBI a b) == (addBI b a)) then ((addFI a b) == (addFI b a)) else false) then true else false))
                else none
              else none
            else none
          else none
        else none
      else none
    else none
  else none) (by kernel_rfl)
  (ifE (ifE (ifT (tt8 _) (ifT (tt8 _) (ifT (tt9 _) (ifT (tt6 _) (ifT (tt5 _ _) (ifT (tt3 _ _) rfl)))))) rfl) rfl)
theorem law05.SumOrder.known_of (hk : Knowns Try.prog law05.SumOrder.tab) (h : ∀ (a : Int) (b : Int), law05.SumOrder.pre [.i a, .i b] = true → ∃ N dv drops, funD law05.SumOrder.E N Try.f5 (bodyOf Try.f5) [.int .u64 a, .int .u64 b] = some dv ∧ Wk drops dv (law05.SumOrder.out [.i a, .i b])) : Known Try.prog 5 law05.SumOrder.spec := by
  refine ⟨meets_entry (E := law05.SumOrder.E) (env_ok hk _ _ _) Try.func5 (show Try.f5.body = some (bodyOf Try.f5) by kernel_rfl) fun ats dvs he hp => ?_, call_enter Try.func5 (by kernel_rfl) (show Try.f5.body = some (bodyOf Try.f5) by kernel_rfl)⟩
  obtain ⟨a, _, _, rfl, rfl, he0⟩ := he.i_inv
  obtain ⟨b, _, _, rfl, rfl, he1⟩ := he0.i_inv
  obtain ⟨rfl, rfl⟩ := he1.nil_inv
  exact h a b hp

noncomputable def law05.SumAdds.tab : List (Nat × Entry) := [(16, sum.Add.spec), (17, ref05.Add.spec), (18, law05.awake.spec)]
noncomputable def law05.SumAdds.E : Env := envOf (tabOf law05.SumAdds.tab) (fun _ => false) (fun _ => none) (fun _ => none)
theorem law05.SumAdds.ev (N : Nat) (a : Int) (b : Int) : funD law05.SumAdds.E N Try.f3 (bodyOf Try.f3) [.int .u64 a, .int .u64 b] =
  bif (inU64 a && inU64 b) then
    bif (inU64 a && inU64 b) then
      some (.bool (bif (bif ((addBI a b) == (addBI a b)) then ((addFI a b) == (addFI a b)) else false) then true else false))
    else none
  else none :=
  Eq.trans (b := bif (inU64 a && inU64 b) then
    bif (inU64 a && inU64 b) then
      bif ((!(((addBI a b) == (addBI a b)) == true)) || true) then
        bif ((!(((addBI a b) == (addBI a b)) == true)) || true) then
          bif ((!(((addBI a b) == (addBI a b)) == true)) || ((((!(((addBI a b) == (addBI a b)) == true)) || (((addBI a b) == (addBI a b)) == true)) && (((!(((addBI a b) == (addBI a b)) == true)) || (((addBI a b) == (addBI a b)) == true)) && true)) && true)) then
            bif (((!((addBI a b) == (addBI a b))) || (((addBI a b) == (addBI a b)) == true)) && true) then
              bif ((!((bif ((addBI a b) == (addBI a b)) then ((addFI a b) == (addFI a b)) else false) == true)) || true) then
                bif (((!(bif ((addBI a b) == (addBI a b)) then ((addFI a b) == (addFI a b)) else false)) || ((bif ((addBI a b) == (addBI a b)) then ((addFI a b) == (addFI a b)) else false) == true)) && true) then
                  some (.bool (bif (bif ((addBI a b) == (addBI a b)) then ((addFI a b) == (addFI a b)) else false) then true else false))
                else none
              else none
            else none
          else none
        else none
      else none
    else none
  else none) (by kernel_rfl)
  (ifE (ifE (ifT (tt8 _) (ifT (tt8 _) (ifT (tt9 _) (ifT (tt6 _) (ifT (tt5 _ _) (ifT (tt3 _ _) rfl)))))) rfl) rfl)
theorem law05.SumAdds.known_of (hk : Knowns Try.prog law05.SumAdds.tab) (h : ∀ (a : Int) (b : Int), law05.SumAdds.pre [.i a, .i b] = true → ∃ N dv drops, funD law05.SumAdds.E N Try.f3 (bodyOf Try.f3) [.int .u64 a, .int .u64 b] = some dv ∧ Wk drops dv (law05.SumAdds.out [.i a, .i b])) : Known Try.prog 3 law05.SumAdds.spec := by
  refine ⟨meets_entry (E := law05.SumAdds.E) (env_ok hk _ _ _) Try.func3 (show Try.f3.body = some (bodyOf Try.f3) by kernel_rfl) fun ats dvs he hp => ?_, call_enter Try.func3 (by kernel_rfl) (show Try.f3.body = some (bodyOf Try.f3) by kernel_rfl)⟩
  obtain ⟨a, _, _, rfl, rfl, he0⟩ := he.i_inv
  obtain ⟨b, _, _, rfl, rfl, he1⟩ := he0.i_inv
  obtain ⟨rfl, rfl⟩ := he1.nil_inv
  exact h a b hp

noncomputable def law05.SumSubs.tab : List (Nat × Entry) := [(18, law05.awake.spec), (19, sum.Sub.spec), (20, ref05.Sub.spec)]
noncomputable def law05.SumSubs.E : Env := envOf (tabOf law05.SumSubs.tab) (fun _ => false) (fun _ => none) (fun _ => none)
theorem law05.SumSubs.ev (N : Nat) (a : Int) (b : Int) : funD law05.SumSubs.E N Try.f4 (bodyOf Try.f4) [.int .u64 a, .int .u64 b] =
  bif (inU64 a && inU64 b) then
    bif (inU64 a && inU64 b) then
      some (.bool (bif (bif ((subBI a b) == (subBI a b)) then ((subFI a b) == (subFI a b)) else false) then true else false))
    else none
  else none :=
  Eq.trans (b := bif (inU64 a && inU64 b) then
    bif (inU64 a && inU64 b) then
      bif ((!(((subBI a b) == (subBI a b)) == true)) || true) then
        bif ((!(((subBI a b) == (subBI a b)) == true)) || true) then
          bif ((!(((subBI a b) == (subBI a b)) == true)) || ((((!(((subBI a b) == (subBI a b)) == true)) || (((subBI a b) == (subBI a b)) == true)) && (((!(((subBI a b) == (subBI a b)) == true)) || (((subBI a b) == (subBI a b)) == true)) && true)) && true)) then
            bif (((!((subBI a b) == (subBI a b))) || (((subBI a b) == (subBI a b)) == true)) && true) then
              bif ((!((bif ((subBI a b) == (subBI a b)) then ((subFI a b) == (subFI a b)) else false) == true)) || true) then
                bif (((!(bif ((subBI a b) == (subBI a b)) then ((subFI a b) == (subFI a b)) else false)) || ((bif ((subBI a b) == (subBI a b)) then ((subFI a b) == (subFI a b)) else false) == true)) && true) then
                  some (.bool (bif (bif ((subBI a b) == (subBI a b)) then ((subFI a b) == (subFI a b)) else false) then true else false))
                else none
              else none
            else none
          else none
        else none
      else none
    else none
  else none) (by kernel_rfl)
  (ifE (ifE (ifT (tt8 _) (ifT (tt8 _) (ifT (tt9 _) (ifT (tt6 _) (ifT (tt5 _ _) (ifT (tt3 _ _) rfl)))))) rfl) rfl)
theorem law05.SumSubs.known_of (hk : Knowns Try.prog law05.SumSubs.tab) (h : ∀ (a : Int) (b : Int), law05.SumSubs.pre [.i a, .i b] = true → ∃ N dv drops, funD law05.SumSubs.E N Try.f4 (bodyOf Try.f4) [.int .u64 a, .int .u64 b] = some dv ∧ Wk drops dv (law05.SumSubs.out [.i a, .i b])) : Known Try.prog 4 law05.SumSubs.spec := by
  refine ⟨meets_entry (E := law05.SumSubs.E) (env_ok hk _ _ _) Try.func4 (show Try.f4.body = some (bodyOf Try.f4) by kernel_rfl) fun ats dvs he hp => ?_, call_enter Try.func4 (by kernel_rfl) (show Try.f4.body = some (bodyOf Try.f4) by kernel_rfl)⟩
  obtain ⟨a, _, _, rfl, rfl, he0⟩ := he.i_inv
  obtain ⟨b, _, _, rfl, rfl, he1⟩ := he0.i_inv
  obtain ⟨rfl, rfl⟩ := he1.nil_inv
  exact h a b hp

noncomputable def law05.SumAlls.tab : List (Nat × Entry) := [(18, law05.awake.spec), (32, sum.All.spec), (33, ref05.All.spec)]
noncomputable def law05.SumAlls.E : Env := envOf (tabOf law05.SumAlls.tab) (fun _ => false) (fun _ => none) (fun _ => none)
theorem law05.SumAlls.ev (N : Nat) (l : List Int) : funD law05.SumAlls.E N Try.f9 (bodyOf Try.f9) [.ints .arg .u64 l] =
  bif (ltI (60 : Int) (List.length l : Int)) then
    some (.bool true)
  else bif (okU64 l) then
    bif (okU64 l) then
      some (.bool (bif (bif ((allBI l) == (allBI l)) then ((allFI l) == (allFI l)) else false) then true else false))
    else none
  else none :=
  Eq.trans (b := bif (ltI (60 : Int) (List.length l : Int)) then
    some (.bool true)
  else bif (okU64 l) then
    bif (okU64 l) then
      bif ((!(((allBI l) == (allBI l)) == true)) || true) then
        bif ((!(((allBI l) == (allBI l)) == true)) || true) then
          bif ((!(((allBI l) == (allBI l)) == true)) || ((((!(((allBI l) == (allBI l)) == true)) || (((allBI l) == (allBI l)) == true)) && (((!(((allBI l) == (allBI l)) == true)) || (((allBI l) == (allBI l)) == true)) && true)) && true)) then
            bif (((!((allBI l) == (allBI l))) || (((allBI l) == (allBI l)) == true)) && true) then
              bif ((!((bif ((allBI l) == (allBI l)) then ((allFI l) == (allFI l)) else false) == true)) || true) then
                bif (((!(bif ((allBI l) == (allBI l)) then ((allFI l) == (allFI l)) else false)) || ((bif ((allBI l) == (allBI l)) then ((allFI l) == (allFI l)) else false) == true)) && true) then
                  some (.bool (bif (bif ((allBI l) == (allBI l)) then ((allFI l) == (allFI l)) else false) then true else false))
                else none
              else none
            else none
          else none
        else none
      else none
    else none
  else none) (by kernel_rfl)
  (ifE rfl (ifE (ifE (ifT (tt8 _) (ifT (tt8 _) (ifT (tt9 _) (ifT (tt6 _) (ifT (tt5 _ _) (ifT (tt3 _ _) rfl)))))) rfl) rfl))
theorem law05.SumAlls.known_of (hk : Knowns Try.prog law05.SumAlls.tab) (h : ∀ (l : List Int), law05.SumAlls.pre [.l l] = true → ∃ N dv drops, funD law05.SumAlls.E N Try.f9 (bodyOf Try.f9) [.ints .arg .u64 l] = some dv ∧ Wk drops dv (law05.SumAlls.out [.l l])) : Known Try.prog 9 law05.SumAlls.spec := by
  refine ⟨meets_entry (E := law05.SumAlls.E) (env_ok hk _ _ _) Try.func9 (show Try.f9.body = some (bodyOf Try.f9) by kernel_rfl) fun ats dvs he hp => ?_, call_enter Try.func9 (by kernel_rfl) (show Try.f9.body = some (bodyOf Try.f9) by kernel_rfl)⟩
  obtain ⟨l, _, _, rfl, rfl, he0⟩ := he.s_inv
  obtain ⟨rfl, rfl⟩ := he0.nil_inv
  exact h l hp
end EqLaw05
end Go.Proofs.S1

/- Chapter 05's laws: what they answer. -/
namespace Go.Proofs.S1
open Go Go.Den Go.Rnd Go.Proofs
open EqLaw05

theorem awake_sum : addN 4607182418800017408 4607182418800017408 = (4611686018427387904, 0) := by decide +kernel
theorem awake_sub : subN 9218868437227405312 9218868437227405312 = (9221120237041090560, 16) := by decide +kernel

theorem law05.awake.known : Known Try.prog 18 law05.awake.spec := law05.awake.known_of (.cons sum.Add.known (.cons sum.Sub.known .nil)) fun _ _ => by
  refine ⟨0, law05.awake.out [], [], ?_, .bool⟩
  have i1 : inU64 (4607182418800017408 : Int) = true := inU64_of (n := 4607182418800017408) (by decide)
  have i2 : inU64 (9218868437227405312 : Int) = true := inU64_of (n := 9218868437227405312) (by decide)
  have e1 : addBI (4607182418800017408 : Int) (4607182418800017408 : Int) = (4611686018427387904 : Int) := by
    unfold addBI
    rw [show (4607182418800017408 : Int).toNat = 4607182418800017408 from rfl, awake_sum]; rfl
  have e2 : addFI (4607182418800017408 : Int) (4607182418800017408 : Int) = (0 : Int) := by
    unfold addFI
    rw [show (4607182418800017408 : Int).toNat = 4607182418800017408 from rfl, awake_sum]; rfl
  have e3 : subBI (9218868437227405312 : Int) (9218868437227405312 : Int) = (9221120237041090560 : Int) := by
    unfold subBI
    rw [show (9218868437227405312 : Int).toNat = 9218868437227405312 from rfl, awake_sub]; rfl
  have e4 : subFI (9218868437227405312 : Int) (9218868437227405312 : Int) = (16 : Int) := by
    unfold subFI
    rw [show (9218868437227405312 : Int).toNat = 9218868437227405312 from rfl, awake_sub]; rfl
  rw [law05.awake.ev, i1, i2, e1, e2, e3, e4]
  rfl

theorem law05.SumOrder.known : Known Try.prog 5 law05.SumOrder.spec := law05.SumOrder.known_of (.cons sum.Add.known (.cons law05.awake.known .nil)) fun a b hp => by
  obtain ⟨ha, hb⟩ := and_true_iff.1 hp
  refine ⟨0, law05.SumOrder.out [.i a, .i b], [], ?_, .bool⟩
  rw [law05.SumOrder.ev, ha, hb]
  unfold addBI addFI
  rw [addN_comm a.toNat b.toNat]
  simp only [BEq.rfl, cond_true, Bool.and_self]
  rfl

end Go.Proofs.S1
