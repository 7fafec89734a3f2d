/- LawN of the verified evaluator and its use for this seat (of my texts S1EqLaw06M, S1PLaw06M). -/
import Derived.Test.YthopmgndjnnpnaaSpe
import Derived.Test.YthopmgndjnnpnaaLawM
import Derived.Test.YthopmgndjnnpnaaRef6

/- The evaluator's equations: dioptralaw06.TimesDivs, dioptralaw06.TimesMuls. Printed by denpy.py. -/
namespace Go.Proofs.S1
open Go Go.Den Go.Rnd Go.Proofs
set_option linter.unusedVariables false
set_option maxRecDepth 100000
namespace EqLaw06M
theorem tt0 (a b : Bool) : (((!(bif a then b else false)) || ((bif a then b else false) == true)) && true) = true := by cases a <;> cases b <;> rfl
theorem tt1 (a b : Bool) : ((!((bif a then b else false) == true)) || true) = true := by cases a <;> cases b <;> rfl
theorem tt2 (a : Bool) : (((!a) || (a == true)) && true) = true := by cases a <;> rfl
theorem tt3 (a : Bool) : ((!(a == true)) || ((((!(a == true)) || (a == true)) && (((!(a == true)) || (a == true)) && true)) && true)) = true := by cases a <;> rfl
theorem tt4 (a : Bool) : ((!(a == true)) || true) = true := by cases a <;> rfl
theorem tt5 (a b c d : Bool) : (((!(bif (bif (bif a then b else false) then c else false) then d else false)) || ((bif (bif (bif a then b else false) then c else false) then d else false) == true)) && true) = true := by cases a <;> cases b <;> cases c <;> cases d <;> rfl
theorem tt6 (a b c d : Bool) : ((!((bif (bif (bif a then b else false) then c else false) then d else false) == true)) || true) = true := by cases a <;> cases b <;> cases c <;> cases d <;> rfl
theorem tt7 (a b c : Bool) : (((!(bif (bif a then b else false) then c else false)) || ((bif (bif a then b else false) then c else false) == true)) && true) = true := by cases a <;> cases b <;> cases c <;> rfl
theorem tt8 (a b c : Bool) : ((!((bif (bif a then b else false) then c else false) == true)) || ((((!((bif (bif a then b else false) then c else false) == true)) || ((bif (bif a then b else false) then c else false) == true)) && (((!((bif (bif a then b else false) then c else false) == true)) || ((bif (bif a then b else false) then c else false) == true)) && true)) && true)) = true := by cases a <;> cases b <;> cases c <;> rfl
theorem tt9 (a b c : Bool) : ((!((bif (bif a then b else false) then c else false) == true)) || true) = true := by cases a <;> cases b <;> cases c <;> rfl
theorem tt10 (a b : Bool) : ((!((bif a then b else false) == true)) || ((((!((bif a then b else false) == true)) || ((bif a then b else false) == true)) && (((!((bif a then b else false) == true)) || ((bif a then b else false) == true)) && true)) && true)) = true := by cases a <;> cases b <;> rfl
noncomputable def law06.TimesDivs.tab : List (Nat × Entry) := [(34, times.Div.spec), (35, ref06.Div.spec), (36, law06.awake.spec)]
noncomputable def law06.TimesDivs.E : Env := envOf (tabOf law06.TimesDivs.tab) (fun _ => false) (fun _ => none) (fun _ => none)
theorem law06.TimesDivs.ev (N : Nat) (a : Int) (b : Int) : funD law06.TimesDivs.E N Try.f10 (bodyOf Try.f10) [.int .u64 a, .int .u64 b] =
  bif (inU64 a && inU64 b) then
    bif (inU64 a && inU64 b) then
      some (.bool (bif (bif ((divBI a b) == (divBI a b)) then ((divFI a b) == (divFI a b)) else false) then true else false))
    else none
  else none :=
  Eq.trans (b := bif (inU64 a && inU64 b) then
    bif (inU64 a && inU64 b) then
      bif ((!(((divBI a b) == (divBI a b)) == true)) || true) then
        bif ((!(((divBI a b) == (divBI a b)) == true)) || true) then
          bif ((!(((divBI a b) == (divBI a b)) == true)) || ((((!(((divBI a b) == (divBI a b)) == true)) || (((divBI a b) == (divBI a b)) == true)) && (((!(((divBI a b) == (divBI a b)) == true)) || (((divBI a b) == (divBI a b)) == true)) && true)) && true)) then
            bif (((!((divBI a b) == (divBI a b))) || (((divBI a b) == (divBI a b)) == true)) && true) then
              bif ((!((bif ((divBI a b) == (divBI a b)) then ((divFI a b) == (divFI a b)) else false) == true)) || true) then
                bif (((!(bif ((divBI a b) == (divBI a b)) then ((divFI a b) == (divFI a b)) else false)) || ((bif ((divBI a b) == (divBI a b)) then ((divFI a b) == (divFI a b)) else false) == true)) && true) then
                  some (.bool (bif (bif ((divBI a b) == (divBI a b)) then ((divFI a b) == (divFI a b)) else false) then true else false))
                else none
              else none
            else none
          else none
        else none
      else none
    else none
  else none) (by kernel_rfl)
  (ifE (ifE (ifT (tt4 _) (ifT (tt4 _) (ifT (tt3 _) (ifT (tt2 _) (ifT (tt1 _ _) (ifT (tt0 _ _) rfl)))))) rfl) rfl)
theorem law06.TimesDivs.known_of (hk : Knowns Try.prog law06.TimesDivs.tab) (h : ∀ (a : Int) (b : Int), law06.TimesDivs.pre [.i a, .i b] = true → ∃ N dv drops, funD law06.TimesDivs.E N Try.f10 (bodyOf Try.f10) [.int .u64 a, .int .u64 b] = some dv ∧ Wk drops dv (law06.TimesDivs.out [.i a, .i b])) : Known Try.prog 10 law06.TimesDivs.spec := by
  refine ⟨meets_entry (E := law06.TimesDivs.E) (env_ok hk _ _ _) Try.func10 (show Try.f10.body = some (bodyOf Try.f10) by kernel_rfl) fun ats dvs he hp => ?_, call_enter Try.func10 (by kernel_rfl) (show Try.f10.body = some (bodyOf Try.f10) by kernel_rfl)⟩
  obtain ⟨a, _, _, rfl, rfl, he0⟩ := he.i_inv
  obtain ⟨b, _, _, rfl, rfl, he1⟩ := he0.i_inv
  obtain ⟨rfl, rfl⟩ := he1.nil_inv
  exact h a b hp

noncomputable def law06.TimesMuls.tab : List (Nat × Entry) := [(36, law06.awake.spec), (37, times.Mul.spec), (42, ref06.Mul.spec), (43, times.Square.spec)]
noncomputable def law06.TimesMuls.E : Env := envOf (tabOf law06.TimesMuls.tab) (fun _ => false) (fun _ => none) (fun _ => none)
theorem law06.TimesMuls.ev (N : Nat) (a : Int) (b : Int) : funD law06.TimesMuls.E N Try.f14 (bodyOf Try.f14) [.int .u64 a, .int .u64 b] =
  bif (inU64 a && inU64 b) then
    bif (inU64 a && inU64 b) then
      bif (inU64 a) then
        bif (inU64 a && inU64 a) then
          some (.bool (bif (bif (bif (bif ((mulBI a b) == (mulBI a b)) then ((mulFI a b) == (mulFI a b)) else false) then ((mulBI a a) == (mulBI a a)) else false) then ((mulFI a a) == (mulFI a a)) else false) then true else false))
        else none
      else none
    else none
  else none :=
  Eq.trans (b := bif (inU64 a && inU64 b) then
    bif (inU64 a && inU64 b) then
      bif (inU64 a) then
        bif (inU64 a && inU64 a) then
          bif ((!(((mulBI a b) == (mulBI a b)) == true)) || true) then
            bif ((!(((mulBI a b) == (mulBI a b)) == true)) || true) then
              bif ((!(((mulBI a b) == (mulBI a b)) == true)) || ((((!(((mulBI a b) == (mulBI a b)) == true)) || (((mulBI a b) == (mulBI a b)) == true)) && (((!(((mulBI a b) == (mulBI a b)) == true)) || (((mulBI a b) == (mulBI a b)) == true)) && true)) && true)) then
                bif (((!((mulBI a b) == (mulBI a b))) || (((mulBI a b) == (mulBI a b)) == true)) && true) then
                  bif ((!((bif ((mulBI a b) == (mulBI a b)) then ((mulFI a b) == (mulFI a b)) else false) == true)) || true) then
                    bif ((!((bif ((mulBI a b) == (mulBI a b)) then ((mulFI a b) == (mulFI a b)) else false) == true)) || true) then
                      bif ((!((bif ((mulBI a b) == (mulBI a b)) then ((mulFI a b) == (mulFI a b)) else false) == true)) || ((((!((bif ((mulBI a b) == (mulBI a b)) then ((mulFI a b) == (mulFI a b)) else false) == true)) || ((bif ((mulBI a b) == (mulBI a b)) then ((mulFI a b) == (mulFI a b)) else false) == true)) && (((!((bif ((mulBI a b) == (mulBI a b)) then ((mulFI a b) == (mulFI a b)) else false) == true)) || ((bif ((mulBI a b) == (mulBI a b)) then ((mulFI a b) == (mulFI a b)) else false) == true)) && true)) && true)) then
                        bif (((!(bif ((mulBI a b) == (mulBI a b)) then ((mulFI a b) == (mulFI a b)) else false)) || ((bif ((mulBI a b) == (mulBI a b)) then ((mulFI a b) == (mulFI a b)) else false) == true)) && true) then
                          bif ((!((bif (bif ((mulBI a b) == (mulBI a b)) then ((mulFI a b) == (mulFI a b)) else false) then ((mulBI a a) == (mulBI a a)) else false) == true)) || true) then
                            bif ((!((bif (bif ((mulBI a b) == (mulBI a b)) then ((mulFI a b) == (mulFI a b)) else false) then ((mulBI a a) == (mulBI a a)) else false) == true)) || true) then
                              bif ((!((bif (bif ((mulBI a b) == (mulBI a b)) then ((mulFI a b) == (mulFI a b)) else false) then ((mulBI a a) == (mulBI a a)) else false) == true)) || ((((!((bif (bif ((mulBI a b) == (mulBI a b)) then ((mulFI a b) == (mulFI a b)) else false) then ((mulBI a a) == (mulBI a a)) else false) == true)) || ((bif (bif ((mulBI a b) == (mulBI a b)) then ((mulFI a b) == (mulFI a b)) else false) then ((mulBI a a) == (mulBI a a)) else false) == true)) && (((!((bif (bif ((mulBI a b) == (mulBI a b)) then ((mulFI a b) == (mulFI a b)) else false) then ((mulBI a a) == (mulBI a a)) else false) == true)) || ((bif (bif ((mulBI a b) == (mulBI a b)) then ((mulFI a b) == (mulFI a b)) else false) then ((mulBI a a) == (mulBI a a)) else false) == true)) && true)) && true)) then
                                bif (((!(bif (bif ((mulBI a b) == (mulBI a b)) then ((mulFI a b) == (mulFI a b)) else false) then ((mulBI a a) == (mulBI a a)) else false)) || ((bif (bif ((mulBI a b) == (mulBI a b)) then ((mulFI a b) == (mulFI a b)) else false) then ((mulBI a a) == (mulBI a a)) else false) == true)) && true) then
                                  bif ((!((bif (bif (bif ((mulBI a b) == (mulBI a b)) then ((mulFI a b) == (mulFI a b)) else false) then ((mulBI a a) == (mulBI a a)) else false) then ((mulFI a a) == (mulFI a a)) else false) == true)) || true) then
                                    bif (((!(bif (bif (bif ((mulBI a b) == (mulBI a b)) then ((mulFI a b) == (mulFI a b)) else false) then ((mulBI a a) == (mulBI a a)) else false) then ((mulFI a a) == (mulFI a a)) else false)) || ((bif (bif (bif ((mulBI a b) == (mulBI a b)) then ((mulFI a b) == (mulFI a b)) else false) then ((mulBI a a) == (mulBI a a)) else false) then ((mulFI a a) == (mulFI a a)) else false) == true)) && true) then
                                      some (.bool (bif (bif (bif (bif ((mulBI a b) == (mulBI a b)) then ((mulFI a b) == (mulFI a b)) else false) then ((mulBI a a) == (mulBI a a)) else false) then ((mulFI a a) == (mulFI a a)) else false) then true else false))
                                    else none
                                  else none
                                else none
                              else none
                            else none
                          else none
                        else none
                      else none
                    else none
                  else none
                else none
              else none
            else none
          else none
        else none
      else none
    else none
  else none) (by kernel_rfl)
  (ifE (ifE (ifE (ifE (ifT (tt4 _) (ifT (tt4 _) (ifT (tt3 _) (ifT (tt2 _) (ifT (tt1 _ _) (ifT (tt1 _ _) (ifT (tt10 _ _) (ifT (tt0 _ _) (ifT (tt9 _ _ _) (ifT (tt9 _ _ _) (ifT (tt8 _ _ _) (ifT (tt7 _ _ _) (ifT (tt6 _ _ _ _) (ifT (tt5 _ _ _ _) rfl)))))))))))))) rfl) rfl) rfl) rfl)
theorem law06.TimesMuls.known_of (hk : Knowns Try.prog law06.TimesMuls.tab) (h : ∀ (a : Int) (b : Int), law06.TimesMuls.pre [.i a, .i b] = true → ∃ N dv drops, funD law06.TimesMuls.E N Try.f14 (bodyOf Try.f14) [.int .u64 a, .int .u64 b] = some dv ∧ Wk drops dv (law06.TimesMuls.out [.i a, .i b])) : Known Try.prog 14 law06.TimesMuls.spec := by
  refine ⟨meets_entry (E := law06.TimesMuls.E) (env_ok hk _ _ _) Try.func14 (show Try.f14.body = some (bodyOf Try.f14) by kernel_rfl) fun ats dvs he hp => ?_, call_enter Try.func14 (by kernel_rfl) (show Try.f14.body = some (bodyOf Try.f14) by kernel_rfl)⟩
  obtain ⟨a, _, _, rfl, rfl, he0⟩ := he.i_inv
  obtain ⟨b, _, _, rfl, rfl, he1⟩ := he0.i_inv
  obtain ⟨rfl, rfl⟩ := he1.nil_inv
  exact h a b hp
end EqLaw06M
end Go.Proofs.S1

/- TimesMuls: the program's products are the document's. -/
namespace Go.Proofs.S1
open Go Go.Den Go.Rnd Go.Proofs
open EqLaw06M

theorem law06.TimesMuls.known : Known Try.prog 14 law06.TimesMuls.spec := law06.TimesMuls.known_of (.cons law06.awake.known (.cons times.Mul.known (.cons ref06.Mul.known (.cons times.Square.known .nil)))) fun a b hp => by
  obtain ⟨ha, hb⟩ := and_true_iff.1 (show (inU64 a && inU64 b) = true from hp)
  refine ⟨0, law06.TimesMuls.out [.i a, .i b], [], ?_, .bool⟩
  rw [law06.TimesMuls.ev, ha, hb]
  simp only [BEq.rfl, cond_true, Bool.and_self]
  rfl

end Go.Proofs.S1
