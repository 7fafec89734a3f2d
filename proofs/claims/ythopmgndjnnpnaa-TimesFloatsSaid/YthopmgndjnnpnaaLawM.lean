/- LawM of the verified evaluator and its use for this seat (of my texts S1EqLaw06, S1PLaw06). -/
import Derived.Test.YthopmgndjnnpnaaSpe
import Derived.Test.YthopmgndjnnpnaaTim
import Derived.Test.YthopmgndjnnpnaaMul

/- The evaluator's equations: dioptralaw06.awake, dioptralaw06.power, dioptralaw06.TimesOrder, dioptralaw06.TimesSelf, dioptralaw06.TimesPowers. Printed by denpy.py. -/
namespace Go.Proofs.S1
open Go Go.Den Go.Rnd Go.Proofs
set_option linter.unusedVariables false
set_option maxRecDepth 100000
namespace EqLaw06
theorem tt0 (a b c : Bool) : (((!(bif (bif a then b else false) then c else false)) || ((bif (bif a then b else false) then c else false) == true)) && true) = true := by cases a <;> cases b <;> cases c <;> rfl
theorem tt1 (a b c : Bool) : ((!((bif (bif a then b else false) then c else false) == true)) || ((((!((bif (bif a then b else false) then c else false) == true)) || ((bif (bif a then b else false) then c else false) == true)) && true) && true)) = true := by cases a <;> cases b <;> cases c <;> rfl
theorem tt2 (a b c : Bool) : ((!((bif (bif a then b else false) then c else false) == true)) || true) = true := by cases a <;> cases b <;> cases c <;> rfl
theorem tt3 (a b : Bool) : (((!(bif a then b else false)) || ((bif a then b else false) == true)) && true) = true := by cases a <;> cases b <;> rfl
theorem tt4 (a b : Bool) : ((!((bif a then b else false) == true)) || ((((!((bif a then b else false) == true)) || ((bif a then b else false) == true)) && true) && true)) = true := by cases a <;> cases b <;> rfl
theorem tt5 (a b : Bool) : ((!((bif a then b else false) == true)) || true) = true := by cases a <;> cases b <;> rfl
theorem tt6 (a : Bool) : (((!a) || (a == true)) && true) = true := by cases a <;> rfl
theorem tt7 (a : Bool) : ((!(a == true)) || ((((!(a == true)) || (a == true)) && true) && true)) = true := by cases a <;> rfl
theorem tt8 (a : Bool) : ((!(a == true)) || true) = true := by cases a <;> rfl
theorem tt9 (a : Bool) : ((!(a == true)) || ((((!(a == true)) || (a == true)) && (((!(a == true)) || (a == true)) && true)) && true)) = true := by cases a <;> rfl
theorem tt10 (a b c d e f : Bool) : (((!(bif (bif (bif (bif (bif a then b else false) then c else false) then d else false) then e else false) then f else false)) || ((bif (bif (bif (bif (bif a then b else false) then c else false) then d else false) then e else false) then f else false) == true)) && true) = true := by cases a <;> cases b <;> cases c <;> cases d <;> cases e <;> cases f <;> rfl
theorem tt11 (a b c d e f : Bool) : ((!((bif (bif (bif (bif (bif a then b else false) then c else false) then d else false) then e else false) then f else false) == true)) || true) = true := by cases a <;> cases b <;> cases c <;> cases d <;> cases e <;> cases f <;> rfl
theorem tt12 (a b c d e : Bool) : (((!(bif (bif (bif (bif a then b else false) then c else false) then d else false) then e else false)) || ((bif (bif (bif (bif a then b else false) then c else false) then d else false) then e else false) == true)) && true) = true := by cases a <;> cases b <;> cases c <;> cases d <;> cases e <;> rfl
theorem tt13 (a b c d e : Bool) : ((!((bif (bif (bif (bif a then b else false) then c else false) then d else false) then e else false) == true)) || ((((!((bif (bif (bif (bif a then b else false) then c else false) then d else false) then e else false) == true)) || ((bif (bif (bif (bif a then b else false) then c else false) then d else false) then e else false) == true)) && true) && true)) = true := by cases a <;> cases b <;> cases c <;> cases d <;> cases e <;> rfl
theorem tt14 (a b c d e : Bool) : ((!((bif (bif (bif (bif a then b else false) then c else false) then d else false) then e else false) == true)) || true) = true := by cases a <;> cases b <;> cases c <;> cases d <;> cases e <;> rfl
theorem tt15 (a b c d : Bool) : (((!(bif (bif (bif a then b else false) then c else false) then d else false)) || ((bif (bif (bif a then b else false) then c else false) then d else false) == true)) && true) = true := by cases a <;> cases b <;> cases c <;> cases d <;> rfl
theorem tt16 (a b c d : Bool) : ((!((bif (bif (bif a then b else false) then c else false) then d else false) == true)) || ((((!((bif (bif (bif a then b else false) then c else false) then d else false) == true)) || ((bif (bif (bif a then b else false) then c else false) then d else false) == true)) && (((!((bif (bif (bif a then b else false) then c else false) then d else false) == true)) || ((bif (bif (bif a then b else false) then c else false) then d else false) == true)) && true)) && true)) = true := by cases a <;> cases b <;> cases c <;> cases d <;> rfl
theorem tt17 (a b c d : Bool) : ((!((bif (bif (bif a then b else false) then c else false) then d else false) == true)) || true) = true := by cases a <;> cases b <;> cases c <;> cases d <;> rfl
theorem tt18 (a b : Bool) : ((!((bif a then b else false) == true)) || ((((!((bif a then b else false) == true)) || ((bif a then b else false) == true)) && (((!((bif a then b else false) == true)) || ((bif a then b else false) == true)) && true)) && true)) = true := by cases a <;> cases b <;> rfl
theorem tt19 (a b : Bool) : (bif (!a) then true else b) = ((!a) || b) := by cases a <;> cases b <;> rfl
theorem tt20 (a : Bool) : ((!(!(!a))) || ((!a) == false)) = true := by cases a <;> rfl
theorem tt21 (a : Bool) : ((!((!a) == false)) || ((((!((!a) == false)) || ((!a) == false)) && true) && true)) = true := by cases a <;> rfl
theorem tt22 (a b : Bool) : ((!((!a) == false)) || ((((!((!a) == false)) || ((!a) == false)) && true) && b)) = ((!a) || b) := by cases a <;> cases b <;> rfl
theorem tt23 (a : Bool) : ((!((!a) == false)) || true) = true := by cases a <;> rfl
theorem tt24 (a b c : Bool) : ((!((bif (bif a then b else false) then c else false) == true)) || ((((!((bif (bif a then b else false) then c else false) == true)) || ((bif (bif a then b else false) then c else false) == true)) && (((!((bif (bif a then b else false) then c else false) == true)) || ((bif (bif a then b else false) then c else false) == true)) && true)) && true)) = true := by cases a <;> cases b <;> cases c <;> rfl
theorem tt25 (a b c d : Bool) : ((!((bif (bif a then b else false) then c else false) == true)) || ((((!((bif (bif a then b else false) then c else false) == true)) || ((bif (bif a then b else false) then c else false) == true)) && true) && d)) = ((!((a && b) && c)) || d) := by cases a <;> cases b <;> cases c <;> cases d <;> rfl
theorem tt26 (a b : Bool) : (bif a then true else b) = (a || b) := by cases a <;> cases b <;> rfl
theorem tt27 (a : Bool) : ((!(!a)) || (a == false)) = true := by cases a <;> rfl
theorem tt28 (a : Bool) : ((!(a == false)) || ((((!(a == false)) || (a == false)) && true) && true)) = true := by cases a <;> rfl
theorem tt29 (a b : Bool) : ((!(a == false)) || ((((!(a == false)) || (a == false)) && true) && b)) = (a || b) := by cases a <;> cases b <;> rfl
theorem tt30 (a : Bool) : ((!(a == false)) || true) = true := by cases a <;> rfl
noncomputable def law06.awake.tab : List (Nat × Entry) := [(34, times.Div.spec), (37, times.Mul.spec)]
noncomputable def law06.awake.E : Env := envOf (tabOf law06.awake.tab) (fun _ => false) (fun _ => none) (fun _ => none)
theorem law06.awake.ev (N : Nat) : funD law06.awake.E N Try.f36 (bodyOf Try.f36) [] =
  bif (inU64 (4607182418800017408 : Int) && inU64 (4613937818241073152 : Int)) then
    bif (inU64 (9218868437227405312 : Int) && inU64 (0 : Int)) then
      some (.bool (bif (bif (bif ((divBI (4607182418800017408 : Int) (4613937818241073152 : Int)) == (4599676419421066581 : Int)) then ((divFI (4607182418800017408 : Int) (4613937818241073152 : Int)) == (1 : Int)) else false) then ((mulBI (9218868437227405312 : Int) (0 : Int)) == (9221120237041090560 : Int)) else false) then ((mulFI (9218868437227405312 : Int) (0 : Int)) == (16 : Int)) else false))
    else none
  else none :=
  Eq.trans (b := bif (inU64 (4607182418800017408 : Int) && inU64 (4613937818241073152 : Int)) then
    bif (inU64 (9218868437227405312 : Int) && inU64 (0 : Int)) then
      bif ((!(((divBI (4607182418800017408 : Int) (4613937818241073152 : Int)) == (4599676419421066581 : Int)) == true)) || true) then
        bif ((!(((divBI (4607182418800017408 : Int) (4613937818241073152 : Int)) == (4599676419421066581 : Int)) == true)) || ((((!(((divBI (4607182418800017408 : Int) (4613937818241073152 : Int)) == (4599676419421066581 : Int)) == true)) || (((divBI (4607182418800017408 : Int) (4613937818241073152 : Int)) == (4599676419421066581 : Int)) == true)) && true) && true)) then
          bif (((!((divBI (4607182418800017408 : Int) (4613937818241073152 : Int)) == (4599676419421066581 : Int))) || (((divBI (4607182418800017408 : Int) (4613937818241073152 : Int)) == (4599676419421066581 : Int)) == true)) && true) then
            bif ((!((bif ((divBI (4607182418800017408 : Int) (4613937818241073152 : Int)) == (4599676419421066581 : Int)) then ((divFI (4607182418800017408 : Int) (4613937818241073152 : Int)) == (1 : Int)) else false) == true)) || true) then
              bif ((!((bif ((divBI (4607182418800017408 : Int) (4613937818241073152 : Int)) == (4599676419421066581 : Int)) then ((divFI (4607182418800017408 : Int) (4613937818241073152 : Int)) == (1 : Int)) else false) == true)) || ((((!((bif ((divBI (4607182418800017408 : Int) (4613937818241073152 : Int)) == (4599676419421066581 : Int)) then ((divFI (4607182418800017408 : Int) (4613937818241073152 : Int)) == (1 : Int)) else false) == true)) || ((bif ((divBI (4607182418800017408 : Int) (4613937818241073152 : Int)) == (4599676419421066581 : Int)) then ((divFI (4607182418800017408 : Int) (4613937818241073152 : Int)) == (1 : Int)) else false) == true)) && true) && true)) then
                bif (((!(bif ((divBI (4607182418800017408 : Int) (4613937818241073152 : Int)) == (4599676419421066581 : Int)) then ((divFI (4607182418800017408 : Int) (4613937818241073152 : Int)) == (1 : Int)) else false)) || ((bif ((divBI (4607182418800017408 : Int) (4613937818241073152 : Int)) == (4599676419421066581 : Int)) then ((divFI (4607182418800017408 : Int) (4613937818241073152 : Int)) == (1 : Int)) else false) == true)) && true) then
                  bif ((!((bif (bif ((divBI (4607182418800017408 : Int) (4613937818241073152 : Int)) == (4599676419421066581 : Int)) then ((divFI (4607182418800017408 : Int) (4613937818241073152 : Int)) == (1 : Int)) else false) then ((mulBI (9218868437227405312 : Int) (0 : Int)) == (9221120237041090560 : Int)) else false) == true)) || true) then
                    bif ((!((bif (bif ((divBI (4607182418800017408 : Int) (4613937818241073152 : Int)) == (4599676419421066581 : Int)) then ((divFI (4607182418800017408 : Int) (4613937818241073152 : Int)) == (1 : Int)) else false) then ((mulBI (9218868437227405312 : Int) (0 : Int)) == (9221120237041090560 : Int)) else false) == true)) || ((((!((bif (bif ((divBI (4607182418800017408 : Int) (4613937818241073152 : Int)) == (4599676419421066581 : Int)) then ((divFI (4607182418800017408 : Int) (4613937818241073152 : Int)) == (1 : Int)) else false) then ((mulBI (9218868437227405312 : Int) (0 : Int)) == (9221120237041090560 : Int)) else false) == true)) || ((bif (bif ((divBI (4607182418800017408 : Int) (4613937818241073152 : Int)) == (4599676419421066581 : Int)) then ((divFI (4607182418800017408 : Int) (4613937818241073152 : Int)) == (1 : Int)) else false) then ((mulBI (9218868437227405312 : Int) (0 : Int)) == (9221120237041090560 : Int)) else false) == true)) && true) && true)) then
                      bif (((!(bif (bif ((divBI (4607182418800017408 : Int) (4613937818241073152 : Int)) == (4599676419421066581 : Int)) then ((divFI (4607182418800017408 : Int) (4613937818241073152 : Int)) == (1 : Int)) else false) then ((mulBI (9218868437227405312 : Int) (0 : Int)) == (9221120237041090560 : Int)) else false)) || ((bif (bif ((divBI (4607182418800017408 : Int) (4613937818241073152 : Int)) == (4599676419421066581 : Int)) then ((divFI (4607182418800017408 : Int) (4613937818241073152 : Int)) == (1 : Int)) else false) then ((mulBI (9218868437227405312 : Int) (0 : Int)) == (9221120237041090560 : Int)) else false) == true)) && true) then
                        some (.bool (bif (bif (bif ((divBI (4607182418800017408 : Int) (4613937818241073152 : Int)) == (4599676419421066581 : Int)) then ((divFI (4607182418800017408 : Int) (4613937818241073152 : Int)) == (1 : Int)) else false) then ((mulBI (9218868437227405312 : Int) (0 : Int)) == (9221120237041090560 : Int)) else false) then ((mulFI (9218868437227405312 : Int) (0 : Int)) == (16 : Int)) else false))
                      else none
                    else none
                  else none
                else none
              else none
            else none
          else none
        else none
      else none
    else none
  else none) (by kernel_rfl)
  (ifE (ifE (ifT (tt8 _) (ifT (tt7 _) (ifT (tt6 _) (ifT (tt5 _ _) (ifT (tt4 _ _) (ifT (tt3 _ _) (ifT (tt2 _ _ _) (ifT (tt1 _ _ _) (ifT (tt0 _ _ _) rfl))))))))) rfl) rfl)
theorem law06.awake.known_of (hk : Knowns Try.prog law06.awake.tab) (h : ∀ (_ : Unit), law06.awake.pre [] = true → ∃ N dv drops, funD law06.awake.E N Try.f36 (bodyOf Try.f36) [] = some dv ∧ Wk drops dv (law06.awake.out [])) : Known Try.prog 36 law06.awake.spec := by
  refine ⟨meets_entry (E := law06.awake.E) (env_ok hk _ _ _) Try.func36 (show Try.f36.body = some (bodyOf Try.f36) by kernel_rfl) fun ats dvs he hp => ?_, call_enter Try.func36 (by kernel_rfl) (show Try.f36.body = some (bodyOf Try.f36) by kernel_rfl)⟩
  obtain ⟨rfl, rfl⟩ := he.nil_inv
  exact h () hp

noncomputable def law06.power.tab : List (Nat × Entry) := []
noncomputable def law06.power.E : Env := envOf (tabOf law06.power.tab) (fun _ => false) (fun _ => none) (fun _ => none)
theorem law06.power.ev (N : Nat) (n : Int) : funD law06.power.E N Try.f39 (bodyOf Try.f39) [.int .i64 n] =
  some (.int .u64 (bShl .u64 (w_u64 ((723 : Int) + (Int.tmod (w_u64 n) (601 : Int)))) (52 : Int))) := by kernel_rfl
theorem law06.power.known_of (hk : Knowns Try.prog law06.power.tab) (h : ∀ (n : Int), law06.power.pre [.i n] = true → ∃ N dv drops, funD law06.power.E N Try.f39 (bodyOf Try.f39) [.int .i64 n] = some dv ∧ Wk drops dv (law06.power.out [.i n])) : Known Try.prog 39 law06.power.spec := by
  refine ⟨meets_entry (E := law06.power.E) (env_ok hk _ _ _) Try.func39 (show Try.f39.body = some (bodyOf Try.f39) by kernel_rfl) fun ats dvs he hp => ?_, call_enter Try.func39 (by kernel_rfl) (show Try.f39.body = some (bodyOf Try.f39) by kernel_rfl)⟩
  obtain ⟨n, _, _, rfl, rfl, he0⟩ := he.i_inv
  obtain ⟨rfl, rfl⟩ := he0.nil_inv
  exact h n hp

noncomputable def law06.TimesOrder.tab : List (Nat × Entry) := [(36, law06.awake.spec), (37, times.Mul.spec)]
noncomputable def law06.TimesOrder.E : Env := envOf (tabOf law06.TimesOrder.tab) (fun _ => false) (fun _ => none) (fun _ => none)
theorem law06.TimesOrder.ev (N : Nat) (a : Int) (b : Int) : funD law06.TimesOrder.E N Try.f11 (bodyOf Try.f11) [.int .u64 a, .int .u64 b] =
  bif (inU64 a && inU64 b) then
    bif (inU64 b && inU64 a) then
      some (.bool (bif (bif ((mulBI a b) == (mulBI b a)) then ((mulFI a b) == (mulFI b a)) else false) then true else false))
    else none
  else none :=
  Eq.trans (b := bif (inU64 a && inU64 b) then
    bif (inU64 b && inU64 a) then
      bif ((!(((mulBI a b) == (mulBI b a)) == true)) || true) then
        bif ((!(((mulBI a b) == (mulBI b a)) == true)) || true) then
          bif ((!(((mulBI a b) == (mulBI b a)) == true)) || ((((!(((mulBI a b) == (mulBI b a)) == true)) || (((mulBI a b) == (mulBI b a)) == true)) && (((!(((mulBI a b) == (mulBI b a)) == true)) || (((mulBI a b) == (mulBI b a)) == true)) && true)) && true)) then
            bif (((!((mulBI a b) == (mulBI b a))) || (((mulBI a b) == (mulBI b a)) == true)) && true) then
              bif ((!((bif ((mulBI a b) == (mulBI b a)) then ((mulFI a b) == (mulFI b a)) else false) == true)) || true) then
                bif (((!(bif ((mulBI a b) == (mulBI b a)) then ((mulFI a b) == (mulFI b a)) else false)) || ((bif ((mulBI a b) == (mulBI b a)) then ((mulFI a b) == (mulFI b a)) else false) == true)) && true) then
                  some (.bool (bif (bif ((mulBI a b) == (mulBI b a)) then ((mulFI a b) == (mulFI b a)) else false) then true else false))
                else none
              else none
            else none
          else none
        else none
      else none
    else none
  else none) (by kernel_rfl)
  (ifE (ifE (ifT (tt8 _) (ifT (tt8 _) (ifT (tt9 _) (ifT (tt6 _) (ifT (tt5 _ _) (ifT (tt3 _ _) rfl)))))) rfl) rfl)
theorem law06.TimesOrder.known_of (hk : Knowns Try.prog law06.TimesOrder.tab) (h : ∀ (a : Int) (b : Int), law06.TimesOrder.pre [.i a, .i b] = true → ∃ N dv drops, funD law06.TimesOrder.E N Try.f11 (bodyOf Try.f11) [.int .u64 a, .int .u64 b] = some dv ∧ Wk drops dv (law06.TimesOrder.out [.i a, .i b])) : Known Try.prog 11 law06.TimesOrder.spec := by
  refine ⟨meets_entry (E := law06.TimesOrder.E) (env_ok hk _ _ _) Try.func11 (show Try.f11.body = some (bodyOf Try.f11) by kernel_rfl) fun ats dvs he hp => ?_, call_enter Try.func11 (by kernel_rfl) (show Try.f11.body = some (bodyOf Try.f11) by kernel_rfl)⟩
  obtain ⟨a, _, _, rfl, rfl, he0⟩ := he.i_inv
  obtain ⟨b, _, _, rfl, rfl, he1⟩ := he0.i_inv
  obtain ⟨rfl, rfl⟩ := he1.nil_inv
  exact h a b hp

noncomputable def law06.TimesSelf.tab : List (Nat × Entry) := [(21, ref04.Finite.spec), (34, times.Div.spec), (36, law06.awake.spec), (37, times.Mul.spec), (41, ref04.Kind.spec)]
noncomputable def law06.TimesSelf.E : Env := envOf (tabOf law06.TimesSelf.tab) (fun _ => false) (fun _ => none) (fun _ => none)
theorem law06.TimesSelf.ev (N : Nat) (a : Int) : funD law06.TimesSelf.E N Try.f13 (bodyOf Try.f13) [.int .u64 a] =
  bif (inU64 a) then
    bif ((!(finI a)) || (natI a)) then
      bif ((!(finI a)) || ((kindI a) == (0 : Int))) then
        some (.bool true)
      else bif (inU64 a && inU64 a) then
        bif (inU64 a && inU64 (4607182418800017408 : Int)) then
          bif (inU64 a && inU64 (4607182418800017408 : Int)) then
            some (.bool (bif (bif (bif (bif (bif (bif ((divBI a a) == (4607182418800017408 : Int)) then ((divFI a a) == (0 : Int)) else false) then ((divBI a (4607182418800017408 : Int)) == a) else false) then ((divFI a (4607182418800017408 : Int)) == (0 : Int)) else false) then ((mulBI a (4607182418800017408 : Int)) == a) else false) then ((mulFI a (4607182418800017408 : Int)) == (0 : Int)) else false) then true else false))
          else none
        else none
      else none
    else none
  else none :=
  Eq.trans (b := bif (inU64 a) then
    bif ((!((!(finI a)) == false)) || true) then
      bif ((!((!(finI a)) == false)) || ((((!((!(finI a)) == false)) || ((!(finI a)) == false)) && true) && (natI a))) then
        bif ((!((!(finI a)) == false)) || ((((!((!(finI a)) == false)) || ((!(finI a)) == false)) && true) && true)) then
          bif ((!(!(!(finI a)))) || ((!(finI a)) == false)) then
            bif (bif (!(finI a)) then true else ((kindI a) == (0 : Int))) then
              some (.bool true)
            else bif (inU64 a && inU64 a) then
              bif (inU64 a && inU64 (4607182418800017408 : Int)) then
                bif (inU64 a && inU64 (4607182418800017408 : Int)) then
                  bif ((!(((divBI a a) == (4607182418800017408 : Int)) == true)) || true) then
                    bif ((!(((divBI a a) == (4607182418800017408 : Int)) == true)) || ((((!(((divBI a a) == (4607182418800017408 : Int)) == true)) || (((divBI a a) == (4607182418800017408 : Int)) == true)) && true) && true)) then
                      bif (((!((divBI a a) == (4607182418800017408 : Int))) || (((divBI a a) == (4607182418800017408 : Int)) == true)) && true) then
                        bif ((!((bif ((divBI a a) == (4607182418800017408 : Int)) then ((divFI a a) == (0 : Int)) else false) == true)) || true) then
                          bif ((!((bif ((divBI a a) == (4607182418800017408 : Int)) then ((divFI a a) == (0 : Int)) else false) == true)) || true) then
                            bif ((!((bif ((divBI a a) == (4607182418800017408 : Int)) then ((divFI a a) == (0 : Int)) else false) == true)) || ((((!((bif ((divBI a a) == (4607182418800017408 : Int)) then ((divFI a a) == (0 : Int)) else false) == true)) || ((bif ((divBI a a) == (4607182418800017408 : Int)) then ((divFI a a) == (0 : Int)) else false) == true)) && (((!((bif ((divBI a a) == (4607182418800017408 : Int)) then ((divFI a a) == (0 : Int)) else false) == true)) || ((bif ((divBI a a) == (4607182418800017408 : Int)) then ((divFI a a) == (0 : Int)) else false) == true)) && true)) && true)) then
                              bif (((!(bif ((divBI a a) == (4607182418800017408 : Int)) then ((divFI a a) == (0 : Int)) else false)) || ((bif ((divBI a a) == (4607182418800017408 : Int)) then ((divFI a a) == (0 : Int)) else false) == true)) && true) then
                                bif ((!((bif (bif ((divBI a a) == (4607182418800017408 : Int)) then ((divFI a a) == (0 : Int)) else false) then ((divBI a (4607182418800017408 : Int)) == a) else false) == true)) || true) then
                                  bif ((!((bif (bif ((divBI a a) == (4607182418800017408 : Int)) then ((divFI a a) == (0 : Int)) else false) then ((divBI a (4607182418800017408 : Int)) == a) else false) == true)) || ((((!((bif (bif ((divBI a a) == (4607182418800017408 : Int)) then ((divFI a a) == (0 : Int)) else false) then ((divBI a (4607182418800017408 : Int)) == a) else false) == true)) || ((bif (bif ((divBI a a) == (4607182418800017408 : Int)) then ((divFI a a) == (0 : Int)) else false) then ((divBI a (4607182418800017408 : Int)) == a) else false) == true)) && true) && true)) then
                                    bif (((!(bif (bif ((divBI a a) == (4607182418800017408 : Int)) then ((divFI a a) == (0 : Int)) else false) then ((divBI a (4607182418800017408 : Int)) == a) else false)) || ((bif (bif ((divBI a a) == (4607182418800017408 : Int)) then ((divFI a a) == (0 : Int)) else false) then ((divBI a (4607182418800017408 : Int)) == a) else false) == true)) && true) then
                                      bif ((!((bif (bif (bif ((divBI a a) == (4607182418800017408 : Int)) then ((divFI a a) == (0 : Int)) else false) then ((divBI a (4607182418800017408 : Int)) == a) else false) then ((divFI a (4607182418800017408 : Int)) == (0 : Int)) else false) == true)) || true) then
                                        bif ((!((bif (bif (bif ((divBI a a) == (4607182418800017408 : Int)) then ((divFI a a) == (0 : Int)) else false) then ((divBI a (4607182418800017408 : Int)) == a) else false) then ((divFI a (4607182418800017408 : Int)) == (0 : Int)) else false) == true)) || true) then
                                          bif ((!((bif (bif (bif ((divBI a a) == (4607182418800017408 : Int)) then ((divFI a a) == (0 : Int)) else false) then ((divBI a (4607182418800017408 : Int)) == a) else false) then ((divFI a (4607182418800017408 : Int)) == (0 : Int)) else false) == true)) || ((((!((bif (bif (bif ((divBI a a) == (4607182418800017408 : Int)) then ((divFI a a) == (0 : Int)) else false) then ((divBI a (4607182418800017408 : Int)) == a) else false) then ((divFI a (4607182418800017408 : Int)) == (0 : Int)) else false) == true)) || ((bif (bif (bif ((divBI a a) == (4607182418800017408 : Int)) then ((divFI a a) == (0 : Int)) else false) then ((divBI a (4607182418800017408 : Int)) == a) else false) then ((divFI a (4607182418800017408 : Int)) == (0 : Int)) else false) == true)) && (((!((bif (bif (bif ((divBI a a) == (4607182418800017408 : Int)) then ((divFI a a) == (0 : Int)) else false) then ((divBI a (4607182418800017408 : Int)) == a) else false) then ((divFI a (4607182418800017408 : Int)) == (0 : Int)) else false) == true)) || ((bif (bif (bif ((divBI a a) == (4607182418800017408 : Int)) then ((divFI a a) == (0 : Int)) else false) then ((divBI a (4607182418800017408 : Int)) == a) else false) then ((divFI a (4607182418800017408 : Int)) == (0 : Int)) else false) == true)) && true)) && true)) then
                                            bif (((!(bif (bif (bif ((divBI a a) == (4607182418800017408 : Int)) then ((divFI a a) == (0 : Int)) else false) then ((divBI a (4607182418800017408 : Int)) == a) else false) then ((divFI a (4607182418800017408 : Int)) == (0 : Int)) else false)) || ((bif (bif (bif ((divBI a a) == (4607182418800017408 : Int)) then ((divFI a a) == (0 : Int)) else false) then ((divBI a (4607182418800017408 : Int)) == a) else false) then ((divFI a (4607182418800017408 : Int)) == (0 : Int)) else false) == true)) && true) then
                                              bif ((!((bif (bif (bif (bif ((divBI a a) == (4607182418800017408 : Int)) then ((divFI a a) == (0 : Int)) else false) then ((divBI a (4607182418800017408 : Int)) == a) else false) then ((divFI a (4607182418800017408 : Int)) == (0 : Int)) else false) then ((mulBI a (4607182418800017408 : Int)) == a) else false) == true)) || true) then
                                                bif ((!((bif (bif (bif (bif ((divBI a a) == (4607182418800017408 : Int)) then ((divFI a a) == (0 : Int)) else false) then ((divBI a (4607182418800017408 : Int)) == a) else false) then ((divFI a (4607182418800017408 : Int)) == (0 : Int)) else false) then ((mulBI a (4607182418800017408 : Int)) == a) else false) == true)) || ((((!((bif (bif (bif (bif ((divBI a a) == (4607182418800017408 : Int)) then ((divFI a a) == (0 : Int)) else false) then ((divBI a (4607182418800017408 : Int)) == a) else false) then ((divFI a (4607182418800017408 : Int)) == (0 : Int)) else false) then ((mulBI a (4607182418800017408 : Int)) == a) else false) == true)) || ((bif (bif (bif (bif ((divBI a a) == (4607182418800017408 : Int)) then ((divFI a a) == (0 : Int)) else false) then ((divBI a (4607182418800017408 : Int)) == a) else false) then ((divFI a (4607182418800017408 : Int)) == (0 : Int)) else false) then ((mulBI a (4607182418800017408 : Int)) == a) else false) == true)) && true) && true)) then
                                                  bif (((!(bif (bif (bif (bif ((divBI a a) == (4607182418800017408 : Int)) then ((divFI a a) == (0 : Int)) else false) then ((divBI a (4607182418800017408 : Int)) == a) else false) then ((divFI a (4607182418800017408 : Int)) == (0 : Int)) else false) then ((mulBI a (4607182418800017408 : Int)) == a) else false)) || ((bif (bif (bif (bif ((divBI a a) == (4607182418800017408 : Int)) then ((divFI a a) == (0 : Int)) else false) then ((divBI a (4607182418800017408 : Int)) == a) else false) then ((divFI a (4607182418800017408 : Int)) == (0 : Int)) else false) then ((mulBI a (4607182418800017408 : Int)) == a) else false) == true)) && true) then
                                                    bif ((!((bif (bif (bif (bif (bif ((divBI a a) == (4607182418800017408 : Int)) then ((divFI a a) == (0 : Int)) else false) then ((divBI a (4607182418800017408 : Int)) == a) else false) then ((divFI a (4607182418800017408 : Int)) == (0 : Int)) else false) then ((mulBI a (4607182418800017408 : Int)) == a) else false) then ((mulFI a (4607182418800017408 : Int)) == (0 : Int)) else false) == true)) || true) then
                                                      bif (((!(bif (bif (bif (bif (bif ((divBI a a) == (4607182418800017408 : Int)) then ((divFI a a) == (0 : Int)) else false) then ((divBI a (4607182418800017408 : Int)) == a) else false) then ((divFI a (4607182418800017408 : Int)) == (0 : Int)) else false) then ((mulBI a (4607182418800017408 : Int)) == a) else false) then ((mulFI a (4607182418800017408 : Int)) == (0 : Int)) else false)) || ((bif (bif (bif (bif (bif ((divBI a a) == (4607182418800017408 : Int)) then ((divFI a a) == (0 : Int)) else false) then ((divBI a (4607182418800017408 : Int)) == a) else false) then ((divFI a (4607182418800017408 : Int)) == (0 : Int)) else false) then ((mulBI a (4607182418800017408 : Int)) == a) else false) then ((mulFI a (4607182418800017408 : Int)) == (0 : Int)) else false) == true)) && true) then
                                                        some (.bool (bif (bif (bif (bif (bif (bif ((divBI a a) == (4607182418800017408 : Int)) then ((divFI a a) == (0 : Int)) else false) then ((divBI a (4607182418800017408 : Int)) == a) else false) then ((divFI a (4607182418800017408 : Int)) == (0 : Int)) else false) then ((mulBI a (4607182418800017408 : Int)) == a) else false) then ((mulFI a (4607182418800017408 : Int)) == (0 : Int)) else false) then true else false))
                                                      else none
                                                    else none
                                                  else none
                                                else none
                                              else none
                                            else none
                                          else none
                                        else none
                                      else none
                                    else none
                                  else none
                                else none
                              else none
                            else none
                          else none
                        else none
                      else none
                    else none
                  else none
                else none
              else none
            else none
          else none
        else none
      else none
    else none
  else none) (by kernel_rfl)
  (ifE (ifT (tt23 _) (ifS (tt22 _ _) (ifT (tt21 _) (ifT (tt20 _) (ifS (tt19 _ _) rfl (ifE (ifE (ifE (ifT (tt8 _) (ifT (tt7 _) (ifT (tt6 _) (ifT (tt5 _ _) (ifT (tt5 _ _) (ifT (tt18 _ _) (ifT (tt3 _ _) (ifT (tt2 _ _ _) (ifT (tt1 _ _ _) (ifT (tt0 _ _ _) (ifT (tt17 _ _ _ _) (ifT (tt17 _ _ _ _) (ifT (tt16 _ _ _ _) (ifT (tt15 _ _ _ _) (ifT (tt14 _ _ _ _ _) (ifT (tt13 _ _ _ _ _) (ifT (tt12 _ _ _ _ _) (ifT (tt11 _ _ _ _ _ _) (ifT (tt10 _ _ _ _ _ _) rfl))))))))))))))))))) rfl) rfl) rfl)))) rfl)) rfl)
theorem law06.TimesSelf.known_of (hk : Knowns Try.prog law06.TimesSelf.tab) (h : ∀ (a : Int), law06.TimesSelf.pre [.i a] = true → ∃ N dv drops, funD law06.TimesSelf.E N Try.f13 (bodyOf Try.f13) [.int .u64 a] = some dv ∧ Wk drops dv (law06.TimesSelf.out [.i a])) : Known Try.prog 13 law06.TimesSelf.spec := by
  refine ⟨meets_entry (E := law06.TimesSelf.E) (env_ok hk _ _ _) Try.func13 (show Try.f13.body = some (bodyOf Try.f13) by kernel_rfl) fun ats dvs he hp => ?_, call_enter Try.func13 (by kernel_rfl) (show Try.f13.body = some (bodyOf Try.f13) by kernel_rfl)⟩
  obtain ⟨a, _, _, rfl, rfl, he0⟩ := he.i_inv
  obtain ⟨rfl, rfl⟩ := he0.nil_inv
  exact h a hp

noncomputable def law06.TimesPowers.tab : List (Nat × Entry) := [(34, times.Div.spec), (36, law06.awake.spec), (37, times.Mul.spec), (38, ref04.Power.spec), (39, law06.power.spec), (40, ref04.Frac.spec)]
noncomputable def law06.TimesPowers.E : Env := envOf (tabOf law06.TimesPowers.tab) (fun _ => false) (fun _ => none) (fun _ => none)
theorem law06.TimesPowers.ev (N : Nat) (a : Int) (n : Int) : funD law06.TimesPowers.E N Try.f12 (bodyOf Try.f12) [.int .u64 a, .int .i64 n] =
  bif (natI a) then
    bif ((ltI (powI a) (700 : Int)) || (natI a)) then
      bif ((ltI (powI a) (700 : Int)) || (ltI (1300 : Int) (powI a))) then
        some (.bool true)
      else bif (inI64 n) then
        bif (inU64 a && inU64 (powerI n)) then
          bif (inU64 (mulBI a (powerI n)) && inU64 (powerI n)) then
            bif ((!((((divBI (mulBI a (powerI n)) (powerI n)) == a) && ((mulFI a (powerI n)) == (0 : Int))) && ((divFI (mulBI a (powerI n)) (powerI n)) == (0 : Int)))) || (natI (mulBI a (powerI n)))) then
              bif ((!((((divBI (mulBI a (powerI n)) (powerI n)) == a) && ((mulFI a (powerI n)) == (0 : Int))) && ((divFI (mulBI a (powerI n)) (powerI n)) == (0 : Int)))) || (natI a)) then
                some (.bool (bif (bif (bif (bif ((divBI (mulBI a (powerI n)) (powerI n)) == a) then ((mulFI a (powerI n)) == (0 : Int)) else false) then ((divFI (mulBI a (powerI n)) (powerI n)) == (0 : Int)) else false) then ((fracI (mulBI a (powerI n))) == (fracI a)) else false) then true else false))
              else none
            else none
          else none
        else none
      else none
    else none
  else none :=
  Eq.trans (b := bif (natI a) then
    bif ((!((ltI (powI a) (700 : Int)) == false)) || true) then
      bif ((!((ltI (powI a) (700 : Int)) == false)) || ((((!((ltI (powI a) (700 : Int)) == false)) || ((ltI (powI a) (700 : Int)) == false)) && true) && (natI a))) then
        bif ((!((ltI (powI a) (700 : Int)) == false)) || ((((!((ltI (powI a) (700 : Int)) == false)) || ((ltI (powI a) (700 : Int)) == false)) && true) && true)) then
          bif ((!(!(ltI (powI a) (700 : Int)))) || ((ltI (powI a) (700 : Int)) == false)) then
            bif (bif (ltI (powI a) (700 : Int)) then true else (ltI (1300 : Int) (powI a))) then
              some (.bool true)
            else bif (inI64 n) then
              bif (inU64 a && inU64 (powerI n)) then
                bif (inU64 (mulBI a (powerI n)) && inU64 (powerI n)) then
                  bif ((!(((divBI (mulBI a (powerI n)) (powerI n)) == a) == true)) || true) then
                    bif ((!(((divBI (mulBI a (powerI n)) (powerI n)) == a) == true)) || ((((!(((divBI (mulBI a (powerI n)) (powerI n)) == a) == true)) || (((divBI (mulBI a (powerI n)) (powerI n)) == a) == true)) && true) && true)) then
                      bif (((!((divBI (mulBI a (powerI n)) (powerI n)) == a)) || (((divBI (mulBI a (powerI n)) (powerI n)) == a) == true)) && true) then
                        bif ((!((bif ((divBI (mulBI a (powerI n)) (powerI n)) == a) then ((mulFI a (powerI n)) == (0 : Int)) else false) == true)) || true) then
                          bif ((!((bif ((divBI (mulBI a (powerI n)) (powerI n)) == a) then ((mulFI a (powerI n)) == (0 : Int)) else false) == true)) || ((((!((bif ((divBI (mulBI a (powerI n)) (powerI n)) == a) then ((mulFI a (powerI n)) == (0 : Int)) else false) == true)) || ((bif ((divBI (mulBI a (powerI n)) (powerI n)) == a) then ((mulFI a (powerI n)) == (0 : Int)) else false) == true)) && true) && true)) then
                            bif (((!(bif ((divBI (mulBI a (powerI n)) (powerI n)) == a) then ((mulFI a (powerI n)) == (0 : Int)) else false)) || ((bif ((divBI (mulBI a (powerI n)) (powerI n)) == a) then ((mulFI a (powerI n)) == (0 : Int)) else false) == true)) && true) then
                              bif ((!((bif (bif ((divBI (mulBI a (powerI n)) (powerI n)) == a) then ((mulFI a (powerI n)) == (0 : Int)) else false) then ((divFI (mulBI a (powerI n)) (powerI n)) == (0 : Int)) else false) == true)) || true) then
                                bif ((!((bif (bif ((divBI (mulBI a (powerI n)) (powerI n)) == a) then ((mulFI a (powerI n)) == (0 : Int)) else false) then ((divFI (mulBI a (powerI n)) (powerI n)) == (0 : Int)) else false) == true)) || ((((!((bif (bif ((divBI (mulBI a (powerI n)) (powerI n)) == a) then ((mulFI a (powerI n)) == (0 : Int)) else false) then ((divFI (mulBI a (powerI n)) (powerI n)) == (0 : Int)) else false) == true)) || ((bif (bif ((divBI (mulBI a (powerI n)) (powerI n)) == a) then ((mulFI a (powerI n)) == (0 : Int)) else false) then ((divFI (mulBI a (powerI n)) (powerI n)) == (0 : Int)) else false) == true)) && true) && (natI (mulBI a (powerI n))))) then
                                  bif ((!((bif (bif ((divBI (mulBI a (powerI n)) (powerI n)) == a) then ((mulFI a (powerI n)) == (0 : Int)) else false) then ((divFI (mulBI a (powerI n)) (powerI n)) == (0 : Int)) else false) == true)) || true) then
                                    bif ((!((bif (bif ((divBI (mulBI a (powerI n)) (powerI n)) == a) then ((mulFI a (powerI n)) == (0 : Int)) else false) then ((divFI (mulBI a (powerI n)) (powerI n)) == (0 : Int)) else false) == true)) || ((((!((bif (bif ((divBI (mulBI a (powerI n)) (powerI n)) == a) then ((mulFI a (powerI n)) == (0 : Int)) else false) then ((divFI (mulBI a (powerI n)) (powerI n)) == (0 : Int)) else false) == true)) || ((bif (bif ((divBI (mulBI a (powerI n)) (powerI n)) == a) then ((mulFI a (powerI n)) == (0 : Int)) else false) then ((divFI (mulBI a (powerI n)) (powerI n)) == (0 : Int)) else false) == true)) && true) && (natI a))) then
                                      bif ((!((bif (bif ((divBI (mulBI a (powerI n)) (powerI n)) == a) then ((mulFI a (powerI n)) == (0 : Int)) else false) then ((divFI (mulBI a (powerI n)) (powerI n)) == (0 : Int)) else false) == true)) || ((((!((bif (bif ((divBI (mulBI a (powerI n)) (powerI n)) == a) then ((mulFI a (powerI n)) == (0 : Int)) else false) then ((divFI (mulBI a (powerI n)) (powerI n)) == (0 : Int)) else false) == true)) || ((bif (bif ((divBI (mulBI a (powerI n)) (powerI n)) == a) then ((mulFI a (powerI n)) == (0 : Int)) else false) then ((divFI (mulBI a (powerI n)) (powerI n)) == (0 : Int)) else false) == true)) && (((!((bif (bif ((divBI (mulBI a (powerI n)) (powerI n)) == a) then ((mulFI a (powerI n)) == (0 : Int)) else false) then ((divFI (mulBI a (powerI n)) (powerI n)) == (0 : Int)) else false) == true)) || ((bif (bif ((divBI (mulBI a (powerI n)) (powerI n)) == a) then ((mulFI a (powerI n)) == (0 : Int)) else false) then ((divFI (mulBI a (powerI n)) (powerI n)) == (0 : Int)) else false) == true)) && true)) && true)) then
                                        bif (((!(bif (bif ((divBI (mulBI a (powerI n)) (powerI n)) == a) then ((mulFI a (powerI n)) == (0 : Int)) else false) then ((divFI (mulBI a (powerI n)) (powerI n)) == (0 : Int)) else false)) || ((bif (bif ((divBI (mulBI a (powerI n)) (powerI n)) == a) then ((mulFI a (powerI n)) == (0 : Int)) else false) then ((divFI (mulBI a (powerI n)) (powerI n)) == (0 : Int)) else false) == true)) && true) then
                                          bif ((!((bif (bif (bif ((divBI (mulBI a (powerI n)) (powerI n)) == a) then ((mulFI a (powerI n)) == (0 : Int)) else false) then ((divFI (mulBI a (powerI n)) (powerI n)) == (0 : Int)) else false) then ((fracI (mulBI a (powerI n))) == (fracI a)) else false) == true)) || true) then
                                            bif (((!(bif (bif (bif ((divBI (mulBI a (powerI n)) (powerI n)) == a) then ((mulFI a (powerI n)) == (0 : Int)) else false) then ((divFI (mulBI a (powerI n)) (powerI n)) == (0 : Int)) else false) then ((fracI (mulBI a (powerI n))) == (fracI a)) else false)) || ((bif (bif (bif ((divBI (mulBI a (powerI n)) (powerI n)) == a) then ((mulFI a (powerI n)) == (0 : Int)) else false) then ((divFI (mulBI a (powerI n)) (powerI n)) == (0 : Int)) else false) then ((fracI (mulBI a (powerI n))) == (fracI a)) else false) == true)) && true) then
                                              some (.bool (bif (bif (bif (bif ((divBI (mulBI a (powerI n)) (powerI n)) == a) then ((mulFI a (powerI n)) == (0 : Int)) else false) then ((divFI (mulBI a (powerI n)) (powerI n)) == (0 : Int)) else false) then ((fracI (mulBI a (powerI n))) == (fracI a)) else false) then true else false))
                                            else none
                                          else none
                                        else none
                                      else none
                                    else none
                                  else none
                                else none
                              else none
                            else none
                          else none
                        else none
                      else none
                    else none
                  else none
                else none
              else none
            else none
          else none
        else none
      else none
    else none
  else none) (by kernel_rfl)
  (ifE (ifT (tt30 _) (ifS (tt29 _ _) (ifT (tt28 _) (ifT (tt27 _) (ifS (tt26 _ _) rfl (ifE (ifE (ifE (ifT (tt8 _) (ifT (tt7 _) (ifT (tt6 _) (ifT (tt5 _ _) (ifT (tt4 _ _) (ifT (tt3 _ _) (ifT (tt2 _ _ _) (ifS (tt25 _ _ _ _) (ifT (tt2 _ _ _) (ifS (tt25 _ _ _ _) (ifT (tt24 _ _ _) (ifT (tt0 _ _ _) (ifT (tt17 _ _ _ _) (ifT (tt15 _ _ _ _) rfl)))) rfl)) rfl)))))))) rfl) rfl) rfl)))) rfl)) rfl)
theorem law06.TimesPowers.known_of (hk : Knowns Try.prog law06.TimesPowers.tab) (h : ∀ (a : Int) (n : Int), law06.TimesPowers.pre [.i a, .i n] = true → ∃ N dv drops, funD law06.TimesPowers.E N Try.f12 (bodyOf Try.f12) [.int .u64 a, .int .i64 n] = some dv ∧ Wk drops dv (law06.TimesPowers.out [.i a, .i n])) : Known Try.prog 12 law06.TimesPowers.spec := by
  refine ⟨meets_entry (E := law06.TimesPowers.E) (env_ok hk _ _ _) Try.func12 (show Try.f12.body = some (bodyOf Try.f12) by kernel_rfl) fun ats dvs he hp => ?_, call_enter Try.func12 (by kernel_rfl) (show Try.f12.body = some (bodyOf Try.f12) by kernel_rfl)⟩
  obtain ⟨a, _, _, rfl, rfl, he0⟩ := he.i_inv
  obtain ⟨n, _, _, rfl, rfl, he1⟩ := he0.i_inv
  obtain ⟨rfl, rfl⟩ := he1.nil_inv
  exact h a n hp
end EqLaw06
end Go.Proofs.S1

/- Chapter 06's laws that ask for the program alone. -/
namespace Go.Proofs.S1
open Go Go.Den Go.Rnd Go.Proofs
open EqLaw06

theorem awake_div : divN 4607182418800017408 4613937818241073152 = (4599676419421066581, 1) := by decide +kernel
theorem awake_mul : mulN 9218868437227405312 0 = (9221120237041090560, 16) := by decide +kernel

theorem law06.awake.known : Known Try.prog 36 law06.awake.spec := law06.awake.known_of (.cons times.Div.known (.cons times.Mul.known .nil)) fun _ _ => by
  refine ⟨0, law06.awake.out [], [], ?_, .bool⟩
  have i1 : inU64 (4607182418800017408 : Int) = true := inU64_of (n := 4607182418800017408) (by decide)
  have i2 : inU64 (4613937818241073152 : Int) = true := inU64_of (n := 4613937818241073152) (by decide)
  have i3 : inU64 (9218868437227405312 : Int) = true := inU64_of (n := 9218868437227405312) (by decide)
  have i4 : inU64 (0 : Int) = true := inU64_of (n := 0) (by decide)
  have e1 : divBI (4607182418800017408 : Int) (4613937818241073152 : Int) = (4599676419421066581 : Int) := by
    unfold divBI
    rw [show (4607182418800017408 : Int).toNat = 4607182418800017408 from rfl, show (4613937818241073152 : Int).toNat = 4613937818241073152 from rfl, awake_div]; rfl
  have e2 : divFI (4607182418800017408 : Int) (4613937818241073152 : Int) = (1 : Int) := by
    unfold divFI
    rw [show (4607182418800017408 : Int).toNat = 4607182418800017408 from rfl, show (4613937818241073152 : Int).toNat = 4613937818241073152 from rfl, awake_div]; rfl
  have e3 : mulBI (9218868437227405312 : Int) (0 : Int) = (9221120237041090560 : Int) := by
    unfold mulBI
    rw [show (9218868437227405312 : Int).toNat = 9218868437227405312 from rfl, show (0 : Int).toNat = 0 from rfl, awake_mul]; rfl
  have e4 : mulFI (9218868437227405312 : Int) (0 : Int) = (16 : Int) := by
    unfold mulFI
    rw [show (9218868437227405312 : Int).toNat = 9218868437227405312 from rfl, show (0 : Int).toNat = 0 from rfl, awake_mul]; rfl
  rw [law06.awake.ev, i1, i2, i3, i4, e1, e2, e3, e4]
  rfl

theorem law06.power.known : Known Try.prog 39 law06.power.spec := law06.power.known_of .nil fun n hp => by
  refine ⟨0, law06.power.out [.i n], [], ?_, .int⟩
  show _ = some (DV.int .u64 ((723 + n % 18446744073709551616 % 601) * 4503599627370496))
  obtain ⟨m, hm⟩ : ∃ m : Nat, n % 18446744073709551616 = m := ⟨(n % 18446744073709551616).toNat, by omega⟩
  have hj : m % 601 < 601 := Nat.mod_lt _ (by decide)
  rw [law06.power.ev, w_u64_eq n, hm, show (601 : Int) = ((601 : Nat) : Int) from rfl, tmod_nat, ← Int.natCast_emod]
  generalize m % 601 = j at hj ⊢
  have e : (723 : Int) + (j : Int) = ((723 + j : Nat) : Int) := by omega
  have e2 := bShl_u64 (723 + j) 52 (by decide)
  rw [Nat.mod_eq_of_lt (a := (723 + j) * 2 ^ 52) (by omega)] at e2
  have e2 : bShl .u64 ((723 + j : Nat) : Int) (52 : Int) = (((723 + j) * 2 ^ 52 : Nat) : Int) := e2
  rw [e, w_u64_in (by omega) (by omega), e2]
  have e3 : (((723 + j) * 2 ^ 52 : Nat) : Int) = ((723 + j : Nat) : Int) * 4503599627370496 := by omega
  rw [e3]

theorem law06.TimesOrder.known : Known Try.prog 11 law06.TimesOrder.spec := law06.TimesOrder.known_of (.cons law06.awake.known (.cons times.Mul.known .nil)) fun a b hp => by
  obtain ⟨ha, hb⟩ := and_true_iff.1 hp
  refine ⟨0, law06.TimesOrder.out [.i a, .i b], [], ?_, .bool⟩
  rw [law06.TimesOrder.ev, ha, hb]
  unfold mulBI mulFI
  rw [mulN_comm a.toNat b.toNat]
  simp only [BEq.rfl, cond_true, Bool.and_self]
  rfl

theorem law06.TimesSelf.known : Known Try.prog 13 law06.TimesSelf.spec := law06.TimesSelf.known_of (.cons ref04.Finite.known (.cons times.Div.known (.cons law06.awake.known (.cons times.Mul.known (.cons ref04.Kind.known .nil))))) fun a hp => by
  have ha : inU64 a = true := hp
  obtain ⟨a, rfl, hn⟩ := inU64_nat ha
  refine ⟨0, law06.TimesSelf.out [.i a], [], ?_, .bool⟩
  have i1 : inU64 (4607182418800017408 : Int) = true := inU64_of (n := 4607182418800017408) (by decide)
  have ef : finI (a : Int) = finN a := rfl
  rw [law06.TimesSelf.ev, ha, natI_nat, i1, ef, kindI_nat, k0, kind_fin]
  by_cases h : kindN a = 3 ∨ kindN a = 4 ∨ kindN a = 0
  · have c : (!(!(decide (kindN a = 3) || decide (kindN a = 4))) || decide (kindN a = 0)) = true := by simp; omega
    rw [c, Bool.or_true]; rfl
  · have c : (!(!(decide (kindN a = 3) || decide (kindN a = 4))) || decide (kindN a = 0)) = false := by simp; omega
    have hM := partM_pos (b := a) (by omega) (by omega) (by omega)
    have s1 := div_self hM (by omega) (by omega) (by omega)
    have s2 := div_one hn (by omega) (by omega) (by omega)
    have s3 := mul_one hn (a := a) (by omega) (by omega)
    have e1 : divBI (a : Int) (a : Int) = (4607182418800017408 : Int) := by unfold divBI; rw [Int.toNat_natCast, s1]; rfl
    have e2 : divFI (a : Int) (a : Int) = (0 : Int) := by unfold divFI; rw [Int.toNat_natCast, s1]; rfl
    have e3 : divBI (a : Int) (4607182418800017408 : Int) = (a : Int) := by unfold divBI; rw [Int.toNat_natCast, show (4607182418800017408 : Int).toNat = 4607182418800017408 from rfl, s2]
    have e4 : divFI (a : Int) (4607182418800017408 : Int) = (0 : Int) := by unfold divFI; rw [Int.toNat_natCast, show (4607182418800017408 : Int).toNat = 4607182418800017408 from rfl, s2]; rfl
    have e5 : mulBI (a : Int) (4607182418800017408 : Int) = (a : Int) := by unfold mulBI; rw [Int.toNat_natCast, show (4607182418800017408 : Int).toNat = 4607182418800017408 from rfl, s3]
    have e6 : mulFI (a : Int) (4607182418800017408 : Int) = (0 : Int) := by unfold mulFI; rw [Int.toNat_natCast, show (4607182418800017408 : Int).toNat = 4607182418800017408 from rfl, s3]; rfl
    rw [c, Bool.or_true, e1, e2, e3, e4, e5, e6]
    simp only [BEq.rfl, cond_true, cond_false, Bool.and_self]
    rfl

theorem law06.TimesPowers.known : Known Try.prog 12 law06.TimesPowers.spec := law06.TimesPowers.known_of (.cons times.Div.known (.cons law06.awake.known (.cons times.Mul.known (.cons ref04.Power.known (.cons law06.power.known (.cons ref04.Frac.known .nil)))))) fun a n hp => by
  obtain ⟨ha, hi⟩ := and_true_iff.1 hp
  obtain ⟨a, rfl, hn⟩ := inU64_nat ha
  refine ⟨0, law06.TimesPowers.out [.i a, .i n], [], ?_, .bool⟩
  have ep : powI (a : Int) = (powN a : Int) := rfl
  rw [law06.TimesPowers.ev, natI_nat, ep, ltI_eq, ltI_eq, Bool.or_true, cond_true, cond_true]
  by_cases h : powN a < 700 ∨ 1300 < powN a
  · have c : (decide ((powN a : Int) < 700) || decide ((1300 : Int) < (powN a : Int))) = true := by simp; omega
    rw [c]; rfl
  · have c : (decide ((powN a : Int) < 700) || decide ((1300 : Int) < (powN a : Int))) = false := by simp; omega
    obtain ⟨k, hk⟩ : ∃ k : Nat, n % 18446744073709551616 % 601 = k := ⟨(n % 18446744073709551616 % 601).toNat, by omega⟩
    have hp : powerI n = (((723 + k) * 4503599627370496 : Nat) : Int) := by unfold powerI; rw [hk]; omega
    obtain ⟨q1, q2, q3⟩ := pow_back (a := a) (p := (723 + k) * 4503599627370496) (k := k) hn (by omega) (by omega) (by omega) rfl
    have hpl : (723 + k) * 4503599627370496 < 2 ^ 64 := by omega
    generalize (723 + k) * 4503599627370496 = p at *
    have e1 : mulBI (a : Int) (p : Int) = (((mulN a p).1 : Nat) : Int) := rfl
    have e2 : mulFI (a : Int) (p : Int) = (((mulN a p).2 : Nat) : Int) := rfl
    have e3 : divBI (((mulN a p).1 : Nat) : Int) (p : Int) = (a : Int) := by unfold divBI; rw [Int.toNat_natCast, Int.toNat_natCast, q2]
    have e4 : divFI (((mulN a p).1 : Nat) : Int) (p : Int) = (0 : Int) := by unfold divFI; rw [Int.toNat_natCast, Int.toNat_natCast, q2]; rfl
    have e5 : fracI (((mulN a p).1 : Nat) : Int) = fracI (a : Int) := by unfold fracI; rw [Int.toNat_natCast, Int.toNat_natCast, q3]
    have hm : (mulN a p).1 < 2 ^ 64 := by
      unfold mulN
      split
      · decide
      · split
        · split
          · decide
          · unfold signN; split <;> decide
        · exact signN_lt _ _ _
    rw [c, hi, hp, e1, e2, e3, e4, e5, q1, ha, inU64_of hpl, inU64_of hm, natI_nat]
    simp only [BEq.rfl, cond_true, cond_false, Bool.and_self, Bool.or_true]
    rfl

end Go.Proofs.S1
