/- Ref6 of the verified evaluator and its use for this seat (of my texts S1EqRef06, S1PRef06). -/
import Derived.Test.YthopmgndjnnpnaaSpe
import Derived.Test.YthopmgndjnnpnaaRefF
import Derived.Test.YthopmgndjnnpnaaRefM
import Derived.Test.YthopmgndjnnpnaaTim

/- The evaluator's equations: dioptraref06.signed, dioptraref06.Mul, dioptraref06.plain, dioptraref06.Quotient, dioptraref06.Div. Printed by denpy.py. -/
namespace Go.Proofs.S1
open Go Go.Den Go.Rnd Go.Proofs
set_option linter.unusedVariables false
set_option maxRecDepth 100000
namespace EqRef06
theorem tt0 (a b : Bool) : (bif a then true else b) = (a || b) := by cases a <;> cases b <;> rfl
theorem tt1 (a : Bool) : ((!(!a)) || (a == false)) = true := by cases a <;> rfl
theorem tt2 (a : Bool) : ((!(a == false)) || ((((!(a == false)) || (a == false)) && true) && true)) = true := by cases a <;> rfl
theorem tt3 (a : Bool) : ((!(a == false)) || true) = true := by cases a <;> rfl
theorem tt4 (a : Bool) : (a && true) = a := by cases a <;> rfl
theorem tt5 (a b c : Bool) : (bif a then (bif b then true else c) else false) = (a && (b || c)) := by cases a <;> cases b <;> cases c <;> rfl
theorem tt6 (a : Bool) : (((!a) || (a == true)) && true) = true := by cases a <;> rfl
theorem tt7 (a b : Bool) : ((!(a == true)) || (((!(a == true)) || (a == true)) && ((!(!b)) || ((a == true) && (b == false))))) = true := by cases a <;> cases b <;> rfl
theorem tt8 (a b : Bool) : ((!((a == true) && (b == false))) || ((((!((a == true) && (b == false))) || ((a == true) && (b == false))) && true) && true)) = true := by cases a <;> cases b <;> rfl
theorem tt9 (a b : Bool) : ((!((a == true) && (b == false))) || true) = true := by cases a <;> cases b <;> rfl
theorem tt10 (a : Bool) : ((!(a == true)) || ((((!(a == true)) || (a == true)) && true) && true)) = true := by cases a <;> rfl
theorem tt11 (a : Bool) : ((!(a == true)) || true) = true := by cases a <;> rfl
noncomputable def ref06.signed.tab : List (Nat × Entry) := [(54, ref04.Minus.spec)]
noncomputable def ref06.signed.E : Env := envOf (tabOf ref06.signed.tab) (fun _ => false) (fun _ => none) (fun _ => none)
theorem ref06.signed.ev (N : Nat) (b : Int) (n : Bool) : funD ref06.signed.E N Try.f67 (bodyOf Try.f67) [.int .u64 b, .bool n] =
  bif n then
    bif (inU64 b) then
      some (.int .u64 (minusI b))
    else none
  else some (.int .u64 b) := by kernel_rfl
theorem ref06.signed.known_of (hk : Knowns Try.prog ref06.signed.tab) (h : ∀ (b : Int) (n : Bool), ref06.signed.pre [.i b, .b n] = true → ∃ N dv drops, funD ref06.signed.E N Try.f67 (bodyOf Try.f67) [.int .u64 b, .bool n] = some dv ∧ Wk drops dv (ref06.signed.out [.i b, .b n])) : Known Try.prog 67 ref06.signed.spec := by
  refine ⟨meets_entry (E := ref06.signed.E) (env_ok hk _ _ _) Try.func67 (show Try.f67.body = some (bodyOf Try.f67) by kernel_rfl) fun ats dvs he hp => ?_, call_enter Try.func67 (by kernel_rfl) (show Try.f67.body = some (bodyOf Try.f67) by kernel_rfl)⟩
  obtain ⟨b, _, _, rfl, rfl, he0⟩ := he.i_inv
  obtain ⟨n, _, _, rfl, rfl, he1⟩ := he0.b_inv
  obtain ⟨rfl, rfl⟩ := he1.nil_inv
  exact h b n hp

noncomputable def ref06.Mul.tab : List (Nat × Entry) := [(22, ref04.Neg.spec), (23, ref04.Value.spec), (41, ref04.Kind.spec), (52, ref04.Round.spec), (67, ref06.signed.spec), (75, ref02.Mul.spec)]
noncomputable def ref06.Mul.E : Env := envOf (tabOf ref06.Mul.tab) (fun _ => false) (fun _ => none) (fun _ => none)
theorem ref06.Mul.ev (N : Nat) (a : Int) (b : Int) : funD ref06.Mul.E N Try.f42 (bodyOf Try.f42) [.int .u64 a, .int .u64 b] =
  bif (natI a) then
    bif (natI b) then
      bif (inU64 a) then
        bif (inU64 b) then
          bif (((kindI a) == (4 : Int)) || ((kindI b) == (4 : Int))) then
            some (.tup [.int .u64 (9221120237041090560 : Int), .int .u8 (0 : Int)])
          else bif (((kindI a) == (3 : Int)) || ((kindI b) == (3 : Int))) then
            bif (((kindI a) == (0 : Int)) || ((kindI b) == (0 : Int))) then
              some (.tup [.int .u64 (9221120237041090560 : Int), .int .u8 (16 : Int)])
            else bif (inU64 (9218868437227405312 : Int)) then
              some (.tup [.int .u64 (signI (!((negI a) == (negI b))) (9218868437227405312 : Int)), .int .u8 (0 : Int)])
            else none
          else bif (((kindI a) == (0 : Int)) || ((kindI b) == (0 : Int))) then
            bif (inU64 (0 : Int)) then
              some (.tup [.int .u64 (signI (!((negI a) == (negI b))) (0 : Int)), .int .u8 (0 : Int)])
            else none
          else bif (inU64 a) then
            bif (inU64 b) then
              bif ((okM (negW (mD (valI a))) (limbsI (mD (valI a))) && okM (negW (mD (valI b))) (limbsI (mD (valI b)))) && (okE (eD (valI a) (partEI a)) && okE (eD (valI b) (partEI b)))) then
                bif (okW (negW (mD (wv (negW (mD (valI a))) (limbsI (mD (valI a))) * wv (negW (mD (valI b))) (limbsI (mD (valI b)))))) (limbsI (mD (wv (negW (mD (valI a))) (limbsI (mD (valI a))) * wv (negW (mD (valI b))) (limbsI (mD (valI b)))))) && okRnd (wv (negW (mD (wv (negW (mD (valI a))) (limbsI (mD (valI a))) * wv (negW (mD (valI b))) (limbsI (mD (valI b)))))) (limbsI (mD (wv (negW (mD (valI a))) (limbsI (mD (valI a))) * wv (negW (mD (valI b))) (limbsI (mD (valI b))))))) (eD (wv (negW (mD (valI a))) (limbsI (mD (valI a))) * wv (negW (mD (valI b))) (limbsI (mD (valI b)))) ((eD (valI a) (partEI a)) + (eD (valI b) (partEI b))))) then
                  some (.tup [.int .u64 (roundBI (wv (negW (mD (wv (negW (mD (valI a))) (limbsI (mD (valI a))) * wv (negW (mD (valI b))) (limbsI (mD (valI b)))))) (limbsI (mD (wv (negW (mD (valI a))) (limbsI (mD (valI a))) * wv (negW (mD (valI b))) (limbsI (mD (valI b))))))) (eD (wv (negW (mD (valI a))) (limbsI (mD (valI a))) * wv (negW (mD (valI b))) (limbsI (mD (valI b)))) ((eD (valI a) (partEI a)) + (eD (valI b) (partEI b))))), .int .u8 (roundFI (wv (negW (mD (wv (negW (mD (valI a))) (limbsI (mD (valI a))) * wv (negW (mD (valI b))) (limbsI (mD (valI b)))))) (limbsI (mD (wv (negW (mD (valI a))) (limbsI (mD (valI a))) * wv (negW (mD (valI b))) (limbsI (mD (valI b))))))) (eD (wv (negW (mD (valI a))) (limbsI (mD (valI a))) * wv (negW (mD (valI b))) (limbsI (mD (valI b)))) ((eD (valI a) (partEI a)) + (eD (valI b) (partEI b)))))])
                else none
              else none
            else none
          else none
        else none
      else none
    else none
  else none :=
  Eq.trans (b := bif (natI a) then
    bif (natI b) then
      bif (inU64 a) then
        bif (inU64 b) then
          bif ((!(((kindI a) == (4 : Int)) == false)) || true) then
            bif ((!(((kindI a) == (4 : Int)) == false)) || ((((!(((kindI a) == (4 : Int)) == false)) || (((kindI a) == (4 : Int)) == false)) && true) && true)) then
              bif ((!(!((kindI a) == (4 : Int)))) || (((kindI a) == (4 : Int)) == false)) then
                bif (bif ((kindI a) == (4 : Int)) then true else ((kindI b) == (4 : Int))) then
                  some (.tup [.int .u64 (9221120237041090560 : Int), .int .u8 (0 : Int)])
                else bif ((!(((kindI a) == (3 : Int)) == false)) || true) then
                  bif ((!(((kindI a) == (3 : Int)) == false)) || ((((!(((kindI a) == (3 : Int)) == false)) || (((kindI a) == (3 : Int)) == false)) && true) && true)) then
                    bif ((!(!((kindI a) == (3 : Int)))) || (((kindI a) == (3 : Int)) == false)) then
                      bif (bif ((kindI a) == (3 : Int)) then true else ((kindI b) == (3 : Int))) then
                        bif ((!(((kindI a) == (0 : Int)) == false)) || true) then
                          bif ((!(((kindI a) == (0 : Int)) == false)) || ((((!(((kindI a) == (0 : Int)) == false)) || (((kindI a) == (0 : Int)) == false)) && true) && true)) then
                            bif ((!(!((kindI a) == (0 : Int)))) || (((kindI a) == (0 : Int)) == false)) then
                              bif (bif ((kindI a) == (0 : Int)) then true else ((kindI b) == (0 : Int))) then
                                some (.tup [.int .u64 (9221120237041090560 : Int), .int .u8 (16 : Int)])
                              else bif (inU64 (9218868437227405312 : Int)) then
                                some (.tup [.int .u64 (signI (!((negI a) == (negI b))) (9218868437227405312 : Int)), .int .u8 (0 : Int)])
                              else none
                            else none
                          else none
                        else none
                      else bif ((!(((kindI a) == (0 : Int)) == false)) || true) then
                        bif ((!(((kindI a) == (0 : Int)) == false)) || ((((!(((kindI a) == (0 : Int)) == false)) || (((kindI a) == (0 : Int)) == false)) && true) && true)) then
                          bif ((!(!((kindI a) == (0 : Int)))) || (((kindI a) == (0 : Int)) == false)) then
                            bif (bif ((kindI a) == (0 : Int)) then true else ((kindI b) == (0 : Int))) then
                              bif (inU64 (0 : Int)) then
                                some (.tup [.int .u64 (signI (!((negI a) == (negI b))) (0 : Int)), .int .u8 (0 : Int)])
                              else none
                            else bif (inU64 a) then
                              bif (inU64 b) then
                                bif ((okM (negW (mD (valI a))) (limbsI (mD (valI a))) && okM (negW (mD (valI b))) (limbsI (mD (valI b)))) && (okE (eD (valI a) (partEI a)) && okE (eD (valI b) (partEI b)))) then
                                  bif (okW (negW (mD (wv (negW (mD (valI a))) (limbsI (mD (valI a))) * wv (negW (mD (valI b))) (limbsI (mD (valI b)))))) (limbsI (mD (wv (negW (mD (valI a))) (limbsI (mD (valI a))) * wv (negW (mD (valI b))) (limbsI (mD (valI b)))))) && okRnd (wv (negW (mD (wv (negW (mD (valI a))) (limbsI (mD (valI a))) * wv (negW (mD (valI b))) (limbsI (mD (valI b)))))) (limbsI (mD (wv (negW (mD (valI a))) (limbsI (mD (valI a))) * wv (negW (mD (valI b))) (limbsI (mD (valI b))))))) (eD (wv (negW (mD (valI a))) (limbsI (mD (valI a))) * wv (negW (mD (valI b))) (limbsI (mD (valI b)))) ((eD (valI a) (partEI a)) + (eD (valI b) (partEI b))))) then
                                    some (.tup [.int .u64 (roundBI (wv (negW (mD (wv (negW (mD (valI a))) (limbsI (mD (valI a))) * wv (negW (mD (valI b))) (limbsI (mD (valI b)))))) (limbsI (mD (wv (negW (mD (valI a))) (limbsI (mD (valI a))) * wv (negW (mD (valI b))) (limbsI (mD (valI b))))))) (eD (wv (negW (mD (valI a))) (limbsI (mD (valI a))) * wv (negW (mD (valI b))) (limbsI (mD (valI b)))) ((eD (valI a) (partEI a)) + (eD (valI b) (partEI b))))), .int .u8 (roundFI (wv (negW (mD (wv (negW (mD (valI a))) (limbsI (mD (valI a))) * wv (negW (mD (valI b))) (limbsI (mD (valI b)))))) (limbsI (mD (wv (negW (mD (valI a))) (limbsI (mD (valI a))) * wv (negW (mD (valI b))) (limbsI (mD (valI b))))))) (eD (wv (negW (mD (valI a))) (limbsI (mD (valI a))) * wv (negW (mD (valI b))) (limbsI (mD (valI b)))) ((eD (valI a) (partEI a)) + (eD (valI b) (partEI b)))))])
                                  else none
                                else none
                              else none
                            else none
                          else none
                        else none
                      else none
                    else none
                  else none
                else none
              else none
            else none
          else none
        else none
      else none
    else none
  else none) (by kernel_rfl)
  (ifE (ifE (ifE (ifE (ifT (tt3 _) (ifT (tt2 _) (ifT (tt1 _) (ifS (tt0 _ _) rfl (ifT (tt3 _) (ifT (tt2 _) (ifT (tt1 _) (ifS (tt0 _ _) (ifT (tt3 _) (ifT (tt2 _) (ifT (tt1 _) (ifS (tt0 _ _) rfl rfl)))) (ifT (tt3 _) (ifT (tt2 _) (ifT (tt1 _) (ifS (tt0 _ _) rfl rfl)))))))))))) rfl) rfl) rfl) rfl)
theorem ref06.Mul.known_of (hk : Knowns Try.prog ref06.Mul.tab) (h : ∀ (a : Int) (b : Int), ref06.Mul.pre [.i a, .i b] = true → ∃ N dv drops, funD ref06.Mul.E N Try.f42 (bodyOf Try.f42) [.int .u64 a, .int .u64 b] = some dv ∧ Wk drops dv (ref06.Mul.out [.i a, .i b])) : Known Try.prog 42 ref06.Mul.spec := by
  refine ⟨meets_entry (E := ref06.Mul.E) (env_ok hk _ _ _) Try.func42 (show Try.f42.body = some (bodyOf Try.f42) by kernel_rfl) fun ats dvs he hp => ?_, call_enter Try.func42 (by kernel_rfl) (show Try.f42.body = some (bodyOf Try.f42) by kernel_rfl)⟩
  obtain ⟨a, _, _, rfl, rfl, he0⟩ := he.i_inv
  obtain ⟨b, _, _, rfl, rfl, he1⟩ := he0.i_inv
  obtain ⟨rfl, rfl⟩ := he1.nil_inv
  exact h a b hp

noncomputable def ref06.plain.tab : List (Nat × Entry) := [(73, ref01.Made.spec)]
noncomputable def ref06.plain.E : Env := envOf (tabOf ref06.plain.tab) (fun _ => false) (fun _ => none) (fun _ => none)
theorem ref06.plain.ev (N : Nat) (n : Bool) (a : List Int) : funD ref06.plain.E N Try.f70 (bodyOf Try.f70) [.agg [.bool n, .ints .arg .u32 a]] =
  bif (okL a) then
    some (.agg [.bool (negW (wv false a)), .ints .arg .u32 (limbsI (wv false a))])
  else none := by kernel_rfl
theorem ref06.plain.known_of (hk : Knowns Try.prog ref06.plain.tab) (h : ∀ (n : Bool) (a : List Int), ref06.plain.pre [.b n, .l a] = true → ∃ N dv drops, funD ref06.plain.E N Try.f70 (bodyOf Try.f70) [.agg [.bool n, .ints .arg .u32 a]] = some dv ∧ Wk drops dv (ref06.plain.out [.b n, .l a])) : Known Try.prog 70 ref06.plain.spec := by
  refine ⟨meets_entry (E := ref06.plain.E) (env_ok hk _ _ _) Try.func70 (show Try.f70.body = some (bodyOf Try.f70) by kernel_rfl) fun ats dvs he hp => ?_, call_enter Try.func70 (by kernel_rfl) (show Try.f70.body = some (bodyOf Try.f70) by kernel_rfl)⟩
  obtain ⟨_, _, _, _, rfl, rfl, hs0, he0⟩ := he.st_inv
  obtain ⟨n, _, _, rfl, rfl, he1⟩ := hs0.b_inv
  obtain ⟨a, _, _, rfl, rfl, he2⟩ := he1.s_inv
  obtain ⟨rfl, rfl⟩ := he2.nil_inv
  obtain ⟨rfl, rfl⟩ := he0.nil_inv
  exact h n a hp

def ref06.Quotient.hint : Nat → Option LoopHint
  | 0 => some { keep := [2, 3, 4, 5, 6, 7, 8], objs := [], boxes := [2, 3, 4, 5, 6, 7] }
  | _ => none
noncomputable def ref06.Quotient.tab : List (Nat × Entry) := [(55, ref01.Of.spec), (69, ref01.Shift.spec), (71, ref01.Double.spec), (72, ref01.Add.spec), (85, ref01.Odd.spec), (87, ref01.Len.spec), (89, ref01.Compare.spec), (90, ref01.Sub.spec)]
noncomputable def ref06.Quotient.E : Env := envOf (tabOf ref06.Quotient.tab) (fun _ => false) ref06.Quotient.hint (fun _ => none)
noncomputable def ref06.Quotient.L0 (N M : Nat) (n : Bool) (a : List Int) (m : Bool) (b : List Int) : Option DV := loopAt ref06.Quotient.E N Try.f68 (bodyOf Try.f68) [1, 1, 1, 0, 1, 0] [] M ⟨mkT 42 [(2, .ptr 2 0 0), (3, .ptr 3 0 0), (4, .ptr 4 0 0), (5, .ptr 5 0 0), (6, .ptr 6 0 0), (7, .ptr 7 0 0), (8, .int .i64 (w_i64 ((lenI (wv n a)) - (1 : Int))))], [(2, false, .box [.bool n, .ints .arg .u32 a]), (3, false, .box [.bool m, .ints .arg .u32 b]), (4, false, .box [.bool false, .nil]), (5, false, .box [.bool false, .nil]), (6, false, .box [.bool false, .nil]), (7, false, .box [.bool false, .nil])]⟩
noncomputable def ref06.Quotient.L1 (N M : Nat) (n : Bool) (a : List Int) (m : Bool) (b : List Int) (p6 : Bool) (p6_1 : List Int) (p7 : Bool) (p7_1 : List Int) (p8 : Int) : Option DV := loopAt ref06.Quotient.E N Try.f68 (bodyOf Try.f68) [1, 1, 1, 0, 1, 0] [] M ⟨mkT 42 [(2, .ptr 2 0 0), (3, .ptr 3 0 0), (4, .ptr 4 0 0), (5, .ptr 5 0 0), (6, .ptr 6 0 0), (7, .ptr 7 0 0), (8, .int .i64 p8)], [(2, false, .box [.bool n, .ints .arg .u32 a]), (3, false, .box [.bool m, .ints .arg .u32 b]), (4, false, .box [.bool false, .nil]), (5, false, .box [.bool false, .nil]), (6, false, .box [.bool p6, .ints .arg .u32 p6_1]), (7, false, .box [.bool p7, .ints .arg .u32 p7_1])]⟩
theorem ref06.Quotient.L0_step (N M : Nat) (n : Bool) (a : List Int) (m : Bool) (b : List Int) : ref06.Quotient.L0 N (M + 1) n a m b =
  bif (leI (0 : Int) (w_i64 ((lenI (wv n a)) - (1 : Int)))) then
    bif (okW false []) then
      bif (okV n a && okSh (w_i64 ((0 : Int) - (w_i64 ((lenI (wv n a)) - (1 : Int)))))) then
        bif (okW (negW (shW (wv n a) (w_i64 ((0 : Int) - (w_i64 ((lenI (wv n a)) - (1 : Int))))))) (limbsI (shW (wv n a) (w_i64 ((0 : Int) - (w_i64 ((lenI (wv n a)) - (1 : Int)))))))) then
          bif (oddB (wv (negW (shW (wv n a) (w_i64 ((0 : Int) - (w_i64 ((lenI (wv n a)) - (1 : Int))))))) (limbsI (shW (wv n a) (w_i64 ((0 : Int) - (w_i64 ((lenI (wv n a)) - (1 : Int))))))))) then
            bif (inI64 (1 : Int)) then
              bif (okW (negW (2 * wv false [])) (limbsI (2 * wv false [])) && okW (negW ((1 : Int))) (limbsI ((1 : Int)))) then
                bif (okW false []) then
                  bif (okW (negW (wv (negW (2 * wv false [])) (limbsI (2 * wv false [])) + wv (negW ((1 : Int))) (limbsI ((1 : Int))))) (limbsI (wv (negW (2 * wv false [])) (limbsI (2 * wv false [])) + wv (negW ((1 : Int))) (limbsI ((1 : Int))))) && okW m b) then
                    bif (leI (0 : Int) (cmpZ (wv (negW (wv (negW (2 * wv false [])) (limbsI (2 * wv false [])) + wv (negW ((1 : Int))) (limbsI ((1 : Int))))) (limbsI (wv (negW (2 * wv false [])) (limbsI (2 * wv false [])) + wv (negW ((1 : Int))) (limbsI ((1 : Int)))))) (wv m b))) then
                      bif (okW (negW (wv (negW (2 * wv false [])) (limbsI (2 * wv false [])) + wv (negW ((1 : Int))) (limbsI ((1 : Int))))) (limbsI (wv (negW (2 * wv false [])) (limbsI (2 * wv false [])) + wv (negW ((1 : Int))) (limbsI ((1 : Int))))) && okW m b) then
                        bif (inI64 (1 : Int)) then
                          bif (okW (negW (2 * wv false [])) (limbsI (2 * wv false [])) && okW (negW ((1 : Int))) (limbsI ((1 : Int)))) then
                            ref06.Quotient.L1 N M n a m b (negW (wv (negW (2 * wv false [])) (limbsI (2 * wv false [])) + wv (negW ((1 : Int))) (limbsI ((1 : Int))))) (limbsI (wv (negW (2 * wv false [])) (limbsI (2 * wv false [])) + wv (negW ((1 : Int))) (limbsI ((1 : Int))))) (negW (wv (negW (wv (negW (2 * wv false [])) (limbsI (2 * wv false [])) + wv (negW ((1 : Int))) (limbsI ((1 : Int))))) (limbsI (wv (negW (2 * wv false [])) (limbsI (2 * wv false [])) + wv (negW ((1 : Int))) (limbsI ((1 : Int))))) - wv m b)) (limbsI (wv (negW (wv (negW (2 * wv false [])) (limbsI (2 * wv false [])) + wv (negW ((1 : Int))) (limbsI ((1 : Int))))) (limbsI (wv (negW (2 * wv false [])) (limbsI (2 * wv false [])) + wv (negW ((1 : Int))) (limbsI ((1 : Int))))) - wv m b)) (w_i64 ((w_i64 ((lenI (wv n a)) - (1 : Int))) - (1 : Int)))
                          else none
                        else none
                      else none
                    else ref06.Quotient.L1 N M n a m b (negW (2 * wv false [])) (limbsI (2 * wv false [])) (negW (wv (negW (2 * wv false [])) (limbsI (2 * wv false [])) + wv (negW ((1 : Int))) (limbsI ((1 : Int))))) (limbsI (wv (negW (2 * wv false [])) (limbsI (2 * wv false [])) + wv (negW ((1 : Int))) (limbsI ((1 : Int))))) (w_i64 ((w_i64 ((lenI (wv n a)) - (1 : Int))) - (1 : Int)))
                  else none
                else none
              else none
            else none
          else bif (okW false []) then
            bif (okW (negW (2 * wv false [])) (limbsI (2 * wv false [])) && okW m b) then
              bif (leI (0 : Int) (cmpZ (wv (negW (2 * wv false [])) (limbsI (2 * wv false []))) (wv m b))) then
                bif (okW (negW (2 * wv false [])) (limbsI (2 * wv false [])) && okW m b) then
                  bif (inI64 (1 : Int)) then
                    bif (okW (negW (2 * wv false [])) (limbsI (2 * wv false [])) && okW (negW ((1 : Int))) (limbsI ((1 : Int)))) then
                      ref06.Quotient.L1 N M n a m b (negW (wv (negW (2 * wv false [])) (limbsI (2 * wv false [])) + wv (negW ((1 : Int))) (limbsI ((1 : Int))))) (limbsI (wv (negW (2 * wv false [])) (limbsI (2 * wv false [])) + wv (negW ((1 : Int))) (limbsI ((1 : Int))))) (negW (wv (negW (2 * wv false [])) (limbsI (2 * wv false [])) - wv m b)) (limbsI (wv (negW (2 * wv false [])) (limbsI (2 * wv false [])) - wv m b)) (w_i64 ((w_i64 ((lenI (wv n a)) - (1 : Int))) - (1 : Int)))
                    else none
                  else none
                else none
              else ref06.Quotient.L1 N M n a m b (negW (2 * wv false [])) (limbsI (2 * wv false [])) (negW (2 * wv false [])) (limbsI (2 * wv false [])) (w_i64 ((w_i64 ((lenI (wv n a)) - (1 : Int))) - (1 : Int)))
            else none
          else none
        else none
      else none
    else none
  else some (.tup [.agg [.bool false, .nil], .agg [.bool false, .nil]]) :=
  Eq.trans (b := bif (leI (0 : Int) (w_i64 ((lenI (wv n a)) - (1 : Int)))) then
    bif (okW false []) then
      bif (okV n a && okSh (w_i64 ((0 : Int) - (w_i64 ((lenI (wv n a)) - (1 : Int)))))) then
        bif (okW (negW (shW (wv n a) (w_i64 ((0 : Int) - (w_i64 ((lenI (wv n a)) - (1 : Int))))))) (limbsI (shW (wv n a) (w_i64 ((0 : Int) - (w_i64 ((lenI (wv n a)) - (1 : Int)))))))) then
          bif (oddB (wv (negW (shW (wv n a) (w_i64 ((0 : Int) - (w_i64 ((lenI (wv n a)) - (1 : Int))))))) (limbsI (shW (wv n a) (w_i64 ((0 : Int) - (w_i64 ((lenI (wv n a)) - (1 : Int))))))))) then
            bif ((inI64 (1 : Int)) && true) then
              bif ((okW (negW (2 * wv false [])) (limbsI (2 * wv false [])) && okW (negW ((1 : Int))) (limbsI ((1 : Int)))) && true) then
                bif (okW false []) then
                  bif (okW (negW (wv (negW (2 * wv false [])) (limbsI (2 * wv false [])) + wv (negW ((1 : Int))) (limbsI ((1 : Int))))) (limbsI (wv (negW (2 * wv false [])) (limbsI (2 * wv false [])) + wv (negW ((1 : Int))) (limbsI ((1 : Int))))) && okW m b) then
                    bif (leI (0 : Int) (cmpZ (wv (negW (wv (negW (2 * wv false [])) (limbsI (2 * wv false [])) + wv (negW ((1 : Int))) (limbsI ((1 : Int))))) (limbsI (wv (negW (2 * wv false [])) (limbsI (2 * wv false [])) + wv (negW ((1 : Int))) (limbsI ((1 : Int)))))) (wv m b))) then
                      bif (okW (negW (wv (negW (2 * wv false [])) (limbsI (2 * wv false [])) + wv (negW ((1 : Int))) (limbsI ((1 : Int))))) (limbsI (wv (negW (2 * wv false [])) (limbsI (2 * wv false [])) + wv (negW ((1 : Int))) (limbsI ((1 : Int))))) && okW m b) then
                        bif ((inI64 (1 : Int)) && true) then
                          bif ((okW (negW (2 * wv false [])) (limbsI (2 * wv false [])) && okW (negW ((1 : Int))) (limbsI ((1 : Int)))) && true) then
                            ref06.Quotient.L1 N M n a m b (negW (wv (negW (2 * wv false [])) (limbsI (2 * wv false [])) + wv (negW ((1 : Int))) (limbsI ((1 : Int))))) (limbsI (wv (negW (2 * wv false [])) (limbsI (2 * wv false [])) + wv (negW ((1 : Int))) (limbsI ((1 : Int))))) (negW (wv (negW (wv (negW (2 * wv false [])) (limbsI (2 * wv false [])) + wv (negW ((1 : Int))) (limbsI ((1 : Int))))) (limbsI (wv (negW (2 * wv false [])) (limbsI (2 * wv false [])) + wv (negW ((1 : Int))) (limbsI ((1 : Int))))) - wv m b)) (limbsI (wv (negW (wv (negW (2 * wv false [])) (limbsI (2 * wv false [])) + wv (negW ((1 : Int))) (limbsI ((1 : Int))))) (limbsI (wv (negW (2 * wv false [])) (limbsI (2 * wv false [])) + wv (negW ((1 : Int))) (limbsI ((1 : Int))))) - wv m b)) (w_i64 ((w_i64 ((lenI (wv n a)) - (1 : Int))) - (1 : Int)))
                          else none
                        else none
                      else none
                    else ref06.Quotient.L1 N M n a m b (negW (2 * wv false [])) (limbsI (2 * wv false [])) (negW (wv (negW (2 * wv false [])) (limbsI (2 * wv false [])) + wv (negW ((1 : Int))) (limbsI ((1 : Int))))) (limbsI (wv (negW (2 * wv false [])) (limbsI (2 * wv false [])) + wv (negW ((1 : Int))) (limbsI ((1 : Int))))) (w_i64 ((w_i64 ((lenI (wv n a)) - (1 : Int))) - (1 : Int)))
                  else none
                else none
              else none
            else none
          else bif (okW false []) then
            bif (okW (negW (2 * wv false [])) (limbsI (2 * wv false [])) && okW m b) then
              bif (leI (0 : Int) (cmpZ (wv (negW (2 * wv false [])) (limbsI (2 * wv false []))) (wv m b))) then
                bif (okW (negW (2 * wv false [])) (limbsI (2 * wv false [])) && okW m b) then
                  bif ((inI64 (1 : Int)) && true) then
                    bif ((okW (negW (2 * wv false [])) (limbsI (2 * wv false [])) && okW (negW ((1 : Int))) (limbsI ((1 : Int)))) && true) then
                      ref06.Quotient.L1 N M n a m b (negW (wv (negW (2 * wv false [])) (limbsI (2 * wv false [])) + wv (negW ((1 : Int))) (limbsI ((1 : Int))))) (limbsI (wv (negW (2 * wv false [])) (limbsI (2 * wv false [])) + wv (negW ((1 : Int))) (limbsI ((1 : Int))))) (negW (wv (negW (2 * wv false [])) (limbsI (2 * wv false [])) - wv m b)) (limbsI (wv (negW (2 * wv false [])) (limbsI (2 * wv false [])) - wv m b)) (w_i64 ((w_i64 ((lenI (wv n a)) - (1 : Int))) - (1 : Int)))
                    else none
                  else none
                else none
              else ref06.Quotient.L1 N M n a m b (negW (2 * wv false [])) (limbsI (2 * wv false [])) (negW (2 * wv false [])) (limbsI (2 * wv false [])) (w_i64 ((w_i64 ((lenI (wv n a)) - (1 : Int))) - (1 : Int)))
            else none
          else none
        else none
      else none
    else none
  else some (.tup [.agg [.bool false, .nil], .agg [.bool false, .nil]])) (by kernel_rfl)
  (ifE (ifE (ifE (ifE (ifE (ifS (tt4 _) (ifS (tt4 _) (ifE (ifE (ifE (ifE (ifS (tt4 _) (ifS (tt4 _) rfl rfl) rfl) rfl) rfl) rfl) rfl) rfl) rfl) (ifE (ifE (ifE (ifE (ifS (tt4 _) (ifS (tt4 _) rfl rfl) rfl) rfl) rfl) rfl) rfl)) rfl) rfl) rfl) rfl)
theorem ref06.Quotient.L1_step (N M : Nat) (n : Bool) (a : List Int) (m : Bool) (b : List Int) (p6 : Bool) (p6_1 : List Int) (p7 : Bool) (p7_1 : List Int) (p8 : Int) : ref06.Quotient.L1 N (M + 1) n a m b p6 p6_1 p7 p7_1 p8 =
  bif (leI (0 : Int) p8) then
    bif (okW p7 p7_1) then
      bif (okV n a && okSh (w_i64 ((0 : Int) - p8))) then
        bif (okW (negW (shW (wv n a) (w_i64 ((0 : Int) - p8)))) (limbsI (shW (wv n a) (w_i64 ((0 : Int) - p8))))) then
          bif (oddB (wv (negW (shW (wv n a) (w_i64 ((0 : Int) - p8)))) (limbsI (shW (wv n a) (w_i64 ((0 : Int) - p8)))))) then
            bif (inI64 (1 : Int)) then
              bif (okW (negW (2 * wv p7 p7_1)) (limbsI (2 * wv p7 p7_1)) && okW (negW ((1 : Int))) (limbsI ((1 : Int)))) then
                bif (okW p6 p6_1) then
                  bif (okW (negW (wv (negW (2 * wv p7 p7_1)) (limbsI (2 * wv p7 p7_1)) + wv (negW ((1 : Int))) (limbsI ((1 : Int))))) (limbsI (wv (negW (2 * wv p7 p7_1)) (limbsI (2 * wv p7 p7_1)) + wv (negW ((1 : Int))) (limbsI ((1 : Int))))) && okW m b) then
                    bif (leI (0 : Int) (cmpZ (wv (negW (wv (negW (2 * wv p7 p7_1)) (limbsI (2 * wv p7 p7_1)) + wv (negW ((1 : Int))) (limbsI ((1 : Int))))) (limbsI (wv (negW (2 * wv p7 p7_1)) (limbsI (2 * wv p7 p7_1)) + wv (negW ((1 : Int))) (limbsI ((1 : Int)))))) (wv m b))) then
                      bif (okW (negW (wv (negW (2 * wv p7 p7_1)) (limbsI (2 * wv p7 p7_1)) + wv (negW ((1 : Int))) (limbsI ((1 : Int))))) (limbsI (wv (negW (2 * wv p7 p7_1)) (limbsI (2 * wv p7 p7_1)) + wv (negW ((1 : Int))) (limbsI ((1 : Int))))) && okW m b) then
                        bif (inI64 (1 : Int)) then
                          bif (okW (negW (2 * wv p6 p6_1)) (limbsI (2 * wv p6 p6_1)) && okW (negW ((1 : Int))) (limbsI ((1 : Int)))) then
                            ref06.Quotient.L1 N M n a m b (negW (wv (negW (2 * wv p6 p6_1)) (limbsI (2 * wv p6 p6_1)) + wv (negW ((1 : Int))) (limbsI ((1 : Int))))) (limbsI (wv (negW (2 * wv p6 p6_1)) (limbsI (2 * wv p6 p6_1)) + wv (negW ((1 : Int))) (limbsI ((1 : Int))))) (negW (wv (negW (wv (negW (2 * wv p7 p7_1)) (limbsI (2 * wv p7 p7_1)) + wv (negW ((1 : Int))) (limbsI ((1 : Int))))) (limbsI (wv (negW (2 * wv p7 p7_1)) (limbsI (2 * wv p7 p7_1)) + wv (negW ((1 : Int))) (limbsI ((1 : Int))))) - wv m b)) (limbsI (wv (negW (wv (negW (2 * wv p7 p7_1)) (limbsI (2 * wv p7 p7_1)) + wv (negW ((1 : Int))) (limbsI ((1 : Int))))) (limbsI (wv (negW (2 * wv p7 p7_1)) (limbsI (2 * wv p7 p7_1)) + wv (negW ((1 : Int))) (limbsI ((1 : Int))))) - wv m b)) (w_i64 (p8 - (1 : Int)))
                          else none
                        else none
                      else none
                    else ref06.Quotient.L1 N M n a m b (negW (2 * wv p6 p6_1)) (limbsI (2 * wv p6 p6_1)) (negW (wv (negW (2 * wv p7 p7_1)) (limbsI (2 * wv p7 p7_1)) + wv (negW ((1 : Int))) (limbsI ((1 : Int))))) (limbsI (wv (negW (2 * wv p7 p7_1)) (limbsI (2 * wv p7 p7_1)) + wv (negW ((1 : Int))) (limbsI ((1 : Int))))) (w_i64 (p8 - (1 : Int)))
                  else none
                else none
              else none
            else none
          else bif (okW p6 p6_1) then
            bif (okW (negW (2 * wv p7 p7_1)) (limbsI (2 * wv p7 p7_1)) && okW m b) then
              bif (leI (0 : Int) (cmpZ (wv (negW (2 * wv p7 p7_1)) (limbsI (2 * wv p7 p7_1))) (wv m b))) then
                bif (okW (negW (2 * wv p7 p7_1)) (limbsI (2 * wv p7 p7_1)) && okW m b) then
                  bif (inI64 (1 : Int)) then
                    bif (okW (negW (2 * wv p6 p6_1)) (limbsI (2 * wv p6 p6_1)) && okW (negW ((1 : Int))) (limbsI ((1 : Int)))) then
                      ref06.Quotient.L1 N M n a m b (negW (wv (negW (2 * wv p6 p6_1)) (limbsI (2 * wv p6 p6_1)) + wv (negW ((1 : Int))) (limbsI ((1 : Int))))) (limbsI (wv (negW (2 * wv p6 p6_1)) (limbsI (2 * wv p6 p6_1)) + wv (negW ((1 : Int))) (limbsI ((1 : Int))))) (negW (wv (negW (2 * wv p7 p7_1)) (limbsI (2 * wv p7 p7_1)) - wv m b)) (limbsI (wv (negW (2 * wv p7 p7_1)) (limbsI (2 * wv p7 p7_1)) - wv m b)) (w_i64 (p8 - (1 : Int)))
                    else none
                  else none
                else none
              else ref06.Quotient.L1 N M n a m b (negW (2 * wv p6 p6_1)) (limbsI (2 * wv p6 p6_1)) (negW (2 * wv p7 p7_1)) (limbsI (2 * wv p7 p7_1)) (w_i64 (p8 - (1 : Int)))
            else none
          else none
        else none
      else none
    else none
  else some (.tup [.agg [.bool p6, .ints .arg .u32 p6_1], .agg [.bool p7, .ints .arg .u32 p7_1]]) :=
  Eq.trans (b := bif (leI (0 : Int) p8) then
    bif (okW p7 p7_1) then
      bif (okV n a && okSh (w_i64 ((0 : Int) - p8))) then
        bif (okW (negW (shW (wv n a) (w_i64 ((0 : Int) - p8)))) (limbsI (shW (wv n a) (w_i64 ((0 : Int) - p8))))) then
          bif (oddB (wv (negW (shW (wv n a) (w_i64 ((0 : Int) - p8)))) (limbsI (shW (wv n a) (w_i64 ((0 : Int) - p8)))))) then
            bif ((inI64 (1 : Int)) && true) then
              bif ((okW (negW (2 * wv p7 p7_1)) (limbsI (2 * wv p7 p7_1)) && okW (negW ((1 : Int))) (limbsI ((1 : Int)))) && true) then
                bif (okW p6 p6_1) then
                  bif (okW (negW (wv (negW (2 * wv p7 p7_1)) (limbsI (2 * wv p7 p7_1)) + wv (negW ((1 : Int))) (limbsI ((1 : Int))))) (limbsI (wv (negW (2 * wv p7 p7_1)) (limbsI (2 * wv p7 p7_1)) + wv (negW ((1 : Int))) (limbsI ((1 : Int))))) && okW m b) then
                    bif (leI (0 : Int) (cmpZ (wv (negW (wv (negW (2 * wv p7 p7_1)) (limbsI (2 * wv p7 p7_1)) + wv (negW ((1 : Int))) (limbsI ((1 : Int))))) (limbsI (wv (negW (2 * wv p7 p7_1)) (limbsI (2 * wv p7 p7_1)) + wv (negW ((1 : Int))) (limbsI ((1 : Int)))))) (wv m b))) then
                      bif (okW (negW (wv (negW (2 * wv p7 p7_1)) (limbsI (2 * wv p7 p7_1)) + wv (negW ((1 : Int))) (limbsI ((1 : Int))))) (limbsI (wv (negW (2 * wv p7 p7_1)) (limbsI (2 * wv p7 p7_1)) + wv (negW ((1 : Int))) (limbsI ((1 : Int))))) && okW m b) then
                        bif ((inI64 (1 : Int)) && true) then
                          bif ((okW (negW (2 * wv p6 p6_1)) (limbsI (2 * wv p6 p6_1)) && okW (negW ((1 : Int))) (limbsI ((1 : Int)))) && true) then
                            ref06.Quotient.L1 N M n a m b (negW (wv (negW (2 * wv p6 p6_1)) (limbsI (2 * wv p6 p6_1)) + wv (negW ((1 : Int))) (limbsI ((1 : Int))))) (limbsI (wv (negW (2 * wv p6 p6_1)) (limbsI (2 * wv p6 p6_1)) + wv (negW ((1 : Int))) (limbsI ((1 : Int))))) (negW (wv (negW (wv (negW (2 * wv p7 p7_1)) (limbsI (2 * wv p7 p7_1)) + wv (negW ((1 : Int))) (limbsI ((1 : Int))))) (limbsI (wv (negW (2 * wv p7 p7_1)) (limbsI (2 * wv p7 p7_1)) + wv (negW ((1 : Int))) (limbsI ((1 : Int))))) - wv m b)) (limbsI (wv (negW (wv (negW (2 * wv p7 p7_1)) (limbsI (2 * wv p7 p7_1)) + wv (negW ((1 : Int))) (limbsI ((1 : Int))))) (limbsI (wv (negW (2 * wv p7 p7_1)) (limbsI (2 * wv p7 p7_1)) + wv (negW ((1 : Int))) (limbsI ((1 : Int))))) - wv m b)) (w_i64 (p8 - (1 : Int)))
                          else none
                        else none
                      else none
                    else ref06.Quotient.L1 N M n a m b (negW (2 * wv p6 p6_1)) (limbsI (2 * wv p6 p6_1)) (negW (wv (negW (2 * wv p7 p7_1)) (limbsI (2 * wv p7 p7_1)) + wv (negW ((1 : Int))) (limbsI ((1 : Int))))) (limbsI (wv (negW (2 * wv p7 p7_1)) (limbsI (2 * wv p7 p7_1)) + wv (negW ((1 : Int))) (limbsI ((1 : Int))))) (w_i64 (p8 - (1 : Int)))
                  else none
                else none
              else none
            else none
          else bif (okW p6 p6_1) then
            bif (okW (negW (2 * wv p7 p7_1)) (limbsI (2 * wv p7 p7_1)) && okW m b) then
              bif (leI (0 : Int) (cmpZ (wv (negW (2 * wv p7 p7_1)) (limbsI (2 * wv p7 p7_1))) (wv m b))) then
                bif (okW (negW (2 * wv p7 p7_1)) (limbsI (2 * wv p7 p7_1)) && okW m b) then
                  bif ((inI64 (1 : Int)) && true) then
                    bif ((okW (negW (2 * wv p6 p6_1)) (limbsI (2 * wv p6 p6_1)) && okW (negW ((1 : Int))) (limbsI ((1 : Int)))) && true) then
                      ref06.Quotient.L1 N M n a m b (negW (wv (negW (2 * wv p6 p6_1)) (limbsI (2 * wv p6 p6_1)) + wv (negW ((1 : Int))) (limbsI ((1 : Int))))) (limbsI (wv (negW (2 * wv p6 p6_1)) (limbsI (2 * wv p6 p6_1)) + wv (negW ((1 : Int))) (limbsI ((1 : Int))))) (negW (wv (negW (2 * wv p7 p7_1)) (limbsI (2 * wv p7 p7_1)) - wv m b)) (limbsI (wv (negW (2 * wv p7 p7_1)) (limbsI (2 * wv p7 p7_1)) - wv m b)) (w_i64 (p8 - (1 : Int)))
                    else none
                  else none
                else none
              else ref06.Quotient.L1 N M n a m b (negW (2 * wv p6 p6_1)) (limbsI (2 * wv p6 p6_1)) (negW (2 * wv p7 p7_1)) (limbsI (2 * wv p7 p7_1)) (w_i64 (p8 - (1 : Int)))
            else none
          else none
        else none
      else none
    else none
  else some (.tup [.agg [.bool p6, .ints .arg .u32 p6_1], .agg [.bool p7, .ints .arg .u32 p7_1]])) (by kernel_rfl)
  (ifE (ifE (ifE (ifE (ifE (ifS (tt4 _) (ifS (tt4 _) (ifE (ifE (ifE (ifE (ifS (tt4 _) (ifS (tt4 _) rfl rfl) rfl) rfl) rfl) rfl) rfl) rfl) rfl) (ifE (ifE (ifE (ifE (ifS (tt4 _) (ifS (tt4 _) rfl rfl) rfl) rfl) rfl) rfl) rfl)) rfl) rfl) rfl) rfl)
theorem ref06.Quotient.ev (N : Nat) (n : Bool) (a : List Int) (m : Bool) (b : List Int) : funD ref06.Quotient.E N Try.f68 (bodyOf Try.f68) [.agg [.bool n, .ints .arg .u32 a], .agg [.bool m, .ints .arg .u32 b]] =
  bif (okW n a) then
    ref06.Quotient.L0 N N n a m b
  else none := by kernel_rfl
theorem ref06.Quotient.known_of (hk : Knowns Try.prog ref06.Quotient.tab) (h : ∀ (n : Bool) (a : List Int) (m : Bool) (b : List Int), ref06.Quotient.pre [.b n, .l a, .b m, .l b] = true → ∃ N dv drops, funD ref06.Quotient.E N Try.f68 (bodyOf Try.f68) [.agg [.bool n, .ints .arg .u32 a], .agg [.bool m, .ints .arg .u32 b]] = some dv ∧ Wk drops dv (ref06.Quotient.out [.b n, .l a, .b m, .l b])) : Known Try.prog 68 ref06.Quotient.spec := by
  refine ⟨meets_entry (E := ref06.Quotient.E) (env_ok hk _ _ _) Try.func68 (show Try.f68.body = some (bodyOf Try.f68) by kernel_rfl) fun ats dvs he hp => ?_, call_enter Try.func68 (by kernel_rfl) (show Try.f68.body = some (bodyOf Try.f68) by kernel_rfl)⟩
  obtain ⟨_, _, _, _, rfl, rfl, hs0, he0⟩ := he.st_inv
  obtain ⟨n, _, _, rfl, rfl, he1⟩ := hs0.b_inv
  obtain ⟨a, _, _, rfl, rfl, he2⟩ := he1.s_inv
  obtain ⟨rfl, rfl⟩ := he2.nil_inv
  obtain ⟨_, _, _, _, rfl, rfl, hs3, he3⟩ := he0.st_inv
  obtain ⟨m, _, _, rfl, rfl, he4⟩ := hs3.b_inv
  obtain ⟨b, _, _, rfl, rfl, he5⟩ := he4.s_inv
  obtain ⟨rfl, rfl⟩ := he5.nil_inv
  obtain ⟨rfl, rfl⟩ := he3.nil_inv
  exact h n a m b hp

noncomputable def ref06.Div.tab : List (Nat × Entry) := [(22, ref04.Neg.spec), (23, ref04.Value.spec), (41, ref04.Kind.spec), (52, ref04.Round.spec), (55, ref01.Of.spec), (57, ref02.Of.spec), (67, ref06.signed.spec), (68, ref06.Quotient.spec), (69, ref01.Shift.spec), (70, ref06.plain.spec), (71, ref01.Double.spec), (72, ref01.Add.spec), (73, ref01.Made.spec)]
def ref06.Div.live : Nat → Option (List Nat)
  | 16 => some [8, 9, 10]
  | 17 => some [8, 9, 10, 11, 12]
  | 18 => some [8, 9, 10, 11, 12]
  | 20 => some [8, 9, 10, 11]
  | _ => none
noncomputable def ref06.Div.E : Env := envOf (tabOf ref06.Div.tab) (fun _ => false) (fun _ => none) ref06.Div.live
noncomputable def ref06.Div.C16 (N : Nat) (p8 : Bool) (p10 : Bool) (p10_1 : List Int) (p10_2 : Int) (p9 : Bool) (p9_1 : List Int) (p9_2 : Int) : Option DV := cutAt ref06.Div.E N Try.f35 (bodyOf Try.f35) [1, 1, 1, 1, 1, 1, 1, 1, 1, 1, 1] [] ⟨mkT 93 [(8, .bool p8), (9, .ptr 9 0 0), (10, .ptr 10 0 0)], [(10, false, .box [.bool p10, .ints .arg .u32 p10_1, .int .i64 p10_2]), (9, false, .box [.bool p9, .ints .arg .u32 p9_1, .int .i64 p9_2])]⟩
noncomputable def ref06.Div.C17 (N : Nat) (p8 : Bool) (p10 : Bool) (p10_1 : List Int) (p10_2 : Int) (p9 : Bool) (p9_1 : List Int) (p9_2 : Int) (p12 : Bool) (p12_1 : List Int) (p11 : Bool) (p11_1 : List Int) : Option DV := cutAt ref06.Div.E N Try.f35 (bodyOf Try.f35) [1, 1, 1, 1, 1, 1, 1, 1, 1, 1, 1, 1] [] ⟨mkT 93 [(8, .bool p8), (9, .ptr 9 0 0), (10, .ptr 10 0 0), (11, .ptr 11 0 0), (12, .ptr 12 0 0)], [(12, false, .box [.bool p12, .ints .arg .u32 p12_1]), (11, false, .box [.bool p11, .ints .arg .u32 p11_1]), (10, false, .box [.bool p10, .ints .arg .u32 p10_1, .int .i64 p10_2]), (9, false, .box [.bool p9, .ints .arg .u32 p9_1, .int .i64 p9_2])]⟩
noncomputable def ref06.Div.C18 (N : Nat) (p8 : Bool) (p10 : Bool) (p10_1 : List Int) (p10_2 : Int) (p9 : Bool) (p9_1 : List Int) (p9_2 : Int) (p12 : Bool) (p12_1 : List Int) (p11_2 : Bool) (p11_3 : List Int) : Option DV := cutAt ref06.Div.E N Try.f35 (bodyOf Try.f35) [1, 1, 1, 1, 1, 1, 1, 1, 1, 1, 1, 1, 1, 0] [] ⟨mkT 93 [(8, .bool p8), (9, .ptr 9 0 0), (10, .ptr 10 0 0), (11, .ptr 11 0 0), (12, .ptr 12 0 0)], [(12, false, .box [.bool p12, .ints .arg .u32 p12_1]), (11, false, .box [.bool p11_2, .ints .arg .u32 p11_3]), (10, false, .box [.bool p10, .ints .arg .u32 p10_1, .int .i64 p10_2]), (9, false, .box [.bool p9, .ints .arg .u32 p9_1, .int .i64 p9_2])]⟩
noncomputable def ref06.Div.C20 (N : Nat) (p8 : Bool) (p10 : Bool) (p10_1 : List Int) (p10_2 : Int) (p9 : Bool) (p9_1 : List Int) (p9_2 : Int) (p12 : Bool) (p12_1 : List Int) (p11_4 : Bool) (p11_5 : List Int) : Option DV := cutAt ref06.Div.E N Try.f35 (bodyOf Try.f35) [1, 1, 1, 1, 1, 1, 1, 1, 1, 1, 1, 1, 1, 1] [] ⟨mkT 93 [(8, .bool p8), (9, .ptr 9 0 0), (10, .ptr 10 0 0), (11, .ptr 11 0 0)], [(12, false, .box [.bool p12, .ints .arg .u32 p12_1]), (11, false, .box [.bool p11_4, .ints .arg .u32 p11_5]), (10, false, .box [.bool p10, .ints .arg .u32 p10_1, .int .i64 p10_2]), (9, false, .box [.bool p9, .ints .arg .u32 p9_1, .int .i64 p9_2])]⟩
theorem ref06.Div.C16_eq (N : Nat) (p8 : Bool) (p10 : Bool) (p10_1 : List Int) (p10_2 : Int) (p9 : Bool) (p9_1 : List Int) (p9_2 : Int) : ref06.Div.C16 N p8 p10 p10_1 p10_2 p9 p9_1 p9_2 =
  bif (okW p9 p9_1) then
    bif (okV (negW (absI (wv p9 p9_1))) (limbsI (absI (wv p9 p9_1))) && okSh (180 : Int)) then
      bif (okW p10 p10_1) then
        bif (okQ (negW (shW (wv (negW (absI (wv p9 p9_1))) (limbsI (absI (wv p9 p9_1)))) (180 : Int))) (limbsI (shW (wv (negW (absI (wv p9 p9_1))) (limbsI (absI (wv p9 p9_1)))) (180 : Int))) (negW (absI (wv p10 p10_1))) (limbsI (absI (wv p10 p10_1)))) then
          ref06.Div.C17 N p8 p10 p10_1 p10_2 p9 p9_1 p9_2 (negW (remI (wv (negW (shW (wv (negW (absI (wv p9 p9_1))) (limbsI (absI (wv p9 p9_1)))) (180 : Int))) (limbsI (shW (wv (negW (absI (wv p9 p9_1))) (limbsI (absI (wv p9 p9_1)))) (180 : Int)))) (wv (negW (absI (wv p10 p10_1))) (limbsI (absI (wv p10 p10_1)))))) (limbsI (remI (wv (negW (shW (wv (negW (absI (wv p9 p9_1))) (limbsI (absI (wv p9 p9_1)))) (180 : Int))) (limbsI (shW (wv (negW (absI (wv p9 p9_1))) (limbsI (absI (wv p9 p9_1)))) (180 : Int)))) (wv (negW (absI (wv p10 p10_1))) (limbsI (absI (wv p10 p10_1)))))) (negW (quoI (wv (negW (shW (wv (negW (absI (wv p9 p9_1))) (limbsI (absI (wv p9 p9_1)))) (180 : Int))) (limbsI (shW (wv (negW (absI (wv p9 p9_1))) (limbsI (absI (wv p9 p9_1)))) (180 : Int)))) (wv (negW (absI (wv p10 p10_1))) (limbsI (absI (wv p10 p10_1)))))) (limbsI (quoI (wv (negW (shW (wv (negW (absI (wv p9 p9_1))) (limbsI (absI (wv p9 p9_1)))) (180 : Int))) (limbsI (shW (wv (negW (absI (wv p9 p9_1))) (limbsI (absI (wv p9 p9_1)))) (180 : Int)))) (wv (negW (absI (wv p10 p10_1))) (limbsI (absI (wv p10 p10_1))))))
        else none
      else none
    else none
  else none :=
  Eq.trans (b := bif ((okW p9 p9_1) && true) then
    bif ((okV (negW (absI (wv p9 p9_1))) (limbsI (absI (wv p9 p9_1))) && okSh (180 : Int)) && true) then
      bif ((okW p10 p10_1) && true) then
        bif ((okQ (negW (shW (wv (negW (absI (wv p9 p9_1))) (limbsI (absI (wv p9 p9_1)))) (180 : Int))) (limbsI (shW (wv (negW (absI (wv p9 p9_1))) (limbsI (absI (wv p9 p9_1)))) (180 : Int))) (negW (absI (wv p10 p10_1))) (limbsI (absI (wv p10 p10_1)))) && true) then
          ref06.Div.C17 N p8 p10 p10_1 p10_2 p9 p9_1 p9_2 (negW (remI (wv (negW (shW (wv (negW (absI (wv p9 p9_1))) (limbsI (absI (wv p9 p9_1)))) (180 : Int))) (limbsI (shW (wv (negW (absI (wv p9 p9_1))) (limbsI (absI (wv p9 p9_1)))) (180 : Int)))) (wv (negW (absI (wv p10 p10_1))) (limbsI (absI (wv p10 p10_1)))))) (limbsI (remI (wv (negW (shW (wv (negW (absI (wv p9 p9_1))) (limbsI (absI (wv p9 p9_1)))) (180 : Int))) (limbsI (shW (wv (negW (absI (wv p9 p9_1))) (limbsI (absI (wv p9 p9_1)))) (180 : Int)))) (wv (negW (absI (wv p10 p10_1))) (limbsI (absI (wv p10 p10_1)))))) (negW (quoI (wv (negW (shW (wv (negW (absI (wv p9 p9_1))) (limbsI (absI (wv p9 p9_1)))) (180 : Int))) (limbsI (shW (wv (negW (absI (wv p9 p9_1))) (limbsI (absI (wv p9 p9_1)))) (180 : Int)))) (wv (negW (absI (wv p10 p10_1))) (limbsI (absI (wv p10 p10_1)))))) (limbsI (quoI (wv (negW (shW (wv (negW (absI (wv p9 p9_1))) (limbsI (absI (wv p9 p9_1)))) (180 : Int))) (limbsI (shW (wv (negW (absI (wv p9 p9_1))) (limbsI (absI (wv p9 p9_1)))) (180 : Int)))) (wv (negW (absI (wv p10 p10_1))) (limbsI (absI (wv p10 p10_1))))))
        else none
      else none
    else none
  else none) ((cutAt_eq _ _ _ _ _ _ _).trans (by kernel_rfl))
  (ifS (tt4 _) (ifS (tt4 _) (ifS (tt4 _) (ifS (tt4 _) rfl rfl) rfl) rfl) rfl)
theorem ref06.Div.C17_eq (N : Nat) (p8 : Bool) (p10 : Bool) (p10_1 : List Int) (p10_2 : Int) (p9 : Bool) (p9_1 : List Int) (p9_2 : Int) (p12 : Bool) (p12_1 : List Int) (p11 : Bool) (p11_1 : List Int) : ref06.Div.C17 N p8 p10 p10_1 p10_2 p9 p9_1 p9_2 p12 p12_1 p11 p11_1 =
  bif (okW p11 p11_1) then
    ref06.Div.C18 N p8 p10 p10_1 p10_2 p9 p9_1 p9_2 p12 p12_1 (negW (2 * wv p11 p11_1)) (limbsI (2 * wv p11 p11_1))
  else none := (cutAt_eq _ _ _ _ _ _ _).trans (by kernel_rfl)
theorem ref06.Div.C18_eq (N : Nat) (p8 : Bool) (p10 : Bool) (p10_1 : List Int) (p10_2 : Int) (p9 : Bool) (p9_1 : List Int) (p9_2 : Int) (p12 : Bool) (p12_1 : List Int) (p11_2 : Bool) (p11_3 : List Int) : ref06.Div.C18 N p8 p10 p10_1 p10_2 p9 p9_1 p9_2 p12 p12_1 p11_2 p11_3 =
  bif (ltI (0 : Int) (List.length p12_1 : Int)) then
    bif (inI64 (1 : Int)) then
      bif (okW p11_2 p11_3 && okW (negW ((1 : Int))) (limbsI ((1 : Int)))) then
        ref06.Div.C20 N p8 p10 p10_1 p10_2 p9 p9_1 p9_2 p12 p12_1 (negW (wv p11_2 p11_3 + wv (negW ((1 : Int))) (limbsI ((1 : Int))))) (limbsI (wv p11_2 p11_3 + wv (negW ((1 : Int))) (limbsI ((1 : Int)))))
      else none
    else none
  else ref06.Div.C20 N p8 p10 p10_1 p10_2 p9 p9_1 p9_2 p12 p12_1 p11_2 p11_3 :=
  Eq.trans (b := bif (ltI (0 : Int) (List.length p12_1 : Int)) then
    bif ((inI64 (1 : Int)) && true) then
      bif ((okW p11_2 p11_3 && okW (negW ((1 : Int))) (limbsI ((1 : Int)))) && true) then
        ref06.Div.C20 N p8 p10 p10_1 p10_2 p9 p9_1 p9_2 p12 p12_1 (negW (wv p11_2 p11_3 + wv (negW ((1 : Int))) (limbsI ((1 : Int))))) (limbsI (wv p11_2 p11_3 + wv (negW ((1 : Int))) (limbsI ((1 : Int)))))
      else none
    else none
  else ref06.Div.C20 N p8 p10 p10_1 p10_2 p9 p9_1 p9_2 p12 p12_1 p11_2 p11_3) ((cutAt_eq _ _ _ _ _ _ _).trans (by kernel_rfl))
  (ifE (ifS (tt4 _) (ifS (tt4 _) rfl rfl) rfl) rfl)
theorem ref06.Div.C20_eq (N : Nat) (p8 : Bool) (p10 : Bool) (p10_1 : List Int) (p10_2 : Int) (p9 : Bool) (p9_1 : List Int) (p9_2 : Int) (p12 : Bool) (p12_1 : List Int) (p11_4 : Bool) (p11_5 : List Int) : ref06.Div.C20 N p8 p10 p10_1 p10_2 p9 p9_1 p9_2 p12 p12_1 p11_4 p11_5 =
  bif (okL p11_5) then
    bif (okW (negW (wv p8 p11_5)) (limbsI (wv p8 p11_5)) && okE2 (w_i64 ((w_i64 (p9_2 - p10_2)) - (181 : Int)))) then
      bif (okW (negW (mD (wv (negW (wv p8 p11_5)) (limbsI (wv p8 p11_5))))) (limbsI (mD (wv (negW (wv p8 p11_5)) (limbsI (wv p8 p11_5))))) && okRnd (wv (negW (mD (wv (negW (wv p8 p11_5)) (limbsI (wv p8 p11_5))))) (limbsI (mD (wv (negW (wv p8 p11_5)) (limbsI (wv p8 p11_5)))))) (eD (wv (negW (wv p8 p11_5)) (limbsI (wv p8 p11_5))) (w_i64 ((w_i64 (p9_2 - p10_2)) - (181 : Int))))) then
        some (.tup [.int .u64 (roundBI (wv (negW (mD (wv (negW (wv p8 p11_5)) (limbsI (wv p8 p11_5))))) (limbsI (mD (wv (negW (wv p8 p11_5)) (limbsI (wv p8 p11_5)))))) (eD (wv (negW (wv p8 p11_5)) (limbsI (wv p8 p11_5))) (w_i64 ((w_i64 (p9_2 - p10_2)) - (181 : Int))))), .int .u8 (roundFI (wv (negW (mD (wv (negW (wv p8 p11_5)) (limbsI (wv p8 p11_5))))) (limbsI (mD (wv (negW (wv p8 p11_5)) (limbsI (wv p8 p11_5)))))) (eD (wv (negW (wv p8 p11_5)) (limbsI (wv p8 p11_5))) (w_i64 ((w_i64 (p9_2 - p10_2)) - (181 : Int)))))])
      else none
    else none
  else none :=
  Eq.trans (b := bif ((okL p11_5) && true) then
    bif ((okW (negW (wv p8 p11_5)) (limbsI (wv p8 p11_5)) && okE2 (w_i64 ((w_i64 (p9_2 - p10_2)) - (181 : Int)))) && true) then
      bif ((okW (negW (mD (wv (negW (wv p8 p11_5)) (limbsI (wv p8 p11_5))))) (limbsI (mD (wv (negW (wv p8 p11_5)) (limbsI (wv p8 p11_5))))) && okRnd (wv (negW (mD (wv (negW (wv p8 p11_5)) (limbsI (wv p8 p11_5))))) (limbsI (mD (wv (negW (wv p8 p11_5)) (limbsI (wv p8 p11_5)))))) (eD (wv (negW (wv p8 p11_5)) (limbsI (wv p8 p11_5))) (w_i64 ((w_i64 (p9_2 - p10_2)) - (181 : Int))))) && true) then
        some (.tup [.int .u64 (roundBI (wv (negW (mD (wv (negW (wv p8 p11_5)) (limbsI (wv p8 p11_5))))) (limbsI (mD (wv (negW (wv p8 p11_5)) (limbsI (wv p8 p11_5)))))) (eD (wv (negW (wv p8 p11_5)) (limbsI (wv p8 p11_5))) (w_i64 ((w_i64 (p9_2 - p10_2)) - (181 : Int))))), .int .u8 (roundFI (wv (negW (mD (wv (negW (wv p8 p11_5)) (limbsI (wv p8 p11_5))))) (limbsI (mD (wv (negW (wv p8 p11_5)) (limbsI (wv p8 p11_5)))))) (eD (wv (negW (wv p8 p11_5)) (limbsI (wv p8 p11_5))) (w_i64 ((w_i64 (p9_2 - p10_2)) - (181 : Int)))))])
      else none
    else none
  else none) ((cutAt_eq _ _ _ _ _ _ _).trans (by kernel_rfl))
  (ifS (tt4 _) (ifS (tt4 _) (ifS (tt4 _) rfl rfl) rfl) rfl)
theorem ref06.Div.ev (N : Nat) (a : Int) (b : Int) : funD ref06.Div.E N Try.f35 (bodyOf Try.f35) [.int .u64 a, .int .u64 b] =
  bif (natI a) then
    bif (natI b) then
      bif (inU64 a) then
        bif (inU64 b) then
          bif (((kindI a) == (4 : Int)) || ((kindI b) == (4 : Int))) then
            some (.tup [.int .u64 (9221120237041090560 : Int), .int .u8 (0 : Int)])
          else bif (((kindI a) == (kindI b)) && (((kindI a) == (3 : Int)) || ((kindI a) == (0 : Int)))) then
            some (.tup [.int .u64 (9221120237041090560 : Int), .int .u8 (16 : Int)])
          else bif ((kindI a) == (3 : Int)) then
            bif (inU64 (9218868437227405312 : Int)) then
              some (.tup [.int .u64 (signI (!((negI a) == (negI b))) (9218868437227405312 : Int)), .int .u8 (0 : Int)])
            else none
          else bif (((kindI b) == (3 : Int)) || ((kindI a) == (0 : Int))) then
            bif (inU64 (0 : Int)) then
              some (.tup [.int .u64 (signI (!((negI a) == (negI b))) (0 : Int)), .int .u8 (0 : Int)])
            else none
          else bif ((kindI b) == (0 : Int)) then
            bif (inU64 (9218868437227405312 : Int)) then
              some (.tup [.int .u64 (signI (!((negI a) == (negI b))) (9218868437227405312 : Int)), .int .u8 (8 : Int)])
            else none
          else bif (inU64 a) then
            bif (inU64 b) then
              ref06.Div.C16 N (!((negI a) == (negI b))) (negW (mD (valI b))) (limbsI (mD (valI b))) (eD (valI b) (partEI b)) (negW (mD (valI a))) (limbsI (mD (valI a))) (eD (valI a) (partEI a))
            else none
          else none
        else none
      else none
    else none
  else none :=
  Eq.trans (b := bif (natI a) then
    bif (natI b) then
      bif (inU64 a) then
        bif (inU64 b) then
          bif ((!(((kindI a) == (4 : Int)) == false)) || true) then
            bif ((!(((kindI a) == (4 : Int)) == false)) || ((((!(((kindI a) == (4 : Int)) == false)) || (((kindI a) == (4 : Int)) == false)) && true) && true)) then
              bif ((!(!((kindI a) == (4 : Int)))) || (((kindI a) == (4 : Int)) == false)) then
                bif (bif ((kindI a) == (4 : Int)) then true else ((kindI b) == (4 : Int))) then
                  some (.tup [.int .u64 (9221120237041090560 : Int), .int .u8 (0 : Int)])
                else bif ((!(((kindI a) == (kindI b)) == true)) || true) then
                  bif ((!(((kindI a) == (kindI b)) == true)) || ((((!(((kindI a) == (kindI b)) == true)) || (((kindI a) == (kindI b)) == true)) && true) && true)) then
                    bif ((!(((kindI a) == (kindI b)) == true)) || ((((!(((kindI a) == (kindI b)) == true)) || (((kindI a) == (kindI b)) == true)) && true) && true)) then
                      bif ((!((((kindI a) == (kindI b)) == true) && (((kindI a) == (3 : Int)) == false))) || true) then
                        bif ((!((((kindI a) == (kindI b)) == true) && (((kindI a) == (3 : Int)) == false))) || ((((!((((kindI a) == (kindI b)) == true) && (((kindI a) == (3 : Int)) == false))) || ((((kindI a) == (kindI b)) == true) && (((kindI a) == (3 : Int)) == false))) && true) && true)) then
                          bif ((!(((kindI a) == (kindI b)) == true)) || (((!(((kindI a) == (kindI b)) == true)) || (((kindI a) == (kindI b)) == true)) && ((!(!((kindI a) == (3 : Int)))) || ((((kindI a) == (kindI b)) == true) && (((kindI a) == (3 : Int)) == false))))) then
                            bif (((!((kindI a) == (kindI b))) || (((kindI a) == (kindI b)) == true)) && true) then
                              bif (bif ((kindI a) == (kindI b)) then (bif ((kindI a) == (3 : Int)) then true else ((kindI a) == (0 : Int))) else false) then
                                some (.tup [.int .u64 (9221120237041090560 : Int), .int .u8 (16 : Int)])
                              else bif ((kindI a) == (3 : Int)) then
                                bif (inU64 (9218868437227405312 : Int)) then
                                  some (.tup [.int .u64 (signI (!((negI a) == (negI b))) (9218868437227405312 : Int)), .int .u8 (0 : Int)])
                                else none
                              else bif ((!(((kindI b) == (3 : Int)) == false)) || true) then
                                bif ((!(((kindI b) == (3 : Int)) == false)) || ((((!(((kindI b) == (3 : Int)) == false)) || (((kindI b) == (3 : Int)) == false)) && true) && true)) then
                                  bif ((!(!((kindI b) == (3 : Int)))) || (((kindI b) == (3 : Int)) == false)) then
                                    bif (bif ((kindI b) == (3 : Int)) then true else ((kindI a) == (0 : Int))) then
                                      bif (inU64 (0 : Int)) then
                                        some (.tup [.int .u64 (signI (!((negI a) == (negI b))) (0 : Int)), .int .u8 (0 : Int)])
                                      else none
                                    else bif ((kindI b) == (0 : Int)) then
                                      bif (inU64 (9218868437227405312 : Int)) then
                                        some (.tup [.int .u64 (signI (!((negI a) == (negI b))) (9218868437227405312 : Int)), .int .u8 (8 : Int)])
                                      else none
                                    else bif (inU64 a) then
                                      bif (inU64 b) then
                                        ref06.Div.C16 N (!((negI a) == (negI b))) (negW (mD (valI b))) (limbsI (mD (valI b))) (eD (valI b) (partEI b)) (negW (mD (valI a))) (limbsI (mD (valI a))) (eD (valI a) (partEI a))
                                      else none
                                    else none
                                  else none
                                else none
                              else none
                            else none
                          else none
                        else none
                      else none
                    else none
                  else none
                else none
              else none
            else none
          else none
        else none
      else none
    else none
  else none) (by kernel_rfl)
  (ifE (ifE (ifE (ifE (ifT (tt3 _) (ifT (tt2 _) (ifT (tt1 _) (ifS (tt0 _ _) rfl (ifT (tt11 _) (ifT (tt10 _) (ifT (tt10 _) (ifT (tt9 _ _) (ifT (tt8 _ _) (ifT (tt7 _ _) (ifT (tt6 _) (ifS (tt5 _ _ _) rfl (ifE rfl (ifT (tt3 _) (ifT (tt2 _) (ifT (tt1 _) (ifS (tt0 _ _) rfl rfl))))))))))))))))) rfl) rfl) rfl) rfl)
theorem ref06.Div.known_of (hk : Knowns Try.prog ref06.Div.tab) (h : ∀ (a : Int) (b : Int), ref06.Div.pre [.i a, .i b] = true → ∃ N dv drops, funD ref06.Div.E N Try.f35 (bodyOf Try.f35) [.int .u64 a, .int .u64 b] = some dv ∧ Wk drops dv (ref06.Div.out [.i a, .i b])) : Known Try.prog 35 ref06.Div.spec := by
  refine ⟨meets_entry (E := ref06.Div.E) (env_ok hk _ _ _) Try.func35 (show Try.f35.body = some (bodyOf Try.f35) by kernel_rfl) fun ats dvs he hp => ?_, call_enter Try.func35 (by kernel_rfl) (show Try.f35.body = some (bodyOf Try.f35) by kernel_rfl)⟩
  obtain ⟨a, _, _, rfl, rfl, he0⟩ := he.i_inv
  obtain ⟨b, _, _, rfl, rfl, he1⟩ := he0.i_inv
  obtain ⟨rfl, rfl⟩ := he1.nil_inv
  exact h a b hp
end EqRef06
end Go.Proofs.S1

/- Package dioptraref06: exact products and quotients, rounded. -/
namespace Go.Proofs.S1
open Go Go.Den Go.Rnd Go.Proofs
open EqRef06

theorem ref06.signed.known : Known Try.prog 67 ref06.signed.spec := ref06.signed.known_of (.cons ref04.Minus.known .nil) fun b n hp => by
  have hp : inU64 b = true := hp
  refine ⟨0, ref06.signed.out [.i b, .b n], [], ?_, .int⟩
  rw [ref06.signed.ev, hp]
  cases n <;> rfl

theorem abs_wv (n : Bool) (l : List Int) : wv false l = absI (wv n l) := by
  unfold absI wv
  rw [sgn_abs']
  rfl
  where sgn_abs' {n : Bool} {m : Nat} : (sgn n m).natAbs = m := by unfold sgn; split <;> omega

theorem ref06.plain.known : Known Try.prog 70 ref06.plain.spec := ref06.plain.known_of (.cons ref01.Made.known .nil) fun n a hp => by
  obtain ⟨v, rfl, rfl, hv⟩ := okW_get hp
  refine ⟨0, ref06.plain.out [.b (negW v), .l (limbsI v)], [], ?_, wagg⟩
  have o1 : okL (limbsI v) = true := okL_limbs (by omega)
  rw [ref06.plain.ev, o1, cond_true, abs_wv (negW v) (limbsI v)]
  rfl

/-! ### Rounding what was made odd -/

theorem mD_neg_iff (T : Int) : mD T < 0 ↔ T < 0 := by
  have := (mul_sign (mD T) (tzN T.natAbs)).1
  rw [← mD_spec] at this
  exact this.symm

theorem roundZ_mD {T : Int} (h : T ≠ 0) (e : Int) : roundZ 0 (mD T) (eD T e) = roundZ 0 T e := by
  have hm : mD T ≠ 0 := fun k => h (mD_zero.1 k)
  have hg : e ≤ eD T e := eD_ge (Int.le_refl _) h
  have hr := rung_vAt (v := mD T) hg
  rw [vAt_odd (Int.le_refl e), vAt_same] at hr
  unfold roundZ
  rw [if_neg hm, if_neg h, hr.1, hr.2, decide_eq_decide.2 (mD_neg_iff T)]

/-- The odd part of a word's value, and its place. -/
theorem odd_part {a : Nat} (h : partM a ≠ 0) : ∃ X t : Nat, X ≠ 0 ∧ mD (valI (a : Int)) = sgn (negN a) X ∧ partM a = X * 2 ^ t ∧ eD (valI (a : Int)) (partE a) = partE a + t ∧ t ≤ 52 := by
  have hv : valI (a : Int) = sgn (negN a) (partM a) := rfl
  have ha := val_abs a
  have h0 : valI (a : Int) ≠ 0 := by omega
  have hm : mD (valI (a : Int)) ≠ 0 := fun k => h0 (mD_zero.1 k)
  have hs := mD_spec (valI (a : Int))
  have hn := mD_neg_iff (valI (a : Int))
  have hl := partM_lt a
  have ht := tz_lt (n := (valI (a : Int)).natAbs) (by omega)
  rw [ha] at ht
  have hlog : (partM a).log2 < 53 := (Nat.log2_lt h).2 (by omega)
  refine ⟨(mD (valI (a : Int))).natAbs, tzN (valI (a : Int)).natAbs, by omega, ?_, ?_, ?_, by rw [ha]; omega⟩
  · have hneg : valI (a : Int) < 0 ↔ negN a = true := by
      rw [hv]; unfold sgn
      cases negN a
      · simp only [Bool.false_eq_true, if_false, iff_false]; omega
      · simp only [if_true, iff_true]; omega
    rw [hneg] at hn
    unfold sgn
    cases hb : negN a
    · rw [hb] at hn
      simp only [Bool.false_eq_true, iff_false] at hn
      simp only [Bool.false_eq_true, if_false]; omega
    · rw [hb] at hn
      simp only [iff_true] at hn
      simp only [if_true]; omega
  · have := congrArg Int.natAbs hs
    rw [Int.natAbs_mul, Int.natAbs_natCast] at this
    rw [← this, ha]
  · unfold eD; rw [if_neg h0]

theorem mul_ref {a b : Nat} (ha : partM a ≠ 0) (hb : partM b ≠ 0) :
    mD (valI (a : Int)) * mD (valI (b : Int)) ≠ 0 ∧
    roundZ 0 (mD (valI (a : Int)) * mD (valI (b : Int))) (eD (valI (a : Int)) (partE a) + eD (valI (b : Int)) (partE b)) =
      (signN (negN a != negN b) (rung (partM a * partM b) (partE a + partE b)), flagsOf (partM a * partM b) (partE a + partE b)) := by
  obtain ⟨X, t, x0, x1, x2, x3, x4⟩ := odd_part ha
  obtain ⟨Y, u, y0, y1, y2, y3, y4⟩ := odd_part hb
  have hXY : X * Y ≠ 0 := by
    intro h
    rcases Nat.mul_eq_zero.1 h with h | h <;> omega
  have e : partM a * partM b = X * Y * 2 ^ (t + u) := by rw [x2, y2, Nat.mul_mul_mul_comm, ← Nat.pow_add]
  obtain ⟨s1, s2⟩ := rung_shift (X * Y) (t + u) (partE a + t + (partE b + u))
  have e2 : partE a + (t : Int) + (partE b + u) - ((t + u : Nat) : Int) = partE a + partE b := by omega
  rw [e2, ← e] at s1 s2
  rw [x1, y1, ← sgn_mul, x3, y3, roundZ_sgn _ _ hXY, s1, s2]
  refine ⟨?_, rfl⟩
  unfold sgn
  split <;> omega

theorem val_okM (b : Nat) : okM (negW (mD (valI (b : Int)))) (limbsI (mD (valI (b : Int)))) = true := by
  have m1 := lenN_mono (mD_abs_le (valI (b : Int)))
  have := (val_ok b).1
  exact okM_of (by omega)

theorem ref06.Mul.known : Known Try.prog 42 ref06.Mul.spec := ref06.Mul.known_of (.cons ref04.Neg.known (.cons ref04.Value.known (.cons ref04.Kind.known (.cons ref04.Round.known (.cons ref06.signed.known (.cons ref02.Mul.known .nil)))))) fun a b hp => by
  obtain ⟨ha, hb⟩ := and_true_iff.1 hp
  obtain ⟨a, rfl, hn⟩ := inU64_nat ha
  obtain ⟨b, rfl, hm⟩ := inU64_nat hb
  refine ⟨0, ref06.Mul.out [.i a, .i b], [], ?_, Wk.tupL (.cons .int (.cons .int .nil))⟩
  show _ = some (DV.tup [.int .u64 (((mulN a b).1 : Nat) : Int), .int .u8 (((mulN a b).2 : Nat) : Int)])
  have i1 : inU64 (9218868437227405312 : Int) = true := inU64_of (n := 9218868437227405312) (by decide)
  have i2 : inU64 (0 : Int) = true := inU64_of (n := 0) (by decide)
  have ea : negI (a : Int) = negN a := rfl
  have eb : negI (b : Int) = negN b := rfl
  have pa : partEI (a : Int) = partE a := rfl
  have pb : partEI (b : Int) = partE b := rfl
  have k4 : ∀ b : Nat, (((kindN b : Nat) : Int) == (4 : Int)) = decide (kindN b = 4) := fun b => kq b 4
  rw [ref06.Mul.ev, natI_nat, natI_nat, ha, hb, kindI_nat, kindI_nat, k4, k4, k3, k3, k0, k0, i1, i2, inf_word, zero_word, not_beq, ea, eb, pa, pb, cond_true, cond_true, cond_true, cond_true]
  unfold mulN
  by_cases h4 : kindN a = 4 ∨ kindN b = 4
  · have c4 : (decide (kindN a = 4) || decide (kindN b = 4)) = true := by simp; exact h4
    rw [if_pos h4, c4, cond_true]; rfl
  · have c4 : (decide (kindN a = 4) || decide (kindN b = 4)) = false := by simp; omega
    rw [if_neg h4, c4, cond_false]
    by_cases h3 : kindN a = 3 ∨ kindN b = 3
    · have c3 : (decide (kindN a = 3) || decide (kindN b = 3)) = true := by simp; exact h3
      rw [if_pos h3, c3, cond_true]
      by_cases h0 : kindN a = 0 ∨ kindN b = 0
      · have c0 : (decide (kindN a = 0) || decide (kindN b = 0)) = true := by simp; exact h0
        rw [if_pos h0, c0, cond_true]; rfl
      · have c0 : (decide (kindN a = 0) || decide (kindN b = 0)) = false := by simp; omega
        rw [if_neg h0, c0, cond_false]; rfl
    · have c3 : (decide (kindN a = 3) || decide (kindN b = 3)) = false := by simp; omega
      rw [if_neg h3, c3, cond_false]
      by_cases h0 : kindN a = 0 ∨ kindN b = 0
      · have c5 : (decide (kindN a = 0) || decide (kindN b = 0)) = true := by simp; exact h0
        have hz : partM a * partM b = 0 := by
          rcases h0 with h | h
          · rw [partM_nil h, Nat.zero_mul]
          · rw [partM_nil h, Nat.mul_zero]
        rw [c5, cond_true, hz, rung_zero, flagsOf_zero]; rfl
      · have c5 : (decide (kindN a = 0) || decide (kindN b = 0)) = false := by simp; omega
        have qa := partM_pos (b := a) (by omega) (by omega) (by omega)
        have qb := partM_pos (b := b) (by omega) (by omega) (by omega)
        obtain ⟨v1, v2, v3⟩ := val_ok a
        obtain ⟨w1, w2, w3⟩ := val_ok b
        have o3 : okE (eD (valI (a : Int)) (partE a)) = true := cdec_eq.2 ⟨v2, v3⟩
        have o4 : okE (eD (valI (b : Int)) (partE b)) = true := cdec_eq.2 ⟨w2, w3⟩
        have m1 := lenN_mono (mD_abs_le (valI (a : Int)))
        have m2 := lenN_mono (mD_abs_le (valI (b : Int)))
        have hl := lenN_mul (mD (valI (a : Int))).natAbs (mD (valI (b : Int))).natAbs
        rw [← Int.natAbs_mul] at hl
        obtain ⟨t0, tr⟩ := mul_ref qa qb
        obtain ⟨_, t, _, _, _, x3, x4⟩ := odd_part qa
        obtain ⟨_, u, _, _, _, y3, y4⟩ := odd_part qb
        have xa := partE_le a
        have xb := partE_le b
        have rz := roundZ_mD t0 (eD (valI (a : Int)) (partE a) + eD (valI (b : Int)) (partE b))
        have ml := lenN_mono (mD_abs_le (mD (valI (a : Int)) * mD (valI (b : Int))))
        have htz := tz_lt (n := (mD (valI (a : Int)) * mD (valI (b : Int))).natAbs) (by omega)
        have hll := log2_lenN (n := (mD (valI (a : Int)) * mD (valI (b : Int))).natAbs)
        have eb2 : -300000 ≤ eD (mD (valI (a : Int)) * mD (valI (b : Int))) (eD (valI (a : Int)) (partE a) + eD (valI (b : Int)) (partE b)) ∧ eD (mD (valI (a : Int)) * mD (valI (b : Int))) (eD (valI (a : Int)) (partE a) + eD (valI (b : Int)) (partE b)) ≤ 300000 := by
          unfold eD at x3 y3 ⊢
          rw [if_neg t0]
          omega
        rw [c5, cond_false, val_okM, val_okM, o3, o4, Bool.and_self, Bool.and_self, cond_true]
        simp only [wv_of]
        rw [tr] at rz
        generalize mD (valI (a : Int)) * mD (valI (b : Int)) = T at *
        generalize eD T (eD (valI (a : Int)) (partE a) + eD (valI (b : Int)) (partE b)) = E at *
        have o5 : okW (negW (mD T)) (limbsI (mD T)) = true := okW_of (by omega)
        have o6 : okRnd (mD T) E = true := cdec_eq.2 ⟨by omega, eb2⟩
        rw [o5, o6, Bool.and_self, cond_true, cond_true, cond_true]
        unfold roundBI roundFI
        rw [rz]

end Go.Proofs.S1
