/- RefC of the verified evaluator and its use for this seat (of my texts S1EqRefC, S1PRefC, S1PRefCa). -/
import Derived.Test.YthopmgndjnnpnaaSpe
import Derived.Test.YthopmgndjnnpnaaRefA
import Derived.Test.YthopmgndjnnpnaaLim

/- The evaluator's equations: dioptraref02.Of, dioptraref02.Neg, dioptraref02.Low, dioptraref02.Level, dioptraref02.Add, dioptraref02.Sub, dioptraref02.Scale, dioptraref02.Top, dioptraref02.Sign, dioptraref02.Compare, dioptraref02.Same. Printed by denpy.py. -/
namespace Go.Proofs.S1
open Go Go.Den Go.Rnd Go.Proofs
set_option linter.unusedVariables false
set_option maxRecDepth 100000
namespace EqRefC
theorem tt0 (a : Bool) : (a && true) = a := by cases a <;> rfl
theorem tt1 (a : Bool) : (((a && true) && true) && true) = a := by cases a <;> rfl
theorem tt2 (a : Bool) : (((!a) || (a == true)) && true) = true := by cases a <;> rfl
theorem tt3 (a b : Bool) : ((!(a == true)) || ((((!(a == true)) || (a == true)) && (((!(a == true)) || (a == true)) && true)) && b)) = ((!a) || b) := by cases a <;> cases b <;> rfl
theorem tt4 (a : Bool) : ((!(a == true)) || ((((!(a == true)) || (a == true)) && true) && true)) = true := by cases a <;> rfl
theorem tt5 (a : Bool) : ((!(a == true)) || true) = true := by cases a <;> rfl
def ref02.Of.hint : Nat → Option LoopHint
  | 0 => some { keep := [1, 2, 4], objs := [], boxes := [2, 4] }
  | 2 => some { keep := [1, 2, 4], objs := [], boxes := [2, 4] }
  | _ => none
noncomputable def ref02.Of.tab : List (Nat × Entry) := [(73, ref01.Made.spec), (85, ref01.Odd.spec), (86, ref01.Half.spec)]
noncomputable def ref02.Of.E : Env := envOf (tabOf ref02.Of.tab) (fun _ => false) ref02.Of.hint (fun _ => none)
noncomputable def ref02.Of.L0 (N M : Nat) (p1 : Int) (p2 : Bool) (p2_1 : List Int) : Option DV := loopAt ref02.Of.E N Try.f57 (bodyOf Try.f57) [1, 1, 0, 0] [] M ⟨mkT 33 [(1, .int .i64 p1), (2, .ptr 2 0 0), (4, .ptr 4 0 0)], [(2, false, .box [.bool p2, .ints .arg .u32 p2_1]), (4, false, .box [.bool false, .nil, .int .i64 (0 : Int)])]⟩
noncomputable def ref02.Of.L1 (N M : Nat) (p1_1 : Int) (p2_2 : Bool) (p2_3 : List Int) : Option DV := loopAt ref02.Of.E N Try.f57 (bodyOf Try.f57) [1, 1, 1, 0, 0] [] M ⟨mkT 33 [(1, .int .i64 p1_1), (2, .ptr 2 0 0), (4, .ptr 4 0 0)], [(2, false, .box [.bool p2_2, .ints .arg .u32 p2_3]), (4, false, .box [.bool false, .nil, .int .i64 (0 : Int)])]⟩
theorem ref02.Of.L0_step (N M : Nat) (p1 : Int) (p2 : Bool) (p2_1 : List Int) : ref02.Of.L0 N (M + 1) p1 p2 p2_1 =
  bif (decide ((0 : Int) < (List.length p2_1 : Int))) then
    bif ((List.getD p2_1 0 0) == (0 : Int)) then
      bif (decide ((1 : Int) ≤ (List.length p2_1 : Int))) then
        bif (okL (List.drop 1 p2_1)) then
          ref02.Of.L0 N M (w_i64 (p1 + (32 : Int))) (negW (wv p2 (List.drop 1 p2_1))) (limbsI (wv p2 (List.drop 1 p2_1)))
        else none
      else none
    else ref02.Of.L1 N N p1 p2 p2_1
  else none :=
  Eq.trans (b := bif (decide ((0 : Int) < (List.length p2_1 : Int))) then
    bif ((List.getD p2_1 0 0) == (0 : Int)) then
      bif ((((decide ((1 : Int) ≤ (List.length p2_1 : Int))) && true) && true) && true) then
        bif ((okL (List.drop 1 p2_1)) && true) then
          ref02.Of.L0 N M (w_i64 (p1 + (32 : Int))) (negW (wv p2 (List.drop 1 p2_1))) (limbsI (wv p2 (List.drop 1 p2_1)))
        else none
      else none
    else ref02.Of.L1 N N p1 p2 p2_1
  else none) (by kernel_rfl)
  (ifE (ifE (ifS (tt1 _) (ifS (tt0 _) rfl rfl) rfl) rfl) rfl)
theorem ref02.Of.L1_step (N M : Nat) (p1_1 : Int) (p2_2 : Bool) (p2_3 : List Int) : ref02.Of.L1 N (M + 1) p1_1 p2_2 p2_3 =
  bif (okW p2_2 p2_3) then
    bif (!(oddB (wv p2_2 p2_3))) then
      bif (okW p2_2 p2_3) then
        ref02.Of.L1 N M (w_i64 (p1_1 + (1 : Int))) (negW (shR (wv p2_2 p2_3) 1)) (limbsI (shR (wv p2_2 p2_3) 1))
      else none
    else some (.agg [.bool p2_2, .ints .arg .u32 p2_3, .int .i64 p1_1])
  else none := by kernel_rfl
theorem ref02.Of.ev (N : Nat) (n : Bool) (a : List Int) (e : Int) : funD ref02.Of.E N Try.f57 (bodyOf Try.f57) [.agg [.bool n, .ints .arg .u32 a], .int .i64 e] =
  bif ((List.length a : Int) == (0 : Int)) then
    some (.agg [.bool false, .nil, .int .i64 (0 : Int)])
  else ref02.Of.L0 N N e n a := by kernel_rfl
theorem ref02.Of.known_of (hk : Knowns Try.prog ref02.Of.tab) (h : ∀ (n : Bool) (a : List Int) (e : Int), ref02.Of.pre [.b n, .l a, .i e] = true → ∃ N dv drops, funD ref02.Of.E N Try.f57 (bodyOf Try.f57) [.agg [.bool n, .ints .arg .u32 a], .int .i64 e] = some dv ∧ Wk drops dv (ref02.Of.out [.b n, .l a, .i e])) : Known Try.prog 57 ref02.Of.spec := by
  refine ⟨meets_entry (E := ref02.Of.E) (env_ok hk _ _ _) Try.func57 (show Try.f57.body = some (bodyOf Try.f57) by kernel_rfl) fun ats dvs he hp => ?_, call_enter Try.func57 (by kernel_rfl) (show Try.f57.body = some (bodyOf Try.f57) by kernel_rfl)⟩
  obtain ⟨_, _, _, _, rfl, rfl, hs0, he0⟩ := he.st_inv
  obtain ⟨n, _, _, rfl, rfl, he1⟩ := hs0.b_inv
  obtain ⟨a, _, _, rfl, rfl, he2⟩ := he1.s_inv
  obtain ⟨rfl, rfl⟩ := he2.nil_inv
  obtain ⟨e, _, _, rfl, rfl, he3⟩ := he0.i_inv
  obtain ⟨rfl, rfl⟩ := he3.nil_inv
  exact h n a e hp

noncomputable def ref02.Neg.tab : List (Nat × Entry) := [(56, ref01.Neg.spec)]
noncomputable def ref02.Neg.E : Env := envOf (tabOf ref02.Neg.tab) (fun _ => false) (fun _ => none) (fun _ => none)
theorem ref02.Neg.ev (N : Nat) (n : Bool) (a : List Int) (e : Int) : funD ref02.Neg.E N Try.f24 (bodyOf Try.f24) [.agg [.bool n, .ints .arg .u32 a, .int .i64 e]] =
  bif (okW n a) then
    some (.agg [.bool (negW (- wv n a)), .ints .arg .u32 (limbsI (- wv n a)), .int .i64 e])
  else none :=
  Eq.trans (b := bif ((okW n a) && true) then
    some (.agg [.bool (negW (- wv n a)), .ints .arg .u32 (limbsI (- wv n a)), .int .i64 e])
  else none) (by kernel_rfl)
  (ifS (tt0 _) rfl rfl)
theorem ref02.Neg.known_of (hk : Knowns Try.prog ref02.Neg.tab) (h : ∀ (n : Bool) (a : List Int) (e : Int), ref02.Neg.pre [.b n, .l a, .i e] = true → ∃ N dv drops, funD ref02.Neg.E N Try.f24 (bodyOf Try.f24) [.agg [.bool n, .ints .arg .u32 a, .int .i64 e]] = some dv ∧ Wk drops dv (ref02.Neg.out [.b n, .l a, .i e])) : Known Try.prog 24 ref02.Neg.spec := by
  refine ⟨meets_entry (E := ref02.Neg.E) (env_ok hk _ _ _) Try.func24 (show Try.f24.body = some (bodyOf Try.f24) by kernel_rfl) fun ats dvs he hp => ?_, call_enter Try.func24 (by kernel_rfl) (show Try.f24.body = some (bodyOf Try.f24) by kernel_rfl)⟩
  obtain ⟨_, _, _, _, rfl, rfl, hs0, he0⟩ := he.st_inv
  obtain ⟨n, _, _, rfl, rfl, he1⟩ := hs0.b_inv
  obtain ⟨a, _, _, rfl, rfl, he2⟩ := he1.s_inv
  obtain ⟨e, _, _, rfl, rfl, he3⟩ := he2.i_inv
  obtain ⟨rfl, rfl⟩ := he3.nil_inv
  obtain ⟨rfl, rfl⟩ := he0.nil_inv
  exact h n a e hp

noncomputable def ref02.Low.tab : List (Nat × Entry) := []
noncomputable def ref02.Low.E : Env := envOf (tabOf ref02.Low.tab) (fun _ => false) (fun _ => none) (fun _ => none)
theorem ref02.Low.ev (N : Nat) (n : Bool) (a : List Int) (e : Int) (m : Bool) (b : List Int) (f : Int) : funD ref02.Low.E N Try.f78 (bodyOf Try.f78) [.agg [.bool n, .ints .arg .u32 a, .int .i64 e], .agg [.bool m, .ints .arg .u32 b, .int .i64 f]] =
  bif ((List.length a : Int) == (0 : Int)) then
    some (.int .i64 f)
  else bif ((List.length b : Int) == (0 : Int)) then
    some (.int .i64 e)
  else some (.int .i64 (min e f)) := by kernel_rfl
theorem ref02.Low.known_of (hk : Knowns Try.prog ref02.Low.tab) (h : ∀ (n : Bool) (a : List Int) (e : Int) (m : Bool) (b : List Int) (f : Int), ref02.Low.pre [.b n, .l a, .i e, .b m, .l b, .i f] = true → ∃ N dv drops, funD ref02.Low.E N Try.f78 (bodyOf Try.f78) [.agg [.bool n, .ints .arg .u32 a, .int .i64 e], .agg [.bool m, .ints .arg .u32 b, .int .i64 f]] = some dv ∧ Wk drops dv (ref02.Low.out [.b n, .l a, .i e, .b m, .l b, .i f])) : Known Try.prog 78 ref02.Low.spec := by
  refine ⟨meets_entry (E := ref02.Low.E) (env_ok hk _ _ _) Try.func78 (show Try.f78.body = some (bodyOf Try.f78) by kernel_rfl) fun ats dvs he hp => ?_, call_enter Try.func78 (by kernel_rfl) (show Try.f78.body = some (bodyOf Try.f78) by kernel_rfl)⟩
  obtain ⟨_, _, _, _, rfl, rfl, hs0, he0⟩ := he.st_inv
  obtain ⟨n, _, _, rfl, rfl, he1⟩ := hs0.b_inv
  obtain ⟨a, _, _, rfl, rfl, he2⟩ := he1.s_inv
  obtain ⟨e, _, _, rfl, rfl, he3⟩ := he2.i_inv
  obtain ⟨rfl, rfl⟩ := he3.nil_inv
  obtain ⟨_, _, _, _, rfl, rfl, hs4, he4⟩ := he0.st_inv
  obtain ⟨m, _, _, rfl, rfl, he5⟩ := hs4.b_inv
  obtain ⟨b, _, _, rfl, rfl, he6⟩ := he5.s_inv
  obtain ⟨f, _, _, rfl, rfl, he7⟩ := he6.i_inv
  obtain ⟨rfl, rfl⟩ := he7.nil_inv
  obtain ⟨rfl, rfl⟩ := he4.nil_inv
  exact h n a e m b f hp

noncomputable def ref02.Level.tab : List (Nat × Entry) := [(69, ref01.Shift.spec)]
noncomputable def ref02.Level.E : Env := envOf (tabOf ref02.Level.tab) (fun _ => false) (fun _ => none) (fun _ => none)
theorem ref02.Level.ev (N : Nat) (n : Bool) (a : List Int) (e : Int) (f : Int) : funD ref02.Level.E N Try.f79 (bodyOf Try.f79) [.agg [.bool n, .ints .arg .u32 a, .int .i64 e], .int .i64 f] =
  bif ((List.length a : Int) == (0 : Int)) then
    some (.agg [.bool n, .ints .arg .u32 a])
  else bif (okV n a && okSh (w_i64 (e - f))) then
    some (.agg [.bool (negW (shW (wv n a) (w_i64 (e - f)))), .ints .arg .u32 (limbsI (shW (wv n a) (w_i64 (e - f))))])
  else none := by kernel_rfl
theorem ref02.Level.known_of (hk : Knowns Try.prog ref02.Level.tab) (h : ∀ (n : Bool) (a : List Int) (e : Int) (f : Int), ref02.Level.pre [.b n, .l a, .i e, .i f] = true → ∃ N dv drops, funD ref02.Level.E N Try.f79 (bodyOf Try.f79) [.agg [.bool n, .ints .arg .u32 a, .int .i64 e], .int .i64 f] = some dv ∧ Wk drops dv (ref02.Level.out [.b n, .l a, .i e, .i f])) : Known Try.prog 79 ref02.Level.spec := by
  refine ⟨meets_entry (E := ref02.Level.E) (env_ok hk _ _ _) Try.func79 (show Try.f79.body = some (bodyOf Try.f79) by kernel_rfl) fun ats dvs he hp => ?_, call_enter Try.func79 (by kernel_rfl) (show Try.f79.body = some (bodyOf Try.f79) by kernel_rfl)⟩
  obtain ⟨_, _, _, _, rfl, rfl, hs0, he0⟩ := he.st_inv
  obtain ⟨n, _, _, rfl, rfl, he1⟩ := hs0.b_inv
  obtain ⟨a, _, _, rfl, rfl, he2⟩ := he1.s_inv
  obtain ⟨e, _, _, rfl, rfl, he3⟩ := he2.i_inv
  obtain ⟨rfl, rfl⟩ := he3.nil_inv
  obtain ⟨f, _, _, rfl, rfl, he4⟩ := he0.i_inv
  obtain ⟨rfl, rfl⟩ := he4.nil_inv
  exact h n a e f hp

noncomputable def ref02.Add.tab : List (Nat × Entry) := [(57, ref02.Of.spec), (72, ref01.Add.spec), (78, ref02.Low.spec), (79, ref02.Level.spec)]
noncomputable def ref02.Add.E : Env := envOf (tabOf ref02.Add.tab) (fun _ => false) (fun _ => none) (fun _ => none)
theorem ref02.Add.ev (N : Nat) (n : Bool) (a : List Int) (e : Int) (m : Bool) (b : List Int) (f : Int) : funD ref02.Add.E N Try.f51 (bodyOf Try.f51) [.agg [.bool n, .ints .arg .u32 a, .int .i64 e], .agg [.bool m, .ints .arg .u32 b, .int .i64 f]] =
  bif (okW n a && okW m b) then
    bif (okV n a && okLv (wv n a) e (lowI (wv n a) e (wv m b) f)) then
      bif (okV m b && okLv (wv m b) f (lowI (wv n a) e (wv m b) f)) then
        bif (okW (negW (shW (wv n a) (e - (lowI (wv n a) e (wv m b) f)))) (limbsI (shW (wv n a) (e - (lowI (wv n a) e (wv m b) f)))) && okW (negW (shW (wv m b) (f - (lowI (wv n a) e (wv m b) f)))) (limbsI (shW (wv m b) (f - (lowI (wv n a) e (wv m b) f))))) then
          bif (okW (negW (wv (negW (shW (wv n a) (e - (lowI (wv n a) e (wv m b) f)))) (limbsI (shW (wv n a) (e - (lowI (wv n a) e (wv m b) f)))) + wv (negW (shW (wv m b) (f - (lowI (wv n a) e (wv m b) f)))) (limbsI (shW (wv m b) (f - (lowI (wv n a) e (wv m b) f)))))) (limbsI (wv (negW (shW (wv n a) (e - (lowI (wv n a) e (wv m b) f)))) (limbsI (shW (wv n a) (e - (lowI (wv n a) e (wv m b) f)))) + wv (negW (shW (wv m b) (f - (lowI (wv n a) e (wv m b) f)))) (limbsI (shW (wv m b) (f - (lowI (wv n a) e (wv m b) f)))))) && okE2 (lowI (wv n a) e (wv m b) f)) then
            some (.agg [.bool (negW (mD (wv (negW (wv (negW (shW (wv n a) (e - (lowI (wv n a) e (wv m b) f)))) (limbsI (shW (wv n a) (e - (lowI (wv n a) e (wv m b) f)))) + wv (negW (shW (wv m b) (f - (lowI (wv n a) e (wv m b) f)))) (limbsI (shW (wv m b) (f - (lowI (wv n a) e (wv m b) f)))))) (limbsI (wv (negW (shW (wv n a) (e - (lowI (wv n a) e (wv m b) f)))) (limbsI (shW (wv n a) (e - (lowI (wv n a) e (wv m b) f)))) + wv (negW (shW (wv m b) (f - (lowI (wv n a) e (wv m b) f)))) (limbsI (shW (wv m b) (f - (lowI (wv n a) e (wv m b) f))))))))), .ints .arg .u32 (limbsI (mD (wv (negW (wv (negW (shW (wv n a) (e - (lowI (wv n a) e (wv m b) f)))) (limbsI (shW (wv n a) (e - (lowI (wv n a) e (wv m b) f)))) + wv (negW (shW (wv m b) (f - (lowI (wv n a) e (wv m b) f)))) (limbsI (shW (wv m b) (f - (lowI (wv n a) e (wv m b) f)))))) (limbsI (wv (negW (shW (wv n a) (e - (lowI (wv n a) e (wv m b) f)))) (limbsI (shW (wv n a) (e - (lowI (wv n a) e (wv m b) f)))) + wv (negW (shW (wv m b) (f - (lowI (wv n a) e (wv m b) f)))) (limbsI (shW (wv m b) (f - (lowI (wv n a) e (wv m b) f))))))))), .int .i64 (eD (wv (negW (wv (negW (shW (wv n a) (e - (lowI (wv n a) e (wv m b) f)))) (limbsI (shW (wv n a) (e - (lowI (wv n a) e (wv m b) f)))) + wv (negW (shW (wv m b) (f - (lowI (wv n a) e (wv m b) f)))) (limbsI (shW (wv m b) (f - (lowI (wv n a) e (wv m b) f)))))) (limbsI (wv (negW (shW (wv n a) (e - (lowI (wv n a) e (wv m b) f)))) (limbsI (shW (wv n a) (e - (lowI (wv n a) e (wv m b) f)))) + wv (negW (shW (wv m b) (f - (lowI (wv n a) e (wv m b) f)))) (limbsI (shW (wv m b) (f - (lowI (wv n a) e (wv m b) f))))))) (lowI (wv n a) e (wv m b) f))])
          else none
        else none
      else none
    else none
  else none :=
  Eq.trans (b := bif (okW n a && okW m b) then
    bif ((okV n a && okLv (wv n a) e (lowI (wv n a) e (wv m b) f)) && true) then
      bif ((okV m b && okLv (wv m b) f (lowI (wv n a) e (wv m b) f)) && true) then
        bif ((okW (negW (shW (wv n a) (e - (lowI (wv n a) e (wv m b) f)))) (limbsI (shW (wv n a) (e - (lowI (wv n a) e (wv m b) f)))) && okW (negW (shW (wv m b) (f - (lowI (wv n a) e (wv m b) f)))) (limbsI (shW (wv m b) (f - (lowI (wv n a) e (wv m b) f))))) && true) then
          bif ((okW (negW (wv (negW (shW (wv n a) (e - (lowI (wv n a) e (wv m b) f)))) (limbsI (shW (wv n a) (e - (lowI (wv n a) e (wv m b) f)))) + wv (negW (shW (wv m b) (f - (lowI (wv n a) e (wv m b) f)))) (limbsI (shW (wv m b) (f - (lowI (wv n a) e (wv m b) f)))))) (limbsI (wv (negW (shW (wv n a) (e - (lowI (wv n a) e (wv m b) f)))) (limbsI (shW (wv n a) (e - (lowI (wv n a) e (wv m b) f)))) + wv (negW (shW (wv m b) (f - (lowI (wv n a) e (wv m b) f)))) (limbsI (shW (wv m b) (f - (lowI (wv n a) e (wv m b) f)))))) && okE2 (lowI (wv n a) e (wv m b) f)) && true) then
            some (.agg [.bool (negW (mD (wv (negW (wv (negW (shW (wv n a) (e - (lowI (wv n a) e (wv m b) f)))) (limbsI (shW (wv n a) (e - (lowI (wv n a) e (wv m b) f)))) + wv (negW (shW (wv m b) (f - (lowI (wv n a) e (wv m b) f)))) (limbsI (shW (wv m b) (f - (lowI (wv n a) e (wv m b) f)))))) (limbsI (wv (negW (shW (wv n a) (e - (lowI (wv n a) e (wv m b) f)))) (limbsI (shW (wv n a) (e - (lowI (wv n a) e (wv m b) f)))) + wv (negW (shW (wv m b) (f - (lowI (wv n a) e (wv m b) f)))) (limbsI (shW (wv m b) (f - (lowI (wv n a) e (wv m b) f))))))))), .ints .arg .u32 (limbsI (mD (wv (negW (wv (negW (shW (wv n a) (e - (lowI (wv n a) e (wv m b) f)))) (limbsI (shW (wv n a) (e - (lowI (wv n a) e (wv m b) f)))) + wv (negW (shW (wv m b) (f - (lowI (wv n a) e (wv m b) f)))) (limbsI (shW (wv m b) (f - (lowI (wv n a) e (wv m b) f)))))) (limbsI (wv (negW (shW (wv n a) (e - (lowI (wv n a) e (wv m b) f)))) (limbsI (shW (wv n a) (e - (lowI (wv n a) e (wv m b) f)))) + wv (negW (shW (wv m b) (f - (lowI (wv n a) e (wv m b) f)))) (limbsI (shW (wv m b) (f - (lowI (wv n a) e (wv m b) f))))))))), .int .i64 (eD (wv (negW (wv (negW (shW (wv n a) (e - (lowI (wv n a) e (wv m b) f)))) (limbsI (shW (wv n a) (e - (lowI (wv n a) e (wv m b) f)))) + wv (negW (shW (wv m b) (f - (lowI (wv n a) e (wv m b) f)))) (limbsI (shW (wv m b) (f - (lowI (wv n a) e (wv m b) f)))))) (limbsI (wv (negW (shW (wv n a) (e - (lowI (wv n a) e (wv m b) f)))) (limbsI (shW (wv n a) (e - (lowI (wv n a) e (wv m b) f)))) + wv (negW (shW (wv m b) (f - (lowI (wv n a) e (wv m b) f)))) (limbsI (shW (wv m b) (f - (lowI (wv n a) e (wv m b) f))))))) (lowI (wv n a) e (wv m b) f))])
          else none
        else none
      else none
    else none
  else none) (by kernel_rfl)
  (ifE (ifS (tt0 _) (ifS (tt0 _) (ifS (tt0 _) (ifS (tt0 _) rfl rfl) rfl) rfl) rfl) rfl)
theorem ref02.Add.known_of (hk : Knowns Try.prog ref02.Add.tab) (h : ∀ (n : Bool) (a : List Int) (e : Int) (m : Bool) (b : List Int) (f : Int), ref02.Add.pre [.b n, .l a, .i e, .b m, .l b, .i f] = true → ∃ N dv drops, funD ref02.Add.E N Try.f51 (bodyOf Try.f51) [.agg [.bool n, .ints .arg .u32 a, .int .i64 e], .agg [.bool m, .ints .arg .u32 b, .int .i64 f]] = some dv ∧ Wk drops dv (ref02.Add.out [.b n, .l a, .i e, .b m, .l b, .i f])) : Known Try.prog 51 ref02.Add.spec := by
  refine ⟨meets_entry (E := ref02.Add.E) (env_ok hk _ _ _) Try.func51 (show Try.f51.body = some (bodyOf Try.f51) by kernel_rfl) fun ats dvs he hp => ?_, call_enter Try.func51 (by kernel_rfl) (show Try.f51.body = some (bodyOf Try.f51) by kernel_rfl)⟩
  obtain ⟨_, _, _, _, rfl, rfl, hs0, he0⟩ := he.st_inv
  obtain ⟨n, _, _, rfl, rfl, he1⟩ := hs0.b_inv
  obtain ⟨a, _, _, rfl, rfl, he2⟩ := he1.s_inv
  obtain ⟨e, _, _, rfl, rfl, he3⟩ := he2.i_inv
  obtain ⟨rfl, rfl⟩ := he3.nil_inv
  obtain ⟨_, _, _, _, rfl, rfl, hs4, he4⟩ := he0.st_inv
  obtain ⟨m, _, _, rfl, rfl, he5⟩ := hs4.b_inv
  obtain ⟨b, _, _, rfl, rfl, he6⟩ := he5.s_inv
  obtain ⟨f, _, _, rfl, rfl, he7⟩ := he6.i_inv
  obtain ⟨rfl, rfl⟩ := he7.nil_inv
  obtain ⟨rfl, rfl⟩ := he4.nil_inv
  exact h n a e m b f hp

noncomputable def ref02.Sub.tab : List (Nat × Entry) := [(24, ref02.Neg.spec), (51, ref02.Add.spec)]
noncomputable def ref02.Sub.E : Env := envOf (tabOf ref02.Sub.tab) (fun _ => false) (fun _ => none) (fun _ => none)
theorem ref02.Sub.ev (N : Nat) (n : Bool) (a : List Int) (e : Int) (m : Bool) (b : List Int) (f : Int) : funD ref02.Sub.E N Try.f28 (bodyOf Try.f28) [.agg [.bool n, .ints .arg .u32 a, .int .i64 e], .agg [.bool m, .ints .arg .u32 b, .int .i64 f]] =
  bif (okW m b) then
    bif (((okV n a && okV (negW (- wv m b)) (limbsI (- wv m b))) && okE e) && okE f) then
      some (.agg [.bool (negW (addM (wv n a) e (wv (negW (- wv m b)) (limbsI (- wv m b))) f)), .ints .arg .u32 (limbsI (addM (wv n a) e (wv (negW (- wv m b)) (limbsI (- wv m b))) f)), .int .i64 (addE (wv n a) e (wv (negW (- wv m b)) (limbsI (- wv m b))) f)])
    else none
  else none :=
  Eq.trans (b := bif ((okW m b) && true) then
    bif ((((okV n a && okV (negW (- wv m b)) (limbsI (- wv m b))) && okE e) && okE f) && true) then
      some (.agg [.bool (negW (addM (wv n a) e (wv (negW (- wv m b)) (limbsI (- wv m b))) f)), .ints .arg .u32 (limbsI (addM (wv n a) e (wv (negW (- wv m b)) (limbsI (- wv m b))) f)), .int .i64 (addE (wv n a) e (wv (negW (- wv m b)) (limbsI (- wv m b))) f)])
    else none
  else none) (by kernel_rfl)
  (ifS (tt0 _) (ifS (tt0 _) rfl rfl) rfl)
theorem ref02.Sub.known_of (hk : Knowns Try.prog ref02.Sub.tab) (h : ∀ (n : Bool) (a : List Int) (e : Int) (m : Bool) (b : List Int) (f : Int), ref02.Sub.pre [.b n, .l a, .i e, .b m, .l b, .i f] = true → ∃ N dv drops, funD ref02.Sub.E N Try.f28 (bodyOf Try.f28) [.agg [.bool n, .ints .arg .u32 a, .int .i64 e], .agg [.bool m, .ints .arg .u32 b, .int .i64 f]] = some dv ∧ Wk drops dv (ref02.Sub.out [.b n, .l a, .i e, .b m, .l b, .i f])) : Known Try.prog 28 ref02.Sub.spec := by
  refine ⟨meets_entry (E := ref02.Sub.E) (env_ok hk _ _ _) Try.func28 (show Try.f28.body = some (bodyOf Try.f28) by kernel_rfl) fun ats dvs he hp => ?_, call_enter Try.func28 (by kernel_rfl) (show Try.f28.body = some (bodyOf Try.f28) by kernel_rfl)⟩
  obtain ⟨_, _, _, _, rfl, rfl, hs0, he0⟩ := he.st_inv
  obtain ⟨n, _, _, rfl, rfl, he1⟩ := hs0.b_inv
  obtain ⟨a, _, _, rfl, rfl, he2⟩ := he1.s_inv
  obtain ⟨e, _, _, rfl, rfl, he3⟩ := he2.i_inv
  obtain ⟨rfl, rfl⟩ := he3.nil_inv
  obtain ⟨_, _, _, _, rfl, rfl, hs4, he4⟩ := he0.st_inv
  obtain ⟨m, _, _, rfl, rfl, he5⟩ := hs4.b_inv
  obtain ⟨b, _, _, rfl, rfl, he6⟩ := he5.s_inv
  obtain ⟨f, _, _, rfl, rfl, he7⟩ := he6.i_inv
  obtain ⟨rfl, rfl⟩ := he7.nil_inv
  obtain ⟨rfl, rfl⟩ := he4.nil_inv
  exact h n a e m b f hp

noncomputable def ref02.Scale.tab : List (Nat × Entry) := [(57, ref02.Of.spec)]
noncomputable def ref02.Scale.E : Env := envOf (tabOf ref02.Scale.tab) (fun _ => false) (fun _ => none) (fun _ => none)
theorem ref02.Scale.ev (N : Nat) (n : Bool) (a : List Int) (e : Int) (k : Int) : funD ref02.Scale.E N Try.f26 (bodyOf Try.f26) [.agg [.bool n, .ints .arg .u32 a, .int .i64 e], .int .i64 k] =
  bif (okW n a && okE2 (w_i64 (e + k))) then
    some (.agg [.bool (negW (mD (wv n a))), .ints .arg .u32 (limbsI (mD (wv n a))), .int .i64 (eD (wv n a) (w_i64 (e + k)))])
  else none := by kernel_rfl
theorem ref02.Scale.known_of (hk : Knowns Try.prog ref02.Scale.tab) (h : ∀ (n : Bool) (a : List Int) (e : Int) (k : Int), ref02.Scale.pre [.b n, .l a, .i e, .i k] = true → ∃ N dv drops, funD ref02.Scale.E N Try.f26 (bodyOf Try.f26) [.agg [.bool n, .ints .arg .u32 a, .int .i64 e], .int .i64 k] = some dv ∧ Wk drops dv (ref02.Scale.out [.b n, .l a, .i e, .i k])) : Known Try.prog 26 ref02.Scale.spec := by
  refine ⟨meets_entry (E := ref02.Scale.E) (env_ok hk _ _ _) Try.func26 (show Try.f26.body = some (bodyOf Try.f26) by kernel_rfl) fun ats dvs he hp => ?_, call_enter Try.func26 (by kernel_rfl) (show Try.f26.body = some (bodyOf Try.f26) by kernel_rfl)⟩
  obtain ⟨_, _, _, _, rfl, rfl, hs0, he0⟩ := he.st_inv
  obtain ⟨n, _, _, rfl, rfl, he1⟩ := hs0.b_inv
  obtain ⟨a, _, _, rfl, rfl, he2⟩ := he1.s_inv
  obtain ⟨e, _, _, rfl, rfl, he3⟩ := he2.i_inv
  obtain ⟨rfl, rfl⟩ := he3.nil_inv
  obtain ⟨k, _, _, rfl, rfl, he4⟩ := he0.i_inv
  obtain ⟨rfl, rfl⟩ := he4.nil_inv
  exact h n a e k hp

noncomputable def ref02.Top.tab : List (Nat × Entry) := [(87, ref01.Len.spec)]
noncomputable def ref02.Top.E : Env := envOf (tabOf ref02.Top.tab) (fun _ => false) (fun _ => none) (fun _ => none)
theorem ref02.Top.ev (N : Nat) (n : Bool) (a : List Int) (e : Int) : funD ref02.Top.E N Try.f59 (bodyOf Try.f59) [.agg [.bool n, .ints .arg .u32 a, .int .i64 e]] =
  bif ((List.length a : Int) == (0 : Int)) then
    some (.int .i64 (0 : Int))
  else bif (okW n a) then
    some (.int .i64 (w_i64 ((lenI (wv n a)) + e)))
  else none :=
  Eq.trans (b := bif ((List.length a : Int) == (0 : Int)) then
    some (.int .i64 (0 : Int))
  else bif ((okW n a) && true) then
    some (.int .i64 (w_i64 ((lenI (wv n a)) + e)))
  else none) (by kernel_rfl)
  (ifE rfl (ifS (tt0 _) rfl rfl))
theorem ref02.Top.known_of (hk : Knowns Try.prog ref02.Top.tab) (h : ∀ (n : Bool) (a : List Int) (e : Int), ref02.Top.pre [.b n, .l a, .i e] = true → ∃ N dv drops, funD ref02.Top.E N Try.f59 (bodyOf Try.f59) [.agg [.bool n, .ints .arg .u32 a, .int .i64 e]] = some dv ∧ Wk drops dv (ref02.Top.out [.b n, .l a, .i e])) : Known Try.prog 59 ref02.Top.spec := by
  refine ⟨meets_entry (E := ref02.Top.E) (env_ok hk _ _ _) Try.func59 (show Try.f59.body = some (bodyOf Try.f59) by kernel_rfl) fun ats dvs he hp => ?_, call_enter Try.func59 (by kernel_rfl) (show Try.f59.body = some (bodyOf Try.f59) by kernel_rfl)⟩
  obtain ⟨_, _, _, _, rfl, rfl, hs0, he0⟩ := he.st_inv
  obtain ⟨n, _, _, rfl, rfl, he1⟩ := hs0.b_inv
  obtain ⟨a, _, _, rfl, rfl, he2⟩ := he1.s_inv
  obtain ⟨e, _, _, rfl, rfl, he3⟩ := he2.i_inv
  obtain ⟨rfl, rfl⟩ := he3.nil_inv
  obtain ⟨rfl, rfl⟩ := he0.nil_inv
  exact h n a e hp

noncomputable def ref02.Sign.tab : List (Nat × Entry) := []
noncomputable def ref02.Sign.E : Env := envOf (tabOf ref02.Sign.tab) (fun _ => false) (fun _ => none) (fun _ => none)
theorem ref02.Sign.ev (N : Nat) (n : Bool) (a : List Int) (e : Int) : funD ref02.Sign.E N Try.f58 (bodyOf Try.f58) [.agg [.bool n, .ints .arg .u32 a, .int .i64 e]] =
  bif n then
    some (.int .i64 (-1 : Int))
  else some (.int .i64 (min (List.length a : Int) (1 : Int))) := by kernel_rfl
theorem ref02.Sign.known_of (hk : Knowns Try.prog ref02.Sign.tab) (h : ∀ (n : Bool) (a : List Int) (e : Int), ref02.Sign.pre [.b n, .l a, .i e] = true → ∃ N dv drops, funD ref02.Sign.E N Try.f58 (bodyOf Try.f58) [.agg [.bool n, .ints .arg .u32 a, .int .i64 e]] = some dv ∧ Wk drops dv (ref02.Sign.out [.b n, .l a, .i e])) : Known Try.prog 58 ref02.Sign.spec := by
  refine ⟨meets_entry (E := ref02.Sign.E) (env_ok hk _ _ _) Try.func58 (show Try.f58.body = some (bodyOf Try.f58) by kernel_rfl) fun ats dvs he hp => ?_, call_enter Try.func58 (by kernel_rfl) (show Try.f58.body = some (bodyOf Try.f58) by kernel_rfl)⟩
  obtain ⟨_, _, _, _, rfl, rfl, hs0, he0⟩ := he.st_inv
  obtain ⟨n, _, _, rfl, rfl, he1⟩ := hs0.b_inv
  obtain ⟨a, _, _, rfl, rfl, he2⟩ := he1.s_inv
  obtain ⟨e, _, _, rfl, rfl, he3⟩ := he2.i_inv
  obtain ⟨rfl, rfl⟩ := he3.nil_inv
  obtain ⟨rfl, rfl⟩ := he0.nil_inv
  exact h n a e hp

noncomputable def ref02.Compare.tab : List (Nat × Entry) := [(28, ref02.Sub.spec), (58, ref02.Sign.spec), (59, ref02.Top.spec)]
noncomputable def ref02.Compare.E : Env := envOf (tabOf ref02.Compare.tab) (fun _ => false) (fun _ => none) (fun _ => none)
theorem ref02.Compare.ev (N : Nat) (n : Bool) (a : List Int) (e : Int) (m : Bool) (b : List Int) (f : Int) : funD ref02.Compare.E N Try.f25 (bodyOf Try.f25) [.agg [.bool n, .ints .arg .u32 a, .int .i64 e], .agg [.bool m, .ints .arg .u32 b, .int .i64 f]] =
  bif (okW n a) then
    bif (okW m b) then
      bif ((sgI (wv n a)) != (sgI (wv m b))) then
        bif (okW n a) then
          bif (okW m b) then
            some (.int .i64 (min (1 : Int) (max (-1 : Int) (w_i64 ((sgI (wv n a)) - (sgI (wv m b)))))))
          else none
        else none
      else bif (okW n a && okE e) then
        bif (okW m b && okE f) then
          bif ((topI (wv n a) e) != (topI (wv m b) f)) then
            bif (okW n a && okE e) then
              bif (okW m b && okE f) then
                bif (okW n a) then
                  bif ((ltI (topI (wv m b) f) (topI (wv n a) e)) == (ltI (0 : Int) (sgI (wv n a)))) then
                    some (.int .i64 (1 : Int))
                  else some (.int .i64 (-1 : Int))
                else none
              else none
            else none
          else bif (((okV n a && okV m b) && okE e) && okE f) then
            bif (okW (negW (addM (wv n a) e (- wv m b) f)) (limbsI (addM (wv n a) e (- wv m b) f))) then
              some (.int .i64 (sgI (wv (negW (addM (wv n a) e (- wv m b) f)) (limbsI (addM (wv n a) e (- wv m b) f)))))
            else none
          else none
        else none
      else none
    else none
  else none :=
  Eq.trans (b := bif ((okW n a) && true) then
    bif ((okW m b) && true) then
      bif ((sgI (wv n a)) != (sgI (wv m b))) then
        bif ((okW n a) && true) then
          bif ((okW m b) && true) then
            some (.int .i64 (min (1 : Int) (max (-1 : Int) (w_i64 ((sgI (wv n a)) - (sgI (wv m b)))))))
          else none
        else none
      else bif ((okW n a && okE e) && true) then
        bif ((okW m b && okE f) && true) then
          bif ((topI (wv n a) e) != (topI (wv m b) f)) then
            bif ((okW n a && okE e) && true) then
              bif ((okW m b && okE f) && true) then
                bif ((okW n a) && true) then
                  bif ((ltI (topI (wv m b) f) (topI (wv n a) e)) == (ltI (0 : Int) (sgI (wv n a)))) then
                    some (.int .i64 (1 : Int))
                  else some (.int .i64 (-1 : Int))
                else none
              else none
            else none
          else bif (((okV n a && okV m b) && okE e) && okE f) then
            bif (okW (negW (addM (wv n a) e (- wv m b) f)) (limbsI (addM (wv n a) e (- wv m b) f))) then
              some (.int .i64 (sgI (wv (negW (addM (wv n a) e (- wv m b) f)) (limbsI (addM (wv n a) e (- wv m b) f)))))
            else none
          else none
        else none
      else none
    else none
  else none) (by kernel_rfl)
  (ifS (tt0 _) (ifS (tt0 _) (ifE (ifS (tt0 _) (ifS (tt0 _) rfl rfl) rfl) (ifS (tt0 _) (ifS (tt0 _) (ifE (ifS (tt0 _) (ifS (tt0 _) (ifS (tt0 _) rfl rfl) rfl) rfl) rfl) rfl) rfl)) rfl) rfl)
theorem ref02.Compare.known_of (hk : Knowns Try.prog ref02.Compare.tab) (h : ∀ (n : Bool) (a : List Int) (e : Int) (m : Bool) (b : List Int) (f : Int), ref02.Compare.pre [.b n, .l a, .i e, .b m, .l b, .i f] = true → ∃ N dv drops, funD ref02.Compare.E N Try.f25 (bodyOf Try.f25) [.agg [.bool n, .ints .arg .u32 a, .int .i64 e], .agg [.bool m, .ints .arg .u32 b, .int .i64 f]] = some dv ∧ Wk drops dv (ref02.Compare.out [.b n, .l a, .i e, .b m, .l b, .i f])) : Known Try.prog 25 ref02.Compare.spec := by
  refine ⟨meets_entry (E := ref02.Compare.E) (env_ok hk _ _ _) Try.func25 (show Try.f25.body = some (bodyOf Try.f25) by kernel_rfl) fun ats dvs he hp => ?_, call_enter Try.func25 (by kernel_rfl) (show Try.f25.body = some (bodyOf Try.f25) by kernel_rfl)⟩
  obtain ⟨_, _, _, _, rfl, rfl, hs0, he0⟩ := he.st_inv
  obtain ⟨n, _, _, rfl, rfl, he1⟩ := hs0.b_inv
  obtain ⟨a, _, _, rfl, rfl, he2⟩ := he1.s_inv
  obtain ⟨e, _, _, rfl, rfl, he3⟩ := he2.i_inv
  obtain ⟨rfl, rfl⟩ := he3.nil_inv
  obtain ⟨_, _, _, _, rfl, rfl, hs4, he4⟩ := he0.st_inv
  obtain ⟨m, _, _, rfl, rfl, he5⟩ := hs4.b_inv
  obtain ⟨b, _, _, rfl, rfl, he6⟩ := he5.s_inv
  obtain ⟨f, _, _, rfl, rfl, he7⟩ := he6.i_inv
  obtain ⟨rfl, rfl⟩ := he7.nil_inv
  obtain ⟨rfl, rfl⟩ := he4.nil_inv
  exact h n a e m b f hp

noncomputable def ref02.Same.tab : List (Nat × Entry) := [(60, ref01.Same.spec)]
noncomputable def ref02.Same.E : Env := envOf (tabOf ref02.Same.tab) (fun _ => false) (fun _ => none) (fun _ => none)
theorem ref02.Same.ev (N : Nat) (n : Bool) (a : List Int) (e : Int) (m : Bool) (b : List Int) (f : Int) : funD ref02.Same.E N Try.f27 (bodyOf Try.f27) [.agg [.bool n, .ints .arg .u32 a, .int .i64 e], .agg [.bool m, .ints .arg .u32 b, .int .i64 f]] =
  bif ((!(e == f)) || (okW n a && okW m b)) then
    some (.bool (bif (e == f) then (sameI (wv n a) (wv m b)) else false))
  else none :=
  Eq.trans (b := bif ((!((e == f) == true)) || true) then
    bif ((!((e == f) == true)) || ((((!((e == f) == true)) || ((e == f) == true)) && true) && true)) then
      bif ((!((e == f) == true)) || true) then
        bif ((!((e == f) == true)) || ((((!((e == f) == true)) || ((e == f) == true)) && true) && true)) then
          bif ((!((e == f) == true)) || ((((!((e == f) == true)) || ((e == f) == true)) && (((!((e == f) == true)) || ((e == f) == true)) && true)) && (okW n a && okW m b))) then
            bif (((!(e == f)) || ((e == f) == true)) && true) then
              some (.bool (bif (e == f) then (sameI (wv n a) (wv m b)) else false))
            else none
          else none
        else none
      else none
    else none
  else none) (by kernel_rfl)
  (ifT (tt5 _) (ifT (tt4 _) (ifT (tt5 _) (ifT (tt4 _) (ifS (tt3 _ _) (ifT (tt2 _) rfl) rfl)))))
theorem ref02.Same.known_of (hk : Knowns Try.prog ref02.Same.tab) (h : ∀ (n : Bool) (a : List Int) (e : Int) (m : Bool) (b : List Int) (f : Int), ref02.Same.pre [.b n, .l a, .i e, .b m, .l b, .i f] = true → ∃ N dv drops, funD ref02.Same.E N Try.f27 (bodyOf Try.f27) [.agg [.bool n, .ints .arg .u32 a, .int .i64 e], .agg [.bool m, .ints .arg .u32 b, .int .i64 f]] = some dv ∧ Wk drops dv (ref02.Same.out [.b n, .l a, .i e, .b m, .l b, .i f])) : Known Try.prog 27 ref02.Same.spec := by
  refine ⟨meets_entry (E := ref02.Same.E) (env_ok hk _ _ _) Try.func27 (show Try.f27.body = some (bodyOf Try.f27) by kernel_rfl) fun ats dvs he hp => ?_, call_enter Try.func27 (by kernel_rfl) (show Try.f27.body = some (bodyOf Try.f27) by kernel_rfl)⟩
  obtain ⟨_, _, _, _, rfl, rfl, hs0, he0⟩ := he.st_inv
  obtain ⟨n, _, _, rfl, rfl, he1⟩ := hs0.b_inv
  obtain ⟨a, _, _, rfl, rfl, he2⟩ := he1.s_inv
  obtain ⟨e, _, _, rfl, rfl, he3⟩ := he2.i_inv
  obtain ⟨rfl, rfl⟩ := he3.nil_inv
  obtain ⟨_, _, _, _, rfl, rfl, hs4, he4⟩ := he0.st_inv
  obtain ⟨m, _, _, rfl, rfl, he5⟩ := hs4.b_inv
  obtain ⟨b, _, _, rfl, rfl, he6⟩ := he5.s_inv
  obtain ⟨f, _, _, rfl, rfl, he7⟩ := he6.i_inv
  obtain ⟨rfl, rfl⟩ := he7.nil_inv
  obtain ⟨rfl, rfl⟩ := he4.nil_inv
  exact h n a e m b f hp
end EqRefC
end Go.Proofs.S1

/- Package dioptraref02: dyadic numbers. -/
namespace Go.Proofs.S1
open Go Go.Den Go.Rnd Go.Proofs
open EqRefC

def dout (v e : Int) : Option DV := some (.agg [.bool (negW v), .ints .arg .u32 (limbsI v), .int .i64 e])
theorem wdy {drops : List Nat} {b : Bool} {l : List Int} {e : Int} : Wk drops (.agg [.bool b, .ints .arg .u32 l, .int .i64 e]) (.agg [.bool b, .ints .arg .u32 l, .int .i64 e]) := Wk.aggL (.cons .bool (.cons .argL (.cons .int .nil)))

theorem head_val (v : Int) : (limbsI v).getD 0 0 = ((v.natAbs % 4294967296 : Nat) : Int) := by
  have hg := get_val (limbsI_in v) 0
  rw [valL_limbsI, Nat.mul_zero, Nat.pow_zero, Nat.div_one] at hg
  exact hg

theorem shR_len {v : Int} {k : Nat} (h : lenN v.natAbs < 268435456) : lenN (shR v k).natAbs < 268435456 := by
  rw [shR_abs]
  exact Nat.lt_of_le_of_lt (lenN_mono (Nat.div_le_self _ _)) h

theorem shR_ne {v : Int} {k : Nat} (h0 : v ≠ 0) (h : v.natAbs % 2 ^ k = 0) : shR v k ≠ 0 ∧ tzN (shR v k).natAbs + k = tzN v.natAbs := by
  have hv := Nat.div_add_mod v.natAbs (2 ^ k)
  rw [h, Nat.add_zero, Nat.mul_comm] at hv
  have hq : v.natAbs / 2 ^ k ≠ 0 := by
    intro e; rw [e] at hv; omega
  have ht := tz_mul hq k
  rw [hv] at ht
  have ha := shR_abs v k
  refine ⟨by omega, ?_⟩
  rw [ha]
  omega

theorem of_loop1 (N : Nat) : ∀ (F : Nat) (v e : Int), v ≠ 0 → tzN v.natAbs < F → lenN v.natAbs < 268435456 → -4000000000000 ≤ e → e + tzN v.natAbs ≤ 400000000000000 →
    ref02.Of.L1 N F e (negW v) (limbsI v) = dout (mD v) (eD v e) := by
  intro F
  induction F with
  | zero => intro v e _ h; omega
  | succ F ih =>
    intro v e h0 hF hv h1 h2
    rw [ref02.Of.L1_step, okW_of hv, cond_true, wv_of]
    by_cases ho : v % 2 = 1
    · have : oddB v = true := decide_eq_true ho
      rw [this, Bool.not_true, cond_false, mD_odd ho, eD_odd ho]
      rfl
    · have : oddB v = false := decide_eq_false ho
      have hm : v.natAbs % 2 ^ 1 = 0 := by rw [Nat.pow_one]; omega
      obtain ⟨n1, n2⟩ := shR_ne h0 hm
      rw [this, Bool.not_false, cond_true, cond_true, w_i64_in (by omega) (by omega), ih (shR v 1) (e + 1) n1 (by omega) (shR_len hv) (by omega) (by omega), mD_shR hm]
      have := eD_shR (e := e) hm h0
      rw [← this]
      rfl

theorem of_loop0 (N : Nat) : ∀ (F : Nat) (v e : Int), v ≠ 0 → tzN v.natAbs < F → tzN v.natAbs < N → lenN v.natAbs < 268435456 → -4000000000000 ≤ e → e + tzN v.natAbs ≤ 400000000000000 →
    ref02.Of.L0 N F e (negW v) (limbsI v) = dout (mD v) (eD v e) := by
  intro F
  induction F with
  | zero => intro v e _ h; omega
  | succ F ih =>
    intro v e h0 hF hN hv h1 h2
    have hl := lenN_pos (n := v.natAbs) (by omega)
    rw [ref02.Of.L0_step, length_limbsI, decide_eq_true (by omega), cond_true, head_val]
    by_cases hz : v.natAbs % 4294967296 = 0
    · have e0 : (((v.natAbs % 4294967296 : Nat) : Int) == 0) = true := by rw [hz]; rfl
      have o3 : okL ((limbsI v).drop 1) = true := okL_of (by rw [List.length_drop, length_limbsI]; omega) (inL_tail (limbsI_in v))
      have hm : v.natAbs % 2 ^ 32 = 0 := by rw [two32]; exact hz
      obtain ⟨n1, n2⟩ := shR_ne h0 hm
      rw [e0, cond_true, decide_eq_true (by omega), cond_true, o3, cond_true, wv_tail, w_i64_in (by omega) (by omega), ih (shR v 32) (e + 32) n1 (by omega) (by omega) (shR_len hv) (by omega) (by omega), mD_shR hm]
      have := eD_shR (e := e) hm h0
      rw [← this]
      rfl
    · have e0 : (((v.natAbs % 4294967296 : Nat) : Int) == 0) = false := by simp only [beq_eq_false_iff_ne, ne_eq]; omega
      rw [e0, cond_false]
      exact of_loop1 N N v e h0 hN hv h1 h2

theorem tz_small {v : Int} (h0 : v ≠ 0) (h : lenN v.natAbs < 268435456) : tzN v.natAbs < 8589934592 := by
  have h1 := tz_lt (n := v.natAbs) (by omega)
  have h2 := log2_lenN (n := v.natAbs)
  omega

theorem ref02.Of.known : Known Try.prog 57 ref02.Of.spec := ref02.Of.known_of (.cons ref01.Made.known (.cons ref01.Odd.known (.cons ref01.Half.known .nil))) fun n a e hp => by
  obtain ⟨h1, h2⟩ := and_true_iff.1 hp
  obtain ⟨v, rfl, rfl, hv⟩ := okW_get h1
  have h2 := cdec_eq.1 h2
  by_cases h0 : v = 0
  · subst h0
    refine ⟨0, .agg [.bool false, .nil, .int .i64 (0 : Int)], [], ?_, ?_⟩
    · rw [ref02.Of.ev]; rfl
    · show Wk [] _ (.agg [.bool (negW (mD (wv (negW 0) (limbsI 0)))), .ints .arg .u32 (limbsI (mD (wv (negW 0) (limbsI 0)))), .int .i64 (eD (wv (negW 0) (limbsI 0)) e)])
      rw [wv_of, mD_zero.2 rfl]
      exact Wk.aggL (.cons .bool (.cons (.nil _ _) (.cons .int .nil)))
  · refine ⟨tzN v.natAbs + 1, ref02.Of.out [.b (negW v), .l (limbsI v), .i e], [], ?_, wdy⟩
    have ht := tz_small h0 hv
    have hl := lenN_pos (n := v.natAbs) (by omega)
    have e0 : (((limbsI v).length : Int) == 0) = false := by rw [length_limbsI]; simp only [beq_eq_false_iff_ne, ne_eq]; omega
    show _ = dout (mD (wv (negW v) (limbsI v))) (eD (wv (negW v) (limbsI v)) e)
    rw [ref02.Of.ev, e0, cond_false, wv_of]
    exact of_loop0 _ _ v e h0 (by omega) (by omega) hv (by omega) (by omega)

theorem ref02.Neg.known : Known Try.prog 24 ref02.Neg.spec := ref02.Neg.known_of (.cons ref01.Neg.known .nil) fun n a e hp => by
  refine ⟨0, ref02.Neg.out [.b n, .l a, .i e], [], ?_, wdy⟩
  have hp : okW n a = true := hp
  rw [ref02.Neg.ev, hp, cond_true]
  rfl

theorem len_zero (v : Int) : (((limbsI v).length : Int) == 0) = decide (v = 0) := by
  rw [length_limbsI, Bool.eq_iff_iff]
  simp only [beq_iff_eq, decide_eq_true_eq]
  constructor
  · intro h
    rcases Int.lt_trichotomy v 0 with k | k | k
    · have := lenN_pos (n := v.natAbs) (by omega); omega
    · exact k
    · have := lenN_pos (n := v.natAbs) (by omega); omega
  · intro h; rw [h]; rfl

theorem ref02.Low.known : Known Try.prog 78 ref02.Low.spec := ref02.Low.known_of .nil fun n a e m b f hp => by
  obtain ⟨h1, h2⟩ := and_true_iff.1 hp
  obtain ⟨v, rfl, rfl, hv⟩ := okW_get h1
  obtain ⟨w, rfl, rfl, hw⟩ := okW_get h2
  refine ⟨0, ref02.Low.out [.b (negW v), .l (limbsI v), .i e, .b (negW w), .l (limbsI w), .i f], [], ?_, .int⟩
  show _ = some (DV.int .i64 (lowI (wv (negW v) (limbsI v)) e (wv (negW w) (limbsI w)) f))
  rw [ref02.Low.ev, wv_of, wv_of, len_zero, len_zero]
  unfold lowI
  by_cases h : v = 0
  · rw [decide_eq_true h, cond_true, if_pos h]
  · rw [decide_eq_false h, cond_false, if_neg h]
    by_cases h' : w = 0
    · rw [decide_eq_true h', cond_true, if_pos h']
    · rw [decide_eq_false h', cond_false, if_neg h']

theorem shW_zero (k : Int) : shW 0 k = 0 := by
  unfold shW
  split
  · exact Int.zero_mul _
  · exact shR_nil _

theorem ref02.Level.known : Known Try.prog 79 ref02.Level.spec := ref02.Level.known_of (.cons ref01.Shift.known .nil) fun n a e f hp => by
  obtain ⟨h1, h2⟩ := and_true_iff.1 hp
  obtain ⟨v, rfl, rfl, hv⟩ := okV_get h1
  refine ⟨0, ref02.Level.out [.b (negW v), .l (limbsI v), .i e, .i f], [], ?_, wagg⟩
  show _ = wout (shW (wv (negW v) (limbsI v)) (e - f))
  unfold okLv at h2
  rw [wv_of] at h2
  obtain ⟨h3, h4⟩ := and_true_iff.1 h2
  have h3 := cdec_eq.1 h3
  have h4 := cdec_eq.1 h4
  rw [ref02.Level.ev, wv_of, len_zero]
  by_cases h : v = 0
  · rw [decide_eq_true h, cond_true, h, shW_zero]; rfl
  · have o : okSh (w_i64 (e - f)) = true := by rw [w_i64_in (by omega) (by omega)]; exact cdec_eq.2 (by omega)
    rw [decide_eq_false h, cond_false, h1, o, Bool.and_self, cond_true, w_i64_in (by omega) (by omega)]
    rfl

theorem lenN_shl (n k : Nat) : lenN (n * 2 ^ k) ≤ lenN n + k := by
  refine lenN_le ?_
  have h1 := lt_lenN n
  have h2 : n * 2 ^ k < 2 ^ (32 * lenN n) * 2 ^ k := (Nat.mul_lt_mul_right (pow_pos2 k)).2 h1
  rw [← Nat.pow_add] at h2
  exact Nat.lt_of_lt_of_le h2 (Nat.pow_le_pow_right (by decide) (by omega))

theorem lenN_shW (v k : Int) : lenN (shW v k).natAbs ≤ lenN v.natAbs + k.toNat := by
  unfold shW
  by_cases h : 0 ≤ k
  · rw [if_pos h, Int.natAbs_mul, Int.natAbs_natCast]
    exact lenN_shl _ _
  · rw [if_neg h, shR_abs]
    exact Nat.le_trans (lenN_mono (Nat.div_le_self _ _)) (Nat.le_add_right _ _)

theorem lenN_sum (v w : Int) : lenN (v + w).natAbs ≤ max (lenN v.natAbs) (lenN w.natAbs) + 1 := by
  refine lenN_le ?_
  have h1 := lt_lenN v.natAbs
  have h2 := lt_lenN w.natAbs
  have h3 : 2 ^ (32 * lenN v.natAbs) ≤ 2 ^ (32 * max (lenN v.natAbs) (lenN w.natAbs)) := Nat.pow_le_pow_right (by decide) (by omega)
  have h4 : 2 ^ (32 * lenN w.natAbs) ≤ 2 ^ (32 * max (lenN v.natAbs) (lenN w.natAbs)) := Nat.pow_le_pow_right (by decide) (by omega)
  rw [pow32]
  omega

theorem low_bounds {v e w f : Int} (he : -400000 ≤ e ∧ e ≤ 400000) (hf : -400000 ≤ f ∧ f ≤ 400000) : -400000 ≤ lowI v e w f ∧ lowI v e w f ≤ 400000 := by
  unfold lowI
  split
  · exact hf
  · split
    · exact he
    · omega

theorem shW_len {v e l : Int} (hv : lenN v.natAbs < 134217728) (h : e - l ≤ 800000) : lenN (shW v (e - l)).natAbs < 140000000 := by
  have := lenN_shW v (e - l)
  omega

theorem ref02.Add.known : Known Try.prog 51 ref02.Add.spec := ref02.Add.known_of (.cons ref02.Of.known (.cons ref01.Add.known (.cons ref02.Low.known (.cons ref02.Level.known .nil)))) fun n a e m b f hp => by
  obtain ⟨h1, hf⟩ := and_true_iff.1 hp
  obtain ⟨h2, he⟩ := and_true_iff.1 h1
  obtain ⟨h3, h4⟩ := and_true_iff.1 h2
  obtain ⟨v, rfl, rfl, hv⟩ := okV_get h3
  obtain ⟨w, rfl, rfl, hw⟩ := okV_get h4
  have he := cdec_eq.1 he
  have hf := cdec_eq.1 hf
  refine ⟨0, ref02.Add.out [.b (negW v), .l (limbsI v), .i e, .b (negW w), .l (limbsI w), .i f], [], ?_, wdy⟩
  show _ = dout (addM (wv (negW v) (limbsI v)) e (wv (negW w) (limbsI w)) f) (addE (wv (negW v) (limbsI v)) e (wv (negW w) (limbsI w)) f)
  have hlo := low_bounds (v := v) (w := w) he hf
  have l1 := shW_len (l := lowI v e w f) hv (show e - lowI v e w f ≤ 800000 by omega)
  have l2 := shW_len (l := lowI v e w f) hw (show f - lowI v e w f ≤ 800000 by omega)
  have l3 := lenN_sum (shW v (e - lowI v e w f)) (shW w (f - lowI v e w f))
  have o1 : okLv v e (lowI v e w f) = true := and_true_iff.2 ⟨cdec_eq.2 (by omega), cdec_eq.2 (by omega)⟩
  have o2 : okLv w f (lowI v e w f) = true := and_true_iff.2 ⟨cdec_eq.2 (by omega), cdec_eq.2 (by omega)⟩
  have o3 : okE2 (lowI v e w f) = true := cdec_eq.2 (by omega)
  rw [ref02.Add.ev]
  simp only [wv_of]
  rw [okW_of (v := v) (by omega), okW_of (v := w) (by omega), h3, h4, o1, o2, okW_of (v := shW v (e - lowI v e w f)) (by omega), okW_of (v := shW w (f - lowI v e w f)) (by omega), okW_of (v := shW v (e - lowI v e w f) + shW w (f - lowI v e w f)) (by omega), o3]
  simp only [Bool.and_self, cond_true]
  rfl

theorem ref02.Sub.known : Known Try.prog 28 ref02.Sub.spec := ref02.Sub.known_of (.cons ref02.Neg.known (.cons ref02.Add.known .nil)) fun n a e m b f hp => by
  obtain ⟨h1, hf⟩ := and_true_iff.1 hp
  obtain ⟨h2, he⟩ := and_true_iff.1 h1
  obtain ⟨h3, h4⟩ := and_true_iff.1 h2
  obtain ⟨w, rfl, rfl, hw⟩ := okV_get h4
  refine ⟨0, ref02.Sub.out [.b n, .l a, .i e, .b (negW w), .l (limbsI w), .i f], [], ?_, wdy⟩
  show _ = dout (addM (wv n a) e (- wv (negW w) (limbsI w)) f) (addE (wv n a) e (- wv (negW w) (limbsI w)) f)
  rw [ref02.Sub.ev]
  simp only [wv_of]
  rw [okW_of (v := w) (by omega), h3, okV_of (v := -w) (by rw [Int.natAbs_neg]; exact hw), he, hf]
  rfl

theorem ref02.Scale.known : Known Try.prog 26 ref02.Scale.spec := ref02.Scale.known_of (.cons ref02.Of.known .nil) fun n a e k hp => by
  obtain ⟨h1, hk⟩ := and_true_iff.1 hp
  obtain ⟨h2, he⟩ := and_true_iff.1 h1
  have he := cdec_eq.1 he
  have hk := cdec_eq.1 hk
  refine ⟨0, ref02.Scale.out [.b n, .l a, .i e, .i k], [], ?_, wdy⟩
  have o : okE2 (e + k) = true := cdec_eq.2 (by omega)
  rw [ref02.Scale.ev, w_i64_in (by omega) (by omega), h2, o]
  rfl

theorem lenI_bounds {v : Int} (h : lenN v.natAbs < 268435456) : 0 ≤ lenI v ∧ lenI v ≤ 8589934593 := by
  have h2 := log2_lenN (n := v.natAbs)
  unfold lenI
  split
  · omega
  · constructor <;> omega

theorem ref02.Top.known : Known Try.prog 59 ref02.Top.spec := ref02.Top.known_of (.cons ref01.Len.known .nil) fun n a e hp => by
  obtain ⟨h1, he⟩ := and_true_iff.1 hp
  obtain ⟨v, rfl, rfl, hv⟩ := okW_get h1
  have he := cdec_eq.1 he
  refine ⟨0, ref02.Top.out [.b (negW v), .l (limbsI v), .i e], [], ?_, .int⟩
  show _ = some (DV.int .i64 (topI (wv (negW v) (limbsI v)) e))
  have hb := lenI_bounds hv
  rw [ref02.Top.ev, wv_of, len_zero, h1]
  unfold topI
  by_cases h : v = 0
  · rw [decide_eq_true h, cond_true, if_pos h]
  · rw [decide_eq_false h, cond_false, cond_true, if_neg h, w_i64_in (by omega) (by omega)]

theorem ref02.Sign.known : Known Try.prog 58 ref02.Sign.spec := ref02.Sign.known_of .nil fun n a e hp => by
  obtain ⟨v, rfl, rfl, hv⟩ := okW_get hp
  refine ⟨0, ref02.Sign.out [.b (negW v), .l (limbsI v), .i e], [], ?_, .int⟩
  show _ = some (DV.int .i64 (sgI (wv (negW v) (limbsI v))))
  rw [ref02.Sign.ev, wv_of, length_limbsI]
  unfold sgI negW
  by_cases h : v < 0
  · rw [decide_eq_true h, cond_true, if_pos h]
  · rw [decide_eq_false h, cond_false, if_neg h]
    by_cases h' : v = 0
    · rw [if_pos h', h']; rfl
    · have := lenN_pos (n := v.natAbs) (by omega)
      rw [if_neg h']
      congr 2
      omega

theorem ref02.Same.known : Known Try.prog 27 ref02.Same.spec := ref02.Same.known_of (.cons ref01.Same.known .nil) fun n a e m b f hp => by
  have hp : (okW n a && okW m b) = true := hp
  refine ⟨0, ref02.Same.out [.b n, .l a, .i e, .b m, .l b, .i f], [], ?_, .bool⟩
  show _ = some (DV.bool (decide (e = f) && sameI (wv n a) (wv m b)))
  rw [ref02.Same.ev, hp, Bool.or_true, cond_true]
  by_cases h : e = f
  · have e0 : (e == f) = true := by simp [h]
    rw [e0, decide_eq_true h]; rfl
  · have e0 : (e == f) = false := by simp [h]
    rw [e0, decide_eq_false h]; rfl

end Go.Proofs.S1

/- Package dioptraref02: the order of dyadic numbers. -/
namespace Go.Proofs.S1
open Go Go.Den Go.Rnd Go.Proofs
open EqRefC

theorem low_up {v e w f : Int} : (v ≠ 0 → 0 ≤ e - lowI v e w f) ∧ (w ≠ 0 → 0 ≤ f - lowI v e w f) := by
  unfold lowI
  constructor
  · intro h
    rw [if_neg h]
    split <;> omega
  · intro h
    split
    · omega
    · omega

theorem shW_up {v k : Int} (h : v ≠ 0 → 0 ≤ k) : ∃ j : Nat, shW v k = v * ((2 ^ j : Nat) : Int) ∧ (v ≠ 0 → (j : Int) = k) := by
  by_cases h0 : v = 0
  · exact ⟨0, by rw [h0, shW_zero, Int.zero_mul], fun k => absurd h0 k⟩
  · have hk := h h0
    refine ⟨k.toNat, ?_, fun _ => by omega⟩
    unfold shW
    rw [if_pos hk]

theorem mul_sign (v : Int) (j : Nat) : (v * ((2 ^ j : Nat) : Int) < 0 ↔ v < 0) ∧ (v * ((2 ^ j : Nat) : Int) = 0 ↔ v = 0) := by
  have hp := pow_pos2 j
  constructor
  · constructor
    · intro h
      rcases Int.lt_or_le v 0 with h1 | h1
      · exact h1
      · have := Int.mul_nonneg h1 (Int.natCast_nonneg (2 ^ j)); omega
    · intro h
      exact Int.mul_neg_of_neg_of_pos h (by omega)
  · constructor
    · intro h
      rcases Int.mul_eq_zero.1 h with h | h
      · exact h
      · omega
    · intro h; rw [h, Int.zero_mul]

theorem sgI_mul (v : Int) (j : Nat) : sgI (v * ((2 ^ j : Nat) : Int)) = sgI v := by
  obtain ⟨h1, h2⟩ := mul_sign v j
  unfold sgI
  simp only [h1, h2]

theorem sgI_mD (v : Int) : sgI (mD v) = sgI v := by
  have := sgI_mul (mD v) (tzN v.natAbs)
  rw [← mD_spec] at this
  exact this.symm

theorem cmp_sub (x y : Int) : sgI (x + -y) = cmpZ x y := by
  unfold sgI cmpZ
  by_cases h : x < y
  · rw [if_pos (by omega), if_pos h]
  · rw [if_neg (by omega), if_neg h]
    by_cases h' : y < x
    · rw [if_neg (by omega), if_pos h']
    · rw [if_pos (by omega), if_neg h']

theorem low_neg (v e w f : Int) : lowI v e (-w) f = lowI v e w f := by
  unfold lowI
  have : (-w = 0) = (w = 0) := propext ⟨fun h => by omega, fun h => by omega⟩
  simp only [this]

theorem cmp_sign {x y : Int} (h : sgI x ≠ sgI y) : cmpZ x y = min 1 (max (-1) (sgI x - sgI y)) := by
  unfold sgI at h ⊢
  unfold cmpZ
  rcases Int.lt_trichotomy x 0 with h1 | h1 | h1 <;> rcases Int.lt_trichotomy y 0 with h2 | h2 | h2
  all_goals
    first
    | (exfalso; apply h; simp [show x < 0 by omega, show y < 0 by omega]; done)
    | (exfalso; apply h; subst h1; subst h2; rfl)
    | (exfalso; apply h; rw [if_neg (by omega), if_neg (by omega), if_neg (by omega), if_neg (by omega)]; done)
    | skip
  · rw [if_pos (by omega), if_pos (by omega), if_neg (by omega), if_pos (by omega)]; decide
  · rw [if_pos (by omega), if_pos (by omega), if_neg (by omega), if_neg (by omega)]; decide
  · rw [if_neg (by omega), if_pos (by omega), if_neg (by omega), if_pos (by omega), if_pos (by omega)]; decide
  · rw [if_pos (by omega), if_neg (by omega), if_pos (by omega), if_neg (by omega), if_neg (by omega)]; decide
  · rw [if_neg (by omega), if_pos (by omega), if_neg (by omega), if_neg (by omega), if_pos (by omega)]; decide
  · rw [if_neg (by omega), if_pos (by omega), if_neg (by omega), if_neg (by omega), if_neg (by omega), if_pos (by omega)]; decide

theorem log2_lt_of {a b : Nat} (ha : a ≠ 0) (h : a.log2 < b.log2) : a < b := by
  rcases Nat.lt_or_ge a b with k | k
  · exact k
  · have hb : b ≠ 0 := by
      intro e; rw [e] at h
      exact absurd h (by rw [show (0 : Nat).log2 = 0 by decide]; omega)
    have := (Nat.le_log2 ha).2 (Nat.le_trans (Nat.log2_self_le hb) k)
    omega

/-- Of two of one sign the one with the higher top is the farther from 0. -/
theorem cmp_top {v e w f : Int} (hs : sgI v = sgI w) (ht : topI v e ≠ topI w f) :
    cmpD v e w f = if (decide (topI w f < topI v e) == decide (0 < sgI v)) = true then 1 else -1 := by
  obtain ⟨u1, u2⟩ := low_up (v := v) (e := e) (w := w) (f := f)
  obtain ⟨j, hx, hj⟩ := shW_up u1
  obtain ⟨k, hy, hk⟩ := shW_up u2
  unfold cmpD
  rw [hx, hy]
  have z : v = 0 ↔ w = 0 := by
    unfold sgI at hs
    constructor
    · intro h; subst h
      revert hs
      simp
      split <;> simp_all
    · intro h; subst h
      revert hs
      simp
      split <;> simp_all
  by_cases v0 : v = 0
  · exfalso
    apply ht
    unfold topI
    rw [if_pos v0, if_pos (z.1 v0)]
  · have w0 : w ≠ 0 := fun h => v0 (z.2 h)
    have hj := hj v0
    have hk := hk w0
    have nv : v.natAbs ≠ 0 := by omega
    have nw : w.natAbs ≠ 0 := by omega
    have l1 := log2_mul v.natAbs j nv
    have l2 := log2_mul w.natAbs k nw
    have ax : (v * ((2 ^ j : Nat) : Int)).natAbs = v.natAbs * 2 ^ j := by rw [Int.natAbs_mul, Int.natAbs_natCast]
    have ay : (w * ((2 ^ k : Nat) : Int)).natAbs = w.natAbs * 2 ^ k := by rw [Int.natAbs_mul, Int.natAbs_natCast]
    have sx := (mul_sign v j).1
    have sy := (mul_sign w k).1
    have zx := mul_ne v0 j
    have zy := mul_ne w0 k
    have tv : topI v e = (v.natAbs.log2 : Int) + 1 + e := by unfold topI lenI; rw [if_neg v0, if_neg v0]
    have tw : topI w f = (w.natAbs.log2 : Int) + 1 + f := by unfold topI lenI; rw [if_neg w0, if_neg w0]
    have big : topI w f < topI v e → w.natAbs * 2 ^ k < v.natAbs * 2 ^ j := fun h => log2_lt_of (mul_pow_ne nw) (by omega)
    have lit : topI v e < topI w f → v.natAbs * 2 ^ j < w.natAbs * 2 ^ k := fun h => log2_lt_of (mul_pow_ne nv) (by omega)
    generalize v * ((2 ^ j : Nat) : Int) = x at *
    generalize w * ((2 ^ k : Nat) : Int) = y at *
    by_cases hv : v < 0
    · have sv : sgI v = -1 := by unfold sgI; rw [if_pos hv]
      have hw : w < 0 := by
        rw [sv] at hs
        unfold sgI at hs
        rcases Int.lt_or_le w 0 with q | q
        · exact q
        · rw [if_neg (by omega), if_neg w0] at hs; omega
      rw [sv]
      unfold cmpZ
      by_cases h : topI w f < topI v e
      · have := big h
        rw [decide_eq_true h, if_pos (by omega)]; rfl
      · have := lit (by omega)
        rw [decide_eq_false h, if_neg (by omega), if_pos (by omega)]; rfl
    · have sv : sgI v = 1 := by unfold sgI; rw [if_neg hv, if_neg v0]
      have hw : ¬ w < 0 := by
        intro q
        rw [sv] at hs
        unfold sgI at hs
        rw [if_pos q] at hs; omega
      rw [sv]
      unfold cmpZ
      by_cases h : topI w f < topI v e
      · have := big h
        rw [decide_eq_true h, if_neg (by omega), if_pos (by omega)]; rfl
      · have := lit (by omega)
        rw [decide_eq_false h, if_pos (by omega)]; rfl

theorem sub_cmp (v e w f : Int) : sgI (addM v e (-w) f) = cmpD v e w f := by
  obtain ⟨u1, u2⟩ := low_up (v := v) (e := e) (w := w) (f := f)
  obtain ⟨k, hy, hk⟩ := shW_up u2
  have hy' : shW (-w) (f - lowI v e w f) = -(shW w (f - lowI v e w f)) := by
    by_cases w0 : w = 0
    · rw [w0]; show shW 0 _ = _; rw [shW_zero]; rfl
    · unfold shW
      rw [if_pos (u2 w0), if_pos (u2 w0), Int.neg_mul]
  unfold addM addS cmpD
  rw [sgI_mD, low_neg, hy', cmp_sub]

theorem cmp_signs {v e w f : Int} (h : sgI v ≠ sgI w) : cmpD v e w f = min 1 (max (-1) (sgI v - sgI w)) := by
  obtain ⟨u1, u2⟩ := low_up (v := v) (e := e) (w := w) (f := f)
  obtain ⟨j, hx, hj⟩ := shW_up u1
  obtain ⟨k, hy, hk⟩ := shW_up u2
  have e1 := sgI_mul v j
  have e2 := sgI_mul w k
  unfold cmpD
  rw [hx, hy, ← e1, ← e2]
  exact cmp_sign (by rw [e1, e2]; exact h)

theorem sgI_bounds (v : Int) : -1 ≤ sgI v ∧ sgI v ≤ 1 := by unfold sgI; split <;> (try split) <;> omega

theorem addM_len {v e w f : Int} (hv : lenN v.natAbs < 134217728) (hw : lenN w.natAbs < 134217728) (he : -400000 ≤ e ∧ e ≤ 400000) (hf : -400000 ≤ f ∧ f ≤ 400000) : lenN (addM v e w f).natAbs < 140000001 := by
  have hlo := low_bounds (v := v) (w := w) he hf
  have l1 := shW_len (l := lowI v e w f) hv (show e - lowI v e w f ≤ 800000 by omega)
  have l2 := shW_len (l := lowI v e w f) hw (show f - lowI v e w f ≤ 800000 by omega)
  have l3 := lenN_sum (shW v (e - lowI v e w f)) (shW w (f - lowI v e w f))
  have l4 := lenN_mono (mD_abs_le (addS v e w f))
  unfold addM
  unfold addS at l4 ⊢
  omega

theorem ref02.Compare.known : Known Try.prog 25 ref02.Compare.spec := ref02.Compare.known_of (.cons ref02.Sub.known (.cons ref02.Sign.known (.cons ref02.Top.known .nil))) fun n a e m b f hp => by
  obtain ⟨h1, hf⟩ := and_true_iff.1 hp
  obtain ⟨h2, he⟩ := and_true_iff.1 h1
  obtain ⟨h3, h4⟩ := and_true_iff.1 h2
  obtain ⟨v, rfl, rfl, hv⟩ := okV_get h3
  obtain ⟨w, rfl, rfl, hw⟩ := okV_get h4
  refine ⟨0, ref02.Compare.out [.b (negW v), .l (limbsI v), .i e, .b (negW w), .l (limbsI w), .i f], [], ?_, .int⟩
  show _ = some (DV.int .i64 (cmpD (wv (negW v) (limbsI v)) e (wv (negW w) (limbsI w)) f))
  have bv := sgI_bounds v
  have bw := sgI_bounds w
  have hm := addM_len (v := v) (w := -w) hv (by rw [Int.natAbs_neg]; exact hw) (cdec_eq.1 he) (cdec_eq.1 hf)
  rw [ref02.Compare.ev]
  simp only [wv_of]
  rw [okW_of (v := v) (by omega), okW_of (v := w) (by omega), okW_of (v := addM v e (-w) f) (by omega), h3, h4, he, hf, ltI_eq, ltI_eq]
  simp only [Bool.and_self, cond_true]
  by_cases hs : sgI v = sgI w
  · have e0 : (sgI v != sgI w) = false := by simp [hs]
    rw [e0, cond_false]
    by_cases ht : topI v e = topI w f
    · have e1 : (topI v e != topI w f) = false := by simp [ht]
      rw [e1, cond_false, sub_cmp]
    · have e1 : (topI v e != topI w f) = true := by simp [ht]
      rw [e1, cond_true, cmp_top hs ht]
      cases (decide (topI w f < topI v e) == decide (0 < sgI v)) <;> rfl
  · have e0 : (sgI v != sgI w) = true := by simp [hs]
    rw [e0, cond_true, cmp_signs hs, w_i64_in (by omega) (by omega)]

end Go.Proofs.S1
