/- RefE of the verified evaluator and its use for this seat (of my texts S1EqRefE, S1PRefE, S1PRefEa, S1PRefEb). -/
import Derived.Test.YthopmgndjnnpnaaSpe
import Derived.Test.YthopmgndjnnpnaaRefC
import Derived.Test.YthopmgndjnnpnaaLim
import Derived.Test.YthopmgndjnnpnaaOrd

/- The evaluator's equations: dioptraref04.Value, dioptraref04.abs, dioptraref04.small, dioptraref04.bits, dioptraref04.Nearest, dioptraref04.signed, dioptraref04.flags, dioptraref04.Round. Printed by denpy.py. -/
namespace Go.Proofs.S1
open Go Go.Den Go.Rnd Go.Proofs
set_option linter.unusedVariables false
set_option maxRecDepth 100000
namespace EqRefE
theorem tt0 (a : Bool) : (a && true) = a := by cases a <;> rfl
theorem tt1 (a b c : Bool) : (bif a then true else (bif b then c else false)) = (a || (b && c)) := by cases a <;> cases b <;> cases c <;> rfl
theorem tt2 (a : Bool) : ((!(!a)) || (a == false)) = true := by cases a <;> rfl
theorem tt3 (a b : Bool) : ((!(a == false)) || (((!(a == false)) || (a == false)) && (((!b) || ((a == false) && (b == true))) && true))) = true := by cases a <;> cases b <;> rfl
theorem tt4 (a b : Bool) : ((!((a == false) && (b == true))) || ((((!((a == false) && (b == true))) || ((a == false) && (b == true))) && true) && true)) = true := by cases a <;> cases b <;> rfl
theorem tt5 (a b : Bool) : ((!((a == false) && (b == true))) || true) = true := by cases a <;> cases b <;> rfl
theorem tt6 (a : Bool) : ((!(a == false)) || ((((!(a == false)) || (a == false)) && true) && true)) = true := by cases a <;> rfl
theorem tt7 (a : Bool) : ((!(a == false)) || true) = true := by cases a <;> rfl
noncomputable def ref04.Value.tab : List (Nat × Entry) := [(22, ref04.Neg.spec), (38, ref04.Power.spec), (40, ref04.Frac.spec), (55, ref01.Of.spec), (56, ref01.Neg.spec), (57, ref02.Of.spec)]
noncomputable def ref04.Value.E : Env := envOf (tabOf ref04.Value.tab) (fun _ => false) (fun _ => none) (fun _ => none)
theorem ref04.Value.ev (N : Nat) (x : Int) : funD ref04.Value.E N Try.f23 (bodyOf Try.f23) [.int .u64 x] =
  bif (natI x) then
    bif (inI64 (w_i64 (fracI x))) then
      bif (natI x) then
        bif (ltI (0 : Int) (powI x)) then
          bif (natI x) then
            bif (inI64 (w_i64 (w_u64 ((fracI x) + (4503599627370496 : Int))))) then
              bif (natI x) then
                bif (inU64 x) then
                  bif (negI x) then
                    bif (okW (negW ((w_i64 (w_u64 ((fracI x) + (4503599627370496 : Int)))))) (limbsI ((w_i64 (w_u64 ((fracI x) + (4503599627370496 : Int))))))) then
                      bif (okW (negW (- wv (negW ((w_i64 (w_u64 ((fracI x) + (4503599627370496 : Int)))))) (limbsI ((w_i64 (w_u64 ((fracI x) + (4503599627370496 : Int)))))))) (limbsI (- wv (negW ((w_i64 (w_u64 ((fracI x) + (4503599627370496 : Int)))))) (limbsI ((w_i64 (w_u64 ((fracI x) + (4503599627370496 : Int)))))))) && okE2 (w_i64 ((powI x) - (1075 : Int)))) then
                        some (.agg [.bool (negW (mD (wv (negW (- wv (negW ((w_i64 (w_u64 ((fracI x) + (4503599627370496 : Int)))))) (limbsI ((w_i64 (w_u64 ((fracI x) + (4503599627370496 : Int)))))))) (limbsI (- wv (negW ((w_i64 (w_u64 ((fracI x) + (4503599627370496 : Int)))))) (limbsI ((w_i64 (w_u64 ((fracI x) + (4503599627370496 : Int))))))))))), .ints .arg .u32 (limbsI (mD (wv (negW (- wv (negW ((w_i64 (w_u64 ((fracI x) + (4503599627370496 : Int)))))) (limbsI ((w_i64 (w_u64 ((fracI x) + (4503599627370496 : Int)))))))) (limbsI (- wv (negW ((w_i64 (w_u64 ((fracI x) + (4503599627370496 : Int)))))) (limbsI ((w_i64 (w_u64 ((fracI x) + (4503599627370496 : Int))))))))))), .int .i64 (eD (wv (negW (- wv (negW ((w_i64 (w_u64 ((fracI x) + (4503599627370496 : Int)))))) (limbsI ((w_i64 (w_u64 ((fracI x) + (4503599627370496 : Int)))))))) (limbsI (- wv (negW ((w_i64 (w_u64 ((fracI x) + (4503599627370496 : Int)))))) (limbsI ((w_i64 (w_u64 ((fracI x) + (4503599627370496 : Int))))))))) (w_i64 ((powI x) - (1075 : Int))))])
                      else none
                    else none
                  else bif (okW (negW ((w_i64 (w_u64 ((fracI x) + (4503599627370496 : Int)))))) (limbsI ((w_i64 (w_u64 ((fracI x) + (4503599627370496 : Int)))))) && okE2 (w_i64 ((powI x) - (1075 : Int)))) then
                    some (.agg [.bool (negW (mD (wv (negW ((w_i64 (w_u64 ((fracI x) + (4503599627370496 : Int)))))) (limbsI ((w_i64 (w_u64 ((fracI x) + (4503599627370496 : Int))))))))), .ints .arg .u32 (limbsI (mD (wv (negW ((w_i64 (w_u64 ((fracI x) + (4503599627370496 : Int)))))) (limbsI ((w_i64 (w_u64 ((fracI x) + (4503599627370496 : Int))))))))), .int .i64 (eD (wv (negW ((w_i64 (w_u64 ((fracI x) + (4503599627370496 : Int)))))) (limbsI ((w_i64 (w_u64 ((fracI x) + (4503599627370496 : Int))))))) (w_i64 ((powI x) - (1075 : Int))))])
                  else none
                else none
              else none
            else none
          else none
        else bif (inU64 x) then
          bif (negI x) then
            bif (okW (negW ((w_i64 (fracI x)))) (limbsI ((w_i64 (fracI x))))) then
              bif (okW (negW (- wv (negW ((w_i64 (fracI x)))) (limbsI ((w_i64 (fracI x)))))) (limbsI (- wv (negW ((w_i64 (fracI x)))) (limbsI ((w_i64 (fracI x)))))) && okE2 (-1074 : Int)) then
                some (.agg [.bool (negW (mD (wv (negW (- wv (negW ((w_i64 (fracI x)))) (limbsI ((w_i64 (fracI x)))))) (limbsI (- wv (negW ((w_i64 (fracI x)))) (limbsI ((w_i64 (fracI x))))))))), .ints .arg .u32 (limbsI (mD (wv (negW (- wv (negW ((w_i64 (fracI x)))) (limbsI ((w_i64 (fracI x)))))) (limbsI (- wv (negW ((w_i64 (fracI x)))) (limbsI ((w_i64 (fracI x))))))))), .int .i64 (eD (wv (negW (- wv (negW ((w_i64 (fracI x)))) (limbsI ((w_i64 (fracI x)))))) (limbsI (- wv (negW ((w_i64 (fracI x)))) (limbsI ((w_i64 (fracI x))))))) (-1074 : Int))])
              else none
            else none
          else bif (okW (negW ((w_i64 (fracI x)))) (limbsI ((w_i64 (fracI x)))) && okE2 (-1074 : Int)) then
            some (.agg [.bool (negW (mD (wv (negW ((w_i64 (fracI x)))) (limbsI ((w_i64 (fracI x))))))), .ints .arg .u32 (limbsI (mD (wv (negW ((w_i64 (fracI x)))) (limbsI ((w_i64 (fracI x))))))), .int .i64 (eD (wv (negW ((w_i64 (fracI x)))) (limbsI ((w_i64 (fracI x))))) (-1074 : Int))])
          else none
        else none
      else none
    else none
  else none := by kernel_rfl
theorem ref04.Value.known_of (hk : Knowns Try.prog ref04.Value.tab) (h : ∀ (x : Int), ref04.Value.pre [.i x] = true → ∃ N dv drops, funD ref04.Value.E N Try.f23 (bodyOf Try.f23) [.int .u64 x] = some dv ∧ Wk drops dv (ref04.Value.out [.i x])) : Known Try.prog 23 ref04.Value.spec := by
  refine ⟨meets_entry (E := ref04.Value.E) (env_ok hk _ _ _) Try.func23 (show Try.f23.body = some (bodyOf Try.f23) by kernel_rfl) fun ats dvs he hp => ?_, call_enter Try.func23 (by kernel_rfl) (show Try.f23.body = some (bodyOf Try.f23) by kernel_rfl)⟩
  obtain ⟨x, _, _, rfl, rfl, he0⟩ := he.i_inv
  obtain ⟨rfl, rfl⟩ := he0.nil_inv
  exact h x hp

noncomputable def ref04.abs.tab : List (Nat × Entry) := [(73, ref01.Made.spec)]
noncomputable def ref04.abs.E : Env := envOf (tabOf ref04.abs.tab) (fun _ => false) (fun _ => none) (fun _ => none)
theorem ref04.abs.ev (N : Nat) (n : Bool) (a : List Int) (e : Int) : funD ref04.abs.E N Try.f82 (bodyOf Try.f82) [.agg [.bool n, .ints .arg .u32 a, .int .i64 e]] =
  bif (okL a) then
    some (.agg [.bool (negW (wv false a)), .ints .arg .u32 (limbsI (wv false a)), .int .i64 e])
  else none :=
  Eq.trans (b := bif ((okL a) && true) then
    some (.agg [.bool (negW (wv false a)), .ints .arg .u32 (limbsI (wv false a)), .int .i64 e])
  else none) (by kernel_rfl)
  (ifS (tt0 _) rfl rfl)
theorem ref04.abs.known_of (hk : Knowns Try.prog ref04.abs.tab) (h : ∀ (n : Bool) (a : List Int) (e : Int), ref04.abs.pre [.b n, .l a, .i e] = true → ∃ N dv drops, funD ref04.abs.E N Try.f82 (bodyOf Try.f82) [.agg [.bool n, .ints .arg .u32 a, .int .i64 e]] = some dv ∧ Wk drops dv (ref04.abs.out [.b n, .l a, .i e])) : Known Try.prog 82 ref04.abs.spec := by
  refine ⟨meets_entry (E := ref04.abs.E) (env_ok hk _ _ _) Try.func82 (show Try.f82.body = some (bodyOf Try.f82) by kernel_rfl) fun ats dvs he hp => ?_, call_enter Try.func82 (by kernel_rfl) (show Try.f82.body = some (bodyOf Try.f82) by kernel_rfl)⟩
  obtain ⟨_, _, _, _, rfl, rfl, hs0, he0⟩ := he.st_inv
  obtain ⟨n, _, _, rfl, rfl, he1⟩ := hs0.b_inv
  obtain ⟨a, _, _, rfl, rfl, he2⟩ := he1.s_inv
  obtain ⟨e, _, _, rfl, rfl, he3⟩ := he2.i_inv
  obtain ⟨rfl, rfl⟩ := he3.nil_inv
  obtain ⟨rfl, rfl⟩ := he0.nil_inv
  exact h n a e hp

def ref04.small.hint : Nat → Option LoopHint
  | 0 => some { keep := [1, 3, 4], objs := [], boxes := [1] }
  | _ => none
noncomputable def ref04.small.tab : List (Nat × Entry) := []
noncomputable def ref04.small.E : Env := envOf (tabOf ref04.small.tab) (fun _ => false) ref04.small.hint (fun _ => none)
noncomputable def ref04.small.L0 (N M : Nat) (n : Bool) (a : List Int) (p3 : Int) (p4 : Int) : Option DV := loopAt ref04.small.E N Try.f95 (bodyOf Try.f95) [1, 1, 0, 1, 0] [] M ⟨mkT 23 [(1, .ptr 1 0 0), (3, .int .u64 p3), (4, .int .i64 p4)], [(1, false, .box [.bool n, .ints .arg .u32 a])]⟩
theorem ref04.small.L0_step (N M : Nat) (n : Bool) (a : List Int) (p3 : Int) (p4 : Int) : ref04.small.L0 N (M + 1) n a p3 p4 =
  bif (leI (0 : Int) p4) then
    bif ((decide (0 ≤ p4)) && (decide (p4 < (List.length a : Int)))) then
      ref04.small.L0 N M n a (w_u64 ((w_u64 (p3 * (4294967296 : Int))) + (w_u64 (List.getD a (Int.toNat p4) 0)))) (w_i64 (p4 - (1 : Int)))
    else none
  else some (.int .u64 p3) := by kernel_rfl
theorem ref04.small.ev (N : Nat) (n : Bool) (a : List Int) : funD ref04.small.E N Try.f95 (bodyOf Try.f95) [.agg [.bool n, .ints .arg .u32 a]] =
  ref04.small.L0 N N n a (0 : Int) (w_i64 ((List.length a : Int) - (1 : Int))) := by kernel_rfl
theorem ref04.small.known_of (hk : Knowns Try.prog ref04.small.tab) (h : ∀ (n : Bool) (a : List Int), ref04.small.pre [.b n, .l a] = true → ∃ N dv drops, funD ref04.small.E N Try.f95 (bodyOf Try.f95) [.agg [.bool n, .ints .arg .u32 a]] = some dv ∧ Wk drops dv (ref04.small.out [.b n, .l a])) : Known Try.prog 95 ref04.small.spec := by
  refine ⟨meets_entry (E := ref04.small.E) (env_ok hk _ _ _) Try.func95 (show Try.f95.body = some (bodyOf Try.f95) by kernel_rfl) fun ats dvs he hp => ?_, call_enter Try.func95 (by kernel_rfl) (show Try.f95.body = some (bodyOf Try.f95) by kernel_rfl)⟩
  obtain ⟨_, _, _, _, rfl, rfl, hs0, he0⟩ := he.st_inv
  obtain ⟨n, _, _, rfl, rfl, he1⟩ := hs0.b_inv
  obtain ⟨a, _, _, rfl, rfl, he2⟩ := he1.s_inv
  obtain ⟨rfl, rfl⟩ := he2.nil_inv
  obtain ⟨rfl, rfl⟩ := he0.nil_inv
  exact h n a hp

noncomputable def ref04.bits.tab : List (Nat × Entry) := []
noncomputable def ref04.bits.E : Env := envOf (tabOf ref04.bits.tab) (fun _ => false) (fun _ => none) (fun _ => none)
theorem ref04.bits.ev (N : Nat) (m : Int) (e : Int) : funD ref04.bits.E N Try.f83 (bodyOf Try.f83) [.int .u64 m, .int .i64 e] =
  bif (ltI m (4503599627370496 : Int)) then
    some (.int .u64 m)
  else bif (leI (2047 : Int) (w_i64 (e + (1075 : Int)))) then
    some (.int .u64 (9218868437227405312 : Int))
  else some (.int .u64 (w_u64 ((w_u64 ((w_u64 ((w_u64 (w_i64 (e + (1075 : Int)))) * (4503599627370496 : Int))) + m)) - (4503599627370496 : Int)))) := by kernel_rfl
theorem ref04.bits.known_of (hk : Knowns Try.prog ref04.bits.tab) (h : ∀ (m : Int) (e : Int), ref04.bits.pre [.i m, .i e] = true → ∃ N dv drops, funD ref04.bits.E N Try.f83 (bodyOf Try.f83) [.int .u64 m, .int .i64 e] = some dv ∧ Wk drops dv (ref04.bits.out [.i m, .i e])) : Known Try.prog 83 ref04.bits.spec := by
  refine ⟨meets_entry (E := ref04.bits.E) (env_ok hk _ _ _) Try.func83 (show Try.f83.body = some (bodyOf Try.f83) by kernel_rfl) fun ats dvs he hp => ?_, call_enter Try.func83 (by kernel_rfl) (show Try.f83.body = some (bodyOf Try.f83) by kernel_rfl)⟩
  obtain ⟨m, _, _, rfl, rfl, he0⟩ := he.i_inv
  obtain ⟨e, _, _, rfl, rfl, he1⟩ := he0.i_inv
  obtain ⟨rfl, rfl⟩ := he1.nil_inv
  exact h m e hp

noncomputable def ref04.Nearest.tab : List (Nat × Entry) := [(25, ref02.Compare.spec), (26, ref02.Scale.spec), (28, ref02.Sub.spec), (55, ref01.Of.spec), (57, ref02.Of.spec), (69, ref01.Shift.spec), (95, ref04.small.spec)]
noncomputable def ref04.Nearest.E : Env := envOf (tabOf ref04.Nearest.tab) (fun _ => false) (fun _ => none) (fun _ => none)
theorem ref04.Nearest.ev (N : Nat) (n : Bool) (a : List Int) (e : Int) (k : Int) : funD ref04.Nearest.E N Try.f81 (bodyOf Try.f81) [.agg [.bool n, .ints .arg .u32 a, .int .i64 e], .int .i64 k] =
  bif (leI k e) then
    bif (okV n a && okSh (w_i64 (e - k))) then
      bif (okW (negW (shW (wv n a) (w_i64 (e - k)))) (limbsI (shW (wv n a) (w_i64 (e - k)))) && small64 (wv (negW (shW (wv n a) (w_i64 (e - k)))) (limbsI (shW (wv n a) (w_i64 (e - k)))))) then
        some (.tup [.int .u64 (absI (wv (negW (shW (wv n a) (w_i64 (e - k)))) (limbsI (shW (wv n a) (w_i64 (e - k)))))), .bool true])
      else none
    else none
  else bif (okV n a && okSh (w_i64 (e - k))) then
    bif (okW (negW (shW (wv n a) (w_i64 (e - k)))) (limbsI (shW (wv n a) (w_i64 (e - k)))) && okE2 k) then
      bif (((okV n a && okV (negW (mD (wv (negW (shW (wv n a) (w_i64 (e - k)))) (limbsI (shW (wv n a) (w_i64 (e - k))))))) (limbsI (mD (wv (negW (shW (wv n a) (w_i64 (e - k)))) (limbsI (shW (wv n a) (w_i64 (e - k)))))))) && okE e) && okE (eD (wv (negW (shW (wv n a) (w_i64 (e - k)))) (limbsI (shW (wv n a) (w_i64 (e - k))))) k)) then
        bif ((okW (negW (addM (wv n a) e (- wv (negW (mD (wv (negW (shW (wv n a) (w_i64 (e - k)))) (limbsI (shW (wv n a) (w_i64 (e - k))))))) (limbsI (mD (wv (negW (shW (wv n a) (w_i64 (e - k)))) (limbsI (shW (wv n a) (w_i64 (e - k)))))))) (eD (wv (negW (shW (wv n a) (w_i64 (e - k)))) (limbsI (shW (wv n a) (w_i64 (e - k))))) k))) (limbsI (addM (wv n a) e (- wv (negW (mD (wv (negW (shW (wv n a) (w_i64 (e - k)))) (limbsI (shW (wv n a) (w_i64 (e - k))))))) (limbsI (mD (wv (negW (shW (wv n a) (w_i64 (e - k)))) (limbsI (shW (wv n a) (w_i64 (e - k)))))))) (eD (wv (negW (shW (wv n a) (w_i64 (e - k)))) (limbsI (shW (wv n a) (w_i64 (e - k))))) k))) && okE (addE (wv n a) e (- wv (negW (mD (wv (negW (shW (wv n a) (w_i64 (e - k)))) (limbsI (shW (wv n a) (w_i64 (e - k))))))) (limbsI (mD (wv (negW (shW (wv n a) (w_i64 (e - k)))) (limbsI (shW (wv n a) (w_i64 (e - k)))))))) (eD (wv (negW (shW (wv n a) (w_i64 (e - k)))) (limbsI (shW (wv n a) (w_i64 (e - k))))) k))) && okE (1 : Int)) then
          bif (inI64 (1 : Int)) then
            bif (okW (negW ((1 : Int))) (limbsI ((1 : Int))) && okE2 k) then
              bif (((okV (negW (mD (wv (negW (addM (wv n a) e (- wv (negW (mD (wv (negW (shW (wv n a) (w_i64 (e - k)))) (limbsI (shW (wv n a) (w_i64 (e - k))))))) (limbsI (mD (wv (negW (shW (wv n a) (w_i64 (e - k)))) (limbsI (shW (wv n a) (w_i64 (e - k)))))))) (eD (wv (negW (shW (wv n a) (w_i64 (e - k)))) (limbsI (shW (wv n a) (w_i64 (e - k))))) k))) (limbsI (addM (wv n a) e (- wv (negW (mD (wv (negW (shW (wv n a) (w_i64 (e - k)))) (limbsI (shW (wv n a) (w_i64 (e - k))))))) (limbsI (mD (wv (negW (shW (wv n a) (w_i64 (e - k)))) (limbsI (shW (wv n a) (w_i64 (e - k)))))))) (eD (wv (negW (shW (wv n a) (w_i64 (e - k)))) (limbsI (shW (wv n a) (w_i64 (e - k))))) k)))))) (limbsI (mD (wv (negW (addM (wv n a) e (- wv (negW (mD (wv (negW (shW (wv n a) (w_i64 (e - k)))) (limbsI (shW (wv n a) (w_i64 (e - k))))))) (limbsI (mD (wv (negW (shW (wv n a) (w_i64 (e - k)))) (limbsI (shW (wv n a) (w_i64 (e - k)))))))) (eD (wv (negW (shW (wv n a) (w_i64 (e - k)))) (limbsI (shW (wv n a) (w_i64 (e - k))))) k))) (limbsI (addM (wv n a) e (- wv (negW (mD (wv (negW (shW (wv n a) (w_i64 (e - k)))) (limbsI (shW (wv n a) (w_i64 (e - k))))))) (limbsI (mD (wv (negW (shW (wv n a) (w_i64 (e - k)))) (limbsI (shW (wv n a) (w_i64 (e - k)))))))) (eD (wv (negW (shW (wv n a) (w_i64 (e - k)))) (limbsI (shW (wv n a) (w_i64 (e - k))))) k)))))) && okV (negW (mD (wv (negW ((1 : Int))) (limbsI ((1 : Int)))))) (limbsI (mD (wv (negW ((1 : Int))) (limbsI ((1 : Int))))))) && okE (eD (wv (negW (addM (wv n a) e (- wv (negW (mD (wv (negW (shW (wv n a) (w_i64 (e - k)))) (limbsI (shW (wv n a) (w_i64 (e - k))))))) (limbsI (mD (wv (negW (shW (wv n a) (w_i64 (e - k)))) (limbsI (shW (wv n a) (w_i64 (e - k)))))))) (eD (wv (negW (shW (wv n a) (w_i64 (e - k)))) (limbsI (shW (wv n a) (w_i64 (e - k))))) k))) (limbsI (addM (wv n a) e (- wv (negW (mD (wv (negW (shW (wv n a) (w_i64 (e - k)))) (limbsI (shW (wv n a) (w_i64 (e - k))))))) (limbsI (mD (wv (negW (shW (wv n a) (w_i64 (e - k)))) (limbsI (shW (wv n a) (w_i64 (e - k)))))))) (eD (wv (negW (shW (wv n a) (w_i64 (e - k)))) (limbsI (shW (wv n a) (w_i64 (e - k))))) k)))) ((addE (wv n a) e (- wv (negW (mD (wv (negW (shW (wv n a) (w_i64 (e - k)))) (limbsI (shW (wv n a) (w_i64 (e - k))))))) (limbsI (mD (wv (negW (shW (wv n a) (w_i64 (e - k)))) (limbsI (shW (wv n a) (w_i64 (e - k)))))))) (eD (wv (negW (shW (wv n a) (w_i64 (e - k)))) (limbsI (shW (wv n a) (w_i64 (e - k))))) k)) + (1 : Int)))) && okE (eD (wv (negW ((1 : Int))) (limbsI ((1 : Int)))) k)) then
                bif (okW (negW (shW (wv n a) (w_i64 (e - k)))) (limbsI (shW (wv n a) (w_i64 (e - k)))) && small64 (wv (negW (shW (wv n a) (w_i64 (e - k)))) (limbsI (shW (wv n a) (w_i64 (e - k)))))) then
                  bif ((ltI (0 : Int) (cmpD (wv (negW (mD (wv (negW (addM (wv n a) e (- wv (negW (mD (wv (negW (shW (wv n a) (w_i64 (e - k)))) (limbsI (shW (wv n a) (w_i64 (e - k))))))) (limbsI (mD (wv (negW (shW (wv n a) (w_i64 (e - k)))) (limbsI (shW (wv n a) (w_i64 (e - k)))))))) (eD (wv (negW (shW (wv n a) (w_i64 (e - k)))) (limbsI (shW (wv n a) (w_i64 (e - k))))) k))) (limbsI (addM (wv n a) e (- wv (negW (mD (wv (negW (shW (wv n a) (w_i64 (e - k)))) (limbsI (shW (wv n a) (w_i64 (e - k))))))) (limbsI (mD (wv (negW (shW (wv n a) (w_i64 (e - k)))) (limbsI (shW (wv n a) (w_i64 (e - k)))))))) (eD (wv (negW (shW (wv n a) (w_i64 (e - k)))) (limbsI (shW (wv n a) (w_i64 (e - k))))) k)))))) (limbsI (mD (wv (negW (addM (wv n a) e (- wv (negW (mD (wv (negW (shW (wv n a) (w_i64 (e - k)))) (limbsI (shW (wv n a) (w_i64 (e - k))))))) (limbsI (mD (wv (negW (shW (wv n a) (w_i64 (e - k)))) (limbsI (shW (wv n a) (w_i64 (e - k)))))))) (eD (wv (negW (shW (wv n a) (w_i64 (e - k)))) (limbsI (shW (wv n a) (w_i64 (e - k))))) k))) (limbsI (addM (wv n a) e (- wv (negW (mD (wv (negW (shW (wv n a) (w_i64 (e - k)))) (limbsI (shW (wv n a) (w_i64 (e - k))))))) (limbsI (mD (wv (negW (shW (wv n a) (w_i64 (e - k)))) (limbsI (shW (wv n a) (w_i64 (e - k)))))))) (eD (wv (negW (shW (wv n a) (w_i64 (e - k)))) (limbsI (shW (wv n a) (w_i64 (e - k))))) k))))))) (eD (wv (negW (addM (wv n a) e (- wv (negW (mD (wv (negW (shW (wv n a) (w_i64 (e - k)))) (limbsI (shW (wv n a) (w_i64 (e - k))))))) (limbsI (mD (wv (negW (shW (wv n a) (w_i64 (e - k)))) (limbsI (shW (wv n a) (w_i64 (e - k)))))))) (eD (wv (negW (shW (wv n a) (w_i64 (e - k)))) (limbsI (shW (wv n a) (w_i64 (e - k))))) k))) (limbsI (addM (wv n a) e (- wv (negW (mD (wv (negW (shW (wv n a) (w_i64 (e - k)))) (limbsI (shW (wv n a) (w_i64 (e - k))))))) (limbsI (mD (wv (negW (shW (wv n a) (w_i64 (e - k)))) (limbsI (shW (wv n a) (w_i64 (e - k)))))))) (eD (wv (negW (shW (wv n a) (w_i64 (e - k)))) (limbsI (shW (wv n a) (w_i64 (e - k))))) k)))) ((addE (wv n a) e (- wv (negW (mD (wv (negW (shW (wv n a) (w_i64 (e - k)))) (limbsI (shW (wv n a) (w_i64 (e - k))))))) (limbsI (mD (wv (negW (shW (wv n a) (w_i64 (e - k)))) (limbsI (shW (wv n a) (w_i64 (e - k)))))))) (eD (wv (negW (shW (wv n a) (w_i64 (e - k)))) (limbsI (shW (wv n a) (w_i64 (e - k))))) k)) + (1 : Int))) (wv (negW (mD (wv (negW ((1 : Int))) (limbsI ((1 : Int)))))) (limbsI (mD (wv (negW ((1 : Int))) (limbsI ((1 : Int))))))) (eD (wv (negW ((1 : Int))) (limbsI ((1 : Int)))) k))) || (((cmpD (wv (negW (mD (wv (negW (addM (wv n a) e (- wv (negW (mD (wv (negW (shW (wv n a) (w_i64 (e - k)))) (limbsI (shW (wv n a) (w_i64 (e - k))))))) (limbsI (mD (wv (negW (shW (wv n a) (w_i64 (e - k)))) (limbsI (shW (wv n a) (w_i64 (e - k)))))))) (eD (wv (negW (shW (wv n a) (w_i64 (e - k)))) (limbsI (shW (wv n a) (w_i64 (e - k))))) k))) (limbsI (addM (wv n a) e (- wv (negW (mD (wv (negW (shW (wv n a) (w_i64 (e - k)))) (limbsI (shW (wv n a) (w_i64 (e - k))))))) (limbsI (mD (wv (negW (shW (wv n a) (w_i64 (e - k)))) (limbsI (shW (wv n a) (w_i64 (e - k)))))))) (eD (wv (negW (shW (wv n a) (w_i64 (e - k)))) (limbsI (shW (wv n a) (w_i64 (e - k))))) k)))))) (limbsI (mD (wv (negW (addM (wv n a) e (- wv (negW (mD (wv (negW (shW (wv n a) (w_i64 (e - k)))) (limbsI (shW (wv n a) (w_i64 (e - k))))))) (limbsI (mD (wv (negW (shW (wv n a) (w_i64 (e - k)))) (limbsI (shW (wv n a) (w_i64 (e - k)))))))) (eD (wv (negW (shW (wv n a) (w_i64 (e - k)))) (limbsI (shW (wv n a) (w_i64 (e - k))))) k))) (limbsI (addM (wv n a) e (- wv (negW (mD (wv (negW (shW (wv n a) (w_i64 (e - k)))) (limbsI (shW (wv n a) (w_i64 (e - k))))))) (limbsI (mD (wv (negW (shW (wv n a) (w_i64 (e - k)))) (limbsI (shW (wv n a) (w_i64 (e - k)))))))) (eD (wv (negW (shW (wv n a) (w_i64 (e - k)))) (limbsI (shW (wv n a) (w_i64 (e - k))))) k))))))) (eD (wv (negW (addM (wv n a) e (- wv (negW (mD (wv (negW (shW (wv n a) (w_i64 (e - k)))) (limbsI (shW (wv n a) (w_i64 (e - k))))))) (limbsI (mD (wv (negW (shW (wv n a) (w_i64 (e - k)))) (limbsI (shW (wv n a) (w_i64 (e - k)))))))) (eD (wv (negW (shW (wv n a) (w_i64 (e - k)))) (limbsI (shW (wv n a) (w_i64 (e - k))))) k))) (limbsI (addM (wv n a) e (- wv (negW (mD (wv (negW (shW (wv n a) (w_i64 (e - k)))) (limbsI (shW (wv n a) (w_i64 (e - k))))))) (limbsI (mD (wv (negW (shW (wv n a) (w_i64 (e - k)))) (limbsI (shW (wv n a) (w_i64 (e - k)))))))) (eD (wv (negW (shW (wv n a) (w_i64 (e - k)))) (limbsI (shW (wv n a) (w_i64 (e - k))))) k)))) ((addE (wv n a) e (- wv (negW (mD (wv (negW (shW (wv n a) (w_i64 (e - k)))) (limbsI (shW (wv n a) (w_i64 (e - k))))))) (limbsI (mD (wv (negW (shW (wv n a) (w_i64 (e - k)))) (limbsI (shW (wv n a) (w_i64 (e - k)))))))) (eD (wv (negW (shW (wv n a) (w_i64 (e - k)))) (limbsI (shW (wv n a) (w_i64 (e - k))))) k)) + (1 : Int))) (wv (negW (mD (wv (negW ((1 : Int))) (limbsI ((1 : Int)))))) (limbsI (mD (wv (negW ((1 : Int))) (limbsI ((1 : Int))))))) (eD (wv (negW ((1 : Int))) (limbsI ((1 : Int)))) k)) == (0 : Int)) && ((Int.tmod (absI (wv (negW (shW (wv n a) (w_i64 (e - k)))) (limbsI (shW (wv n a) (w_i64 (e - k)))))) (2 : Int)) == (1 : Int)))) then
                    some (.tup [.int .u64 (w_u64 ((absI (wv (negW (shW (wv n a) (w_i64 (e - k)))) (limbsI (shW (wv n a) (w_i64 (e - k)))))) + (1 : Int))), .bool ((List.length (limbsI (addM (wv n a) e (- wv (negW (mD (wv (negW (shW (wv n a) (w_i64 (e - k)))) (limbsI (shW (wv n a) (w_i64 (e - k))))))) (limbsI (mD (wv (negW (shW (wv n a) (w_i64 (e - k)))) (limbsI (shW (wv n a) (w_i64 (e - k)))))))) (eD (wv (negW (shW (wv n a) (w_i64 (e - k)))) (limbsI (shW (wv n a) (w_i64 (e - k))))) k))) : Int) == (0 : Int))])
                  else some (.tup [.int .u64 (absI (wv (negW (shW (wv n a) (w_i64 (e - k)))) (limbsI (shW (wv n a) (w_i64 (e - k)))))), .bool ((List.length (limbsI (addM (wv n a) e (- wv (negW (mD (wv (negW (shW (wv n a) (w_i64 (e - k)))) (limbsI (shW (wv n a) (w_i64 (e - k))))))) (limbsI (mD (wv (negW (shW (wv n a) (w_i64 (e - k)))) (limbsI (shW (wv n a) (w_i64 (e - k)))))))) (eD (wv (negW (shW (wv n a) (w_i64 (e - k)))) (limbsI (shW (wv n a) (w_i64 (e - k))))) k))) : Int) == (0 : Int))])
                else none
              else none
            else none
          else none
        else none
      else none
    else none
  else none :=
  Eq.trans (b := bif (leI k e) then
    bif (okV n a && okSh (w_i64 (e - k))) then
      bif (okW (negW (shW (wv n a) (w_i64 (e - k)))) (limbsI (shW (wv n a) (w_i64 (e - k)))) && small64 (wv (negW (shW (wv n a) (w_i64 (e - k)))) (limbsI (shW (wv n a) (w_i64 (e - k)))))) then
        some (.tup [.int .u64 (absI (wv (negW (shW (wv n a) (w_i64 (e - k)))) (limbsI (shW (wv n a) (w_i64 (e - k)))))), .bool true])
      else none
    else none
  else bif (okV n a && okSh (w_i64 (e - k))) then
    bif ((okW (negW (shW (wv n a) (w_i64 (e - k)))) (limbsI (shW (wv n a) (w_i64 (e - k)))) && okE2 k) && true) then
      bif ((((okV n a && okV (negW (mD (wv (negW (shW (wv n a) (w_i64 (e - k)))) (limbsI (shW (wv n a) (w_i64 (e - k))))))) (limbsI (mD (wv (negW (shW (wv n a) (w_i64 (e - k)))) (limbsI (shW (wv n a) (w_i64 (e - k)))))))) && okE e) && okE (eD (wv (negW (shW (wv n a) (w_i64 (e - k)))) (limbsI (shW (wv n a) (w_i64 (e - k))))) k)) && true) then
        bif ((okW (negW (addM (wv n a) e (- wv (negW (mD (wv (negW (shW (wv n a) (w_i64 (e - k)))) (limbsI (shW (wv n a) (w_i64 (e - k))))))) (limbsI (mD (wv (negW (shW (wv n a) (w_i64 (e - k)))) (limbsI (shW (wv n a) (w_i64 (e - k)))))))) (eD (wv (negW (shW (wv n a) (w_i64 (e - k)))) (limbsI (shW (wv n a) (w_i64 (e - k))))) k))) (limbsI (addM (wv n a) e (- wv (negW (mD (wv (negW (shW (wv n a) (w_i64 (e - k)))) (limbsI (shW (wv n a) (w_i64 (e - k))))))) (limbsI (mD (wv (negW (shW (wv n a) (w_i64 (e - k)))) (limbsI (shW (wv n a) (w_i64 (e - k)))))))) (eD (wv (negW (shW (wv n a) (w_i64 (e - k)))) (limbsI (shW (wv n a) (w_i64 (e - k))))) k))) && okE (addE (wv n a) e (- wv (negW (mD (wv (negW (shW (wv n a) (w_i64 (e - k)))) (limbsI (shW (wv n a) (w_i64 (e - k))))))) (limbsI (mD (wv (negW (shW (wv n a) (w_i64 (e - k)))) (limbsI (shW (wv n a) (w_i64 (e - k)))))))) (eD (wv (negW (shW (wv n a) (w_i64 (e - k)))) (limbsI (shW (wv n a) (w_i64 (e - k))))) k))) && okE (1 : Int)) then
          bif (inI64 (1 : Int)) then
            bif (okW (negW ((1 : Int))) (limbsI ((1 : Int))) && okE2 k) then
              bif (((okV (negW (mD (wv (negW (addM (wv n a) e (- wv (negW (mD (wv (negW (shW (wv n a) (w_i64 (e - k)))) (limbsI (shW (wv n a) (w_i64 (e - k))))))) (limbsI (mD (wv (negW (shW (wv n a) (w_i64 (e - k)))) (limbsI (shW (wv n a) (w_i64 (e - k)))))))) (eD (wv (negW (shW (wv n a) (w_i64 (e - k)))) (limbsI (shW (wv n a) (w_i64 (e - k))))) k))) (limbsI (addM (wv n a) e (- wv (negW (mD (wv (negW (shW (wv n a) (w_i64 (e - k)))) (limbsI (shW (wv n a) (w_i64 (e - k))))))) (limbsI (mD (wv (negW (shW (wv n a) (w_i64 (e - k)))) (limbsI (shW (wv n a) (w_i64 (e - k)))))))) (eD (wv (negW (shW (wv n a) (w_i64 (e - k)))) (limbsI (shW (wv n a) (w_i64 (e - k))))) k)))))) (limbsI (mD (wv (negW (addM (wv n a) e (- wv (negW (mD (wv (negW (shW (wv n a) (w_i64 (e - k)))) (limbsI (shW (wv n a) (w_i64 (e - k))))))) (limbsI (mD (wv (negW (shW (wv n a) (w_i64 (e - k)))) (limbsI (shW (wv n a) (w_i64 (e - k)))))))) (eD (wv (negW (shW (wv n a) (w_i64 (e - k)))) (limbsI (shW (wv n a) (w_i64 (e - k))))) k))) (limbsI (addM (wv n a) e (- wv (negW (mD (wv (negW (shW (wv n a) (w_i64 (e - k)))) (limbsI (shW (wv n a) (w_i64 (e - k))))))) (limbsI (mD (wv (negW (shW (wv n a) (w_i64 (e - k)))) (limbsI (shW (wv n a) (w_i64 (e - k)))))))) (eD (wv (negW (shW (wv n a) (w_i64 (e - k)))) (limbsI (shW (wv n a) (w_i64 (e - k))))) k)))))) && okV (negW (mD (wv (negW ((1 : Int))) (limbsI ((1 : Int)))))) (limbsI (mD (wv (negW ((1 : Int))) (limbsI ((1 : Int))))))) && okE (eD (wv (negW (addM (wv n a) e (- wv (negW (mD (wv (negW (shW (wv n a) (w_i64 (e - k)))) (limbsI (shW (wv n a) (w_i64 (e - k))))))) (limbsI (mD (wv (negW (shW (wv n a) (w_i64 (e - k)))) (limbsI (shW (wv n a) (w_i64 (e - k)))))))) (eD (wv (negW (shW (wv n a) (w_i64 (e - k)))) (limbsI (shW (wv n a) (w_i64 (e - k))))) k))) (limbsI (addM (wv n a) e (- wv (negW (mD (wv (negW (shW (wv n a) (w_i64 (e - k)))) (limbsI (shW (wv n a) (w_i64 (e - k))))))) (limbsI (mD (wv (negW (shW (wv n a) (w_i64 (e - k)))) (limbsI (shW (wv n a) (w_i64 (e - k)))))))) (eD (wv (negW (shW (wv n a) (w_i64 (e - k)))) (limbsI (shW (wv n a) (w_i64 (e - k))))) k)))) ((addE (wv n a) e (- wv (negW (mD (wv (negW (shW (wv n a) (w_i64 (e - k)))) (limbsI (shW (wv n a) (w_i64 (e - k))))))) (limbsI (mD (wv (negW (shW (wv n a) (w_i64 (e - k)))) (limbsI (shW (wv n a) (w_i64 (e - k)))))))) (eD (wv (negW (shW (wv n a) (w_i64 (e - k)))) (limbsI (shW (wv n a) (w_i64 (e - k))))) k)) + (1 : Int)))) && okE (eD (wv (negW ((1 : Int))) (limbsI ((1 : Int)))) k)) then
                bif (okW (negW (shW (wv n a) (w_i64 (e - k)))) (limbsI (shW (wv n a) (w_i64 (e - k)))) && small64 (wv (negW (shW (wv n a) (w_i64 (e - k)))) (limbsI (shW (wv n a) (w_i64 (e - k)))))) then
                  bif ((!((ltI (0 : Int) (cmpD (wv (negW (mD (wv (negW (addM (wv n a) e (- wv (negW (mD (wv (negW (shW (wv n a) (w_i64 (e - k)))) (limbsI (shW (wv n a) (w_i64 (e - k))))))) (limbsI (mD (wv (negW (shW (wv n a) (w_i64 (e - k)))) (limbsI (shW (wv n a) (w_i64 (e - k)))))))) (eD (wv (negW (shW (wv n a) (w_i64 (e - k)))) (limbsI (shW (wv n a) (w_i64 (e - k))))) k))) (limbsI (addM (wv n a) e (- wv (negW (mD (wv (negW (shW (wv n a) (w_i64 (e - k)))) (limbsI (shW (wv n a) (w_i64 (e - k))))))) (limbsI (mD (wv (negW (shW (wv n a) (w_i64 (e - k)))) (limbsI (shW (wv n a) (w_i64 (e - k)))))))) (eD (wv (negW (shW (wv n a) (w_i64 (e - k)))) (limbsI (shW (wv n a) (w_i64 (e - k))))) k)))))) (limbsI (mD (wv (negW (addM (wv n a) e (- wv (negW (mD (wv (negW (shW (wv n a) (w_i64 (e - k)))) (limbsI (shW (wv n a) (w_i64 (e - k))))))) (limbsI (mD (wv (negW (shW (wv n a) (w_i64 (e - k)))) (limbsI (shW (wv n a) (w_i64 (e - k)))))))) (eD (wv (negW (shW (wv n a) (w_i64 (e - k)))) (limbsI (shW (wv n a) (w_i64 (e - k))))) k))) (limbsI (addM (wv n a) e (- wv (negW (mD (wv (negW (shW (wv n a) (w_i64 (e - k)))) (limbsI (shW (wv n a) (w_i64 (e - k))))))) (limbsI (mD (wv (negW (shW (wv n a) (w_i64 (e - k)))) (limbsI (shW (wv n a) (w_i64 (e - k)))))))) (eD (wv (negW (shW (wv n a) (w_i64 (e - k)))) (limbsI (shW (wv n a) (w_i64 (e - k))))) k))))))) (eD (wv (negW (addM (wv n a) e (- wv (negW (mD (wv (negW (shW (wv n a) (w_i64 (e - k)))) (limbsI (shW (wv n a) (w_i64 (e - k))))))) (limbsI (mD (wv (negW (shW (wv n a) (w_i64 (e - k)))) (limbsI (shW (wv n a) (w_i64 (e - k)))))))) (eD (wv (negW (shW (wv n a) (w_i64 (e - k)))) (limbsI (shW (wv n a) (w_i64 (e - k))))) k))) (limbsI (addM (wv n a) e (- wv (negW (mD (wv (negW (shW (wv n a) (w_i64 (e - k)))) (limbsI (shW (wv n a) (w_i64 (e - k))))))) (limbsI (mD (wv (negW (shW (wv n a) (w_i64 (e - k)))) (limbsI (shW (wv n a) (w_i64 (e - k)))))))) (eD (wv (negW (shW (wv n a) (w_i64 (e - k)))) (limbsI (shW (wv n a) (w_i64 (e - k))))) k)))) ((addE (wv n a) e (- wv (negW (mD (wv (negW (shW (wv n a) (w_i64 (e - k)))) (limbsI (shW (wv n a) (w_i64 (e - k))))))) (limbsI (mD (wv (negW (shW (wv n a) (w_i64 (e - k)))) (limbsI (shW (wv n a) (w_i64 (e - k)))))))) (eD (wv (negW (shW (wv n a) (w_i64 (e - k)))) (limbsI (shW (wv n a) (w_i64 (e - k))))) k)) + (1 : Int))) (wv (negW (mD (wv (negW ((1 : Int))) (limbsI ((1 : Int)))))) (limbsI (mD (wv (negW ((1 : Int))) (limbsI ((1 : Int))))))) (eD (wv (negW ((1 : Int))) (limbsI ((1 : Int)))) k))) == false)) || true) then
                    bif ((!((ltI (0 : Int) (cmpD (wv (negW (mD (wv (negW (addM (wv n a) e (- wv (negW (mD (wv (negW (shW (wv n a) (w_i64 (e - k)))) (limbsI (shW (wv n a) (w_i64 (e - k))))))) (limbsI (mD (wv (negW (shW (wv n a) (w_i64 (e - k)))) (limbsI (shW (wv n a) (w_i64 (e - k)))))))) (eD (wv (negW (shW (wv n a) (w_i64 (e - k)))) (limbsI (shW (wv n a) (w_i64 (e - k))))) k))) (limbsI (addM (wv n a) e (- wv (negW (mD (wv (negW (shW (wv n a) (w_i64 (e - k)))) (limbsI (shW (wv n a) (w_i64 (e - k))))))) (limbsI (mD (wv (negW (shW (wv n a) (w_i64 (e - k)))) (limbsI (shW (wv n a) (w_i64 (e - k)))))))) (eD (wv (negW (shW (wv n a) (w_i64 (e - k)))) (limbsI (shW (wv n a) (w_i64 (e - k))))) k)))))) (limbsI (mD (wv (negW (addM (wv n a) e (- wv (negW (mD (wv (negW (shW (wv n a) (w_i64 (e - k)))) (limbsI (shW (wv n a) (w_i64 (e - k))))))) (limbsI (mD (wv (negW (shW (wv n a) (w_i64 (e - k)))) (limbsI (shW (wv n a) (w_i64 (e - k)))))))) (eD (wv (negW (shW (wv n a) (w_i64 (e - k)))) (limbsI (shW (wv n a) (w_i64 (e - k))))) k))) (limbsI (addM (wv n a) e (- wv (negW (mD (wv (negW (shW (wv n a) (w_i64 (e - k)))) (limbsI (shW (wv n a) (w_i64 (e - k))))))) (limbsI (mD (wv (negW (shW (wv n a) (w_i64 (e - k)))) (limbsI (shW (wv n a) (w_i64 (e - k)))))))) (eD (wv (negW (shW (wv n a) (w_i64 (e - k)))) (limbsI (shW (wv n a) (w_i64 (e - k))))) k))))))) (eD (wv (negW (addM (wv n a) e (- wv (negW (mD (wv (negW (shW (wv n a) (w_i64 (e - k)))) (limbsI (shW (wv n a) (w_i64 (e - k))))))) (limbsI (mD (wv (negW (shW (wv n a) (w_i64 (e - k)))) (limbsI (shW (wv n a) (w_i64 (e - k)))))))) (eD (wv (negW (shW (wv n a) (w_i64 (e - k)))) (limbsI (shW (wv n a) (w_i64 (e - k))))) k))) (limbsI (addM (wv n a) e (- wv (negW (mD (wv (negW (shW (wv n a) (w_i64 (e - k)))) (limbsI (shW (wv n a) (w_i64 (e - k))))))) (limbsI (mD (wv (negW (shW (wv n a) (w_i64 (e - k)))) (limbsI (shW (wv n a) (w_i64 (e - k)))))))) (eD (wv (negW (shW (wv n a) (w_i64 (e - k)))) (limbsI (shW (wv n a) (w_i64 (e - k))))) k)))) ((addE (wv n a) e (- wv (negW (mD (wv (negW (shW (wv n a) (w_i64 (e - k)))) (limbsI (shW (wv n a) (w_i64 (e - k))))))) (limbsI (mD (wv (negW (shW (wv n a) (w_i64 (e - k)))) (limbsI (shW (wv n a) (w_i64 (e - k)))))))) (eD (wv (negW (shW (wv n a) (w_i64 (e - k)))) (limbsI (shW (wv n a) (w_i64 (e - k))))) k)) + (1 : Int))) (wv (negW (mD (wv (negW ((1 : Int))) (limbsI ((1 : Int)))))) (limbsI (mD (wv (negW ((1 : Int))) (limbsI ((1 : Int))))))) (eD (wv (negW ((1 : Int))) (limbsI ((1 : Int)))) k))) == false)) || ((((!((ltI (0 : Int) (cmpD (wv (negW (mD (wv (negW (addM (wv n a) e (- wv (negW (mD (wv (negW (shW (wv n a) (w_i64 (e - k)))) (limbsI (shW (wv n a) (w_i64 (e - k))))))) (limbsI (mD (wv (negW (shW (wv n a) (w_i64 (e - k)))) (limbsI (shW (wv n a) (w_i64 (e - k)))))))) (eD (wv (negW (shW (wv n a) (w_i64 (e - k)))) (limbsI (shW (wv n a) (w_i64 (e - k))))) k))) (limbsI (addM (wv n a) e (- wv (negW (mD (wv (negW (shW (wv n a) (w_i64 (e - k)))) (limbsI (shW (wv n a) (w_i64 (e - k))))))) (limbsI (mD (wv (negW (shW (wv n a) (w_i64 (e - k)))) (limbsI (shW (wv n a) (w_i64 (e - k)))))))) (eD (wv (negW (shW (wv n a) (w_i64 (e - k)))) (limbsI (shW (wv n a) (w_i64 (e - k))))) k)))))) (limbsI (mD (wv (negW (addM (wv n a) e (- wv (negW (mD (wv (negW (shW (wv n a) (w_i64 (e - k)))) (limbsI (shW (wv n a) (w_i64 (e - k))))))) (limbsI (mD (wv (negW (shW (wv n a) (w_i64 (e - k)))) (limbsI (shW (wv n a) (w_i64 (e - k)))))))) (eD (wv (negW (shW (wv n a) (w_i64 (e - k)))) (limbsI (shW (wv n a) (w_i64 (e - k))))) k))) (limbsI (addM (wv n a) e (- wv (negW (mD (wv (negW (shW (wv n a) (w_i64 (e - k)))) (limbsI (shW (wv n a) (w_i64 (e - k))))))) (limbsI (mD (wv (negW (shW (wv n a) (w_i64 (e - k)))) (limbsI (shW (wv n a) (w_i64 (e - k)))))))) (eD (wv (negW (shW (wv n a) (w_i64 (e - k)))) (limbsI (shW (wv n a) (w_i64 (e - k))))) k))))))) (eD (wv (negW (addM (wv n a) e (- wv (negW (mD (wv (negW (shW (wv n a) (w_i64 (e - k)))) (limbsI (shW (wv n a) (w_i64 (e - k))))))) (limbsI (mD (wv (negW (shW (wv n a) (w_i64 (e - k)))) (limbsI (shW (wv n a) (w_i64 (e - k)))))))) (eD (wv (negW (shW (wv n a) (w_i64 (e - k)))) (limbsI (shW (wv n a) (w_i64 (e - k))))) k))) (limbsI (addM (wv n a) e (- wv (negW (mD (wv (negW (shW (wv n a) (w_i64 (e - k)))) (limbsI (shW (wv n a) (w_i64 (e - k))))))) (limbsI (mD (wv (negW (shW (wv n a) (w_i64 (e - k)))) (limbsI (shW (wv n a) (w_i64 (e - k)))))))) (eD (wv (negW (shW (wv n a) (w_i64 (e - k)))) (limbsI (shW (wv n a) (w_i64 (e - k))))) k)))) ((addE (wv n a) e (- wv (negW (mD (wv (negW (shW (wv n a) (w_i64 (e - k)))) (limbsI (shW (wv n a) (w_i64 (e - k))))))) (limbsI (mD (wv (negW (shW (wv n a) (w_i64 (e - k)))) (limbsI (shW (wv n a) (w_i64 (e - k)))))))) (eD (wv (negW (shW (wv n a) (w_i64 (e - k)))) (limbsI (shW (wv n a) (w_i64 (e - k))))) k)) + (1 : Int))) (wv (negW (mD (wv (negW ((1 : Int))) (limbsI ((1 : Int)))))) (limbsI (mD (wv (negW ((1 : Int))) (limbsI ((1 : Int))))))) (eD (wv (negW ((1 : Int))) (limbsI ((1 : Int)))) k))) == false)) || ((ltI (0 : Int) (cmpD (wv (negW (mD (wv (negW (addM (wv n a) e (- wv (negW (mD (wv (negW (shW (wv n a) (w_i64 (e - k)))) (limbsI (shW (wv n a) (w_i64 (e - k))))))) (limbsI (mD (wv (negW (shW (wv n a) (w_i64 (e - k)))) (limbsI (shW (wv n a) (w_i64 (e - k)))))))) (eD (wv (negW (shW (wv n a) (w_i64 (e - k)))) (limbsI (shW (wv n a) (w_i64 (e - k))))) k))) (limbsI (addM (wv n a) e (- wv (negW (mD (wv (negW (shW (wv n a) (w_i64 (e - k)))) (limbsI (shW (wv n a) (w_i64 (e - k))))))) (limbsI (mD (wv (negW (shW (wv n a) (w_i64 (e - k)))) (limbsI (shW (wv n a) (w_i64 (e - k)))))))) (eD (wv (negW (shW (wv n a) (w_i64 (e - k)))) (limbsI (shW (wv n a) (w_i64 (e - k))))) k)))))) (limbsI (mD (wv (negW (addM (wv n a) e (- wv (negW (mD (wv (negW (shW (wv n a) (w_i64 (e - k)))) (limbsI (shW (wv n a) (w_i64 (e - k))))))) (limbsI (mD (wv (negW (shW (wv n a) (w_i64 (e - k)))) (limbsI (shW (wv n a) (w_i64 (e - k)))))))) (eD (wv (negW (shW (wv n a) (w_i64 (e - k)))) (limbsI (shW (wv n a) (w_i64 (e - k))))) k))) (limbsI (addM (wv n a) e (- wv (negW (mD (wv (negW (shW (wv n a) (w_i64 (e - k)))) (limbsI (shW (wv n a) (w_i64 (e - k))))))) (limbsI (mD (wv (negW (shW (wv n a) (w_i64 (e - k)))) (limbsI (shW (wv n a) (w_i64 (e - k)))))))) (eD (wv (negW (shW (wv n a) (w_i64 (e - k)))) (limbsI (shW (wv n a) (w_i64 (e - k))))) k))))))) (eD (wv (negW (addM (wv n a) e (- wv (negW (mD (wv (negW (shW (wv n a) (w_i64 (e - k)))) (limbsI (shW (wv n a) (w_i64 (e - k))))))) (limbsI (mD (wv (negW (shW (wv n a) (w_i64 (e - k)))) (limbsI (shW (wv n a) (w_i64 (e - k)))))))) (eD (wv (negW (shW (wv n a) (w_i64 (e - k)))) (limbsI (shW (wv n a) (w_i64 (e - k))))) k))) (limbsI (addM (wv n a) e (- wv (negW (mD (wv (negW (shW (wv n a) (w_i64 (e - k)))) (limbsI (shW (wv n a) (w_i64 (e - k))))))) (limbsI (mD (wv (negW (shW (wv n a) (w_i64 (e - k)))) (limbsI (shW (wv n a) (w_i64 (e - k)))))))) (eD (wv (negW (shW (wv n a) (w_i64 (e - k)))) (limbsI (shW (wv n a) (w_i64 (e - k))))) k)))) ((addE (wv n a) e (- wv (negW (mD (wv (negW (shW (wv n a) (w_i64 (e - k)))) (limbsI (shW (wv n a) (w_i64 (e - k))))))) (limbsI (mD (wv (negW (shW (wv n a) (w_i64 (e - k)))) (limbsI (shW (wv n a) (w_i64 (e - k)))))))) (eD (wv (negW (shW (wv n a) (w_i64 (e - k)))) (limbsI (shW (wv n a) (w_i64 (e - k))))) k)) + (1 : Int))) (wv (negW (mD (wv (negW ((1 : Int))) (limbsI ((1 : Int)))))) (limbsI (mD (wv (negW ((1 : Int))) (limbsI ((1 : Int))))))) (eD (wv (negW ((1 : Int))) (limbsI ((1 : Int)))) k))) == false)) && true) && true)) then
                      bif ((!((ltI (0 : Int) (cmpD (wv (negW (mD (wv (negW (addM (wv n a) e (- wv (negW (mD (wv (negW (shW (wv n a) (w_i64 (e - k)))) (limbsI (shW (wv n a) (w_i64 (e - k))))))) (limbsI (mD (wv (negW (shW (wv n a) (w_i64 (e - k)))) (limbsI (shW (wv n a) (w_i64 (e - k)))))))) (eD (wv (negW (shW (wv n a) (w_i64 (e - k)))) (limbsI (shW (wv n a) (w_i64 (e - k))))) k))) (limbsI (addM (wv n a) e (- wv (negW (mD (wv (negW (shW (wv n a) (w_i64 (e - k)))) (limbsI (shW (wv n a) (w_i64 (e - k))))))) (limbsI (mD (wv (negW (shW (wv n a) (w_i64 (e - k)))) (limbsI (shW (wv n a) (w_i64 (e - k)))))))) (eD (wv (negW (shW (wv n a) (w_i64 (e - k)))) (limbsI (shW (wv n a) (w_i64 (e - k))))) k)))))) (limbsI (mD (wv (negW (addM (wv n a) e (- wv (negW (mD (wv (negW (shW (wv n a) (w_i64 (e - k)))) (limbsI (shW (wv n a) (w_i64 (e - k))))))) (limbsI (mD (wv (negW (shW (wv n a) (w_i64 (e - k)))) (limbsI (shW (wv n a) (w_i64 (e - k)))))))) (eD (wv (negW (shW (wv n a) (w_i64 (e - k)))) (limbsI (shW (wv n a) (w_i64 (e - k))))) k))) (limbsI (addM (wv n a) e (- wv (negW (mD (wv (negW (shW (wv n a) (w_i64 (e - k)))) (limbsI (shW (wv n a) (w_i64 (e - k))))))) (limbsI (mD (wv (negW (shW (wv n a) (w_i64 (e - k)))) (limbsI (shW (wv n a) (w_i64 (e - k)))))))) (eD (wv (negW (shW (wv n a) (w_i64 (e - k)))) (limbsI (shW (wv n a) (w_i64 (e - k))))) k))))))) (eD (wv (negW (addM (wv n a) e (- wv (negW (mD (wv (negW (shW (wv n a) (w_i64 (e - k)))) (limbsI (shW (wv n a) (w_i64 (e - k))))))) (limbsI (mD (wv (negW (shW (wv n a) (w_i64 (e - k)))) (limbsI (shW (wv n a) (w_i64 (e - k)))))))) (eD (wv (negW (shW (wv n a) (w_i64 (e - k)))) (limbsI (shW (wv n a) (w_i64 (e - k))))) k))) (limbsI (addM (wv n a) e (- wv (negW (mD (wv (negW (shW (wv n a) (w_i64 (e - k)))) (limbsI (shW (wv n a) (w_i64 (e - k))))))) (limbsI (mD (wv (negW (shW (wv n a) (w_i64 (e - k)))) (limbsI (shW (wv n a) (w_i64 (e - k)))))))) (eD (wv (negW (shW (wv n a) (w_i64 (e - k)))) (limbsI (shW (wv n a) (w_i64 (e - k))))) k)))) ((addE (wv n a) e (- wv (negW (mD (wv (negW (shW (wv n a) (w_i64 (e - k)))) (limbsI (shW (wv n a) (w_i64 (e - k))))))) (limbsI (mD (wv (negW (shW (wv n a) (w_i64 (e - k)))) (limbsI (shW (wv n a) (w_i64 (e - k)))))))) (eD (wv (negW (shW (wv n a) (w_i64 (e - k)))) (limbsI (shW (wv n a) (w_i64 (e - k))))) k)) + (1 : Int))) (wv (negW (mD (wv (negW ((1 : Int))) (limbsI ((1 : Int)))))) (limbsI (mD (wv (negW ((1 : Int))) (limbsI ((1 : Int))))))) (eD (wv (negW ((1 : Int))) (limbsI ((1 : Int)))) k))) == false)) || ((((!((ltI (0 : Int) (cmpD (wv (negW (mD (wv (negW (addM (wv n a) e (- wv (negW (mD (wv (negW (shW (wv n a) (w_i64 (e - k)))) (limbsI (shW (wv n a) (w_i64 (e - k))))))) (limbsI (mD (wv (negW (shW (wv n a) (w_i64 (e - k)))) (limbsI (shW (wv n a) (w_i64 (e - k)))))))) (eD (wv (negW (shW (wv n a) (w_i64 (e - k)))) (limbsI (shW (wv n a) (w_i64 (e - k))))) k))) (limbsI (addM (wv n a) e (- wv (negW (mD (wv (negW (shW (wv n a) (w_i64 (e - k)))) (limbsI (shW (wv n a) (w_i64 (e - k))))))) (limbsI (mD (wv (negW (shW (wv n a) (w_i64 (e - k)))) (limbsI (shW (wv n a) (w_i64 (e - k)))))))) (eD (wv (negW (shW (wv n a) (w_i64 (e - k)))) (limbsI (shW (wv n a) (w_i64 (e - k))))) k)))))) (limbsI (mD (wv (negW (addM (wv n a) e (- wv (negW (mD (wv (negW (shW (wv n a) (w_i64 (e - k)))) (limbsI (shW (wv n a) (w_i64 (e - k))))))) (limbsI (mD (wv (negW (shW (wv n a) (w_i64 (e - k)))) (limbsI (shW (wv n a) (w_i64 (e - k)))))))) (eD (wv (negW (shW (wv n a) (w_i64 (e - k)))) (limbsI (shW (wv n a) (w_i64 (e - k))))) k))) (limbsI (addM (wv n a) e (- wv (negW (mD (wv (negW (shW (wv n a) (w_i64 (e - k)))) (limbsI (shW (wv n a) (w_i64 (e - k))))))) (limbsI (mD (wv (negW (shW (wv n a) (w_i64 (e - k)))) (limbsI (shW (wv n a) (w_i64 (e - k)))))))) (eD (wv (negW (shW (wv n a) (w_i64 (e - k)))) (limbsI (shW (wv n a) (w_i64 (e - k))))) k))))))) (eD (wv (negW (addM (wv n a) e (- wv (negW (mD (wv (negW (shW (wv n a) (w_i64 (e - k)))) (limbsI (shW (wv n a) (w_i64 (e - k))))))) (limbsI (mD (wv (negW (shW (wv n a) (w_i64 (e - k)))) (limbsI (shW (wv n a) (w_i64 (e - k)))))))) (eD (wv (negW (shW (wv n a) (w_i64 (e - k)))) (limbsI (shW (wv n a) (w_i64 (e - k))))) k))) (limbsI (addM (wv n a) e (- wv (negW (mD (wv (negW (shW (wv n a) (w_i64 (e - k)))) (limbsI (shW (wv n a) (w_i64 (e - k))))))) (limbsI (mD (wv (negW (shW (wv n a) (w_i64 (e - k)))) (limbsI (shW (wv n a) (w_i64 (e - k)))))))) (eD (wv (negW (shW (wv n a) (w_i64 (e - k)))) (limbsI (shW (wv n a) (w_i64 (e - k))))) k)))) ((addE (wv n a) e (- wv (negW (mD (wv (negW (shW (wv n a) (w_i64 (e - k)))) (limbsI (shW (wv n a) (w_i64 (e - k))))))) (limbsI (mD (wv (negW (shW (wv n a) (w_i64 (e - k)))) (limbsI (shW (wv n a) (w_i64 (e - k)))))))) (eD (wv (negW (shW (wv n a) (w_i64 (e - k)))) (limbsI (shW (wv n a) (w_i64 (e - k))))) k)) + (1 : Int))) (wv (negW (mD (wv (negW ((1 : Int))) (limbsI ((1 : Int)))))) (limbsI (mD (wv (negW ((1 : Int))) (limbsI ((1 : Int))))))) (eD (wv (negW ((1 : Int))) (limbsI ((1 : Int)))) k))) == false)) || ((ltI (0 : Int) (cmpD (wv (negW (mD (wv (negW (addM (wv n a) e (- wv (negW (mD (wv (negW (shW (wv n a) (w_i64 (e - k)))) (limbsI (shW (wv n a) (w_i64 (e - k))))))) (limbsI (mD (wv (negW (shW (wv n a) (w_i64 (e - k)))) (limbsI (shW (wv n a) (w_i64 (e - k)))))))) (eD (wv (negW (shW (wv n a) (w_i64 (e - k)))) (limbsI (shW (wv n a) (w_i64 (e - k))))) k))) (limbsI (addM (wv n a) e (- wv (negW (mD (wv (negW (shW (wv n a) (w_i64 (e - k)))) (limbsI (shW (wv n a) (w_i64 (e - k))))))) (limbsI (mD (wv (negW (shW (wv n a) (w_i64 (e - k)))) (limbsI (shW (wv n a) (w_i64 (e - k)))))))) (eD (wv (negW (shW (wv n a) (w_i64 (e - k)))) (limbsI (shW (wv n a) (w_i64 (e - k))))) k)))))) (limbsI (mD (wv (negW (addM (wv n a) e (- wv (negW (mD (wv (negW (shW (wv n a) (w_i64 (e - k)))) (limbsI (shW (wv n a) (w_i64 (e - k))))))) (limbsI (mD (wv (negW (shW (wv n a) (w_i64 (e - k)))) (limbsI (shW (wv n a) (w_i64 (e - k)))))))) (eD (wv (negW (shW (wv n a) (w_i64 (e - k)))) (limbsI (shW (wv n a) (w_i64 (e - k))))) k))) (limbsI (addM (wv n a) e (- wv (negW (mD (wv (negW (shW (wv n a) (w_i64 (e - k)))) (limbsI (shW (wv n a) (w_i64 (e - k))))))) (limbsI (mD (wv (negW (shW (wv n a) (w_i64 (e - k)))) (limbsI (shW (wv n a) (w_i64 (e - k)))))))) (eD (wv (negW (shW (wv n a) (w_i64 (e - k)))) (limbsI (shW (wv n a) (w_i64 (e - k))))) k))))))) (eD (wv (negW (addM (wv n a) e (- wv (negW (mD (wv (negW (shW (wv n a) (w_i64 (e - k)))) (limbsI (shW (wv n a) (w_i64 (e - k))))))) (limbsI (mD (wv (negW (shW (wv n a) (w_i64 (e - k)))) (limbsI (shW (wv n a) (w_i64 (e - k)))))))) (eD (wv (negW (shW (wv n a) (w_i64 (e - k)))) (limbsI (shW (wv n a) (w_i64 (e - k))))) k))) (limbsI (addM (wv n a) e (- wv (negW (mD (wv (negW (shW (wv n a) (w_i64 (e - k)))) (limbsI (shW (wv n a) (w_i64 (e - k))))))) (limbsI (mD (wv (negW (shW (wv n a) (w_i64 (e - k)))) (limbsI (shW (wv n a) (w_i64 (e - k)))))))) (eD (wv (negW (shW (wv n a) (w_i64 (e - k)))) (limbsI (shW (wv n a) (w_i64 (e - k))))) k)))) ((addE (wv n a) e (- wv (negW (mD (wv (negW (shW (wv n a) (w_i64 (e - k)))) (limbsI (shW (wv n a) (w_i64 (e - k))))))) (limbsI (mD (wv (negW (shW (wv n a) (w_i64 (e - k)))) (limbsI (shW (wv n a) (w_i64 (e - k)))))))) (eD (wv (negW (shW (wv n a) (w_i64 (e - k)))) (limbsI (shW (wv n a) (w_i64 (e - k))))) k)) + (1 : Int))) (wv (negW (mD (wv (negW ((1 : Int))) (limbsI ((1 : Int)))))) (limbsI (mD (wv (negW ((1 : Int))) (limbsI ((1 : Int))))))) (eD (wv (negW ((1 : Int))) (limbsI ((1 : Int)))) k))) == false)) && true) && true)) then
                        bif ((!(((ltI (0 : Int) (cmpD (wv (negW (mD (wv (negW (addM (wv n a) e (- wv (negW (mD (wv (negW (shW (wv n a) (w_i64 (e - k)))) (limbsI (shW (wv n a) (w_i64 (e - k))))))) (limbsI (mD (wv (negW (shW (wv n a) (w_i64 (e - k)))) (limbsI (shW (wv n a) (w_i64 (e - k)))))))) (eD (wv (negW (shW (wv n a) (w_i64 (e - k)))) (limbsI (shW (wv n a) (w_i64 (e - k))))) k))) (limbsI (addM (wv n a) e (- wv (negW (mD (wv (negW (shW (wv n a) (w_i64 (e - k)))) (limbsI (shW (wv n a) (w_i64 (e - k))))))) (limbsI (mD (wv (negW (shW (wv n a) (w_i64 (e - k)))) (limbsI (shW (wv n a) (w_i64 (e - k)))))))) (eD (wv (negW (shW (wv n a) (w_i64 (e - k)))) (limbsI (shW (wv n a) (w_i64 (e - k))))) k)))))) (limbsI (mD (wv (negW (addM (wv n a) e (- wv (negW (mD (wv (negW (shW (wv n a) (w_i64 (e - k)))) (limbsI (shW (wv n a) (w_i64 (e - k))))))) (limbsI (mD (wv (negW (shW (wv n a) (w_i64 (e - k)))) (limbsI (shW (wv n a) (w_i64 (e - k)))))))) (eD (wv (negW (shW (wv n a) (w_i64 (e - k)))) (limbsI (shW (wv n a) (w_i64 (e - k))))) k))) (limbsI (addM (wv n a) e (- wv (negW (mD (wv (negW (shW (wv n a) (w_i64 (e - k)))) (limbsI (shW (wv n a) (w_i64 (e - k))))))) (limbsI (mD (wv (negW (shW (wv n a) (w_i64 (e - k)))) (limbsI (shW (wv n a) (w_i64 (e - k)))))))) (eD (wv (negW (shW (wv n a) (w_i64 (e - k)))) (limbsI (shW (wv n a) (w_i64 (e - k))))) k))))))) (eD (wv (negW (addM (wv n a) e (- wv (negW (mD (wv (negW (shW (wv n a) (w_i64 (e - k)))) (limbsI (shW (wv n a) (w_i64 (e - k))))))) (limbsI (mD (wv (negW (shW (wv n a) (w_i64 (e - k)))) (limbsI (shW (wv n a) (w_i64 (e - k)))))))) (eD (wv (negW (shW (wv n a) (w_i64 (e - k)))) (limbsI (shW (wv n a) (w_i64 (e - k))))) k))) (limbsI (addM (wv n a) e (- wv (negW (mD (wv (negW (shW (wv n a) (w_i64 (e - k)))) (limbsI (shW (wv n a) (w_i64 (e - k))))))) (limbsI (mD (wv (negW (shW (wv n a) (w_i64 (e - k)))) (limbsI (shW (wv n a) (w_i64 (e - k)))))))) (eD (wv (negW (shW (wv n a) (w_i64 (e - k)))) (limbsI (shW (wv n a) (w_i64 (e - k))))) k)))) ((addE (wv n a) e (- wv (negW (mD (wv (negW (shW (wv n a) (w_i64 (e - k)))) (limbsI (shW (wv n a) (w_i64 (e - k))))))) (limbsI (mD (wv (negW (shW (wv n a) (w_i64 (e - k)))) (limbsI (shW (wv n a) (w_i64 (e - k)))))))) (eD (wv (negW (shW (wv n a) (w_i64 (e - k)))) (limbsI (shW (wv n a) (w_i64 (e - k))))) k)) + (1 : Int))) (wv (negW (mD (wv (negW ((1 : Int))) (limbsI ((1 : Int)))))) (limbsI (mD (wv (negW ((1 : Int))) (limbsI ((1 : Int))))))) (eD (wv (negW ((1 : Int))) (limbsI ((1 : Int)))) k))) == false) && (((cmpD (wv (negW (mD (wv (negW (addM (wv n a) e (- wv (negW (mD (wv (negW (shW (wv n a) (w_i64 (e - k)))) (limbsI (shW (wv n a) (w_i64 (e - k))))))) (limbsI (mD (wv (negW (shW (wv n a) (w_i64 (e - k)))) (limbsI (shW (wv n a) (w_i64 (e - k)))))))) (eD (wv (negW (shW (wv n a) (w_i64 (e - k)))) (limbsI (shW (wv n a) (w_i64 (e - k))))) k))) (limbsI (addM (wv n a) e (- wv (negW (mD (wv (negW (shW (wv n a) (w_i64 (e - k)))) (limbsI (shW (wv n a) (w_i64 (e - k))))))) (limbsI (mD (wv (negW (shW (wv n a) (w_i64 (e - k)))) (limbsI (shW (wv n a) (w_i64 (e - k)))))))) (eD (wv (negW (shW (wv n a) (w_i64 (e - k)))) (limbsI (shW (wv n a) (w_i64 (e - k))))) k)))))) (limbsI (mD (wv (negW (addM (wv n a) e (- wv (negW (mD (wv (negW (shW (wv n a) (w_i64 (e - k)))) (limbsI (shW (wv n a) (w_i64 (e - k))))))) (limbsI (mD (wv (negW (shW (wv n a) (w_i64 (e - k)))) (limbsI (shW (wv n a) (w_i64 (e - k)))))))) (eD (wv (negW (shW (wv n a) (w_i64 (e - k)))) (limbsI (shW (wv n a) (w_i64 (e - k))))) k))) (limbsI (addM (wv n a) e (- wv (negW (mD (wv (negW (shW (wv n a) (w_i64 (e - k)))) (limbsI (shW (wv n a) (w_i64 (e - k))))))) (limbsI (mD (wv (negW (shW (wv n a) (w_i64 (e - k)))) (limbsI (shW (wv n a) (w_i64 (e - k)))))))) (eD (wv (negW (shW (wv n a) (w_i64 (e - k)))) (limbsI (shW (wv n a) (w_i64 (e - k))))) k))))))) (eD (wv (negW (addM (wv n a) e (- wv (negW (mD (wv (negW (shW (wv n a) (w_i64 (e - k)))) (limbsI (shW (wv n a) (w_i64 (e - k))))))) (limbsI (mD (wv (negW (shW (wv n a) (w_i64 (e - k)))) (limbsI (shW (wv n a) (w_i64 (e - k)))))))) (eD (wv (negW (shW (wv n a) (w_i64 (e - k)))) (limbsI (shW (wv n a) (w_i64 (e - k))))) k))) (limbsI (addM (wv n a) e (- wv (negW (mD (wv (negW (shW (wv n a) (w_i64 (e - k)))) (limbsI (shW (wv n a) (w_i64 (e - k))))))) (limbsI (mD (wv (negW (shW (wv n a) (w_i64 (e - k)))) (limbsI (shW (wv n a) (w_i64 (e - k)))))))) (eD (wv (negW (shW (wv n a) (w_i64 (e - k)))) (limbsI (shW (wv n a) (w_i64 (e - k))))) k)))) ((addE (wv n a) e (- wv (negW (mD (wv (negW (shW (wv n a) (w_i64 (e - k)))) (limbsI (shW (wv n a) (w_i64 (e - k))))))) (limbsI (mD (wv (negW (shW (wv n a) (w_i64 (e - k)))) (limbsI (shW (wv n a) (w_i64 (e - k)))))))) (eD (wv (negW (shW (wv n a) (w_i64 (e - k)))) (limbsI (shW (wv n a) (w_i64 (e - k))))) k)) + (1 : Int))) (wv (negW (mD (wv (negW ((1 : Int))) (limbsI ((1 : Int)))))) (limbsI (mD (wv (negW ((1 : Int))) (limbsI ((1 : Int))))))) (eD (wv (negW ((1 : Int))) (limbsI ((1 : Int)))) k)) == (0 : Int)) == true))) || true) then
                          bif ((!(((ltI (0 : Int) (cmpD (wv (negW (mD (wv (negW (addM (wv n a) e (- wv (negW (mD (wv (negW (shW (wv n a) (w_i64 (e - k)))) (limbsI (shW (wv n a) (w_i64 (e - k))))))) (limbsI (mD (wv (negW (shW (wv n a) (w_i64 (e - k)))) (limbsI (shW (wv n a) (w_i64 (e - k)))))))) (eD (wv (negW (shW (wv n a) (w_i64 (e - k)))) (limbsI (shW (wv n a) (w_i64 (e - k))))) k))) (limbsI (addM (wv n a) e (- wv (negW (mD (wv (negW (shW (wv n a) (w_i64 (e - k)))) (limbsI (shW (wv n a) (w_i64 (e - k))))))) (limbsI (mD (wv (negW (shW (wv n a) (w_i64 (e - k)))) (limbsI (shW (wv n a) (w_i64 (e - k)))))))) (eD (wv (negW (shW (wv n a) (w_i64 (e - k)))) (limbsI (shW (wv n a) (w_i64 (e - k))))) k)))))) (limbsI (mD (wv (negW (addM (wv n a) e (- wv (negW (mD (wv (negW (shW (wv n a) (w_i64 (e - k)))) (limbsI (shW (wv n a) (w_i64 (e - k))))))) (limbsI (mD (wv (negW (shW (wv n a) (w_i64 (e - k)))) (limbsI (shW (wv n a) (w_i64 (e - k)))))))) (eD (wv (negW (shW (wv n a) (w_i64 (e - k)))) (limbsI (shW (wv n a) (w_i64 (e - k))))) k))) (limbsI (addM (wv n a) e (- wv (negW (mD (wv (negW (shW (wv n a) (w_i64 (e - k)))) (limbsI (shW (wv n a) (w_i64 (e - k))))))) (limbsI (mD (wv (negW (shW (wv n a) (w_i64 (e - k)))) (limbsI (shW (wv n a) (w_i64 (e - k)))))))) (eD (wv (negW (shW (wv n a) (w_i64 (e - k)))) (limbsI (shW (wv n a) (w_i64 (e - k))))) k))))))) (eD (wv (negW (addM (wv n a) e (- wv (negW (mD (wv (negW (shW (wv n a) (w_i64 (e - k)))) (limbsI (shW (wv n a) (w_i64 (e - k))))))) (limbsI (mD (wv (negW (shW (wv n a) (w_i64 (e - k)))) (limbsI (shW (wv n a) (w_i64 (e - k)))))))) (eD (wv (negW (shW (wv n a) (w_i64 (e - k)))) (limbsI (shW (wv n a) (w_i64 (e - k))))) k))) (limbsI (addM (wv n a) e (- wv (negW (mD (wv (negW (shW (wv n a) (w_i64 (e - k)))) (limbsI (shW (wv n a) (w_i64 (e - k))))))) (limbsI (mD (wv (negW (shW (wv n a) (w_i64 (e - k)))) (limbsI (shW (wv n a) (w_i64 (e - k)))))))) (eD (wv (negW (shW (wv n a) (w_i64 (e - k)))) (limbsI (shW (wv n a) (w_i64 (e - k))))) k)))) ((addE (wv n a) e (- wv (negW (mD (wv (negW (shW (wv n a) (w_i64 (e - k)))) (limbsI (shW (wv n a) (w_i64 (e - k))))))) (limbsI (mD (wv (negW (shW (wv n a) (w_i64 (e - k)))) (limbsI (shW (wv n a) (w_i64 (e - k)))))))) (eD (wv (negW (shW (wv n a) (w_i64 (e - k)))) (limbsI (shW (wv n a) (w_i64 (e - k))))) k)) + (1 : Int))) (wv (negW (mD (wv (negW ((1 : Int))) (limbsI ((1 : Int)))))) (limbsI (mD (wv (negW ((1 : Int))) (limbsI ((1 : Int))))))) (eD (wv (negW ((1 : Int))) (limbsI ((1 : Int)))) k))) == false) && (((cmpD (wv (negW (mD (wv (negW (addM (wv n a) e (- wv (negW (mD (wv (negW (shW (wv n a) (w_i64 (e - k)))) (limbsI (shW (wv n a) (w_i64 (e - k))))))) (limbsI (mD (wv (negW (shW (wv n a) (w_i64 (e - k)))) (limbsI (shW (wv n a) (w_i64 (e - k)))))))) (eD (wv (negW (shW (wv n a) (w_i64 (e - k)))) (limbsI (shW (wv n a) (w_i64 (e - k))))) k))) (limbsI (addM (wv n a) e (- wv (negW (mD (wv (negW (shW (wv n a) (w_i64 (e - k)))) (limbsI (shW (wv n a) (w_i64 (e - k))))))) (limbsI (mD (wv (negW (shW (wv n a) (w_i64 (e - k)))) (limbsI (shW (wv n a) (w_i64 (e - k)))))))) (eD (wv (negW (shW (wv n a) (w_i64 (e - k)))) (limbsI (shW (wv n a) (w_i64 (e - k))))) k)))))) (limbsI (mD (wv (negW (addM (wv n a) e (- wv (negW (mD (wv (negW (shW (wv n a) (w_i64 (e - k)))) (limbsI (shW (wv n a) (w_i64 (e - k))))))) (limbsI (mD (wv (negW (shW (wv n a) (w_i64 (e - k)))) (limbsI (shW (wv n a) (w_i64 (e - k)))))))) (eD (wv (negW (shW (wv n a) (w_i64 (e - k)))) (limbsI (shW (wv n a) (w_i64 (e - k))))) k))) (limbsI (addM (wv n a) e (- wv (negW (mD (wv (negW (shW (wv n a) (w_i64 (e - k)))) (limbsI (shW (wv n a) (w_i64 (e - k))))))) (limbsI (mD (wv (negW (shW (wv n a) (w_i64 (e - k)))) (limbsI (shW (wv n a) (w_i64 (e - k)))))))) (eD (wv (negW (shW (wv n a) (w_i64 (e - k)))) (limbsI (shW (wv n a) (w_i64 (e - k))))) k))))))) (eD (wv (negW (addM (wv n a) e (- wv (negW (mD (wv (negW (shW (wv n a) (w_i64 (e - k)))) (limbsI (shW (wv n a) (w_i64 (e - k))))))) (limbsI (mD (wv (negW (shW (wv n a) (w_i64 (e - k)))) (limbsI (shW (wv n a) (w_i64 (e - k)))))))) (eD (wv (negW (shW (wv n a) (w_i64 (e - k)))) (limbsI (shW (wv n a) (w_i64 (e - k))))) k))) (limbsI (addM (wv n a) e (- wv (negW (mD (wv (negW (shW (wv n a) (w_i64 (e - k)))) (limbsI (shW (wv n a) (w_i64 (e - k))))))) (limbsI (mD (wv (negW (shW (wv n a) (w_i64 (e - k)))) (limbsI (shW (wv n a) (w_i64 (e - k)))))))) (eD (wv (negW (shW (wv n a) (w_i64 (e - k)))) (limbsI (shW (wv n a) (w_i64 (e - k))))) k)))) ((addE (wv n a) e (- wv (negW (mD (wv (negW (shW (wv n a) (w_i64 (e - k)))) (limbsI (shW (wv n a) (w_i64 (e - k))))))) (limbsI (mD (wv (negW (shW (wv n a) (w_i64 (e - k)))) (limbsI (shW (wv n a) (w_i64 (e - k)))))))) (eD (wv (negW (shW (wv n a) (w_i64 (e - k)))) (limbsI (shW (wv n a) (w_i64 (e - k))))) k)) + (1 : Int))) (wv (negW (mD (wv (negW ((1 : Int))) (limbsI ((1 : Int)))))) (limbsI (mD (wv (negW ((1 : Int))) (limbsI ((1 : Int))))))) (eD (wv (negW ((1 : Int))) (limbsI ((1 : Int)))) k)) == (0 : Int)) == true))) || ((((!(((ltI (0 : Int) (cmpD (wv (negW (mD (wv (negW (addM (wv n a) e (- wv (negW (mD (wv (negW (shW (wv n a) (w_i64 (e - k)))) (limbsI (shW (wv n a) (w_i64 (e - k))))))) (limbsI (mD (wv (negW (shW (wv n a) (w_i64 (e - k)))) (limbsI (shW (wv n a) (w_i64 (e - k)))))))) (eD (wv (negW (shW (wv n a) (w_i64 (e - k)))) (limbsI (shW (wv n a) (w_i64 (e - k))))) k))) (limbsI (addM (wv n a) e (- wv (negW (mD (wv (negW (shW (wv n a) (w_i64 (e - k)))) (limbsI (shW (wv n a) (w_i64 (e - k))))))) (limbsI (mD (wv (negW (shW (wv n a) (w_i64 (e - k)))) (limbsI (shW (wv n a) (w_i64 (e - k)))))))) (eD (wv (negW (shW (wv n a) (w_i64 (e - k)))) (limbsI (shW (wv n a) (w_i64 (e - k))))) k)))))) (limbsI (mD (wv (negW (addM (wv n a) e (- wv (negW (mD (wv (negW (shW (wv n a) (w_i64 (e - k)))) (limbsI (shW (wv n a) (w_i64 (e - k))))))) (limbsI (mD (wv (negW (shW (wv n a) (w_i64 (e - k)))) (limbsI (shW (wv n a) (w_i64 (e - k)))))))) (eD (wv (negW (shW (wv n a) (w_i64 (e - k)))) (limbsI (shW (wv n a) (w_i64 (e - k))))) k))) (limbsI (addM (wv n a) e (- wv (negW (mD (wv (negW (shW (wv n a) (w_i64 (e - k)))) (limbsI (shW (wv n a) (w_i64 (e - k))))))) (limbsI (mD (wv (negW (shW (wv n a) (w_i64 (e - k)))) (limbsI (shW (wv n a) (w_i64 (e - k)))))))) (eD (wv (negW (shW (wv n a) (w_i64 (e - k)))) (limbsI (shW (wv n a) (w_i64 (e - k))))) k))))))) (eD (wv (negW (addM (wv n a) e (- wv (negW (mD (wv (negW (shW (wv n a) (w_i64 (e - k)))) (limbsI (shW (wv n a) (w_i64 (e - k))))))) (limbsI (mD (wv (negW (shW (wv n a) (w_i64 (e - k)))) (limbsI (shW (wv n a) (w_i64 (e - k)))))))) (eD (wv (negW (shW (wv n a) (w_i64 (e - k)))) (limbsI (shW (wv n a) (w_i64 (e - k))))) k))) (limbsI (addM (wv n a) e (- wv (negW (mD (wv (negW (shW (wv n a) (w_i64 (e - k)))) (limbsI (shW (wv n a) (w_i64 (e - k))))))) (limbsI (mD (wv (negW (shW (wv n a) (w_i64 (e - k)))) (limbsI (shW (wv n a) (w_i64 (e - k)))))))) (eD (wv (negW (shW (wv n a) (w_i64 (e - k)))) (limbsI (shW (wv n a) (w_i64 (e - k))))) k)))) ((addE (wv n a) e (- wv (negW (mD (wv (negW (shW (wv n a) (w_i64 (e - k)))) (limbsI (shW (wv n a) (w_i64 (e - k))))))) (limbsI (mD (wv (negW (shW (wv n a) (w_i64 (e - k)))) (limbsI (shW (wv n a) (w_i64 (e - k)))))))) (eD (wv (negW (shW (wv n a) (w_i64 (e - k)))) (limbsI (shW (wv n a) (w_i64 (e - k))))) k)) + (1 : Int))) (wv (negW (mD (wv (negW ((1 : Int))) (limbsI ((1 : Int)))))) (limbsI (mD (wv (negW ((1 : Int))) (limbsI ((1 : Int))))))) (eD (wv (negW ((1 : Int))) (limbsI ((1 : Int)))) k))) == false) && (((cmpD (wv (negW (mD (wv (negW (addM (wv n a) e (- wv (negW (mD (wv (negW (shW (wv n a) (w_i64 (e - k)))) (limbsI (shW (wv n a) (w_i64 (e - k))))))) (limbsI (mD (wv (negW (shW (wv n a) (w_i64 (e - k)))) (limbsI (shW (wv n a) (w_i64 (e - k)))))))) (eD (wv (negW (shW (wv n a) (w_i64 (e - k)))) (limbsI (shW (wv n a) (w_i64 (e - k))))) k))) (limbsI (addM (wv n a) e (- wv (negW (mD (wv (negW (shW (wv n a) (w_i64 (e - k)))) (limbsI (shW (wv n a) (w_i64 (e - k))))))) (limbsI (mD (wv (negW (shW (wv n a) (w_i64 (e - k)))) (limbsI (shW (wv n a) (w_i64 (e - k)))))))) (eD (wv (negW (shW (wv n a) (w_i64 (e - k)))) (limbsI (shW (wv n a) (w_i64 (e - k))))) k)))))) (limbsI (mD (wv (negW (addM (wv n a) e (- wv (negW (mD (wv (negW (shW (wv n a) (w_i64 (e - k)))) (limbsI (shW (wv n a) (w_i64 (e - k))))))) (limbsI (mD (wv (negW (shW (wv n a) (w_i64 (e - k)))) (limbsI (shW (wv n a) (w_i64 (e - k)))))))) (eD (wv (negW (shW (wv n a) (w_i64 (e - k)))) (limbsI (shW (wv n a) (w_i64 (e - k))))) k))) (limbsI (addM (wv n a) e (- wv (negW (mD (wv (negW (shW (wv n a) (w_i64 (e - k)))) (limbsI (shW (wv n a) (w_i64 (e - k))))))) (limbsI (mD (wv (negW (shW (wv n a) (w_i64 (e - k)))) (limbsI (shW (wv n a) (w_i64 (e - k)))))))) (eD (wv (negW (shW (wv n a) (w_i64 (e - k)))) (limbsI (shW (wv n a) (w_i64 (e - k))))) k))))))) (eD (wv (negW (addM (wv n a) e (- wv (negW (mD (wv (negW (shW (wv n a) (w_i64 (e - k)))) (limbsI (shW (wv n a) (w_i64 (e - k))))))) (limbsI (mD (wv (negW (shW (wv n a) (w_i64 (e - k)))) (limbsI (shW (wv n a) (w_i64 (e - k)))))))) (eD (wv (negW (shW (wv n a) (w_i64 (e - k)))) (limbsI (shW (wv n a) (w_i64 (e - k))))) k))) (limbsI (addM (wv n a) e (- wv (negW (mD (wv (negW (shW (wv n a) (w_i64 (e - k)))) (limbsI (shW (wv n a) (w_i64 (e - k))))))) (limbsI (mD (wv (negW (shW (wv n a) (w_i64 (e - k)))) (limbsI (shW (wv n a) (w_i64 (e - k)))))))) (eD (wv (negW (shW (wv n a) (w_i64 (e - k)))) (limbsI (shW (wv n a) (w_i64 (e - k))))) k)))) ((addE (wv n a) e (- wv (negW (mD (wv (negW (shW (wv n a) (w_i64 (e - k)))) (limbsI (shW (wv n a) (w_i64 (e - k))))))) (limbsI (mD (wv (negW (shW (wv n a) (w_i64 (e - k)))) (limbsI (shW (wv n a) (w_i64 (e - k)))))))) (eD (wv (negW (shW (wv n a) (w_i64 (e - k)))) (limbsI (shW (wv n a) (w_i64 (e - k))))) k)) + (1 : Int))) (wv (negW (mD (wv (negW ((1 : Int))) (limbsI ((1 : Int)))))) (limbsI (mD (wv (negW ((1 : Int))) (limbsI ((1 : Int))))))) (eD (wv (negW ((1 : Int))) (limbsI ((1 : Int)))) k)) == (0 : Int)) == true))) || (((ltI (0 : Int) (cmpD (wv (negW (mD (wv (negW (addM (wv n a) e (- wv (negW (mD (wv (negW (shW (wv n a) (w_i64 (e - k)))) (limbsI (shW (wv n a) (w_i64 (e - k))))))) (limbsI (mD (wv (negW (shW (wv n a) (w_i64 (e - k)))) (limbsI (shW (wv n a) (w_i64 (e - k)))))))) (eD (wv (negW (shW (wv n a) (w_i64 (e - k)))) (limbsI (shW (wv n a) (w_i64 (e - k))))) k))) (limbsI (addM (wv n a) e (- wv (negW (mD (wv (negW (shW (wv n a) (w_i64 (e - k)))) (limbsI (shW (wv n a) (w_i64 (e - k))))))) (limbsI (mD (wv (negW (shW (wv n a) (w_i64 (e - k)))) (limbsI (shW (wv n a) (w_i64 (e - k)))))))) (eD (wv (negW (shW (wv n a) (w_i64 (e - k)))) (limbsI (shW (wv n a) (w_i64 (e - k))))) k)))))) (limbsI (mD (wv (negW (addM (wv n a) e (- wv (negW (mD (wv (negW (shW (wv n a) (w_i64 (e - k)))) (limbsI (shW (wv n a) (w_i64 (e - k))))))) (limbsI (mD (wv (negW (shW (wv n a) (w_i64 (e - k)))) (limbsI (shW (wv n a) (w_i64 (e - k)))))))) (eD (wv (negW (shW (wv n a) (w_i64 (e - k)))) (limbsI (shW (wv n a) (w_i64 (e - k))))) k))) (limbsI (addM (wv n a) e (- wv (negW (mD (wv (negW (shW (wv n a) (w_i64 (e - k)))) (limbsI (shW (wv n a) (w_i64 (e - k))))))) (limbsI (mD (wv (negW (shW (wv n a) (w_i64 (e - k)))) (limbsI (shW (wv n a) (w_i64 (e - k)))))))) (eD (wv (negW (shW (wv n a) (w_i64 (e - k)))) (limbsI (shW (wv n a) (w_i64 (e - k))))) k))))))) (eD (wv (negW (addM (wv n a) e (- wv (negW (mD (wv (negW (shW (wv n a) (w_i64 (e - k)))) (limbsI (shW (wv n a) (w_i64 (e - k))))))) (limbsI (mD (wv (negW (shW (wv n a) (w_i64 (e - k)))) (limbsI (shW (wv n a) (w_i64 (e - k)))))))) (eD (wv (negW (shW (wv n a) (w_i64 (e - k)))) (limbsI (shW (wv n a) (w_i64 (e - k))))) k))) (limbsI (addM (wv n a) e (- wv (negW (mD (wv (negW (shW (wv n a) (w_i64 (e - k)))) (limbsI (shW (wv n a) (w_i64 (e - k))))))) (limbsI (mD (wv (negW (shW (wv n a) (w_i64 (e - k)))) (limbsI (shW (wv n a) (w_i64 (e - k)))))))) (eD (wv (negW (shW (wv n a) (w_i64 (e - k)))) (limbsI (shW (wv n a) (w_i64 (e - k))))) k)))) ((addE (wv n a) e (- wv (negW (mD (wv (negW (shW (wv n a) (w_i64 (e - k)))) (limbsI (shW (wv n a) (w_i64 (e - k))))))) (limbsI (mD (wv (negW (shW (wv n a) (w_i64 (e - k)))) (limbsI (shW (wv n a) (w_i64 (e - k)))))))) (eD (wv (negW (shW (wv n a) (w_i64 (e - k)))) (limbsI (shW (wv n a) (w_i64 (e - k))))) k)) + (1 : Int))) (wv (negW (mD (wv (negW ((1 : Int))) (limbsI ((1 : Int)))))) (limbsI (mD (wv (negW ((1 : Int))) (limbsI ((1 : Int))))))) (eD (wv (negW ((1 : Int))) (limbsI ((1 : Int)))) k))) == false) && (((cmpD (wv (negW (mD (wv (negW (addM (wv n a) e (- wv (negW (mD (wv (negW (shW (wv n a) (w_i64 (e - k)))) (limbsI (shW (wv n a) (w_i64 (e - k))))))) (limbsI (mD (wv (negW (shW (wv n a) (w_i64 (e - k)))) (limbsI (shW (wv n a) (w_i64 (e - k)))))))) (eD (wv (negW (shW (wv n a) (w_i64 (e - k)))) (limbsI (shW (wv n a) (w_i64 (e - k))))) k))) (limbsI (addM (wv n a) e (- wv (negW (mD (wv (negW (shW (wv n a) (w_i64 (e - k)))) (limbsI (shW (wv n a) (w_i64 (e - k))))))) (limbsI (mD (wv (negW (shW (wv n a) (w_i64 (e - k)))) (limbsI (shW (wv n a) (w_i64 (e - k)))))))) (eD (wv (negW (shW (wv n a) (w_i64 (e - k)))) (limbsI (shW (wv n a) (w_i64 (e - k))))) k)))))) (limbsI (mD (wv (negW (addM (wv n a) e (- wv (negW (mD (wv (negW (shW (wv n a) (w_i64 (e - k)))) (limbsI (shW (wv n a) (w_i64 (e - k))))))) (limbsI (mD (wv (negW (shW (wv n a) (w_i64 (e - k)))) (limbsI (shW (wv n a) (w_i64 (e - k)))))))) (eD (wv (negW (shW (wv n a) (w_i64 (e - k)))) (limbsI (shW (wv n a) (w_i64 (e - k))))) k))) (limbsI (addM (wv n a) e (- wv (negW (mD (wv (negW (shW (wv n a) (w_i64 (e - k)))) (limbsI (shW (wv n a) (w_i64 (e - k))))))) (limbsI (mD (wv (negW (shW (wv n a) (w_i64 (e - k)))) (limbsI (shW (wv n a) (w_i64 (e - k)))))))) (eD (wv (negW (shW (wv n a) (w_i64 (e - k)))) (limbsI (shW (wv n a) (w_i64 (e - k))))) k))))))) (eD (wv (negW (addM (wv n a) e (- wv (negW (mD (wv (negW (shW (wv n a) (w_i64 (e - k)))) (limbsI (shW (wv n a) (w_i64 (e - k))))))) (limbsI (mD (wv (negW (shW (wv n a) (w_i64 (e - k)))) (limbsI (shW (wv n a) (w_i64 (e - k)))))))) (eD (wv (negW (shW (wv n a) (w_i64 (e - k)))) (limbsI (shW (wv n a) (w_i64 (e - k))))) k))) (limbsI (addM (wv n a) e (- wv (negW (mD (wv (negW (shW (wv n a) (w_i64 (e - k)))) (limbsI (shW (wv n a) (w_i64 (e - k))))))) (limbsI (mD (wv (negW (shW (wv n a) (w_i64 (e - k)))) (limbsI (shW (wv n a) (w_i64 (e - k)))))))) (eD (wv (negW (shW (wv n a) (w_i64 (e - k)))) (limbsI (shW (wv n a) (w_i64 (e - k))))) k)))) ((addE (wv n a) e (- wv (negW (mD (wv (negW (shW (wv n a) (w_i64 (e - k)))) (limbsI (shW (wv n a) (w_i64 (e - k))))))) (limbsI (mD (wv (negW (shW (wv n a) (w_i64 (e - k)))) (limbsI (shW (wv n a) (w_i64 (e - k)))))))) (eD (wv (negW (shW (wv n a) (w_i64 (e - k)))) (limbsI (shW (wv n a) (w_i64 (e - k))))) k)) + (1 : Int))) (wv (negW (mD (wv (negW ((1 : Int))) (limbsI ((1 : Int)))))) (limbsI (mD (wv (negW ((1 : Int))) (limbsI ((1 : Int))))))) (eD (wv (negW ((1 : Int))) (limbsI ((1 : Int)))) k)) == (0 : Int)) == true))) && true) && true)) then
                            bif ((!(((ltI (0 : Int) (cmpD (wv (negW (mD (wv (negW (addM (wv n a) e (- wv (negW (mD (wv (negW (shW (wv n a) (w_i64 (e - k)))) (limbsI (shW (wv n a) (w_i64 (e - k))))))) (limbsI (mD (wv (negW (shW (wv n a) (w_i64 (e - k)))) (limbsI (shW (wv n a) (w_i64 (e - k)))))))) (eD (wv (negW (shW (wv n a) (w_i64 (e - k)))) (limbsI (shW (wv n a) (w_i64 (e - k))))) k))) (limbsI (addM (wv n a) e (- wv (negW (mD (wv (negW (shW (wv n a) (w_i64 (e - k)))) (limbsI (shW (wv n a) (w_i64 (e - k))))))) (limbsI (mD (wv (negW (shW (wv n a) (w_i64 (e - k)))) (limbsI (shW (wv n a) (w_i64 (e - k)))))))) (eD (wv (negW (shW (wv n a) (w_i64 (e - k)))) (limbsI (shW (wv n a) (w_i64 (e - k))))) k)))))) (limbsI (mD (wv (negW (addM (wv n a) e (- wv (negW (mD (wv (negW (shW (wv n a) (w_i64 (e - k)))) (limbsI (shW (wv n a) (w_i64 (e - k))))))) (limbsI (mD (wv (negW (shW (wv n a) (w_i64 (e - k)))) (limbsI (shW (wv n a) (w_i64 (e - k)))))))) (eD (wv (negW (shW (wv n a) (w_i64 (e - k)))) (limbsI (shW (wv n a) (w_i64 (e - k))))) k))) (limbsI (addM (wv n a) e (- wv (negW (mD (wv (negW (shW (wv n a) (w_i64 (e - k)))) (limbsI (shW (wv n a) (w_i64 (e - k))))))) (limbsI (mD (wv (negW (shW (wv n a) (w_i64 (e - k)))) (limbsI (shW (wv n a) (w_i64 (e - k)))))))) (eD (wv (negW (shW (wv n a) (w_i64 (e - k)))) (limbsI (shW (wv n a) (w_i64 (e - k))))) k))))))) (eD (wv (negW (addM (wv n a) e (- wv (negW (mD (wv (negW (shW (wv n a) (w_i64 (e - k)))) (limbsI (shW (wv n a) (w_i64 (e - k))))))) (limbsI (mD (wv (negW (shW (wv n a) (w_i64 (e - k)))) (limbsI (shW (wv n a) (w_i64 (e - k)))))))) (eD (wv (negW (shW (wv n a) (w_i64 (e - k)))) (limbsI (shW (wv n a) (w_i64 (e - k))))) k))) (limbsI (addM (wv n a) e (- wv (negW (mD (wv (negW (shW (wv n a) (w_i64 (e - k)))) (limbsI (shW (wv n a) (w_i64 (e - k))))))) (limbsI (mD (wv (negW (shW (wv n a) (w_i64 (e - k)))) (limbsI (shW (wv n a) (w_i64 (e - k)))))))) (eD (wv (negW (shW (wv n a) (w_i64 (e - k)))) (limbsI (shW (wv n a) (w_i64 (e - k))))) k)))) ((addE (wv n a) e (- wv (negW (mD (wv (negW (shW (wv n a) (w_i64 (e - k)))) (limbsI (shW (wv n a) (w_i64 (e - k))))))) (limbsI (mD (wv (negW (shW (wv n a) (w_i64 (e - k)))) (limbsI (shW (wv n a) (w_i64 (e - k)))))))) (eD (wv (negW (shW (wv n a) (w_i64 (e - k)))) (limbsI (shW (wv n a) (w_i64 (e - k))))) k)) + (1 : Int))) (wv (negW (mD (wv (negW ((1 : Int))) (limbsI ((1 : Int)))))) (limbsI (mD (wv (negW ((1 : Int))) (limbsI ((1 : Int))))))) (eD (wv (negW ((1 : Int))) (limbsI ((1 : Int)))) k))) == false) && (((cmpD (wv (negW (mD (wv (negW (addM (wv n a) e (- wv (negW (mD (wv (negW (shW (wv n a) (w_i64 (e - k)))) (limbsI (shW (wv n a) (w_i64 (e - k))))))) (limbsI (mD (wv (negW (shW (wv n a) (w_i64 (e - k)))) (limbsI (shW (wv n a) (w_i64 (e - k)))))))) (eD (wv (negW (shW (wv n a) (w_i64 (e - k)))) (limbsI (shW (wv n a) (w_i64 (e - k))))) k))) (limbsI (addM (wv n a) e (- wv (negW (mD (wv (negW (shW (wv n a) (w_i64 (e - k)))) (limbsI (shW (wv n a) (w_i64 (e - k))))))) (limbsI (mD (wv (negW (shW (wv n a) (w_i64 (e - k)))) (limbsI (shW (wv n a) (w_i64 (e - k)))))))) (eD (wv (negW (shW (wv n a) (w_i64 (e - k)))) (limbsI (shW (wv n a) (w_i64 (e - k))))) k)))))) (limbsI (mD (wv (negW (addM (wv n a) e (- wv (negW (mD (wv (negW (shW (wv n a) (w_i64 (e - k)))) (limbsI (shW (wv n a) (w_i64 (e - k))))))) (limbsI (mD (wv (negW (shW (wv n a) (w_i64 (e - k)))) (limbsI (shW (wv n a) (w_i64 (e - k)))))))) (eD (wv (negW (shW (wv n a) (w_i64 (e - k)))) (limbsI (shW (wv n a) (w_i64 (e - k))))) k))) (limbsI (addM (wv n a) e (- wv (negW (mD (wv (negW (shW (wv n a) (w_i64 (e - k)))) (limbsI (shW (wv n a) (w_i64 (e - k))))))) (limbsI (mD (wv (negW (shW (wv n a) (w_i64 (e - k)))) (limbsI (shW (wv n a) (w_i64 (e - k)))))))) (eD (wv (negW (shW (wv n a) (w_i64 (e - k)))) (limbsI (shW (wv n a) (w_i64 (e - k))))) k))))))) (eD (wv (negW (addM (wv n a) e (- wv (negW (mD (wv (negW (shW (wv n a) (w_i64 (e - k)))) (limbsI (shW (wv n a) (w_i64 (e - k))))))) (limbsI (mD (wv (negW (shW (wv n a) (w_i64 (e - k)))) (limbsI (shW (wv n a) (w_i64 (e - k)))))))) (eD (wv (negW (shW (wv n a) (w_i64 (e - k)))) (limbsI (shW (wv n a) (w_i64 (e - k))))) k))) (limbsI (addM (wv n a) e (- wv (negW (mD (wv (negW (shW (wv n a) (w_i64 (e - k)))) (limbsI (shW (wv n a) (w_i64 (e - k))))))) (limbsI (mD (wv (negW (shW (wv n a) (w_i64 (e - k)))) (limbsI (shW (wv n a) (w_i64 (e - k)))))))) (eD (wv (negW (shW (wv n a) (w_i64 (e - k)))) (limbsI (shW (wv n a) (w_i64 (e - k))))) k)))) ((addE (wv n a) e (- wv (negW (mD (wv (negW (shW (wv n a) (w_i64 (e - k)))) (limbsI (shW (wv n a) (w_i64 (e - k))))))) (limbsI (mD (wv (negW (shW (wv n a) (w_i64 (e - k)))) (limbsI (shW (wv n a) (w_i64 (e - k)))))))) (eD (wv (negW (shW (wv n a) (w_i64 (e - k)))) (limbsI (shW (wv n a) (w_i64 (e - k))))) k)) + (1 : Int))) (wv (negW (mD (wv (negW ((1 : Int))) (limbsI ((1 : Int)))))) (limbsI (mD (wv (negW ((1 : Int))) (limbsI ((1 : Int))))))) (eD (wv (negW ((1 : Int))) (limbsI ((1 : Int)))) k)) == (0 : Int)) == true))) || ((((!(((ltI (0 : Int) (cmpD (wv (negW (mD (wv (negW (addM (wv n a) e (- wv (negW (mD (wv (negW (shW (wv n a) (w_i64 (e - k)))) (limbsI (shW (wv n a) (w_i64 (e - k))))))) (limbsI (mD (wv (negW (shW (wv n a) (w_i64 (e - k)))) (limbsI (shW (wv n a) (w_i64 (e - k)))))))) (eD (wv (negW (shW (wv n a) (w_i64 (e - k)))) (limbsI (shW (wv n a) (w_i64 (e - k))))) k))) (limbsI (addM (wv n a) e (- wv (negW (mD (wv (negW (shW (wv n a) (w_i64 (e - k)))) (limbsI (shW (wv n a) (w_i64 (e - k))))))) (limbsI (mD (wv (negW (shW (wv n a) (w_i64 (e - k)))) (limbsI (shW (wv n a) (w_i64 (e - k)))))))) (eD (wv (negW (shW (wv n a) (w_i64 (e - k)))) (limbsI (shW (wv n a) (w_i64 (e - k))))) k)))))) (limbsI (mD (wv (negW (addM (wv n a) e (- wv (negW (mD (wv (negW (shW (wv n a) (w_i64 (e - k)))) (limbsI (shW (wv n a) (w_i64 (e - k))))))) (limbsI (mD (wv (negW (shW (wv n a) (w_i64 (e - k)))) (limbsI (shW (wv n a) (w_i64 (e - k)))))))) (eD (wv (negW (shW (wv n a) (w_i64 (e - k)))) (limbsI (shW (wv n a) (w_i64 (e - k))))) k))) (limbsI (addM (wv n a) e (- wv (negW (mD (wv (negW (shW (wv n a) (w_i64 (e - k)))) (limbsI (shW (wv n a) (w_i64 (e - k))))))) (limbsI (mD (wv (negW (shW (wv n a) (w_i64 (e - k)))) (limbsI (shW (wv n a) (w_i64 (e - k)))))))) (eD (wv (negW (shW (wv n a) (w_i64 (e - k)))) (limbsI (shW (wv n a) (w_i64 (e - k))))) k))))))) (eD (wv (negW (addM (wv n a) e (- wv (negW (mD (wv (negW (shW (wv n a) (w_i64 (e - k)))) (limbsI (shW (wv n a) (w_i64 (e - k))))))) (limbsI (mD (wv (negW (shW (wv n a) (w_i64 (e - k)))) (limbsI (shW (wv n a) (w_i64 (e - k)))))))) (eD (wv (negW (shW (wv n a) (w_i64 (e - k)))) (limbsI (shW (wv n a) (w_i64 (e - k))))) k))) (limbsI (addM (wv n a) e (- wv (negW (mD (wv (negW (shW (wv n a) (w_i64 (e - k)))) (limbsI (shW (wv n a) (w_i64 (e - k))))))) (limbsI (mD (wv (negW (shW (wv n a) (w_i64 (e - k)))) (limbsI (shW (wv n a) (w_i64 (e - k)))))))) (eD (wv (negW (shW (wv n a) (w_i64 (e - k)))) (limbsI (shW (wv n a) (w_i64 (e - k))))) k)))) ((addE (wv n a) e (- wv (negW (mD (wv (negW (shW (wv n a) (w_i64 (e - k)))) (limbsI (shW (wv n a) (w_i64 (e - k))))))) (limbsI (mD (wv (negW (shW (wv n a) (w_i64 (e - k)))) (limbsI (shW (wv n a) (w_i64 (e - k)))))))) (eD (wv (negW (shW (wv n a) (w_i64 (e - k)))) (limbsI (shW (wv n a) (w_i64 (e - k))))) k)) + (1 : Int))) (wv (negW (mD (wv (negW ((1 : Int))) (limbsI ((1 : Int)))))) (limbsI (mD (wv (negW ((1 : Int))) (limbsI ((1 : Int))))))) (eD (wv (negW ((1 : Int))) (limbsI ((1 : Int)))) k))) == false) && (((cmpD (wv (negW (mD (wv (negW (addM (wv n a) e (- wv (negW (mD (wv (negW (shW (wv n a) (w_i64 (e - k)))) (limbsI (shW (wv n a) (w_i64 (e - k))))))) (limbsI (mD (wv (negW (shW (wv n a) (w_i64 (e - k)))) (limbsI (shW (wv n a) (w_i64 (e - k)))))))) (eD (wv (negW (shW (wv n a) (w_i64 (e - k)))) (limbsI (shW (wv n a) (w_i64 (e - k))))) k))) (limbsI (addM (wv n a) e (- wv (negW (mD (wv (negW (shW (wv n a) (w_i64 (e - k)))) (limbsI (shW (wv n a) (w_i64 (e - k))))))) (limbsI (mD (wv (negW (shW (wv n a) (w_i64 (e - k)))) (limbsI (shW (wv n a) (w_i64 (e - k)))))))) (eD (wv (negW (shW (wv n a) (w_i64 (e - k)))) (limbsI (shW (wv n a) (w_i64 (e - k))))) k)))))) (limbsI (mD (wv (negW (addM (wv n a) e (- wv (negW (mD (wv (negW (shW (wv n a) (w_i64 (e - k)))) (limbsI (shW (wv n a) (w_i64 (e - k))))))) (limbsI (mD (wv (negW (shW (wv n a) (w_i64 (e - k)))) (limbsI (shW (wv n a) (w_i64 (e - k)))))))) (eD (wv (negW (shW (wv n a) (w_i64 (e - k)))) (limbsI (shW (wv n a) (w_i64 (e - k))))) k))) (limbsI (addM (wv n a) e (- wv (negW (mD (wv (negW (shW (wv n a) (w_i64 (e - k)))) (limbsI (shW (wv n a) (w_i64 (e - k))))))) (limbsI (mD (wv (negW (shW (wv n a) (w_i64 (e - k)))) (limbsI (shW (wv n a) (w_i64 (e - k)))))))) (eD (wv (negW (shW (wv n a) (w_i64 (e - k)))) (limbsI (shW (wv n a) (w_i64 (e - k))))) k))))))) (eD (wv (negW (addM (wv n a) e (- wv (negW (mD (wv (negW (shW (wv n a) (w_i64 (e - k)))) (limbsI (shW (wv n a) (w_i64 (e - k))))))) (limbsI (mD (wv (negW (shW (wv n a) (w_i64 (e - k)))) (limbsI (shW (wv n a) (w_i64 (e - k)))))))) (eD (wv (negW (shW (wv n a) (w_i64 (e - k)))) (limbsI (shW (wv n a) (w_i64 (e - k))))) k))) (limbsI (addM (wv n a) e (- wv (negW (mD (wv (negW (shW (wv n a) (w_i64 (e - k)))) (limbsI (shW (wv n a) (w_i64 (e - k))))))) (limbsI (mD (wv (negW (shW (wv n a) (w_i64 (e - k)))) (limbsI (shW (wv n a) (w_i64 (e - k)))))))) (eD (wv (negW (shW (wv n a) (w_i64 (e - k)))) (limbsI (shW (wv n a) (w_i64 (e - k))))) k)))) ((addE (wv n a) e (- wv (negW (mD (wv (negW (shW (wv n a) (w_i64 (e - k)))) (limbsI (shW (wv n a) (w_i64 (e - k))))))) (limbsI (mD (wv (negW (shW (wv n a) (w_i64 (e - k)))) (limbsI (shW (wv n a) (w_i64 (e - k)))))))) (eD (wv (negW (shW (wv n a) (w_i64 (e - k)))) (limbsI (shW (wv n a) (w_i64 (e - k))))) k)) + (1 : Int))) (wv (negW (mD (wv (negW ((1 : Int))) (limbsI ((1 : Int)))))) (limbsI (mD (wv (negW ((1 : Int))) (limbsI ((1 : Int))))))) (eD (wv (negW ((1 : Int))) (limbsI ((1 : Int)))) k)) == (0 : Int)) == true))) || (((ltI (0 : Int) (cmpD (wv (negW (mD (wv (negW (addM (wv n a) e (- wv (negW (mD (wv (negW (shW (wv n a) (w_i64 (e - k)))) (limbsI (shW (wv n a) (w_i64 (e - k))))))) (limbsI (mD (wv (negW (shW (wv n a) (w_i64 (e - k)))) (limbsI (shW (wv n a) (w_i64 (e - k)))))))) (eD (wv (negW (shW (wv n a) (w_i64 (e - k)))) (limbsI (shW (wv n a) (w_i64 (e - k))))) k))) (limbsI (addM (wv n a) e (- wv (negW (mD (wv (negW (shW (wv n a) (w_i64 (e - k)))) (limbsI (shW (wv n a) (w_i64 (e - k))))))) (limbsI (mD (wv (negW (shW (wv n a) (w_i64 (e - k)))) (limbsI (shW (wv n a) (w_i64 (e - k)))))))) (eD (wv (negW (shW (wv n a) (w_i64 (e - k)))) (limbsI (shW (wv n a) (w_i64 (e - k))))) k)))))) (limbsI (mD (wv (negW (addM (wv n a) e (- wv (negW (mD (wv (negW (shW (wv n a) (w_i64 (e - k)))) (limbsI (shW (wv n a) (w_i64 (e - k))))))) (limbsI (mD (wv (negW (shW (wv n a) (w_i64 (e - k)))) (limbsI (shW (wv n a) (w_i64 (e - k)))))))) (eD (wv (negW (shW (wv n a) (w_i64 (e - k)))) (limbsI (shW (wv n a) (w_i64 (e - k))))) k))) (limbsI (addM (wv n a) e (- wv (negW (mD (wv (negW (shW (wv n a) (w_i64 (e - k)))) (limbsI (shW (wv n a) (w_i64 (e - k))))))) (limbsI (mD (wv (negW (shW (wv n a) (w_i64 (e - k)))) (limbsI (shW (wv n a) (w_i64 (e - k)))))))) (eD (wv (negW (shW (wv n a) (w_i64 (e - k)))) (limbsI (shW (wv n a) (w_i64 (e - k))))) k))))))) (eD (wv (negW (addM (wv n a) e (- wv (negW (mD (wv (negW (shW (wv n a) (w_i64 (e - k)))) (limbsI (shW (wv n a) (w_i64 (e - k))))))) (limbsI (mD (wv (negW (shW (wv n a) (w_i64 (e - k)))) (limbsI (shW (wv n a) (w_i64 (e - k)))))))) (eD (wv (negW (shW (wv n a) (w_i64 (e - k)))) (limbsI (shW (wv n a) (w_i64 (e - k))))) k))) (limbsI (addM (wv n a) e (- wv (negW (mD (wv (negW (shW (wv n a) (w_i64 (e - k)))) (limbsI (shW (wv n a) (w_i64 (e - k))))))) (limbsI (mD (wv (negW (shW (wv n a) (w_i64 (e - k)))) (limbsI (shW (wv n a) (w_i64 (e - k)))))))) (eD (wv (negW (shW (wv n a) (w_i64 (e - k)))) (limbsI (shW (wv n a) (w_i64 (e - k))))) k)))) ((addE (wv n a) e (- wv (negW (mD (wv (negW (shW (wv n a) (w_i64 (e - k)))) (limbsI (shW (wv n a) (w_i64 (e - k))))))) (limbsI (mD (wv (negW (shW (wv n a) (w_i64 (e - k)))) (limbsI (shW (wv n a) (w_i64 (e - k)))))))) (eD (wv (negW (shW (wv n a) (w_i64 (e - k)))) (limbsI (shW (wv n a) (w_i64 (e - k))))) k)) + (1 : Int))) (wv (negW (mD (wv (negW ((1 : Int))) (limbsI ((1 : Int)))))) (limbsI (mD (wv (negW ((1 : Int))) (limbsI ((1 : Int))))))) (eD (wv (negW ((1 : Int))) (limbsI ((1 : Int)))) k))) == false) && (((cmpD (wv (negW (mD (wv (negW (addM (wv n a) e (- wv (negW (mD (wv (negW (shW (wv n a) (w_i64 (e - k)))) (limbsI (shW (wv n a) (w_i64 (e - k))))))) (limbsI (mD (wv (negW (shW (wv n a) (w_i64 (e - k)))) (limbsI (shW (wv n a) (w_i64 (e - k)))))))) (eD (wv (negW (shW (wv n a) (w_i64 (e - k)))) (limbsI (shW (wv n a) (w_i64 (e - k))))) k))) (limbsI (addM (wv n a) e (- wv (negW (mD (wv (negW (shW (wv n a) (w_i64 (e - k)))) (limbsI (shW (wv n a) (w_i64 (e - k))))))) (limbsI (mD (wv (negW (shW (wv n a) (w_i64 (e - k)))) (limbsI (shW (wv n a) (w_i64 (e - k)))))))) (eD (wv (negW (shW (wv n a) (w_i64 (e - k)))) (limbsI (shW (wv n a) (w_i64 (e - k))))) k)))))) (limbsI (mD (wv (negW (addM (wv n a) e (- wv (negW (mD (wv (negW (shW (wv n a) (w_i64 (e - k)))) (limbsI (shW (wv n a) (w_i64 (e - k))))))) (limbsI (mD (wv (negW (shW (wv n a) (w_i64 (e - k)))) (limbsI (shW (wv n a) (w_i64 (e - k)))))))) (eD (wv (negW (shW (wv n a) (w_i64 (e - k)))) (limbsI (shW (wv n a) (w_i64 (e - k))))) k))) (limbsI (addM (wv n a) e (- wv (negW (mD (wv (negW (shW (wv n a) (w_i64 (e - k)))) (limbsI (shW (wv n a) (w_i64 (e - k))))))) (limbsI (mD (wv (negW (shW (wv n a) (w_i64 (e - k)))) (limbsI (shW (wv n a) (w_i64 (e - k)))))))) (eD (wv (negW (shW (wv n a) (w_i64 (e - k)))) (limbsI (shW (wv n a) (w_i64 (e - k))))) k))))))) (eD (wv (negW (addM (wv n a) e (- wv (negW (mD (wv (negW (shW (wv n a) (w_i64 (e - k)))) (limbsI (shW (wv n a) (w_i64 (e - k))))))) (limbsI (mD (wv (negW (shW (wv n a) (w_i64 (e - k)))) (limbsI (shW (wv n a) (w_i64 (e - k)))))))) (eD (wv (negW (shW (wv n a) (w_i64 (e - k)))) (limbsI (shW (wv n a) (w_i64 (e - k))))) k))) (limbsI (addM (wv n a) e (- wv (negW (mD (wv (negW (shW (wv n a) (w_i64 (e - k)))) (limbsI (shW (wv n a) (w_i64 (e - k))))))) (limbsI (mD (wv (negW (shW (wv n a) (w_i64 (e - k)))) (limbsI (shW (wv n a) (w_i64 (e - k)))))))) (eD (wv (negW (shW (wv n a) (w_i64 (e - k)))) (limbsI (shW (wv n a) (w_i64 (e - k))))) k)))) ((addE (wv n a) e (- wv (negW (mD (wv (negW (shW (wv n a) (w_i64 (e - k)))) (limbsI (shW (wv n a) (w_i64 (e - k))))))) (limbsI (mD (wv (negW (shW (wv n a) (w_i64 (e - k)))) (limbsI (shW (wv n a) (w_i64 (e - k)))))))) (eD (wv (negW (shW (wv n a) (w_i64 (e - k)))) (limbsI (shW (wv n a) (w_i64 (e - k))))) k)) + (1 : Int))) (wv (negW (mD (wv (negW ((1 : Int))) (limbsI ((1 : Int)))))) (limbsI (mD (wv (negW ((1 : Int))) (limbsI ((1 : Int))))))) (eD (wv (negW ((1 : Int))) (limbsI ((1 : Int)))) k)) == (0 : Int)) == true))) && true) && true)) then
                              bif ((!((ltI (0 : Int) (cmpD (wv (negW (mD (wv (negW (addM (wv n a) e (- wv (negW (mD (wv (negW (shW (wv n a) (w_i64 (e - k)))) (limbsI (shW (wv n a) (w_i64 (e - k))))))) (limbsI (mD (wv (negW (shW (wv n a) (w_i64 (e - k)))) (limbsI (shW (wv n a) (w_i64 (e - k)))))))) (eD (wv (negW (shW (wv n a) (w_i64 (e - k)))) (limbsI (shW (wv n a) (w_i64 (e - k))))) k))) (limbsI (addM (wv n a) e (- wv (negW (mD (wv (negW (shW (wv n a) (w_i64 (e - k)))) (limbsI (shW (wv n a) (w_i64 (e - k))))))) (limbsI (mD (wv (negW (shW (wv n a) (w_i64 (e - k)))) (limbsI (shW (wv n a) (w_i64 (e - k)))))))) (eD (wv (negW (shW (wv n a) (w_i64 (e - k)))) (limbsI (shW (wv n a) (w_i64 (e - k))))) k)))))) (limbsI (mD (wv (negW (addM (wv n a) e (- wv (negW (mD (wv (negW (shW (wv n a) (w_i64 (e - k)))) (limbsI (shW (wv n a) (w_i64 (e - k))))))) (limbsI (mD (wv (negW (shW (wv n a) (w_i64 (e - k)))) (limbsI (shW (wv n a) (w_i64 (e - k)))))))) (eD (wv (negW (shW (wv n a) (w_i64 (e - k)))) (limbsI (shW (wv n a) (w_i64 (e - k))))) k))) (limbsI (addM (wv n a) e (- wv (negW (mD (wv (negW (shW (wv n a) (w_i64 (e - k)))) (limbsI (shW (wv n a) (w_i64 (e - k))))))) (limbsI (mD (wv (negW (shW (wv n a) (w_i64 (e - k)))) (limbsI (shW (wv n a) (w_i64 (e - k)))))))) (eD (wv (negW (shW (wv n a) (w_i64 (e - k)))) (limbsI (shW (wv n a) (w_i64 (e - k))))) k))))))) (eD (wv (negW (addM (wv n a) e (- wv (negW (mD (wv (negW (shW (wv n a) (w_i64 (e - k)))) (limbsI (shW (wv n a) (w_i64 (e - k))))))) (limbsI (mD (wv (negW (shW (wv n a) (w_i64 (e - k)))) (limbsI (shW (wv n a) (w_i64 (e - k)))))))) (eD (wv (negW (shW (wv n a) (w_i64 (e - k)))) (limbsI (shW (wv n a) (w_i64 (e - k))))) k))) (limbsI (addM (wv n a) e (- wv (negW (mD (wv (negW (shW (wv n a) (w_i64 (e - k)))) (limbsI (shW (wv n a) (w_i64 (e - k))))))) (limbsI (mD (wv (negW (shW (wv n a) (w_i64 (e - k)))) (limbsI (shW (wv n a) (w_i64 (e - k)))))))) (eD (wv (negW (shW (wv n a) (w_i64 (e - k)))) (limbsI (shW (wv n a) (w_i64 (e - k))))) k)))) ((addE (wv n a) e (- wv (negW (mD (wv (negW (shW (wv n a) (w_i64 (e - k)))) (limbsI (shW (wv n a) (w_i64 (e - k))))))) (limbsI (mD (wv (negW (shW (wv n a) (w_i64 (e - k)))) (limbsI (shW (wv n a) (w_i64 (e - k)))))))) (eD (wv (negW (shW (wv n a) (w_i64 (e - k)))) (limbsI (shW (wv n a) (w_i64 (e - k))))) k)) + (1 : Int))) (wv (negW (mD (wv (negW ((1 : Int))) (limbsI ((1 : Int)))))) (limbsI (mD (wv (negW ((1 : Int))) (limbsI ((1 : Int))))))) (eD (wv (negW ((1 : Int))) (limbsI ((1 : Int)))) k))) == false)) || (((!((ltI (0 : Int) (cmpD (wv (negW (mD (wv (negW (addM (wv n a) e (- wv (negW (mD (wv (negW (shW (wv n a) (w_i64 (e - k)))) (limbsI (shW (wv n a) (w_i64 (e - k))))))) (limbsI (mD (wv (negW (shW (wv n a) (w_i64 (e - k)))) (limbsI (shW (wv n a) (w_i64 (e - k)))))))) (eD (wv (negW (shW (wv n a) (w_i64 (e - k)))) (limbsI (shW (wv n a) (w_i64 (e - k))))) k))) (limbsI (addM (wv n a) e (- wv (negW (mD (wv (negW (shW (wv n a) (w_i64 (e - k)))) (limbsI (shW (wv n a) (w_i64 (e - k))))))) (limbsI (mD (wv (negW (shW (wv n a) (w_i64 (e - k)))) (limbsI (shW (wv n a) (w_i64 (e - k)))))))) (eD (wv (negW (shW (wv n a) (w_i64 (e - k)))) (limbsI (shW (wv n a) (w_i64 (e - k))))) k)))))) (limbsI (mD (wv (negW (addM (wv n a) e (- wv (negW (mD (wv (negW (shW (wv n a) (w_i64 (e - k)))) (limbsI (shW (wv n a) (w_i64 (e - k))))))) (limbsI (mD (wv (negW (shW (wv n a) (w_i64 (e - k)))) (limbsI (shW (wv n a) (w_i64 (e - k)))))))) (eD (wv (negW (shW (wv n a) (w_i64 (e - k)))) (limbsI (shW (wv n a) (w_i64 (e - k))))) k))) (limbsI (addM (wv n a) e (- wv (negW (mD (wv (negW (shW (wv n a) (w_i64 (e - k)))) (limbsI (shW (wv n a) (w_i64 (e - k))))))) (limbsI (mD (wv (negW (shW (wv n a) (w_i64 (e - k)))) (limbsI (shW (wv n a) (w_i64 (e - k)))))))) (eD (wv (negW (shW (wv n a) (w_i64 (e - k)))) (limbsI (shW (wv n a) (w_i64 (e - k))))) k))))))) (eD (wv (negW (addM (wv n a) e (- wv (negW (mD (wv (negW (shW (wv n a) (w_i64 (e - k)))) (limbsI (shW (wv n a) (w_i64 (e - k))))))) (limbsI (mD (wv (negW (shW (wv n a) (w_i64 (e - k)))) (limbsI (shW (wv n a) (w_i64 (e - k)))))))) (eD (wv (negW (shW (wv n a) (w_i64 (e - k)))) (limbsI (shW (wv n a) (w_i64 (e - k))))) k))) (limbsI (addM (wv n a) e (- wv (negW (mD (wv (negW (shW (wv n a) (w_i64 (e - k)))) (limbsI (shW (wv n a) (w_i64 (e - k))))))) (limbsI (mD (wv (negW (shW (wv n a) (w_i64 (e - k)))) (limbsI (shW (wv n a) (w_i64 (e - k)))))))) (eD (wv (negW (shW (wv n a) (w_i64 (e - k)))) (limbsI (shW (wv n a) (w_i64 (e - k))))) k)))) ((addE (wv n a) e (- wv (negW (mD (wv (negW (shW (wv n a) (w_i64 (e - k)))) (limbsI (shW (wv n a) (w_i64 (e - k))))))) (limbsI (mD (wv (negW (shW (wv n a) (w_i64 (e - k)))) (limbsI (shW (wv n a) (w_i64 (e - k)))))))) (eD (wv (negW (shW (wv n a) (w_i64 (e - k)))) (limbsI (shW (wv n a) (w_i64 (e - k))))) k)) + (1 : Int))) (wv (negW (mD (wv (negW ((1 : Int))) (limbsI ((1 : Int)))))) (limbsI (mD (wv (negW ((1 : Int))) (limbsI ((1 : Int))))))) (eD (wv (negW ((1 : Int))) (limbsI ((1 : Int)))) k))) == false)) || ((ltI (0 : Int) (cmpD (wv (negW (mD (wv (negW (addM (wv n a) e (- wv (negW (mD (wv (negW (shW (wv n a) (w_i64 (e - k)))) (limbsI (shW (wv n a) (w_i64 (e - k))))))) (limbsI (mD (wv (negW (shW (wv n a) (w_i64 (e - k)))) (limbsI (shW (wv n a) (w_i64 (e - k)))))))) (eD (wv (negW (shW (wv n a) (w_i64 (e - k)))) (limbsI (shW (wv n a) (w_i64 (e - k))))) k))) (limbsI (addM (wv n a) e (- wv (negW (mD (wv (negW (shW (wv n a) (w_i64 (e - k)))) (limbsI (shW (wv n a) (w_i64 (e - k))))))) (limbsI (mD (wv (negW (shW (wv n a) (w_i64 (e - k)))) (limbsI (shW (wv n a) (w_i64 (e - k)))))))) (eD (wv (negW (shW (wv n a) (w_i64 (e - k)))) (limbsI (shW (wv n a) (w_i64 (e - k))))) k)))))) (limbsI (mD (wv (negW (addM (wv n a) e (- wv (negW (mD (wv (negW (shW (wv n a) (w_i64 (e - k)))) (limbsI (shW (wv n a) (w_i64 (e - k))))))) (limbsI (mD (wv (negW (shW (wv n a) (w_i64 (e - k)))) (limbsI (shW (wv n a) (w_i64 (e - k)))))))) (eD (wv (negW (shW (wv n a) (w_i64 (e - k)))) (limbsI (shW (wv n a) (w_i64 (e - k))))) k))) (limbsI (addM (wv n a) e (- wv (negW (mD (wv (negW (shW (wv n a) (w_i64 (e - k)))) (limbsI (shW (wv n a) (w_i64 (e - k))))))) (limbsI (mD (wv (negW (shW (wv n a) (w_i64 (e - k)))) (limbsI (shW (wv n a) (w_i64 (e - k)))))))) (eD (wv (negW (shW (wv n a) (w_i64 (e - k)))) (limbsI (shW (wv n a) (w_i64 (e - k))))) k))))))) (eD (wv (negW (addM (wv n a) e (- wv (negW (mD (wv (negW (shW (wv n a) (w_i64 (e - k)))) (limbsI (shW (wv n a) (w_i64 (e - k))))))) (limbsI (mD (wv (negW (shW (wv n a) (w_i64 (e - k)))) (limbsI (shW (wv n a) (w_i64 (e - k)))))))) (eD (wv (negW (shW (wv n a) (w_i64 (e - k)))) (limbsI (shW (wv n a) (w_i64 (e - k))))) k))) (limbsI (addM (wv n a) e (- wv (negW (mD (wv (negW (shW (wv n a) (w_i64 (e - k)))) (limbsI (shW (wv n a) (w_i64 (e - k))))))) (limbsI (mD (wv (negW (shW (wv n a) (w_i64 (e - k)))) (limbsI (shW (wv n a) (w_i64 (e - k)))))))) (eD (wv (negW (shW (wv n a) (w_i64 (e - k)))) (limbsI (shW (wv n a) (w_i64 (e - k))))) k)))) ((addE (wv n a) e (- wv (negW (mD (wv (negW (shW (wv n a) (w_i64 (e - k)))) (limbsI (shW (wv n a) (w_i64 (e - k))))))) (limbsI (mD (wv (negW (shW (wv n a) (w_i64 (e - k)))) (limbsI (shW (wv n a) (w_i64 (e - k)))))))) (eD (wv (negW (shW (wv n a) (w_i64 (e - k)))) (limbsI (shW (wv n a) (w_i64 (e - k))))) k)) + (1 : Int))) (wv (negW (mD (wv (negW ((1 : Int))) (limbsI ((1 : Int)))))) (limbsI (mD (wv (negW ((1 : Int))) (limbsI ((1 : Int))))))) (eD (wv (negW ((1 : Int))) (limbsI ((1 : Int)))) k))) == false)) && (((!((cmpD (wv (negW (mD (wv (negW (addM (wv n a) e (- wv (negW (mD (wv (negW (shW (wv n a) (w_i64 (e - k)))) (limbsI (shW (wv n a) (w_i64 (e - k))))))) (limbsI (mD (wv (negW (shW (wv n a) (w_i64 (e - k)))) (limbsI (shW (wv n a) (w_i64 (e - k)))))))) (eD (wv (negW (shW (wv n a) (w_i64 (e - k)))) (limbsI (shW (wv n a) (w_i64 (e - k))))) k))) (limbsI (addM (wv n a) e (- wv (negW (mD (wv (negW (shW (wv n a) (w_i64 (e - k)))) (limbsI (shW (wv n a) (w_i64 (e - k))))))) (limbsI (mD (wv (negW (shW (wv n a) (w_i64 (e - k)))) (limbsI (shW (wv n a) (w_i64 (e - k)))))))) (eD (wv (negW (shW (wv n a) (w_i64 (e - k)))) (limbsI (shW (wv n a) (w_i64 (e - k))))) k)))))) (limbsI (mD (wv (negW (addM (wv n a) e (- wv (negW (mD (wv (negW (shW (wv n a) (w_i64 (e - k)))) (limbsI (shW (wv n a) (w_i64 (e - k))))))) (limbsI (mD (wv (negW (shW (wv n a) (w_i64 (e - k)))) (limbsI (shW (wv n a) (w_i64 (e - k)))))))) (eD (wv (negW (shW (wv n a) (w_i64 (e - k)))) (limbsI (shW (wv n a) (w_i64 (e - k))))) k))) (limbsI (addM (wv n a) e (- wv (negW (mD (wv (negW (shW (wv n a) (w_i64 (e - k)))) (limbsI (shW (wv n a) (w_i64 (e - k))))))) (limbsI (mD (wv (negW (shW (wv n a) (w_i64 (e - k)))) (limbsI (shW (wv n a) (w_i64 (e - k)))))))) (eD (wv (negW (shW (wv n a) (w_i64 (e - k)))) (limbsI (shW (wv n a) (w_i64 (e - k))))) k))))))) (eD (wv (negW (addM (wv n a) e (- wv (negW (mD (wv (negW (shW (wv n a) (w_i64 (e - k)))) (limbsI (shW (wv n a) (w_i64 (e - k))))))) (limbsI (mD (wv (negW (shW (wv n a) (w_i64 (e - k)))) (limbsI (shW (wv n a) (w_i64 (e - k)))))))) (eD (wv (negW (shW (wv n a) (w_i64 (e - k)))) (limbsI (shW (wv n a) (w_i64 (e - k))))) k))) (limbsI (addM (wv n a) e (- wv (negW (mD (wv (negW (shW (wv n a) (w_i64 (e - k)))) (limbsI (shW (wv n a) (w_i64 (e - k))))))) (limbsI (mD (wv (negW (shW (wv n a) (w_i64 (e - k)))) (limbsI (shW (wv n a) (w_i64 (e - k)))))))) (eD (wv (negW (shW (wv n a) (w_i64 (e - k)))) (limbsI (shW (wv n a) (w_i64 (e - k))))) k)))) ((addE (wv n a) e (- wv (negW (mD (wv (negW (shW (wv n a) (w_i64 (e - k)))) (limbsI (shW (wv n a) (w_i64 (e - k))))))) (limbsI (mD (wv (negW (shW (wv n a) (w_i64 (e - k)))) (limbsI (shW (wv n a) (w_i64 (e - k)))))))) (eD (wv (negW (shW (wv n a) (w_i64 (e - k)))) (limbsI (shW (wv n a) (w_i64 (e - k))))) k)) + (1 : Int))) (wv (negW (mD (wv (negW ((1 : Int))) (limbsI ((1 : Int)))))) (limbsI (mD (wv (negW ((1 : Int))) (limbsI ((1 : Int))))))) (eD (wv (negW ((1 : Int))) (limbsI ((1 : Int)))) k)) == (0 : Int))) || (((ltI (0 : Int) (cmpD (wv (negW (mD (wv (negW (addM (wv n a) e (- wv (negW (mD (wv (negW (shW (wv n a) (w_i64 (e - k)))) (limbsI (shW (wv n a) (w_i64 (e - k))))))) (limbsI (mD (wv (negW (shW (wv n a) (w_i64 (e - k)))) (limbsI (shW (wv n a) (w_i64 (e - k)))))))) (eD (wv (negW (shW (wv n a) (w_i64 (e - k)))) (limbsI (shW (wv n a) (w_i64 (e - k))))) k))) (limbsI (addM (wv n a) e (- wv (negW (mD (wv (negW (shW (wv n a) (w_i64 (e - k)))) (limbsI (shW (wv n a) (w_i64 (e - k))))))) (limbsI (mD (wv (negW (shW (wv n a) (w_i64 (e - k)))) (limbsI (shW (wv n a) (w_i64 (e - k)))))))) (eD (wv (negW (shW (wv n a) (w_i64 (e - k)))) (limbsI (shW (wv n a) (w_i64 (e - k))))) k)))))) (limbsI (mD (wv (negW (addM (wv n a) e (- wv (negW (mD (wv (negW (shW (wv n a) (w_i64 (e - k)))) (limbsI (shW (wv n a) (w_i64 (e - k))))))) (limbsI (mD (wv (negW (shW (wv n a) (w_i64 (e - k)))) (limbsI (shW (wv n a) (w_i64 (e - k)))))))) (eD (wv (negW (shW (wv n a) (w_i64 (e - k)))) (limbsI (shW (wv n a) (w_i64 (e - k))))) k))) (limbsI (addM (wv n a) e (- wv (negW (mD (wv (negW (shW (wv n a) (w_i64 (e - k)))) (limbsI (shW (wv n a) (w_i64 (e - k))))))) (limbsI (mD (wv (negW (shW (wv n a) (w_i64 (e - k)))) (limbsI (shW (wv n a) (w_i64 (e - k)))))))) (eD (wv (negW (shW (wv n a) (w_i64 (e - k)))) (limbsI (shW (wv n a) (w_i64 (e - k))))) k))))))) (eD (wv (negW (addM (wv n a) e (- wv (negW (mD (wv (negW (shW (wv n a) (w_i64 (e - k)))) (limbsI (shW (wv n a) (w_i64 (e - k))))))) (limbsI (mD (wv (negW (shW (wv n a) (w_i64 (e - k)))) (limbsI (shW (wv n a) (w_i64 (e - k)))))))) (eD (wv (negW (shW (wv n a) (w_i64 (e - k)))) (limbsI (shW (wv n a) (w_i64 (e - k))))) k))) (limbsI (addM (wv n a) e (- wv (negW (mD (wv (negW (shW (wv n a) (w_i64 (e - k)))) (limbsI (shW (wv n a) (w_i64 (e - k))))))) (limbsI (mD (wv (negW (shW (wv n a) (w_i64 (e - k)))) (limbsI (shW (wv n a) (w_i64 (e - k)))))))) (eD (wv (negW (shW (wv n a) (w_i64 (e - k)))) (limbsI (shW (wv n a) (w_i64 (e - k))))) k)))) ((addE (wv n a) e (- wv (negW (mD (wv (negW (shW (wv n a) (w_i64 (e - k)))) (limbsI (shW (wv n a) (w_i64 (e - k))))))) (limbsI (mD (wv (negW (shW (wv n a) (w_i64 (e - k)))) (limbsI (shW (wv n a) (w_i64 (e - k)))))))) (eD (wv (negW (shW (wv n a) (w_i64 (e - k)))) (limbsI (shW (wv n a) (w_i64 (e - k))))) k)) + (1 : Int))) (wv (negW (mD (wv (negW ((1 : Int))) (limbsI ((1 : Int)))))) (limbsI (mD (wv (negW ((1 : Int))) (limbsI ((1 : Int))))))) (eD (wv (negW ((1 : Int))) (limbsI ((1 : Int)))) k))) == false) && (((cmpD (wv (negW (mD (wv (negW (addM (wv n a) e (- wv (negW (mD (wv (negW (shW (wv n a) (w_i64 (e - k)))) (limbsI (shW (wv n a) (w_i64 (e - k))))))) (limbsI (mD (wv (negW (shW (wv n a) (w_i64 (e - k)))) (limbsI (shW (wv n a) (w_i64 (e - k)))))))) (eD (wv (negW (shW (wv n a) (w_i64 (e - k)))) (limbsI (shW (wv n a) (w_i64 (e - k))))) k))) (limbsI (addM (wv n a) e (- wv (negW (mD (wv (negW (shW (wv n a) (w_i64 (e - k)))) (limbsI (shW (wv n a) (w_i64 (e - k))))))) (limbsI (mD (wv (negW (shW (wv n a) (w_i64 (e - k)))) (limbsI (shW (wv n a) (w_i64 (e - k)))))))) (eD (wv (negW (shW (wv n a) (w_i64 (e - k)))) (limbsI (shW (wv n a) (w_i64 (e - k))))) k)))))) (limbsI (mD (wv (negW (addM (wv n a) e (- wv (negW (mD (wv (negW (shW (wv n a) (w_i64 (e - k)))) (limbsI (shW (wv n a) (w_i64 (e - k))))))) (limbsI (mD (wv (negW (shW (wv n a) (w_i64 (e - k)))) (limbsI (shW (wv n a) (w_i64 (e - k)))))))) (eD (wv (negW (shW (wv n a) (w_i64 (e - k)))) (limbsI (shW (wv n a) (w_i64 (e - k))))) k))) (limbsI (addM (wv n a) e (- wv (negW (mD (wv (negW (shW (wv n a) (w_i64 (e - k)))) (limbsI (shW (wv n a) (w_i64 (e - k))))))) (limbsI (mD (wv (negW (shW (wv n a) (w_i64 (e - k)))) (limbsI (shW (wv n a) (w_i64 (e - k)))))))) (eD (wv (negW (shW (wv n a) (w_i64 (e - k)))) (limbsI (shW (wv n a) (w_i64 (e - k))))) k))))))) (eD (wv (negW (addM (wv n a) e (- wv (negW (mD (wv (negW (shW (wv n a) (w_i64 (e - k)))) (limbsI (shW (wv n a) (w_i64 (e - k))))))) (limbsI (mD (wv (negW (shW (wv n a) (w_i64 (e - k)))) (limbsI (shW (wv n a) (w_i64 (e - k)))))))) (eD (wv (negW (shW (wv n a) (w_i64 (e - k)))) (limbsI (shW (wv n a) (w_i64 (e - k))))) k))) (limbsI (addM (wv n a) e (- wv (negW (mD (wv (negW (shW (wv n a) (w_i64 (e - k)))) (limbsI (shW (wv n a) (w_i64 (e - k))))))) (limbsI (mD (wv (negW (shW (wv n a) (w_i64 (e - k)))) (limbsI (shW (wv n a) (w_i64 (e - k)))))))) (eD (wv (negW (shW (wv n a) (w_i64 (e - k)))) (limbsI (shW (wv n a) (w_i64 (e - k))))) k)))) ((addE (wv n a) e (- wv (negW (mD (wv (negW (shW (wv n a) (w_i64 (e - k)))) (limbsI (shW (wv n a) (w_i64 (e - k))))))) (limbsI (mD (wv (negW (shW (wv n a) (w_i64 (e - k)))) (limbsI (shW (wv n a) (w_i64 (e - k)))))))) (eD (wv (negW (shW (wv n a) (w_i64 (e - k)))) (limbsI (shW (wv n a) (w_i64 (e - k))))) k)) + (1 : Int))) (wv (negW (mD (wv (negW ((1 : Int))) (limbsI ((1 : Int)))))) (limbsI (mD (wv (negW ((1 : Int))) (limbsI ((1 : Int))))))) (eD (wv (negW ((1 : Int))) (limbsI ((1 : Int)))) k)) == (0 : Int)) == true))) && true))) then
                                bif ((!(!(ltI (0 : Int) (cmpD (wv (negW (mD (wv (negW (addM (wv n a) e (- wv (negW (mD (wv (negW (shW (wv n a) (w_i64 (e - k)))) (limbsI (shW (wv n a) (w_i64 (e - k))))))) (limbsI (mD (wv (negW (shW (wv n a) (w_i64 (e - k)))) (limbsI (shW (wv n a) (w_i64 (e - k)))))))) (eD (wv (negW (shW (wv n a) (w_i64 (e - k)))) (limbsI (shW (wv n a) (w_i64 (e - k))))) k))) (limbsI (addM (wv n a) e (- wv (negW (mD (wv (negW (shW (wv n a) (w_i64 (e - k)))) (limbsI (shW (wv n a) (w_i64 (e - k))))))) (limbsI (mD (wv (negW (shW (wv n a) (w_i64 (e - k)))) (limbsI (shW (wv n a) (w_i64 (e - k)))))))) (eD (wv (negW (shW (wv n a) (w_i64 (e - k)))) (limbsI (shW (wv n a) (w_i64 (e - k))))) k)))))) (limbsI (mD (wv (negW (addM (wv n a) e (- wv (negW (mD (wv (negW (shW (wv n a) (w_i64 (e - k)))) (limbsI (shW (wv n a) (w_i64 (e - k))))))) (limbsI (mD (wv (negW (shW (wv n a) (w_i64 (e - k)))) (limbsI (shW (wv n a) (w_i64 (e - k)))))))) (eD (wv (negW (shW (wv n a) (w_i64 (e - k)))) (limbsI (shW (wv n a) (w_i64 (e - k))))) k))) (limbsI (addM (wv n a) e (- wv (negW (mD (wv (negW (shW (wv n a) (w_i64 (e - k)))) (limbsI (shW (wv n a) (w_i64 (e - k))))))) (limbsI (mD (wv (negW (shW (wv n a) (w_i64 (e - k)))) (limbsI (shW (wv n a) (w_i64 (e - k)))))))) (eD (wv (negW (shW (wv n a) (w_i64 (e - k)))) (limbsI (shW (wv n a) (w_i64 (e - k))))) k))))))) (eD (wv (negW (addM (wv n a) e (- wv (negW (mD (wv (negW (shW (wv n a) (w_i64 (e - k)))) (limbsI (shW (wv n a) (w_i64 (e - k))))))) (limbsI (mD (wv (negW (shW (wv n a) (w_i64 (e - k)))) (limbsI (shW (wv n a) (w_i64 (e - k)))))))) (eD (wv (negW (shW (wv n a) (w_i64 (e - k)))) (limbsI (shW (wv n a) (w_i64 (e - k))))) k))) (limbsI (addM (wv n a) e (- wv (negW (mD (wv (negW (shW (wv n a) (w_i64 (e - k)))) (limbsI (shW (wv n a) (w_i64 (e - k))))))) (limbsI (mD (wv (negW (shW (wv n a) (w_i64 (e - k)))) (limbsI (shW (wv n a) (w_i64 (e - k)))))))) (eD (wv (negW (shW (wv n a) (w_i64 (e - k)))) (limbsI (shW (wv n a) (w_i64 (e - k))))) k)))) ((addE (wv n a) e (- wv (negW (mD (wv (negW (shW (wv n a) (w_i64 (e - k)))) (limbsI (shW (wv n a) (w_i64 (e - k))))))) (limbsI (mD (wv (negW (shW (wv n a) (w_i64 (e - k)))) (limbsI (shW (wv n a) (w_i64 (e - k)))))))) (eD (wv (negW (shW (wv n a) (w_i64 (e - k)))) (limbsI (shW (wv n a) (w_i64 (e - k))))) k)) + (1 : Int))) (wv (negW (mD (wv (negW ((1 : Int))) (limbsI ((1 : Int)))))) (limbsI (mD (wv (negW ((1 : Int))) (limbsI ((1 : Int))))))) (eD (wv (negW ((1 : Int))) (limbsI ((1 : Int)))) k))))) || ((ltI (0 : Int) (cmpD (wv (negW (mD (wv (negW (addM (wv n a) e (- wv (negW (mD (wv (negW (shW (wv n a) (w_i64 (e - k)))) (limbsI (shW (wv n a) (w_i64 (e - k))))))) (limbsI (mD (wv (negW (shW (wv n a) (w_i64 (e - k)))) (limbsI (shW (wv n a) (w_i64 (e - k)))))))) (eD (wv (negW (shW (wv n a) (w_i64 (e - k)))) (limbsI (shW (wv n a) (w_i64 (e - k))))) k))) (limbsI (addM (wv n a) e (- wv (negW (mD (wv (negW (shW (wv n a) (w_i64 (e - k)))) (limbsI (shW (wv n a) (w_i64 (e - k))))))) (limbsI (mD (wv (negW (shW (wv n a) (w_i64 (e - k)))) (limbsI (shW (wv n a) (w_i64 (e - k)))))))) (eD (wv (negW (shW (wv n a) (w_i64 (e - k)))) (limbsI (shW (wv n a) (w_i64 (e - k))))) k)))))) (limbsI (mD (wv (negW (addM (wv n a) e (- wv (negW (mD (wv (negW (shW (wv n a) (w_i64 (e - k)))) (limbsI (shW (wv n a) (w_i64 (e - k))))))) (limbsI (mD (wv (negW (shW (wv n a) (w_i64 (e - k)))) (limbsI (shW (wv n a) (w_i64 (e - k)))))))) (eD (wv (negW (shW (wv n a) (w_i64 (e - k)))) (limbsI (shW (wv n a) (w_i64 (e - k))))) k))) (limbsI (addM (wv n a) e (- wv (negW (mD (wv (negW (shW (wv n a) (w_i64 (e - k)))) (limbsI (shW (wv n a) (w_i64 (e - k))))))) (limbsI (mD (wv (negW (shW (wv n a) (w_i64 (e - k)))) (limbsI (shW (wv n a) (w_i64 (e - k)))))))) (eD (wv (negW (shW (wv n a) (w_i64 (e - k)))) (limbsI (shW (wv n a) (w_i64 (e - k))))) k))))))) (eD (wv (negW (addM (wv n a) e (- wv (negW (mD (wv (negW (shW (wv n a) (w_i64 (e - k)))) (limbsI (shW (wv n a) (w_i64 (e - k))))))) (limbsI (mD (wv (negW (shW (wv n a) (w_i64 (e - k)))) (limbsI (shW (wv n a) (w_i64 (e - k)))))))) (eD (wv (negW (shW (wv n a) (w_i64 (e - k)))) (limbsI (shW (wv n a) (w_i64 (e - k))))) k))) (limbsI (addM (wv n a) e (- wv (negW (mD (wv (negW (shW (wv n a) (w_i64 (e - k)))) (limbsI (shW (wv n a) (w_i64 (e - k))))))) (limbsI (mD (wv (negW (shW (wv n a) (w_i64 (e - k)))) (limbsI (shW (wv n a) (w_i64 (e - k)))))))) (eD (wv (negW (shW (wv n a) (w_i64 (e - k)))) (limbsI (shW (wv n a) (w_i64 (e - k))))) k)))) ((addE (wv n a) e (- wv (negW (mD (wv (negW (shW (wv n a) (w_i64 (e - k)))) (limbsI (shW (wv n a) (w_i64 (e - k))))))) (limbsI (mD (wv (negW (shW (wv n a) (w_i64 (e - k)))) (limbsI (shW (wv n a) (w_i64 (e - k)))))))) (eD (wv (negW (shW (wv n a) (w_i64 (e - k)))) (limbsI (shW (wv n a) (w_i64 (e - k))))) k)) + (1 : Int))) (wv (negW (mD (wv (negW ((1 : Int))) (limbsI ((1 : Int)))))) (limbsI (mD (wv (negW ((1 : Int))) (limbsI ((1 : Int))))))) (eD (wv (negW ((1 : Int))) (limbsI ((1 : Int)))) k))) == false)) then
                                  bif (bif (ltI (0 : Int) (cmpD (wv (negW (mD (wv (negW (addM (wv n a) e (- wv (negW (mD (wv (negW (shW (wv n a) (w_i64 (e - k)))) (limbsI (shW (wv n a) (w_i64 (e - k))))))) (limbsI (mD (wv (negW (shW (wv n a) (w_i64 (e - k)))) (limbsI (shW (wv n a) (w_i64 (e - k)))))))) (eD (wv (negW (shW (wv n a) (w_i64 (e - k)))) (limbsI (shW (wv n a) (w_i64 (e - k))))) k))) (limbsI (addM (wv n a) e (- wv (negW (mD (wv (negW (shW (wv n a) (w_i64 (e - k)))) (limbsI (shW (wv n a) (w_i64 (e - k))))))) (limbsI (mD (wv (negW (shW (wv n a) (w_i64 (e - k)))) (limbsI (shW (wv n a) (w_i64 (e - k)))))))) (eD (wv (negW (shW (wv n a) (w_i64 (e - k)))) (limbsI (shW (wv n a) (w_i64 (e - k))))) k)))))) (limbsI (mD (wv (negW (addM (wv n a) e (- wv (negW (mD (wv (negW (shW (wv n a) (w_i64 (e - k)))) (limbsI (shW (wv n a) (w_i64 (e - k))))))) (limbsI (mD (wv (negW (shW (wv n a) (w_i64 (e - k)))) (limbsI (shW (wv n a) (w_i64 (e - k)))))))) (eD (wv (negW (shW (wv n a) (w_i64 (e - k)))) (limbsI (shW (wv n a) (w_i64 (e - k))))) k))) (limbsI (addM (wv n a) e (- wv (negW (mD (wv (negW (shW (wv n a) (w_i64 (e - k)))) (limbsI (shW (wv n a) (w_i64 (e - k))))))) (limbsI (mD (wv (negW (shW (wv n a) (w_i64 (e - k)))) (limbsI (shW (wv n a) (w_i64 (e - k)))))))) (eD (wv (negW (shW (wv n a) (w_i64 (e - k)))) (limbsI (shW (wv n a) (w_i64 (e - k))))) k))))))) (eD (wv (negW (addM (wv n a) e (- wv (negW (mD (wv (negW (shW (wv n a) (w_i64 (e - k)))) (limbsI (shW (wv n a) (w_i64 (e - k))))))) (limbsI (mD (wv (negW (shW (wv n a) (w_i64 (e - k)))) (limbsI (shW (wv n a) (w_i64 (e - k)))))))) (eD (wv (negW (shW (wv n a) (w_i64 (e - k)))) (limbsI (shW (wv n a) (w_i64 (e - k))))) k))) (limbsI (addM (wv n a) e (- wv (negW (mD (wv (negW (shW (wv n a) (w_i64 (e - k)))) (limbsI (shW (wv n a) (w_i64 (e - k))))))) (limbsI (mD (wv (negW (shW (wv n a) (w_i64 (e - k)))) (limbsI (shW (wv n a) (w_i64 (e - k)))))))) (eD (wv (negW (shW (wv n a) (w_i64 (e - k)))) (limbsI (shW (wv n a) (w_i64 (e - k))))) k)))) ((addE (wv n a) e (- wv (negW (mD (wv (negW (shW (wv n a) (w_i64 (e - k)))) (limbsI (shW (wv n a) (w_i64 (e - k))))))) (limbsI (mD (wv (negW (shW (wv n a) (w_i64 (e - k)))) (limbsI (shW (wv n a) (w_i64 (e - k)))))))) (eD (wv (negW (shW (wv n a) (w_i64 (e - k)))) (limbsI (shW (wv n a) (w_i64 (e - k))))) k)) + (1 : Int))) (wv (negW (mD (wv (negW ((1 : Int))) (limbsI ((1 : Int)))))) (limbsI (mD (wv (negW ((1 : Int))) (limbsI ((1 : Int))))))) (eD (wv (negW ((1 : Int))) (limbsI ((1 : Int)))) k))) then true else (bif ((cmpD (wv (negW (mD (wv (negW (addM (wv n a) e (- wv (negW (mD (wv (negW (shW (wv n a) (w_i64 (e - k)))) (limbsI (shW (wv n a) (w_i64 (e - k))))))) (limbsI (mD (wv (negW (shW (wv n a) (w_i64 (e - k)))) (limbsI (shW (wv n a) (w_i64 (e - k)))))))) (eD (wv (negW (shW (wv n a) (w_i64 (e - k)))) (limbsI (shW (wv n a) (w_i64 (e - k))))) k))) (limbsI (addM (wv n a) e (- wv (negW (mD (wv (negW (shW (wv n a) (w_i64 (e - k)))) (limbsI (shW (wv n a) (w_i64 (e - k))))))) (limbsI (mD (wv (negW (shW (wv n a) (w_i64 (e - k)))) (limbsI (shW (wv n a) (w_i64 (e - k)))))))) (eD (wv (negW (shW (wv n a) (w_i64 (e - k)))) (limbsI (shW (wv n a) (w_i64 (e - k))))) k)))))) (limbsI (mD (wv (negW (addM (wv n a) e (- wv (negW (mD (wv (negW (shW (wv n a) (w_i64 (e - k)))) (limbsI (shW (wv n a) (w_i64 (e - k))))))) (limbsI (mD (wv (negW (shW (wv n a) (w_i64 (e - k)))) (limbsI (shW (wv n a) (w_i64 (e - k)))))))) (eD (wv (negW (shW (wv n a) (w_i64 (e - k)))) (limbsI (shW (wv n a) (w_i64 (e - k))))) k))) (limbsI (addM (wv n a) e (- wv (negW (mD (wv (negW (shW (wv n a) (w_i64 (e - k)))) (limbsI (shW (wv n a) (w_i64 (e - k))))))) (limbsI (mD (wv (negW (shW (wv n a) (w_i64 (e - k)))) (limbsI (shW (wv n a) (w_i64 (e - k)))))))) (eD (wv (negW (shW (wv n a) (w_i64 (e - k)))) (limbsI (shW (wv n a) (w_i64 (e - k))))) k))))))) (eD (wv (negW (addM (wv n a) e (- wv (negW (mD (wv (negW (shW (wv n a) (w_i64 (e - k)))) (limbsI (shW (wv n a) (w_i64 (e - k))))))) (limbsI (mD (wv (negW (shW (wv n a) (w_i64 (e - k)))) (limbsI (shW (wv n a) (w_i64 (e - k)))))))) (eD (wv (negW (shW (wv n a) (w_i64 (e - k)))) (limbsI (shW (wv n a) (w_i64 (e - k))))) k))) (limbsI (addM (wv n a) e (- wv (negW (mD (wv (negW (shW (wv n a) (w_i64 (e - k)))) (limbsI (shW (wv n a) (w_i64 (e - k))))))) (limbsI (mD (wv (negW (shW (wv n a) (w_i64 (e - k)))) (limbsI (shW (wv n a) (w_i64 (e - k)))))))) (eD (wv (negW (shW (wv n a) (w_i64 (e - k)))) (limbsI (shW (wv n a) (w_i64 (e - k))))) k)))) ((addE (wv n a) e (- wv (negW (mD (wv (negW (shW (wv n a) (w_i64 (e - k)))) (limbsI (shW (wv n a) (w_i64 (e - k))))))) (limbsI (mD (wv (negW (shW (wv n a) (w_i64 (e - k)))) (limbsI (shW (wv n a) (w_i64 (e - k)))))))) (eD (wv (negW (shW (wv n a) (w_i64 (e - k)))) (limbsI (shW (wv n a) (w_i64 (e - k))))) k)) + (1 : Int))) (wv (negW (mD (wv (negW ((1 : Int))) (limbsI ((1 : Int)))))) (limbsI (mD (wv (negW ((1 : Int))) (limbsI ((1 : Int))))))) (eD (wv (negW ((1 : Int))) (limbsI ((1 : Int)))) k)) == (0 : Int)) then ((Int.tmod (absI (wv (negW (shW (wv n a) (w_i64 (e - k)))) (limbsI (shW (wv n a) (w_i64 (e - k)))))) (2 : Int)) == (1 : Int)) else false)) then
                                    some (.tup [.int .u64 (w_u64 ((absI (wv (negW (shW (wv n a) (w_i64 (e - k)))) (limbsI (shW (wv n a) (w_i64 (e - k)))))) + (1 : Int))), .bool ((List.length (limbsI (addM (wv n a) e (- wv (negW (mD (wv (negW (shW (wv n a) (w_i64 (e - k)))) (limbsI (shW (wv n a) (w_i64 (e - k))))))) (limbsI (mD (wv (negW (shW (wv n a) (w_i64 (e - k)))) (limbsI (shW (wv n a) (w_i64 (e - k)))))))) (eD (wv (negW (shW (wv n a) (w_i64 (e - k)))) (limbsI (shW (wv n a) (w_i64 (e - k))))) k))) : Int) == (0 : Int))])
                                  else some (.tup [.int .u64 (absI (wv (negW (shW (wv n a) (w_i64 (e - k)))) (limbsI (shW (wv n a) (w_i64 (e - k)))))), .bool ((List.length (limbsI (addM (wv n a) e (- wv (negW (mD (wv (negW (shW (wv n a) (w_i64 (e - k)))) (limbsI (shW (wv n a) (w_i64 (e - k))))))) (limbsI (mD (wv (negW (shW (wv n a) (w_i64 (e - k)))) (limbsI (shW (wv n a) (w_i64 (e - k)))))))) (eD (wv (negW (shW (wv n a) (w_i64 (e - k)))) (limbsI (shW (wv n a) (w_i64 (e - k))))) k))) : Int) == (0 : Int))])
                                else none
                              else none
                            else none
                          else none
                        else none
                      else none
                    else none
                  else none
                else none
              else none
            else none
          else none
        else none
      else none
    else none
  else none) (by kernel_rfl)
  (ifE rfl (ifE (ifS (tt0 _) (ifS (tt0 _) (ifE (ifE (ifE (ifE (ifE (ifT (tt7 _) (ifT (tt6 _) (ifT (tt6 _) (ifT (tt5 _ _) (ifT (tt4 _ _) (ifT (tt4 _ _) (ifT (tt3 _ _) (ifT (tt2 _) (ifS (tt1 _ _ _) rfl rfl))))))))) rfl) rfl) rfl) rfl) rfl) rfl) rfl) rfl))
theorem ref04.Nearest.known_of (hk : Knowns Try.prog ref04.Nearest.tab) (h : ∀ (n : Bool) (a : List Int) (e : Int) (k : Int), ref04.Nearest.pre [.b n, .l a, .i e, .i k] = true → ∃ N dv drops, funD ref04.Nearest.E N Try.f81 (bodyOf Try.f81) [.agg [.bool n, .ints .arg .u32 a, .int .i64 e], .int .i64 k] = some dv ∧ Wk drops dv (ref04.Nearest.out [.b n, .l a, .i e, .i k])) : Known Try.prog 81 ref04.Nearest.spec := by
  refine ⟨meets_entry (E := ref04.Nearest.E) (env_ok hk _ _ _) Try.func81 (show Try.f81.body = some (bodyOf Try.f81) by kernel_rfl) fun ats dvs he hp => ?_, call_enter Try.func81 (by kernel_rfl) (show Try.f81.body = some (bodyOf Try.f81) by kernel_rfl)⟩
  obtain ⟨_, _, _, _, rfl, rfl, hs0, he0⟩ := he.st_inv
  obtain ⟨n, _, _, rfl, rfl, he1⟩ := hs0.b_inv
  obtain ⟨a, _, _, rfl, rfl, he2⟩ := he1.s_inv
  obtain ⟨e, _, _, rfl, rfl, he3⟩ := he2.i_inv
  obtain ⟨rfl, rfl⟩ := he3.nil_inv
  obtain ⟨k, _, _, rfl, rfl, he4⟩ := he0.i_inv
  obtain ⟨rfl, rfl⟩ := he4.nil_inv
  exact h n a e k hp

noncomputable def ref04.signed.tab : List (Nat × Entry) := [(54, ref04.Minus.spec)]
noncomputable def ref04.signed.E : Env := envOf (tabOf ref04.signed.tab) (fun _ => false) (fun _ => none) (fun _ => none)
theorem ref04.signed.ev (N : Nat) (x : Int) (n : Bool) : funD ref04.signed.E N Try.f80 (bodyOf Try.f80) [.int .u64 x, .bool n] =
  bif n then
    bif (inU64 x) then
      some (.int .u64 (minusI x))
    else none
  else some (.int .u64 x) := by kernel_rfl
theorem ref04.signed.known_of (hk : Knowns Try.prog ref04.signed.tab) (h : ∀ (x : Int) (n : Bool), ref04.signed.pre [.i x, .b n] = true → ∃ N dv drops, funD ref04.signed.E N Try.f80 (bodyOf Try.f80) [.int .u64 x, .bool n] = some dv ∧ Wk drops dv (ref04.signed.out [.i x, .b n])) : Known Try.prog 80 ref04.signed.spec := by
  refine ⟨meets_entry (E := ref04.signed.E) (env_ok hk _ _ _) Try.func80 (show Try.f80.body = some (bodyOf Try.f80) by kernel_rfl) fun ats dvs he hp => ?_, call_enter Try.func80 (by kernel_rfl) (show Try.f80.body = some (bodyOf Try.f80) by kernel_rfl)⟩
  obtain ⟨x, _, _, rfl, rfl, he0⟩ := he.i_inv
  obtain ⟨n, _, _, rfl, rfl, he1⟩ := he0.b_inv
  obtain ⟨rfl, rfl⟩ := he1.nil_inv
  exact h x n hp

noncomputable def ref04.flags.tab : List (Nat × Entry) := [(41, ref04.Kind.spec)]
noncomputable def ref04.flags.E : Env := envOf (tabOf ref04.flags.tab) (fun _ => false) (fun _ => none) (fun _ => none)
theorem ref04.flags.ev (N : Nat) (x : Int) (r : Bool) : funD ref04.flags.E N Try.f84 (bodyOf Try.f84) [.int .u64 x, .bool r] =
  bif (natI x) then
    bif ((kindI x) == (3 : Int)) then
      some (.int .u8 (5 : Int))
    else bif r then
      some (.int .u8 (0 : Int))
    else bif (natI x) then
      bif ((kindI x) == (2 : Int)) then
        some (.int .u8 (1 : Int))
      else some (.int .u8 (3 : Int))
    else none
  else none := by kernel_rfl
theorem ref04.flags.known_of (hk : Knowns Try.prog ref04.flags.tab) (h : ∀ (x : Int) (r : Bool), ref04.flags.pre [.i x, .b r] = true → ∃ N dv drops, funD ref04.flags.E N Try.f84 (bodyOf Try.f84) [.int .u64 x, .bool r] = some dv ∧ Wk drops dv (ref04.flags.out [.i x, .b r])) : Known Try.prog 84 ref04.flags.spec := by
  refine ⟨meets_entry (E := ref04.flags.E) (env_ok hk _ _ _) Try.func84 (show Try.f84.body = some (bodyOf Try.f84) by kernel_rfl) fun ats dvs he hp => ?_, call_enter Try.func84 (by kernel_rfl) (show Try.f84.body = some (bodyOf Try.f84) by kernel_rfl)⟩
  obtain ⟨x, _, _, rfl, rfl, he0⟩ := he.i_inv
  obtain ⟨r, _, _, rfl, rfl, he1⟩ := he0.b_inv
  obtain ⟨rfl, rfl⟩ := he1.nil_inv
  exact h x r hp

noncomputable def ref04.Round.tab : List (Nat × Entry) := [(59, ref02.Top.spec), (80, ref04.signed.spec), (81, ref04.Nearest.spec), (82, ref04.abs.spec), (83, ref04.bits.spec), (84, ref04.flags.spec)]
noncomputable def ref04.Round.E : Env := envOf (tabOf ref04.Round.tab) (fun _ => false) (fun _ => none) (fun _ => none)
theorem ref04.Round.ev (N : Nat) (n : Bool) (a : List Int) (e : Int) : funD ref04.Round.E N Try.f52 (bodyOf Try.f52) [.agg [.bool n, .ints .arg .u32 a, .int .i64 e]] =
  bif ((List.length a : Int) == (0 : Int)) then
    some (.tup [.int .u64 (0 : Int), .int .u8 (0 : Int)])
  else bif (okW n a && okE e) then
    bif (ltI (topI (wv n a) e) (-1080 : Int)) then
      bif (inU64 (0 : Int)) then
        some (.tup [.int .u64 (signI n (0 : Int)), .int .u8 (3 : Int)])
      else none
    else bif (okW n a && okE e) then
      bif (ltI (1030 : Int) (topI (wv n a) e)) then
        bif (inU64 (9218868437227405312 : Int)) then
          some (.tup [.int .u64 (signI n (9218868437227405312 : Int)), .int .u8 (5 : Int)])
        else none
      else bif (okW n a && okE e) then
        bif (okW n a) then
          bif (okW (negW (absI (wv n a))) (limbsI (absI (wv n a))) && okNear (wv (negW (absI (wv n a))) (limbsI (absI (wv n a)))) e (max (w_i64 ((topI (wv n a) e) - (53 : Int))) (-1074 : Int))) then
            bif ((nearRI (wv (negW (absI (wv n a))) (limbsI (absI (wv n a)))) ((max (w_i64 ((topI (wv n a) e) - (53 : Int))) (-1074 : Int)) - e)) == (9007199254740992 : Int)) then
              bif (okBits (4503599627370496 : Int) (w_i64 ((max (w_i64 ((topI (wv n a) e) - (53 : Int))) (-1074 : Int)) + (1 : Int)))) then
                bif (inU64 (bitsI (4503599627370496 : Int) (w_i64 ((max (w_i64 ((topI (wv n a) e) - (53 : Int))) (-1074 : Int)) + (1 : Int))))) then
                  bif (natI (bitsI (4503599627370496 : Int) (w_i64 ((max (w_i64 ((topI (wv n a) e) - (53 : Int))) (-1074 : Int)) + (1 : Int))))) then
                    some (.tup [.int .u64 (signI n (bitsI (4503599627370496 : Int) (w_i64 ((max (w_i64 ((topI (wv n a) e) - (53 : Int))) (-1074 : Int)) + (1 : Int))))), .int .u8 (flagI (bitsI (4503599627370496 : Int) (w_i64 ((max (w_i64 ((topI (wv n a) e) - (53 : Int))) (-1074 : Int)) + (1 : Int)))) (nearXI (wv (negW (absI (wv n a))) (limbsI (absI (wv n a)))) ((max (w_i64 ((topI (wv n a) e) - (53 : Int))) (-1074 : Int)) - e)))])
                  else none
                else none
              else none
            else bif (okBits (nearRI (wv (negW (absI (wv n a))) (limbsI (absI (wv n a)))) ((max (w_i64 ((topI (wv n a) e) - (53 : Int))) (-1074 : Int)) - e)) (max (w_i64 ((topI (wv n a) e) - (53 : Int))) (-1074 : Int))) then
              bif (inU64 (bitsI (nearRI (wv (negW (absI (wv n a))) (limbsI (absI (wv n a)))) ((max (w_i64 ((topI (wv n a) e) - (53 : Int))) (-1074 : Int)) - e)) (max (w_i64 ((topI (wv n a) e) - (53 : Int))) (-1074 : Int)))) then
                bif (natI (bitsI (nearRI (wv (negW (absI (wv n a))) (limbsI (absI (wv n a)))) ((max (w_i64 ((topI (wv n a) e) - (53 : Int))) (-1074 : Int)) - e)) (max (w_i64 ((topI (wv n a) e) - (53 : Int))) (-1074 : Int)))) then
                  some (.tup [.int .u64 (signI n (bitsI (nearRI (wv (negW (absI (wv n a))) (limbsI (absI (wv n a)))) ((max (w_i64 ((topI (wv n a) e) - (53 : Int))) (-1074 : Int)) - e)) (max (w_i64 ((topI (wv n a) e) - (53 : Int))) (-1074 : Int)))), .int .u8 (flagI (bitsI (nearRI (wv (negW (absI (wv n a))) (limbsI (absI (wv n a)))) ((max (w_i64 ((topI (wv n a) e) - (53 : Int))) (-1074 : Int)) - e)) (max (w_i64 ((topI (wv n a) e) - (53 : Int))) (-1074 : Int))) (nearXI (wv (negW (absI (wv n a))) (limbsI (absI (wv n a)))) ((max (w_i64 ((topI (wv n a) e) - (53 : Int))) (-1074 : Int)) - e)))])
                else none
              else none
            else none
          else none
        else none
      else none
    else none
  else none := by kernel_rfl
theorem ref04.Round.known_of (hk : Knowns Try.prog ref04.Round.tab) (h : ∀ (n : Bool) (a : List Int) (e : Int), ref04.Round.pre [.b n, .l a, .i e] = true → ∃ N dv drops, funD ref04.Round.E N Try.f52 (bodyOf Try.f52) [.agg [.bool n, .ints .arg .u32 a, .int .i64 e]] = some dv ∧ Wk drops dv (ref04.Round.out [.b n, .l a, .i e])) : Known Try.prog 52 ref04.Round.spec := by
  refine ⟨meets_entry (E := ref04.Round.E) (env_ok hk _ _ _) Try.func52 (show Try.f52.body = some (bodyOf Try.f52) by kernel_rfl) fun ats dvs he hp => ?_, call_enter Try.func52 (by kernel_rfl) (show Try.f52.body = some (bodyOf Try.f52) by kernel_rfl)⟩
  obtain ⟨_, _, _, _, rfl, rfl, hs0, he0⟩ := he.st_inv
  obtain ⟨n, _, _, rfl, rfl, he1⟩ := hs0.b_inv
  obtain ⟨a, _, _, rfl, rfl, he2⟩ := he1.s_inv
  obtain ⟨e, _, _, rfl, rfl, he3⟩ := he2.i_inv
  obtain ⟨rfl, rfl⟩ := he3.nil_inv
  obtain ⟨rfl, rfl⟩ := he0.nil_inv
  exact h n a e hp
end EqRefE
end Go.Proofs.S1

/- Package dioptraref04: values of words, and what rounds them. -/
namespace Go.Proofs.S1
open Go Go.Den Go.Rnd Go.Proofs
open EqRefE

theorem ref04.abs.known : Known Try.prog 82 ref04.abs.spec := ref04.abs.known_of (.cons ref01.Made.known .nil) fun n a e hp => by
  obtain ⟨v, rfl, rfl, hv⟩ := okW_get hp
  refine ⟨0, ref04.abs.out [.b (negW v), .l (limbsI v), .i e], [], ?_, wdy⟩
  show _ = dout (absI (wv (negW v) (limbsI v))) e
  have o1 : okL (limbsI v) = true := okL_limbs (by omega)
  have e1 : wv false (limbsI v) = absI v := by unfold wv sgn absI; rw [valL_limbsI, if_neg (by decide)]
  rw [ref04.abs.ev, o1, cond_true, wv_of, e1]
  rfl

theorem ref04.signed.known : Known Try.prog 80 ref04.signed.spec := ref04.signed.known_of (.cons ref04.Minus.known .nil) fun x n hp => by
  have hp : inU64 x = true := hp
  refine ⟨0, ref04.signed.out [.i x, .b n], [], ?_, .int⟩
  rw [ref04.signed.ev, hp]
  show _ = some (DV.int .u64 (signI n x))
  cases n <;> rfl

theorem ref04.flags.known : Known Try.prog 84 ref04.flags.spec := ref04.flags.known_of (.cons ref04.Kind.known .nil) fun x r hp => by
  have hp : natI x = true := hp
  refine ⟨0, ref04.flags.out [.i x, .b r], [], ?_, .int⟩
  rw [ref04.flags.ev, hp, cond_true, cond_true]
  show _ = some (DV.int .u8 (flagI x r))
  unfold flagI
  by_cases h3 : kindI x = 3
  · have e : (kindI x == 3) = true := by simp [h3]
    rw [e, cond_true, if_pos h3]
  · have e : (kindI x == 3) = false := by simp [h3]
    rw [e, cond_false, if_neg h3]
    cases r
    · rw [cond_false, if_neg (by decide)]
      by_cases h2 : kindI x = 2
      · have e : (kindI x == 2) = true := by simp [h2]
        rw [e, cond_true, if_pos h2]
      · have e : (kindI x == 2) = false := by simp [h2]
        rw [e, cond_false, if_neg h2]
    · rfl

theorem small_loop (N : Nat) {v : Int} (hv : v.natAbs < 18446744073709551616) : ∀ (j F : Nat), j < F → j ≤ lenN v.natAbs → lenN v.natAbs < 268435456 →
    ref04.small.L0 N F (negW v) (limbsI v) ((v.natAbs / 2 ^ (32 * j) : Nat) : Int) ((j : Int) - 1) = some (.int .u64 (absI v)) := by
  intro j
  induction j with
  | zero =>
    intro F hF _ _
    obtain ⟨F, rfl⟩ : ∃ G, F = G + 1 := ⟨F - 1, by omega⟩
    rw [ref04.small.L0_step, leI_eq, Nat.mul_zero, Nat.pow_zero, Nat.div_one]
    rfl
  | succ j ih =>
    intro F hF hj hl
    obtain ⟨F, rfl⟩ : ∃ G, F = G + 1 := ⟨F - 1, by omega⟩
    have e0 : ((j + 1 : Nat) : Int) - 1 = (j : Int) := by omega
    have hg := get_val (limbsI_in v) j
    rw [valL_limbsI] at hg
    have hq : v.natAbs / 2 ^ (32 * j) ≤ v.natAbs := Nat.div_le_self _ _
    have ih := ih F (by omega) (by omega) hl
    rw [ref04.small.L0_step, e0, leI_eq, decide_eq_true (by omega), cond_true, length_limbsI, decide_eq_true (by omega), Bool.and_self, cond_true, Int.toNat_natCast, hg,
      pow32, Nat.mul_comm 4294967296, ← Nat.div_div_eq_div_mul]
    generalize v.natAbs / 2 ^ (32 * j) = x at *
    have e1 : w_u64 (w_u64 (((x / 4294967296 : Nat) : Int) * 4294967296) + w_u64 ((x % 4294967296 : Nat) : Int)) = (x : Int) := by
      rw [w_u64_in (x := ((x / 4294967296 : Nat) : Int) * 4294967296) (by omega) (by omega), w_u64_in (x := ((x % 4294967296 : Nat) : Int)) (by omega) (by omega), w_u64_in (by omega) (by omega)]; omega
    rw [e1, w_i64_in (by omega) (by omega)]
    exact ih

theorem ref04.small.known : Known Try.prog 95 ref04.small.spec := ref04.small.known_of .nil fun n a hp => by
  obtain ⟨h1, h2⟩ := and_true_iff.1 hp
  obtain ⟨v, rfl, rfl, hv⟩ := okW_get h1
  have h2 := cdec_eq.1 h2
  rw [wv_of] at h2
  refine ⟨lenN v.natAbs + 1, ref04.small.out [.b (negW v), .l (limbsI v)], [], ?_, .int⟩
  show _ = some (DV.int .u64 (absI (wv (negW v) (limbsI v))))
  have h := small_loop (lenN v.natAbs + 1) h2 (lenN v.natAbs) (lenN v.natAbs + 1) (by omega) (Nat.le_refl _) hv
  rw [Nat.div_eq_of_lt (lt_lenN _)] at h
  rw [ref04.small.ev, wv_of, length_limbsI, w_i64_in (by omega) (by omega)]
  exact h

theorem ref04.bits.known : Known Try.prog 83 ref04.bits.spec := ref04.bits.known_of .nil fun m e hp => by
  have hp := cdec_eq.1 hp
  obtain ⟨m, rfl⟩ : ∃ k : Nat, m = k := ⟨m.toNat, by omega⟩
  refine ⟨0, ref04.bits.out [.i m, .i e], [], ?_, .int⟩
  show _ = some (DV.int .u64 (bitsI m e))
  rw [ref04.bits.ev, ltI_eq, leI_eq, w_i64_in (by omega) (by omega)]
  unfold bitsI
  rw [infR_eq, Int.toNat_natCast]
  by_cases h : (m : Int) < 4503599627370496
  · rw [decide_eq_true h, cond_true, if_pos h]
  · rw [decide_eq_false h, cond_false, if_neg h]
    by_cases h2 : 2047 ≤ e + 1075
    · rw [decide_eq_true h2, cond_true]
      congr 2
      omega
    · have e1 : w_u64 (w_u64 (w_u64 (w_u64 (e + 1075) * 4503599627370496) + (m : Int)) - 4503599627370496) = (e + 1074) * 4503599627370496 + m := by
        rw [w_u64_in (x := e + 1075) (by omega) (by omega), w_u64_in (x := (e + 1075) * 4503599627370496) (by omega) (by omega), w_u64_in (x := (e + 1075) * 4503599627370496 + m) (by omega) (by omega), w_u64_in (by omega) (by omega)]; omega
      rw [decide_eq_false h2, cond_false, e1]
      congr 2
      omega

theorem lenN_lt {n k : Nat} (h : n < 2 ^ (32 * k)) {m : Nat} (hk : k < m) : lenN n < m := Nat.lt_of_le_of_lt (lenN_le h) hk

theorem sgn_zero_pos (m : Nat) : sgn false m = (m : Int) := rfl
theorem sgn_true (m : Nat) : sgn true m = -(m : Int) := rfl

theorem ref04.Value.known : Known Try.prog 23 ref04.Value.spec := ref04.Value.known_of (.cons ref04.Neg.known (.cons ref04.Power.known (.cons ref04.Frac.known (.cons ref01.Of.known (.cons ref01.Neg.known (.cons ref02.Of.known .nil)))))) fun x hp => by
  obtain ⟨n, rfl, hn⟩ := inU64_nat (x := x) hp
  refine ⟨0, ref04.Value.out [.i n], [], ?_, wdy⟩
  show _ = dout (mD (valI n)) (eD (valI n) (partEI n))
  have hf := fracN_lt n
  have hw := powN_lt n
  have small : ∀ k : Nat, k < 2 ^ 54 → lenN k < 268435456 := fun k hk => lenN_lt (k := 2) (Nat.lt_trans hk (by decide)) (by omega)
  have o1 : ∀ k : Nat, k < 2 ^ 54 → okW (negW (k : Int)) (limbsI (k : Int)) = true := fun k hk => okW_of (by rw [Int.natAbs_natCast]; exact small k hk)
  have o2 : ∀ k : Nat, k < 2 ^ 54 → okW (negW (-(k : Int))) (limbsI (-(k : Int))) = true := fun k hk => okW_of (by rw [Int.natAbs_neg, Int.natAbs_natCast]; exact small k hk)
  rw [ref04.Value.ev]
  unfold fracI powI negI valI partEI
  simp only [wv_of, Int.toNat_natCast]
  have e1 : w_i64 ((fracN n : Nat) : Int) = ((fracN n : Nat) : Int) := w_i64_in (by omega) (by omega)
  have e2 : w_i64 (w_u64 (((fracN n : Nat) : Int) + 4503599627370496)) = ((fracN n + 2 ^ 52 : Nat) : Int) := by
    rw [w_u64_in (by omega) (by omega), w_i64_in (by omega) (by omega)]; omega
  have i1 : ∀ k : Nat, k < 2 ^ 54 → inI64 (k : Int) = true := fun k hk => cdec_eq.2 (by omega)
  rw [natI_nat, inU64_of hn, e1, e2, i1 _ (by omega), i1 _ (by omega), ltI_eq, w_i64_in (by omega) (by omega)]
  simp only [cond_true]
  unfold partM partE
  by_cases h : powN n = 0
  · have o3 : okE2 (-1074) = true := cdec_eq.2 (by omega)
    rw [if_pos h, if_pos h, decide_eq_false (by omega), cond_false, o1 _ (by omega), o2 _ (by omega), o3]
    cases negN n
    · rw [cond_false, sgn_zero_pos]; rfl
    · rw [cond_true, sgn_true]; rfl
  · have o3 : okE2 ((powN n : Int) - 1075) = true := cdec_eq.2 (by omega)
    rw [if_neg h, if_neg h, decide_eq_true (by omega), cond_true, o1 _ (by omega), o2 _ (by omega), o3]
    cases negN n
    · rw [cond_false, sgn_zero_pos]; rfl
    · rw [cond_true, sgn_true]; rfl

end Go.Proofs.S1

/- dioptraref04.Nearest: a number rounded to a multiple of a power of two. -/
namespace Go.Proofs.S1
open Go Go.Den Go.Rnd Go.Proofs
open EqRefE

theorem near_exact {v e k : Int} (h : k ≤ e) : nearRI v (k - e) = ((v.natAbs * 2 ^ (e - k).toNat : Nat) : Int) ∧ nearXI v (k - e) = true := by
  unfold nearRI nearXI rdivZ wholeZ
  have e1 : (k - e).toNat = 0 := by omega
  have e2 : (-(k - e)).toNat = (e - k).toNat := by omega
  rw [e1, e2, rdiv_zero, Nat.pow_zero, Nat.mod_one]
  exact ⟨rfl, rfl⟩

theorem near_cut {v e k : Int} {j : Nat} (h : k = e + j) : nearRI v (k - e) = ((rdiv v.natAbs j : Nat) : Int) ∧ nearXI v (k - e) = decide (v.natAbs % 2 ^ j = 0) := by
  unfold nearRI nearXI rdivZ wholeZ
  have e1 : (k - e).toNat = j := by omega
  have e2 : (-(k - e)).toNat = 0 := by omega
  rw [e1, e2, Nat.pow_zero, Nat.mul_one]
  exact ⟨rfl, rfl⟩

theorem tz_le_of {m t : Nat} (h : m < 2 ^ t) (h0 : m ≠ 0) : tzN m < t := Nat.lt_of_le_of_lt (tz_lt h0) ((Nat.log2_lt h0).2 h)

theorem one_odd : mD 1 = 1 ∧ ∀ k, eD 1 k = k := ⟨mD_odd (by decide), fun k => eD_odd (by decide) k⟩

theorem near_end (q m p : Nat) (b : Bool) (hq : q < 2 ^ 63) :
    (bif (decide (0 < cmpZ ((2 * m : Nat) : Int) (p : Int)) || ((cmpZ ((2 * m : Nat) : Int) (p : Int) == (0 : Int)) && (((q % 2 : Nat) : Int) == (1 : Int)))) then
      some (DV.tup [.int .u64 (w_u64 ((q : Int) + (1 : Int))), .bool b]) else some (.tup [.int .u64 (q : Int), .bool b]))
    = some (.tup [.int .u64 ((q + (if p < 2 * m ∨ (2 * m = p ∧ q % 2 = 1) then 1 else 0) : Nat) : Int), .bool b]) := by
  rw [w_u64_in (by omega) (by omega)]
  unfold cmpZ
  by_cases h1 : p < 2 * m
  · rw [if_neg (by omega), if_pos (by omega), if_pos (.inl h1)]
    rfl
  · by_cases h2 : 2 * m = p
    · rw [if_neg (by omega), if_neg (by omega)]
      by_cases h3 : q % 2 = 1
      · rw [if_pos (.inr ⟨h2, h3⟩), h3]; rfl
      · have h4 : q % 2 = 0 := by omega
        rw [if_neg (by omega), h4]; rfl
    · rw [if_pos (by omega), if_neg (by omega)]
      rfl

theorem ref04.Nearest.known : Known Try.prog 81 ref04.Nearest.spec := ref04.Nearest.known_of (.cons ref02.Compare.known (.cons ref02.Scale.known (.cons ref02.Sub.known (.cons ref01.Of.known (.cons ref02.Of.known (.cons ref01.Shift.known (.cons ref04.small.known .nil))))))) fun n a e k hp => by
  obtain ⟨h1, h2⟩ := and_true_iff.1 hp
  obtain ⟨v, rfl, rfl, _⟩ := okW_get h1
  have h2 := cdec_eq.1 h2
  rw [wv_of] at h2
  obtain ⟨hv, hl, he1, he2, hk1, hk2, hs⟩ := h2
  refine ⟨0, ref04.Nearest.out [.b (negW v), .l (limbsI v), .i e, .i k], [], ?_, Wk.tupL (.cons .int (.cons .bool .nil))⟩
  show _ = some (DV.tup [.int .u64 (nearRI (wv (negW v) (limbsI v)) (k - e)), .bool (nearXI (wv (negW v) (limbsI v)) (k - e))])
  have oV : okV (negW v) (limbsI v) = true := okV_of (by omega)
  have oS : okSh (w_i64 (e - k)) = true := by rw [w_i64_in (by omega) (by omega)]; exact cdec_eq.2 (by omega)
  rw [ref04.Nearest.ev, leI_eq, oV, oS]
  simp only [wv_of, Bool.and_self, cond_true]
  rw [w_i64_in (x := e - k) (by omega) (by omega)]
  by_cases hc : k ≤ e
  · obtain ⟨n1, n2⟩ := near_exact (v := v) hc
    have q1 : shW v (e - k) = ((v.natAbs * 2 ^ (e - k).toNat : Nat) : Int) := by
      unfold shW
      rw [if_pos (by omega), Int.natCast_mul]
      congr 1
      omega
    have ql := lenN_shW v (e - k)
    have o1 : okW (negW (shW v (e - k))) (limbsI (shW v (e - k))) = true := okW_of (by omega)
    have o2 : small64 (shW v (e - k)) = true := cdec_eq.2 (by rw [q1, Int.natAbs_natCast]; omega)
    rw [decide_eq_true hc, cond_true, o1, o2, Bool.and_self, cond_true, n1, n2, q1]
    unfold absI
    rw [Int.natAbs_natCast]
  · obtain ⟨j, hj⟩ : ∃ j : Nat, k = e + j := ⟨(k - e).toNat, by omega⟩
    obtain ⟨n1, n2⟩ := near_cut (v := v) hj
    have q1 : shW v (e - k) = shR v j := by
      unfold shW
      rw [if_neg (by omega)]
      congr 1
      omega
    have q2 : shR v j = ((v.natAbs / 2 ^ j : Nat) : Int) := sgn_pos (by omega) _
    have qs : v.natAbs / 2 ^ j < 2 ^ 54 := by
      rw [n1] at hs
      unfold rdiv at hs
      omega
    obtain ⟨r1, r2⟩ := rest_plain hv e j
    rw [decide_eq_false hc, cond_false, q1]
    rw [← hj] at r1 r2
    have qa : (shR v j).natAbs = v.natAbs / 2 ^ j := shR_abs v j
    have qlen : lenN (shR v j).natAbs < 10 := lenN_lt (k := 2) (by rw [qa]; exact Nat.lt_trans qs (by decide)) (by omega)
    have mlen : lenN (mD (shR v j)).natAbs < 10 := Nat.lt_of_le_of_lt (lenN_mono (mD_abs_le _)) qlen
    have eb : -400000 ≤ eD (shR v j) k ∧ eD (shR v j) k ≤ 400000 := by
      unfold eD
      by_cases h0 : shR v j = 0
      · rw [if_pos h0]; omega
      · rw [if_neg h0]
        have := tz_le_of (m := (shR v j).natAbs) (t := 54) (by rw [qa]; exact qs) (by omega)
        omega
    generalize hR : addM v e (-(mD (shR v j))) (eD (shR v j) k) = R at r1 r2 ⊢
    generalize hE : addE v e (-(mD (shR v j))) (eD (shR v j) k) = E at r1 r2 ⊢
    have hp := pow_pos2 j
    have hm : v.natAbs % 2 ^ j < 2 ^ j := Nat.mod_lt _ hp
    have hmv : v.natAbs % 2 ^ j ≤ v.natAbs := Nat.mod_le _ _
    have Ra : R.natAbs ≤ v.natAbs % 2 ^ j := by
      have := abs_le_vAt R E e
      rw [r1, Int.natAbs_natCast] at this
      exact this
    have Rlen : lenN R.natAbs < 100000000 := Nat.lt_of_le_of_lt (lenN_mono (Nat.le_trans Ra hmv)) hl
    have Rz : R = 0 ↔ v.natAbs % 2 ^ j = 0 := by
      rw [← vAt_zero_iff (m := R) (E := E) (g := e), r1]
      omega
    have E0 : R = 0 → E = 0 := fun h => by
      rw [← hE]
      rw [← hR] at h
      exact if_pos (mD_zero.1 h)
    have Eb : -300000 ≤ E ∧ E ≤ 300000 := by
      by_cases h0 : R = 0
      · rw [E0 h0]; omega
      · have t1 := r2 h0
        have t2 := place_lt (m := R) (E := E) (g := e) (t := j) h0 (by rw [r1, Int.natAbs_natCast]; exact hm)
        omega
    have r3 : vAt (mD R) (eD R (E + 1)) e = ((2 * (v.natAbs % 2 ^ j) : Nat) : Int) := by
      by_cases h0 : R = 0
      · have hz := Rz.1 h0
        rw [h0, mD_zero.2 rfl, vAt_zero, hz]; rfl
      · rw [vAt_odd (by have := r2 h0; omega)]
        have t1 := r2 h0
        have : vAt R (E + 1) e = 2 * vAt R E e := by
          unfold vAt
          have e1 : (E + 1 - e).toNat = (E - e).toNat + 1 := by omega
          rw [e1, Nat.pow_succ, Int.natCast_mul, ← Int.mul_assoc, Int.mul_comm]
          rfl
        rw [this, r1]
        omega
    have mz : mD R ≠ 0 → R ≠ 0 := fun h k => h (mD_zero.2 k)
    have Mb : -400000 ≤ eD R (E + 1) ∧ eD R (E + 1) ≤ 400000 := by
      by_cases h0 : R = 0
      · have : eD R (E + 1) = 0 := by unfold eD; rw [if_pos h0]
        omega
      · have t1 := eD_ge (v := R) (e := E + 1) (g := E + 1) (Int.le_refl _) h0
        have t2 := place_lt (m := mD R) (E := eD R (E + 1)) (g := e) (t := j + 1) (fun k => h0 (mD_zero.1 k)) (by rw [r3, Int.natAbs_natCast, Nat.pow_succ]; omega)
        omega
    have cmp : cmpD (mD R) (eD R (E + 1)) 1 k = cmpZ ((2 * (v.natAbs % 2 ^ j) : Nat) : Int) ((2 ^ j : Nat) : Int) := by
      rw [cmp_vAt (g := e) (fun h => Int.le_trans (Int.le_trans (r2 (mz h)) (by omega)) (eD_ge (e := E + 1) (Int.le_refl _) (mz h))) (fun _ => by omega), r3]
      congr 1
      unfold vAt
      rw [Int.one_mul]
      congr 2
      omega
    have o1 : okW (negW (shR v j)) (limbsI (shR v j)) = true := okW_of (by omega)
    have o2 : okE2 k = true := cdec_eq.2 (by omega)
    have o3 : okV (negW (mD (shR v j))) (limbsI (mD (shR v j))) = true := okV_of (by omega)
    have o4 : okE e = true := cdec_eq.2 (by omega)
    have o5 : okE (eD (shR v j) k) = true := cdec_eq.2 eb
    have o6 : okW (negW R) (limbsI R) = true := okW_of (by omega)
    have o7 : okE E = true := cdec_eq.2 (by omega)
    have o8 : okE 1 = true := cdec_eq.2 (by omega)
    have o9 : inI64 1 = true := cdec_eq.2 (by omega)
    have oa : okW (negW 1) (limbsI 1) = true := okW_of (by decide)
    have ob : okV (negW (mD R)) (limbsI (mD R)) = true := okV_of (by have := lenN_mono (mD_abs_le R); omega)
    have oc : okV (negW 1) (limbsI 1) = true := okV_of (by decide)
    have od : okE (eD R (E + 1)) = true := cdec_eq.2 Mb
    have oe : okE k = true := cdec_eq.2 (by omega)
    have of : small64 (shR v j) = true := cdec_eq.2 (by omega)
    rw [one_odd.1, one_odd.2, o1, o2, o3, o4, o5, o6, o7, o8, o9, oa, ob, oc, od, oe, of, cmp, ltI_eq]
    simp only [Bool.and_self, cond_true]
    rw [n1, n2, len_zero]
    have ha : absI (shR v j) = ((v.natAbs / 2 ^ j : Nat) : Int) := by unfold absI; rw [qa]
    have ht : Int.tmod ((v.natAbs / 2 ^ j : Nat) : Int) 2 = ((v.natAbs / 2 ^ j % 2 : Nat) : Int) := tmod_nat _ 2
    have hx : decide (R = 0) = decide (v.natAbs % 2 ^ j = 0) := decide_eq_decide.2 Rz
    rw [ha, ht, hx]
    exact near_end _ _ _ _ (by omega)

end Go.Proofs.S1

/- dioptraref04.Round. -/
namespace Go.Proofs.S1
open Go Go.Den Go.Rnd Go.Proofs
open EqRefE

theorem flag_rung {r : Nat} (h : r ≤ infR) (x : Bool) : flagI (r : Int) x = ((flags r x : Nat) : Int) := by
  have hk := kind_sign false h
  have e : signN false r = r := rfl
  rw [e] at hk
  unfold flagI flags kindI
  rw [Int.toNat_natCast, hk]
  by_cases h1 : r = infR
  · simp [h1]
  · rw [if_neg h1, if_neg h1]
    by_cases h2 : 2 ^ 52 ≤ r
    · rw [if_pos h2, if_neg (by omega)]
      cases x
      · simp [show 4503599627370496 ≤ r by omega]
      · simp
    · rw [if_neg h2]
      by_cases h3 : 0 < r
      · rw [if_pos h3, if_neg (by omega)]
        cases x
        · simp [show ¬ 4503599627370496 ≤ r by omega]
        · simp
      · rw [if_neg h3, if_neg (by omega)]
        cases x
        · simp [show ¬ 4503599627370496 ≤ r by omega]
        · simp

theorem sign_word (n : Bool) {r : Nat} (h : r < 2 ^ 63) : signI n (r : Int) = ((signN n r : Nat) : Int) := by
  unfold signI minusI signN
  rw [Int.toNat_natCast]
  cases n
  · rfl
  · show ((minusN r : Nat) : Int) = _
    rw [minus_sign h]
    rfl

theorem round_low {M : Nat} {e : Int} (hM : M ≠ 0) (h : (M.log2 : Int) + 1 + e < -1080) : rung M e = 0 ∧ flagsOf M e = 3 := by
  have hl : lastE M e = -1074 := by unfold lastE; omega
  obtain ⟨s, hs⟩ : ∃ s : Nat, lastE M e - e = s := ⟨(-1074 - e).toNat, by omega⟩
  have hlt : 2 * M < 2 ^ s := by
    have h1 : M < 2 ^ (M.log2 + 1) := Nat.lt_log2_self
    have h2 : 2 * 2 ^ (M.log2 + 1) ≤ 2 ^ s := by
      rw [← Nat.pow_succ']
      exact Nat.pow_le_pow_right (by decide) (by omega)
    omega
  have e1 : (-(lastE M e - e)).toNat = 0 := by omega
  have e2 : (lastE M e - e).toNat = s := by omega
  have hk : kept M e = 0 := by
    unfold kept rdivZ rdiv
    rw [e1, e2, Nat.pow_zero, Nat.mul_one, Nat.div_eq_of_lt (by omega), Nat.mod_eq_of_lt (by omega), if_neg (by omega)]
  have hx : exact M e = false := by
    unfold exact wholeZ
    rw [e1, e2, Nat.pow_zero, Nat.mul_one, Nat.mod_eq_of_lt (by omega)]
    exact decide_eq_false hM
  have hr : rung M e = 0 := by
    unfold rung
    rw [if_neg hM, hk, hl]
    decide
  refine ⟨hr, ?_⟩
  unfold flagsOf
  rw [if_neg hM, hr, hx]
  decide

theorem round_high {M : Nat} {e : Int} (hM : M ≠ 0) (h : 1030 < (M.log2 : Int) + 1 + e) : rung M e = infR ∧ flagsOf M e = 5 := by
  have hl : lastE M e = e + M.log2 - 52 := by unfold lastE; omega
  have hr : rung M e = infR := by
    unfold rung
    rw [if_neg hM, infR_eq]
    have h1 : 2052 * 2 ^ 52 ≤ (lastE M e + 1074).toNat * 2 ^ 52 := Nat.mul_le_mul_right _ (by omega)
    omega
  refine ⟨hr, ?_⟩
  unfold flagsOf flags
  rw [if_neg hM, hr, if_pos rfl]

/-- The word of what is kept. -/
theorem round_bits {M : Nat} {e : Int} (hM : M ≠ 0) (hL : lastE M e ≤ 100000) :
    (kept M e = 2 ^ 53 → bitsI (4503599627370496 : Int) (lastE M e + 1) = ((rung M e : Nat) : Int)) ∧ (kept M e ≠ 2 ^ 53 → bitsI ((kept M e : Nat) : Int) (lastE M e) = ((rung M e : Nat) : Int)) := by
  have hk := kept_le (V := M) (E := e)
  have hb : -1074 ≤ lastE M e := by unfold lastE; omega
  unfold rung bitsI
  rw [if_neg hM, infR_eq]
  constructor
  · intro h
    rw [if_neg (by omega), h]
    have e1 : (lastE M e + 1 + 1074).toNat = (lastE M e + 1074).toNat + 1 := by omega
    have e2 : (4503599627370496 : Int).toNat = 2 ^ 52 := rfl
    rw [e1, e2, step2]
  · intro h
    by_cases h1 : ((kept M e : Nat) : Int) < 4503599627370496
    · rw [if_pos h1]
      have hl : lastE M e = -1074 := by
        rcases Int.lt_or_eq_of_le hb with q | q
        · have := kept_ge (E := e) hM (by unfold lastE at q ⊢; omega)
          omega
        · exact q.symm
      rw [hl]
      have e1 : ((-1074 : Int) + 1074).toNat = 0 := rfl
      rw [e1, Nat.zero_mul, Nat.zero_add, Nat.min_eq_left (by omega)]
    · rw [if_neg h1, Int.toNat_natCast]

theorem top_last {v e : Int} (h0 : v ≠ 0) : topI v e = (v.natAbs.log2 : Int) + 1 + e ∧ max (topI v e - 53) (-1074) = lastE v.natAbs e := by
  have tv : topI v e = (v.natAbs.log2 : Int) + 1 + e := by unfold topI lenI; rw [if_neg h0, if_neg h0]
  refine ⟨tv, ?_⟩
  rw [tv]
  unfold lastE
  omega

theorem ref04.Round.known : Known Try.prog 52 ref04.Round.spec := ref04.Round.known_of (.cons ref02.Top.known (.cons ref04.signed.known (.cons ref04.Nearest.known (.cons ref04.abs.known (.cons ref04.bits.known (.cons ref04.flags.known .nil)))))) fun n a e hp => by
  obtain ⟨h1, h2⟩ := and_true_iff.1 hp
  obtain ⟨v, rfl, rfl, hw⟩ := okW_get h1
  have h2 := cdec_eq.1 h2
  rw [wv_of] at h2
  obtain ⟨hl, he1, he2⟩ := h2
  refine ⟨0, ref04.Round.out [.b (negW v), .l (limbsI v), .i e], [], ?_, Wk.tupL (.cons .int (.cons .int .nil))⟩
  show _ = some (DV.tup [.int .u64 (roundBI (wv (negW v) (limbsI v)) e), .int .u8 (roundFI (wv (negW v) (limbsI v)) e)])
  rw [ref04.Round.ev]
  simp only [wv_of]
  rw [len_zero, h1]
  unfold roundBI roundFI roundZ
  by_cases h0 : v = 0
  · rw [decide_eq_true h0, cond_true, if_pos h0]; rfl
  · have hM : v.natAbs ≠ 0 := by omega
    obtain ⟨t1, t2⟩ := top_last (e := e) h0
    have oe : okE e = true := cdec_eq.2 (by omega)
    have hr := rung_lt v.natAbs e
    have hneg : decide (v < 0) = negW v := rfl
    rw [decide_eq_false h0, cond_false, if_neg h0, oe, ltI_eq, ltI_eq, hneg]
    simp only [Bool.and_self, cond_true]
    by_cases c1 : topI v e < -1080
    · obtain ⟨r1, r2⟩ := round_low hM (e := e) (by omega)
      have o : inU64 0 = true := inU64_of (n := 0) (by decide)
      rw [decide_eq_true c1, cond_true, o, cond_true, r1, r2]
      exact congrArg (fun x => some (DV.tup [.int .u64 x, .int .u8 (3 : Int)])) (sign_word (negW v) (r := 0) (by decide))
    · rw [decide_eq_false c1, cond_false]
      by_cases c2 : 1030 < topI v e
      · obtain ⟨r1, r2⟩ := round_high hM (e := e) (by omega)
        have o : inU64 9218868437227405312 = true := inU64_of (n := 9218868437227405312) (by decide)
        rw [decide_eq_true c2, cond_true, o, cond_true, r1, r2]
        exact congrArg (fun x => some (DV.tup [.int .u64 x, .int .u8 (5 : Int)])) (sign_word (negW v) (r := infR) (by decide))
      · rw [decide_eq_false c2, cond_false, w_i64_in (x := topI v e - 53) (by omega) (by omega), t2]
        have Lb : -1074 ≤ lastE v.natAbs e ∧ lastE v.natAbs e ≤ 1000 := by rw [← t2]; omega
        have ka : (absI v).natAbs = v.natAbs := by unfold absI; rw [Int.natAbs_natCast]
        have nr : nearRI (absI v) (lastE v.natAbs e - e) = ((kept v.natAbs e : Nat) : Int) := by unfold nearRI kept; rw [ka]
        have nx : nearXI (absI v) (lastE v.natAbs e - e) = exact v.natAbs e := by unfold nearXI exact; rw [ka]
        have kl := kept_le (V := v.natAbs) (E := e)
        have o1 : okW (negW (absI v)) (limbsI (absI v)) = true := okW_of (by rw [ka]; exact hw)
        have o2 : okNear (absI v) e (lastE v.natAbs e) = true := cdec_eq.2 ⟨by unfold absI; omega, by rw [ka]; exact hl, by omega, by omega, by omega, by omega, by rw [nr]; omega⟩
        obtain ⟨b1, b2⟩ := round_bits (e := e) hM (by omega)
        have hf : flagsOf v.natAbs e = flags (rung v.natAbs e) (exact v.natAbs e) := by unfold flagsOf; rw [if_neg hM]
        rw [o1, o2, nr, nx, w_i64_in (x := lastE v.natAbs e + 1) (by omega) (by omega)]
        simp only [Bool.and_self, cond_true]
        by_cases hk : kept v.natAbs e = 2 ^ 53
        · have e0 : (((kept v.natAbs e : Nat) : Int) == 9007199254740992) = true := by rw [hk]; rfl
          have o3 : okBits 4503599627370496 (lastE v.natAbs e + 1) = true := cdec_eq.2 (by omega)
          rw [e0, cond_true, o3, cond_true, b1 hk, inU64_of (by omega), cond_true, natI_nat, cond_true, sign_word _ hr, flag_rung (rung_le _ _), hf]
        · have e0 : (((kept v.natAbs e : Nat) : Int) == 9007199254740992) = false := by simp only [beq_eq_false_iff_ne, ne_eq]; omega
          have o3 : okBits ((kept v.natAbs e : Nat) : Int) (lastE v.natAbs e) = true := cdec_eq.2 (by omega)
          rw [e0, cond_false, o3, cond_true, b2 hk, inU64_of (by omega), cond_true, natI_nat, cond_true, sign_word _ hr, flag_rung (rung_le _ _), hf]

end Go.Proofs.S1
