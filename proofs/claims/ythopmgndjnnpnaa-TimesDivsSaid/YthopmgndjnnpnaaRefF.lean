/- RefF of the verified evaluator and its use for this seat (of my texts S1EqRefF, S1PRefF). -/
import Derived.Test.YthopmgndjnnpnaaSpe
import Derived.Test.YthopmgndjnnpnaaRefE
import Derived.Test.YthopmgndjnnpnaaSum

/- The evaluator's equations: dioptraref05.Add, dioptraref05.Sub, dioptraref05.All. Printed by denpy.py. -/
namespace Go.Proofs.S1
open Go Go.Den Go.Rnd Go.Proofs
set_option linter.unusedVariables false
set_option maxRecDepth 100000
namespace EqRefF
theorem tt0 (a b : Bool) : (bif a then b else false) = (a && b) := by cases a <;> cases b <;> rfl
theorem tt1 (a : Bool) : (((!a) || (a == true)) && true) = true := by cases a <;> rfl
theorem tt2 (a : Bool) : ((!(a == true)) || ((((!(a == true)) || (a == true)) && (((!(a == true)) || (a == true)) && true)) && true)) = true := by cases a <;> rfl
theorem tt3 (a : Bool) : ((!(a == true)) || true) = true := by cases a <;> rfl
theorem tt4 (a b : Bool) : ((!(a == true)) || ((((!(a == true)) || (a == true)) && true) && b)) = ((!a) || b) := by cases a <;> cases b <;> rfl
theorem tt5 (a b : Bool) : (bif a then true else b) = (a || b) := by cases a <;> cases b <;> rfl
theorem tt6 (a : Bool) : ((!(!a)) || (a == false)) = true := by cases a <;> rfl
theorem tt7 (a : Bool) : ((!(a == false)) || ((((!(a == false)) || (a == false)) && true) && true)) = true := by cases a <;> rfl
theorem tt8 (a b : Bool) : ((!(a == false)) || ((((!(a == false)) || (a == false)) && true) && b)) = (a || b) := by cases a <;> cases b <;> rfl
theorem tt9 (a : Bool) : ((!(a == false)) || true) = true := by cases a <;> rfl
noncomputable def ref05.Add.tab : List (Nat × Entry) := [(22, ref04.Neg.spec), (23, ref04.Value.spec), (41, ref04.Kind.spec), (51, ref02.Add.spec), (52, ref04.Round.spec)]
noncomputable def ref05.Add.E : Env := envOf (tabOf ref05.Add.tab) (fun _ => false) (fun _ => none) (fun _ => none)
theorem ref05.Add.ev (N : Nat) (a : Int) (b : Int) : funD ref05.Add.E N Try.f17 (bodyOf Try.f17) [.int .u64 a, .int .u64 b] =
  bif (natI a) then
    bif (((kindI a) == (4 : Int)) || (natI b)) then
      bif (((kindI a) == (4 : Int)) || ((kindI b) == (4 : Int))) then
        some (.tup [.int .u64 (9221120237041090560 : Int), .int .u8 (0 : Int)])
      else bif (natI a) then
        bif ((kindI a) == (3 : Int)) then
          bif (natI b) then
            bif (((kindI b) == (3 : Int)) && (a != b)) then
              some (.tup [.int .u64 (9221120237041090560 : Int), .int .u8 (16 : Int)])
            else some (.tup [.int .u64 a, .int .u8 (0 : Int)])
          else none
        else bif (natI b) then
          bif ((kindI b) == (3 : Int)) then
            some (.tup [.int .u64 b, .int .u8 (0 : Int)])
          else bif (inU64 a) then
            bif (inU64 b) then
              bif (((okV (negW (mD (valI a))) (limbsI (mD (valI a))) && okV (negW (mD (valI b))) (limbsI (mD (valI b)))) && okE (eD (valI a) (partEI a))) && okE (eD (valI b) (partEI b))) then
                bif ((List.length (limbsI (addM (wv (negW (mD (valI a))) (limbsI (mD (valI a)))) (eD (valI a) (partEI a)) (wv (negW (mD (valI b))) (limbsI (mD (valI b)))) (eD (valI b) (partEI b)))) : Int) == (0 : Int)) then
                  bif (inU64 a) then
                    bif ((!(negI a)) || (inU64 b)) then
                      bif ((negI a) && (negI b)) then
                        some (.tup [.int .u64 (9223372036854775808 : Int), .int .u8 (0 : Int)])
                      else some (.tup [.int .u64 (0 : Int), .int .u8 (0 : Int)])
                    else none
                  else none
                else bif (okW (negW (addM (wv (negW (mD (valI a))) (limbsI (mD (valI a)))) (eD (valI a) (partEI a)) (wv (negW (mD (valI b))) (limbsI (mD (valI b)))) (eD (valI b) (partEI b)))) (limbsI (addM (wv (negW (mD (valI a))) (limbsI (mD (valI a)))) (eD (valI a) (partEI a)) (wv (negW (mD (valI b))) (limbsI (mD (valI b)))) (eD (valI b) (partEI b)))) && okRnd (wv (negW (addM (wv (negW (mD (valI a))) (limbsI (mD (valI a)))) (eD (valI a) (partEI a)) (wv (negW (mD (valI b))) (limbsI (mD (valI b)))) (eD (valI b) (partEI b)))) (limbsI (addM (wv (negW (mD (valI a))) (limbsI (mD (valI a)))) (eD (valI a) (partEI a)) (wv (negW (mD (valI b))) (limbsI (mD (valI b)))) (eD (valI b) (partEI b))))) (addE (wv (negW (mD (valI a))) (limbsI (mD (valI a)))) (eD (valI a) (partEI a)) (wv (negW (mD (valI b))) (limbsI (mD (valI b)))) (eD (valI b) (partEI b)))) then
                  some (.tup [.int .u64 (roundBI (wv (negW (addM (wv (negW (mD (valI a))) (limbsI (mD (valI a)))) (eD (valI a) (partEI a)) (wv (negW (mD (valI b))) (limbsI (mD (valI b)))) (eD (valI b) (partEI b)))) (limbsI (addM (wv (negW (mD (valI a))) (limbsI (mD (valI a)))) (eD (valI a) (partEI a)) (wv (negW (mD (valI b))) (limbsI (mD (valI b)))) (eD (valI b) (partEI b))))) (addE (wv (negW (mD (valI a))) (limbsI (mD (valI a)))) (eD (valI a) (partEI a)) (wv (negW (mD (valI b))) (limbsI (mD (valI b)))) (eD (valI b) (partEI b)))), .int .u8 (roundFI (wv (negW (addM (wv (negW (mD (valI a))) (limbsI (mD (valI a)))) (eD (valI a) (partEI a)) (wv (negW (mD (valI b))) (limbsI (mD (valI b)))) (eD (valI b) (partEI b)))) (limbsI (addM (wv (negW (mD (valI a))) (limbsI (mD (valI a)))) (eD (valI a) (partEI a)) (wv (negW (mD (valI b))) (limbsI (mD (valI b)))) (eD (valI b) (partEI b))))) (addE (wv (negW (mD (valI a))) (limbsI (mD (valI a)))) (eD (valI a) (partEI a)) (wv (negW (mD (valI b))) (limbsI (mD (valI b)))) (eD (valI b) (partEI b))))])
                else none
              else none
            else none
          else none
        else none
      else none
    else none
  else none :=
  Eq.trans (b := bif (natI a) then
    bif ((!(((kindI a) == (4 : Int)) == false)) || true) then
      bif ((!(((kindI a) == (4 : Int)) == false)) || ((((!(((kindI a) == (4 : Int)) == false)) || (((kindI a) == (4 : Int)) == false)) && true) && (natI b))) then
        bif ((!(((kindI a) == (4 : Int)) == false)) || ((((!(((kindI a) == (4 : Int)) == false)) || (((kindI a) == (4 : Int)) == false)) && true) && true)) then
          bif ((!(!((kindI a) == (4 : Int)))) || (((kindI a) == (4 : Int)) == false)) then
            bif (bif ((kindI a) == (4 : Int)) then true else ((kindI b) == (4 : Int))) then
              some (.tup [.int .u64 (9221120237041090560 : Int), .int .u8 (0 : Int)])
            else bif (natI a) then
              bif ((kindI a) == (3 : Int)) then
                bif (natI b) then
                  bif ((!(((kindI b) == (3 : Int)) == true)) || true) then
                    bif ((!(((kindI b) == (3 : Int)) == true)) || true) then
                      bif ((!(((kindI b) == (3 : Int)) == true)) || ((((!(((kindI b) == (3 : Int)) == true)) || (((kindI b) == (3 : Int)) == true)) && (((!(((kindI b) == (3 : Int)) == true)) || (((kindI b) == (3 : Int)) == true)) && true)) && true)) then
                        bif (((!((kindI b) == (3 : Int))) || (((kindI b) == (3 : Int)) == true)) && true) then
                          bif (bif ((kindI b) == (3 : Int)) then (a != b) else false) then
                            some (.tup [.int .u64 (9221120237041090560 : Int), .int .u8 (16 : Int)])
                          else some (.tup [.int .u64 a, .int .u8 (0 : Int)])
                        else none
                      else none
                    else none
                  else none
                else none
              else bif (natI b) then
                bif ((kindI b) == (3 : Int)) then
                  some (.tup [.int .u64 b, .int .u8 (0 : Int)])
                else bif (inU64 a) then
                  bif (inU64 b) then
                    bif (((okV (negW (mD (valI a))) (limbsI (mD (valI a))) && okV (negW (mD (valI b))) (limbsI (mD (valI b)))) && okE (eD (valI a) (partEI a))) && okE (eD (valI b) (partEI b))) then
                      bif ((List.length (limbsI (addM (wv (negW (mD (valI a))) (limbsI (mD (valI a)))) (eD (valI a) (partEI a)) (wv (negW (mD (valI b))) (limbsI (mD (valI b)))) (eD (valI b) (partEI b)))) : Int) == (0 : Int)) then
                        bif (inU64 a) then
                          bif ((!((negI a) == true)) || true) then
                            bif ((!((negI a) == true)) || ((((!((negI a) == true)) || ((negI a) == true)) && true) && (inU64 b))) then
                              bif (((!(negI a)) || ((negI a) == true)) && true) then
                                bif (bif (negI a) then (negI b) else false) then
                                  some (.tup [.int .u64 (9223372036854775808 : Int), .int .u8 (0 : Int)])
                                else some (.tup [.int .u64 (0 : Int), .int .u8 (0 : Int)])
                              else none
                            else none
                          else none
                        else none
                      else bif (okW (negW (addM (wv (negW (mD (valI a))) (limbsI (mD (valI a)))) (eD (valI a) (partEI a)) (wv (negW (mD (valI b))) (limbsI (mD (valI b)))) (eD (valI b) (partEI b)))) (limbsI (addM (wv (negW (mD (valI a))) (limbsI (mD (valI a)))) (eD (valI a) (partEI a)) (wv (negW (mD (valI b))) (limbsI (mD (valI b)))) (eD (valI b) (partEI b)))) && okRnd (wv (negW (addM (wv (negW (mD (valI a))) (limbsI (mD (valI a)))) (eD (valI a) (partEI a)) (wv (negW (mD (valI b))) (limbsI (mD (valI b)))) (eD (valI b) (partEI b)))) (limbsI (addM (wv (negW (mD (valI a))) (limbsI (mD (valI a)))) (eD (valI a) (partEI a)) (wv (negW (mD (valI b))) (limbsI (mD (valI b)))) (eD (valI b) (partEI b))))) (addE (wv (negW (mD (valI a))) (limbsI (mD (valI a)))) (eD (valI a) (partEI a)) (wv (negW (mD (valI b))) (limbsI (mD (valI b)))) (eD (valI b) (partEI b)))) then
                        some (.tup [.int .u64 (roundBI (wv (negW (addM (wv (negW (mD (valI a))) (limbsI (mD (valI a)))) (eD (valI a) (partEI a)) (wv (negW (mD (valI b))) (limbsI (mD (valI b)))) (eD (valI b) (partEI b)))) (limbsI (addM (wv (negW (mD (valI a))) (limbsI (mD (valI a)))) (eD (valI a) (partEI a)) (wv (negW (mD (valI b))) (limbsI (mD (valI b)))) (eD (valI b) (partEI b))))) (addE (wv (negW (mD (valI a))) (limbsI (mD (valI a)))) (eD (valI a) (partEI a)) (wv (negW (mD (valI b))) (limbsI (mD (valI b)))) (eD (valI b) (partEI b)))), .int .u8 (roundFI (wv (negW (addM (wv (negW (mD (valI a))) (limbsI (mD (valI a)))) (eD (valI a) (partEI a)) (wv (negW (mD (valI b))) (limbsI (mD (valI b)))) (eD (valI b) (partEI b)))) (limbsI (addM (wv (negW (mD (valI a))) (limbsI (mD (valI a)))) (eD (valI a) (partEI a)) (wv (negW (mD (valI b))) (limbsI (mD (valI b)))) (eD (valI b) (partEI b))))) (addE (wv (negW (mD (valI a))) (limbsI (mD (valI a)))) (eD (valI a) (partEI a)) (wv (negW (mD (valI b))) (limbsI (mD (valI b)))) (eD (valI b) (partEI b))))])
                      else none
                    else none
                  else none
                else none
              else none
            else none
          else none
        else none
      else none
    else none
  else none) (by kernel_rfl)
  (ifE (ifT (tt9 _) (ifS (tt8 _ _) (ifT (tt7 _) (ifT (tt6 _) (ifS (tt5 _ _) rfl (ifE (ifE (ifE (ifT (tt3 _) (ifT (tt3 _) (ifT (tt2 _) (ifT (tt1 _) (ifS (tt0 _ _) rfl rfl))))) rfl) (ifE (ifE rfl (ifE (ifE (ifE (ifE (ifE (ifT (tt3 _) (ifS (tt4 _ _) (ifT (tt1 _) (ifS (tt0 _ _) rfl rfl)) rfl)) rfl) rfl) rfl) rfl) rfl)) rfl)) rfl)))) rfl)) rfl)
theorem ref05.Add.known_of (hk : Knowns Try.prog ref05.Add.tab) (h : ∀ (a : Int) (b : Int), ref05.Add.pre [.i a, .i b] = true → ∃ N dv drops, funD ref05.Add.E N Try.f17 (bodyOf Try.f17) [.int .u64 a, .int .u64 b] = some dv ∧ Wk drops dv (ref05.Add.out [.i a, .i b])) : Known Try.prog 17 ref05.Add.spec := by
  refine ⟨meets_entry (E := ref05.Add.E) (env_ok hk _ _ _) Try.func17 (show Try.f17.body = some (bodyOf Try.f17) by kernel_rfl) fun ats dvs he hp => ?_, call_enter Try.func17 (by kernel_rfl) (show Try.f17.body = some (bodyOf Try.f17) by kernel_rfl)⟩
  obtain ⟨a, _, _, rfl, rfl, he0⟩ := he.i_inv
  obtain ⟨b, _, _, rfl, rfl, he1⟩ := he0.i_inv
  obtain ⟨rfl, rfl⟩ := he1.nil_inv
  exact h a b hp

noncomputable def ref05.Sub.tab : List (Nat × Entry) := [(17, ref05.Add.spec), (54, ref04.Minus.spec)]
noncomputable def ref05.Sub.E : Env := envOf (tabOf ref05.Sub.tab) (fun _ => false) (fun _ => none) (fun _ => none)
theorem ref05.Sub.ev (N : Nat) (a : Int) (b : Int) : funD ref05.Sub.E N Try.f20 (bodyOf Try.f20) [.int .u64 a, .int .u64 b] =
  bif (inU64 b) then
    bif (inU64 a && inU64 (minusI b)) then
      some (.tup [.int .u64 (addBI a (minusI b)), .int .u8 (addFI a (minusI b))])
    else none
  else none := by kernel_rfl
theorem ref05.Sub.known_of (hk : Knowns Try.prog ref05.Sub.tab) (h : ∀ (a : Int) (b : Int), ref05.Sub.pre [.i a, .i b] = true → ∃ N dv drops, funD ref05.Sub.E N Try.f20 (bodyOf Try.f20) [.int .u64 a, .int .u64 b] = some dv ∧ Wk drops dv (ref05.Sub.out [.i a, .i b])) : Known Try.prog 20 ref05.Sub.spec := by
  refine ⟨meets_entry (E := ref05.Sub.E) (env_ok hk _ _ _) Try.func20 (show Try.f20.body = some (bodyOf Try.f20) by kernel_rfl) fun ats dvs he hp => ?_, call_enter Try.func20 (by kernel_rfl) (show Try.f20.body = some (bodyOf Try.f20) by kernel_rfl)⟩
  obtain ⟨a, _, _, rfl, rfl, he0⟩ := he.i_inv
  obtain ⟨b, _, _, rfl, rfl, he1⟩ := he0.i_inv
  obtain ⟨rfl, rfl⟩ := he1.nil_inv
  exact h a b hp

def ref05.All.hint : Nat → Option LoopHint
  | 0 => some { keep := [0, 4, 5, 6], objs := [], boxes := [] }
  | _ => none
noncomputable def ref05.All.tab : List (Nat × Entry) := [(17, ref05.Add.spec)]
noncomputable def ref05.All.E : Env := envOf (tabOf ref05.All.tab) (fun _ => false) ref05.All.hint (fun _ => none)
noncomputable def ref05.All.L0 (N M : Nat) (l : List Int) (p4 : Int) (p5 : Int) (p6 : Int) : Option DV := loopAt ref05.All.E N Try.f33 (bodyOf Try.f33) [1, 1, 1, 0, 1, 0] [] M ⟨mkT 30 [(0, .ints .arg .u64 l), (4, .int .u64 p4), (5, .int .u8 p5), (6, .int .i64 p6)], []⟩
theorem ref05.All.L0_step (N M : Nat) (l : List Int) (p4 : Int) (p5 : Int) (p6 : Int) : ref05.All.L0 N (M + 1) l p4 p5 p6 =
  bif (ltI p6 (List.length l : Int)) then
    bif ((decide (0 ≤ p6)) && (decide (p6 < (List.length l : Int)))) then
      bif (inU64 p4 && inU64 (List.getD l (Int.toNat p6) 0)) then
        ref05.All.L0 N M l (addBI p4 (List.getD l (Int.toNat p6) 0)) (bOr .u8 p5 (addFI p4 (List.getD l (Int.toNat p6) 0))) (w_i64 (p6 + (1 : Int)))
      else none
    else none
  else some (.tup [.int .u64 p4, .int .u8 p5]) := by kernel_rfl
theorem ref05.All.ev (N : Nat) (l : List Int) : funD ref05.All.E N Try.f33 (bodyOf Try.f33) [.ints .arg .u64 l] =
  ref05.All.L0 N N l (0 : Int) (0 : Int) (0 : Int) := by kernel_rfl
theorem ref05.All.known_of (hk : Knowns Try.prog ref05.All.tab) (h : ∀ (l : List Int), ref05.All.pre [.l l] = true → ∃ N dv drops, funD ref05.All.E N Try.f33 (bodyOf Try.f33) [.ints .arg .u64 l] = some dv ∧ Wk drops dv (ref05.All.out [.l l])) : Known Try.prog 33 ref05.All.spec := by
  refine ⟨meets_entry (E := ref05.All.E) (env_ok hk _ _ _) Try.func33 (show Try.f33.body = some (bodyOf Try.f33) by kernel_rfl) fun ats dvs he hp => ?_, call_enter Try.func33 (by kernel_rfl) (show Try.f33.body = some (bodyOf Try.f33) by kernel_rfl)⟩
  obtain ⟨l, _, _, rfl, rfl, he0⟩ := he.s_inv
  obtain ⟨rfl, rfl⟩ := he0.nil_inv
  exact h l hp
end EqRefF
end Go.Proofs.S1

/- Package dioptraref05: exact sums, rounded. -/
namespace Go.Proofs.S1
open Go Go.Den Go.Rnd Go.Proofs
open EqRefF

theorem val_at (b : Nat) (g : Int) : valAt b g = vAt (valI (b : Int)) (partE b) g := by
  unfold valAt vAt valI
  rw [Int.toNat_natCast]
  generalize 2 ^ (partE b - g).toNat = p
  unfold sgn
  cases negN b
  · exact Int.natCast_mul _ _
  · show -((partM b * p : Nat) : Int) = -(partM b : Int) * (p : Int)
    rw [Int.natCast_mul, Int.neg_mul]

theorem val_abs (b : Nat) : (valI (b : Int)).natAbs = partM b := by
  unfold valI sgn
  rw [Int.toNat_natCast]
  split <;> omega

theorem val_ok (b : Nat) : lenN (valI (b : Int)).natAbs < 3 ∧ -400000 ≤ eD (valI (b : Int)) (partE b) ∧ eD (valI (b : Int)) (partE b) ≤ 400000 := by
  have hm := partM_lt b
  have he := partE_le b
  have ha := val_abs b
  refine ⟨lenN_lt (k := 2) (by rw [ha]; exact Nat.lt_trans hm (by decide)) (by omega), ?_⟩
  unfold eD
  by_cases h : valI (b : Int) = 0
  · rw [if_pos h]; omega
  · rw [if_neg h]
    have := tz_le_of (m := (valI (b : Int)).natAbs) (t := 53) (by rw [ha]; exact hm) (by omega)
    omega

theorem ref05.Add.known : Known Try.prog 17 ref05.Add.spec := ref05.Add.known_of (.cons ref04.Neg.known (.cons ref04.Value.known (.cons ref04.Kind.known (.cons ref02.Add.known (.cons ref04.Round.known .nil))))) fun a b hp => by
  obtain ⟨ha, hb⟩ := and_true_iff.1 hp
  obtain ⟨a, rfl, hn⟩ := inU64_nat ha
  obtain ⟨b, rfl, hm⟩ := inU64_nat hb
  refine ⟨0, ref05.Add.out [.i a, .i b], [], ?_, Wk.tupL (.cons .int (.cons .int .nil))⟩
  show _ = some (DV.tup [.int .u64 (addBI a b), .int .u8 (addFI a b)])
  rw [ref05.Add.ev, natI_nat, natI_nat, ha, hb]
  unfold addBI addFI kindI partEI negI
  simp only [Int.toNat_natCast, cond_true, Bool.or_true, wv_of]
  by_cases n4 : kindN a = 4 ∨ kindN b = 4
  · have : (((kindN a : Nat) : Int) == 4 || ((kindN b : Nat) : Int) == 4) = true := by
      rw [Bool.or_eq_true, beq_iff_eq, beq_iff_eq]; omega
    rw [this, cond_true, addN_nan n4]
    rfl
  · have : (((kindN a : Nat) : Int) == 4 || ((kindN b : Nat) : Int) == 4) = false := by
      rw [Bool.or_eq_false_iff, beq_eq_false_iff_ne, beq_eq_false_iff_ne]; omega
    rw [this, cond_false]
    by_cases a3 : kindN a = 3
    · have e3 : (((kindN a : Nat) : Int) == 3) = true := by rw [a3]; rfl
      rw [e3, cond_true, addN_inf n4 a3]
      by_cases hc : kindN b = 3 ∧ a ≠ b
      · have : ((((kindN b : Nat) : Int) == 3) && ((a : Int) != (b : Int))) = true := by
          rw [Bool.and_eq_true, beq_iff_eq, bne_iff_ne]; omega
        rw [this, cond_true, if_pos hc]
        rfl
      · have : ((((kindN b : Nat) : Int) == 3) && ((a : Int) != (b : Int))) = false := by
          rw [Bool.and_eq_false_iff, beq_eq_false_iff_ne, bne_eq_false_iff_eq]; omega
        rw [this, cond_false, if_neg hc]
        rfl
    · have e3 : (((kindN a : Nat) : Int) == 3) = false := by rw [beq_eq_false_iff_ne]; omega
      rw [e3, cond_false]
      by_cases b3 : kindN b = 3
      · have f3 : (((kindN b : Nat) : Int) == 3) = true := by rw [b3]; rfl
        rw [f3, cond_true, addN_inf' n4 a3 b3]
        rfl
      · have f3 : (((kindN b : Nat) : Int) == 3) = false := by rw [beq_eq_false_iff_ne]; omega
        rw [f3, cond_false, addN_num n4 a3 b3]
        obtain ⟨v1, v2, v3⟩ := val_ok a
        obtain ⟨w1, w2, w3⟩ := val_ok b
        have xa := partE_le a
        have xb := partE_le b
        have m1 := lenN_mono (mD_abs_le (valI (a : Int)))
        have m2 := lenN_mono (mD_abs_le (valI (b : Int)))
        have o1 : okV (negW (mD (valI (a : Int)))) (limbsI (mD (valI (a : Int)))) = true := okV_of (by omega)
        have o2 : okV (negW (mD (valI (b : Int)))) (limbsI (mD (valI (b : Int)))) = true := okV_of (by omega)
        have o3 : okE (eD (valI (a : Int)) (partE a)) = true := cdec_eq.2 ⟨v2, v3⟩
        have o4 : okE (eD (valI (b : Int)) (partE b)) = true := cdec_eq.2 ⟨w2, w3⟩
        have c1 : mD (valI (a : Int)) ≠ 0 → min (partE a) (partE b) ≤ eD (valI (a : Int)) (partE a) := fun h => eD_ge (by omega) (fun k => h (mD_zero.2 k))
        have c2 : mD (valI (b : Int)) ≠ 0 → min (partE a) (partE b) ≤ eD (valI (b : Int)) (partE b) := fun h => eD_ge (by omega) (fun k => h (mD_zero.2 k))
        have hS := add_vAt' c1 c2
        have hG := addE_ge' c1 c2
        rw [vAt_odd (by omega), vAt_odd (by omega), ← val_at, ← val_at] at hS
        have sl : lenN (valAt a (min (partE a) (partE b)) + valAt b (min (partE a) (partE b))).natAbs ≤ 2060 := by
          have l0 := lenN_sum (valAt a (min (partE a) (partE b))) (valAt b (min (partE a) (partE b)))
          have la : (valAt a (min (partE a) (partE b))).natAbs = partM a * 2 ^ (partE a - min (partE a) (partE b)).toNat := by
            rw [val_at]; unfold vAt; rw [Int.natAbs_mul, Int.natAbs_natCast, val_abs]
          have lb : (valAt b (min (partE a) (partE b))).natAbs = partM b * 2 ^ (partE b - min (partE a) (partE b)).toNat := by
            rw [val_at]; unfold vAt; rw [Int.natAbs_mul, Int.natAbs_natCast, val_abs]
          have l1 := lenN_shl (partM a) (partE a - min (partE a) (partE b)).toNat
          have l2 := lenN_shl (partM b) (partE b - min (partE a) (partE b)).toNat
          rw [val_abs] at v1 w1
          rw [la, lb] at l0
          omega
        rw [o1, o2, o3, o4, Bool.and_self, Bool.and_self, Bool.and_self, cond_true, len_zero]
        generalize addM (mD (valI (a : Int))) (eD (valI (a : Int)) (partE a)) (mD (valI (b : Int))) (eD (valI (b : Int)) (partE b)) = T at hS hG ⊢
        generalize addE (mD (valI (a : Int))) (eD (valI (a : Int)) (partE a)) (mD (valI (b : Int))) (eD (valI (b : Int)) (partE b)) = E at hS hG ⊢
        generalize valAt a (min (partE a) (partE b)) + valAt b (min (partE a) (partE b)) = S at hS sl ⊢
        by_cases h0 : T = 0
        · have s0 : S = 0 := by rw [← hS, h0, vAt_zero]
          rw [decide_eq_true h0, cond_true, s0]
          unfold roundZ
          rw [if_pos rfl]
          cases negN a <;> cases negN b <;> rfl
        · have s0 : S ≠ 0 := by rw [← hS]; exact fun k => h0 (vAt_zero_iff.1 k)
          have hg := hG h0
          have tl : T.natAbs ≤ S.natAbs := by rw [← hS]; exact abs_le_vAt T E _
          have tlen := lenN_mono tl
          have ep := place_lt (m := T) (E := E) (g := min (partE a) (partE b)) (t := 32 * lenN S.natAbs) h0 (by
            rw [hS]
            exact lt_lenN _)
          have o5 : okW (negW T) (limbsI T) = true := okW_of (by omega)
          have o6 : okRnd T E = true := cdec_eq.2 (by omega)
          have sg : S < 0 ↔ T < 0 := by rw [← hS]; exact (mul_sign T _).1
          have rg := rung_vAt (v := T) hg
          rw [hS] at rg
          rw [decide_eq_false h0, cond_false, o5, o6, Bool.and_self, cond_true]
          unfold roundBI roundFI roundZ
          rw [if_neg h0, if_neg s0, rg.1, rg.2, decide_eq_decide.2 sg]

theorem ref05.Sub.known : Known Try.prog 20 ref05.Sub.spec := ref05.Sub.known_of (.cons ref05.Add.known (.cons ref04.Minus.known .nil)) fun a b hp => by
  obtain ⟨ha, hb⟩ := and_true_iff.1 hp
  obtain ⟨b, rfl, hm⟩ := inU64_nat hb
  refine ⟨0, ref05.Sub.out [.i a, .i b], [], ?_, Wk.tupL (.cons .int (.cons .int .nil))⟩
  have : inU64 (minusI (b : Int)) = true := by unfold minusI; rw [Int.toNat_natCast]; exact inU64_of (minusN_lt hm)
  rw [ref05.Sub.ev, ha, hb, this]
  unfold addBI addFI minusI
  rw [Int.toNat_natCast]
  rfl

theorem ref_all_loop (N : Nat) (l : List Int) (hl : l.length < 2 ^ 62) (hok : ∀ x ∈ l, inU64 x = true) : ∀ (k i F : Nat) (p : Nat × Nat), i + k = l.length → k < F → p.1 < 2 ^ 64 → p.2 < 256 →
    ref05.All.L0 N F l ((p.1 : Nat) : Int) ((p.2 : Nat) : Int) (i : Int) = some (.tup [.int .u64 (((allP (l.drop i) p).1 : Nat) : Int), .int .u8 (((allP (l.drop i) p).2 : Nat) : Int)]) := by
  intro k
  induction k with
  | zero =>
    intro i F p hi hF h1 h2
    obtain ⟨F, rfl⟩ : ∃ G, F = G + 1 := ⟨F - 1, by omega⟩
    rw [ref05.All.L0_step, ltI_eq]
    have : decide ((i : Int) < (l.length : Int)) = false := by simp; omega
    rw [this, cond_false, List.drop_of_length_le (by omega)]
    rfl
  | succ k ih =>
    intro i F p hi hF h1 h2
    obtain ⟨F, rfl⟩ : ∃ G, F = G + 1 := ⟨F - 1, by omega⟩
    rw [ref05.All.L0_step, ltI_eq]
    have hi' : i < l.length := by omega
    have t1 : decide ((i : Int) < (l.length : Int)) = true := by simp; omega
    have t0 : decide ((0 : Int) ≤ (i : Int)) = true := by simp
    rw [t1, t0, cond_true, Bool.and_true, cond_true, Int.toNat_natCast]
    have hg : l.getD i 0 = l[i] := by rw [List.getD_eq_getElem?_getD, List.getElem?_eq_getElem hi']; rfl
    rw [hg]
    have hx := hok l[i] (List.getElem_mem hi')
    rw [inU64_of h1, hx, Bool.and_true, cond_true]
    rw [List.drop_eq_getElem_cons hi']
    obtain ⟨x, hxe, hxl⟩ := inU64_nat hx
    have := addN_lt h1 hxl
    have hx2 : l[i].toNat = x := by rw [hxe, Int.toNat_natCast]
    have := ih (i + 1) F ((addN p.1 l[i].toNat).1, p.2 ||| (addN p.1 l[i].toNat).2) (by omega) (by omega) (by rw [hx2]; exact this.1) (by rw [hx2]; exact or_lt8 h2 (by omega))
    have hb : bOr .u8 ((p.2 : Nat) : Int) (addFI (p.1 : Nat) l[i]) = ((p.2 ||| (addN p.1 l[i].toNat).2 : Nat) : Int) := by
      unfold addFI
      rw [Int.toNat_natCast]
      exact bOr_u8 h2 (by rw [hx2]; omega)
    rw [hb, w_i64_in (by omega) (by omega)]
    exact this

theorem ref05.All.known : Known Try.prog 33 ref05.All.spec := ref05.All.known_of (.cons ref05.Add.known .nil) fun l hp => by
  obtain ⟨hl, hok⟩ := cdec_eq.1 hp
  refine ⟨l.length + 1, ref05.All.out [.l l], [], ?_, Wk.tupL (.cons .int (.cons .int .nil))⟩
  rw [ref05.All.ev]
  exact ref_all_loop _ l hl hok l.length 0 _ (0, 0) (by omega) (by omega) (by decide) (by decide)

end Go.Proofs.S1
