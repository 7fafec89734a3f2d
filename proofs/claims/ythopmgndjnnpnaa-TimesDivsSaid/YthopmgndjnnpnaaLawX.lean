/- LawX of the verified evaluator and its use for this seat (of my texts DiffL, S1EqLaw05E, S1PLaw05E). -/
import Derived.Test.YthopmgndjnnpnaaMul
import Derived.Test.YthopmgndjnnpnaaFlo
import Derived.Test.YthopmgndjnnpnaaSpe
import Derived.Test.YthopmgndjnnpnaaLawA

/- The difference of two numbers of one sign that lie near one another needs no rounding. Plain numbers. -/
namespace Go.Rnd
open Go.Den

theorem kind_fin' (n : Nat) : finN n = !(decide (kindN n = 3) || decide (kindN n = 4)) := by
  have := powN_lt n
  unfold finN kindN
  by_cases h : powN n = 2047
  · by_cases h2 : fracN n = 0 <;> simp [h, h2]
  · have h3 : powN n < 2047 := by omega
    by_cases h4 : 0 < powN n
    · simp [h, h3, h4]
    · by_cases h5 : 0 < fracN n <;> simp [h, h3, h4, h5]

theorem sgn_abs (s : Bool) (m : Nat) : (sgn s m).natAbs = m := by unfold sgn; split <;> omega

theorem val_minus {b : Nat} (h : b < 2 ^ 64) (g : Int) : valAt (minusN b) g = -(valAt b g) ∧ partE (minusN b) = partE b ∧ finN (minusN b) = finN b := by
  obtain ⟨h1, h2, h3⟩ := minus_parts h
  have hm : partM (minusN b) = partM b := by unfold partM; rw [h2, h3]
  have he : partE (minusN b) = partE b := by unfold partE; rw [h2]
  refine ⟨?_, he, by unfold finN; rw [h2]⟩
  unfold valAt
  rw [h1, hm, he]
  unfold sgn
  cases negN b
  · rfl
  · show ((_ : Nat) : Int) = - -((_ : Nat) : Int)
    omega

theorem near_diff {a b : Nat} (hb : b < 2 ^ 64) (fa : finN a = true) (fb : finN b = true) (hs : negN a = negN b)
    (h1 : (valAt a (-1074)).natAbs ≤ 2 * (valAt b (-1074)).natAbs) (h2 : (valAt b (-1074)).natAbs ≤ 2 * (valAt a (-1074)).natAbs) :
    (subN a b).2 = 0 ∧ finN (subN a b).1 = true ∧ valAt (subN a b).1 (-1074) = valAt a (-1074) - valAt b (-1074) := by
  have ea := partE_le a
  have eb := partE_le b
  have ka := fin_kind fa
  have kb := fin_kind fb
  obtain ⟨v1, v2, v3⟩ := val_minus hb (min (partE a) (partE b))
  obtain ⟨k, hk⟩ : ∃ k : Nat, min (partE a) (partE b) = -1074 + (k : Int) := ⟨(min (partE a) (partE b) + 1074).toNat, by omega⟩
  have sa := val_shift (b := a) (f := min (partE a) (partE b)) (g := -1074) (k := k) (by omega) (by omega)
  have sb := val_shift (b := b) (f := min (partE a) (partE b)) (g := -1074) (k := k) (by omega) (by omega)
  have hp := pow_pos2 k
  have e1 : subN a b = roundZ (signN (negN a && negN (minusN b)) 0) (valAt a (min (partE a) (partE b)) - valAt b (min (partE a) (partE b))) (min (partE a) (partE b)) := by
    unfold subN
    rw [addN_fin fa (by rw [v3]; exact fb), v2, v1]
    rfl
  have ez : (negN a && negN (minusN b)) = false := by
    rw [(minus_parts hb).1, hs]; cases negN b <;> rfl
  rw [sa, sb, Int.natAbs_mul, Int.natAbs_mul, Int.natAbs_natCast] at h1 h2
  have h1 : (valAt a (min (partE a) (partE b))).natAbs ≤ 2 * (valAt b (min (partE a) (partE b))).natAbs := by
    rw [← Nat.mul_assoc] at h1; exact Nat.le_of_mul_le_mul_right h1 hp
  have h2 : (valAt b (min (partE a) (partE b))).natAbs ≤ 2 * (valAt a (min (partE a) (partE b))).natAbs := by
    rw [← Nat.mul_assoc] at h2; exact Nat.le_of_mul_le_mul_right h2 hp
  -- no greater than either
  have hle : (valAt a (min (partE a) (partE b)) - valAt b (min (partE a) (partE b))).natAbs ≤ (valAt a (min (partE a) (partE b))).natAbs ∧
      (valAt a (min (partE a) (partE b)) - valAt b (min (partE a) (partE b))).natAbs ≤ (valAt b (min (partE a) (partE b))).natAbs := by
    unfold valAt at h1 h2 ⊢
    rw [hs] at h1 h2 ⊢
    rw [sgn_abs, sgn_abs] at h1 h2 ⊢
    generalize partM a * 2 ^ (partE a - min (partE a) (partE b)).toNat = x at h1 h2 ⊢
    generalize partM b * 2 ^ (partE b - min (partE a) (partE b)).toNat = y at h1 h2 ⊢
    unfold sgn
    cases negN b
    · simp only [Bool.false_eq_true, if_false]; omega
    · simp only [if_true]; omega
  have hsm : (valAt a (min (partE a) (partE b)) - valAt b (min (partE a) (partE b))).natAbs < 2 ^ 53 ∧ rung (valAt a (min (partE a) (partE b)) - valAt b (min (partE a) (partE b))).natAbs (min (partE a) (partE b)) < infR := by
    rcases Int.le_total (partE a) (partE b) with h | h
    · have em : min (partE a) (partE b) = partE a := Int.min_eq_left h
      rw [em, valAt_same, sgn_abs] at hle
      have hm := partM_lt a
      rw [em, valAt_same]
      refine ⟨by omega, Nat.lt_of_le_of_lt (rung_mono hle.1) ?_⟩
      rw [rung_word ka.1]
      exact key_fin ka.2 ka.1
    · have em : min (partE a) (partE b) = partE b := Int.min_eq_right h
      rw [em, valAt_same b, sgn_abs] at hle
      have hm := partM_lt b
      rw [em, valAt_same b]
      refine ⟨by omega, Nat.lt_of_le_of_lt (rung_mono hle.2) ?_⟩
      rw [rung_word kb.1]
      exact key_fin kb.2 kb.1
  rw [e1, ez, sa, sb, ← Int.sub_mul]
  clear e1 ez sa sb h1 h2 hle v1 v2 v3
  have hm : -1074 ≤ min (partE a) (partE b) := by omega
  generalize valAt a (min (partE a) (partE b)) - valAt b (min (partE a) (partE b)) = S at *
  generalize min (partE a) (partE b) = m at *
  unfold roundZ
  by_cases h0 : S = 0
  · rw [if_pos h0, h0, Int.zero_mul]
    refine ⟨rfl, by decide, ?_⟩
    show valAt 0 (-1074) = 0
    have z1 : partM 0 = 0 := by decide
    have z2 : negN 0 = false := by decide
    unfold valAt
    rw [z1, z2, Nat.zero_mul]; rfl
  · rw [if_neg h0]
    obtain ⟨f0, j, w1, w2⟩ := exact_word (decide (S < 0)) (V := S.natAbs) (E := m) (by omega) (lastE_small hsm.1 hm) hsm.2
    have hneg := sign_neg (decide (S < 0)) (rung_lt S.natAbs m)
    refine ⟨f0, ?_, ?_⟩
    · have hi := hsm.2
      rw [infR_eq] at hi
      unfold finN
      rw [powN_sign _ (rung_lt _ _)]
      exact decide_eq_true (by omega)
    · show valAt (signN (decide (S < 0)) (rung S.natAbs m)) (-1074) = _
      have we := partE_le (signN (decide (S < 0)) (rung S.natAbs m))
      unfold valAt
      rw [hneg, w1, w2]
      rw [w2] at we
      have ek : j + (m - (j : Int) - -1074).toNat = k := by omega
      rw [Nat.mul_assoc, ← Nat.pow_add, ek]
      unfold sgn
      by_cases hn : S < 0
      · rw [decide_eq_true hn, if_pos rfl, Int.natCast_mul, ← Int.neg_mul]
        congr 1
        omega
      · rw [decide_eq_false hn, if_neg (by decide), Int.natCast_mul]
        congr 1
        omega

/-- Equal values have the same odd part at the same place. -/
theorem same_odd {v w e f g : Int} (h1 : g ≤ e) (h2 : g ≤ f) (h : vAt v e g = vAt w f g) : mD v = mD w ∧ eD v e = eD w f := by
  have a1 := mD_mul v (e - g).toNat
  have a2 := mD_mul w (f - g).toNat
  have b1 := eD_mul v e (e - g).toNat
  have b2 := eD_mul w f (f - g).toNat
  have ee : e - ((e - g).toNat : Int) = g := by omega
  have ef : f - ((f - g).toNat : Int) = g := by omega
  rw [ee] at b1
  rw [ef] at b2
  have h : v * ((2 ^ (e - g).toNat : Nat) : Int) = w * ((2 ^ (f - g).toNat : Nat) : Int) := h
  rw [h] at a1 b1
  exact ⟨a1.symm.trans a2, b1.symm.trans b2⟩

theorem eD_ge' {v e g : Int} (h : g ≤ e) (hg : g ≤ 0) : g ≤ eD v e := by
  unfold eD
  split <;> omega

theorem vAt_up {v e g : Int} (h : g ≤ e) : vAt v (e + 1) g = 2 * vAt v e g := by
  unfold vAt
  have : (e + 1 - g).toNat = (e - g).toNat + 1 := by omega
  rw [this, Nat.pow_succ, Int.natCast_mul, ← Int.mul_assoc, Int.mul_comm]
  rfl

theorem cmp_twice {v w e f : Int} (h1 : -1074 ≤ e) (h2 : -1074 ≤ f) :
    cmpD (mD v) (eD v e) (mD (mD w)) (eD (mD w) (eD w f + 1)) = cmpZ (vAt v e (-1074)) (2 * vAt w f (-1074)) := by
  have g1 := eD_ge' (v := v) h1 (by decide)
  have g2 := eD_ge' (v := w) h2 (by decide)
  have g3 := eD_ge' (v := mD w) (e := eD w f + 1) (g := -1074) (by omega) (by decide)
  rw [cmp_vAt (fun _ => g1) (fun _ => g3), vAt_odd h1, vAt_odd (by omega), vAt_up g2, vAt_odd h2]

theorem cmp_twice' {v w e f : Int} (h1 : -1074 ≤ e) (h2 : -1074 ≤ f) :
    cmpD (-(mD v)) (eD v e) (mD (-(mD w))) (eD (-(mD w)) (eD w f + 1)) = cmpZ (-(vAt v e (-1074))) (-(2 * vAt w f (-1074))) := by
  have g1 := eD_ge' (v := v) h1 (by decide)
  have g2 := eD_ge' (v := w) h2 (by decide)
  have g3 := eD_ge' (v := -(mD w)) (e := eD w f + 1) (g := -1074) (by omega) (by decide)
  rw [cmp_vAt (fun _ => g1) (fun _ => g3), vAt_neg, vAt_odd h1, vAt_odd (by omega), vAt_neg, vAt_up g2, vAt_odd h2]

end Go.Rnd

/- The evaluator's equations: dioptralaw05.SumExact. Printed by denpy.py. -/
namespace Go.Proofs.S1
open Go Go.Den Go.Rnd Go.Proofs
set_option linter.unusedVariables false
set_option maxRecDepth 100000
namespace EqLaw05E
theorem tt0 (a b c : Bool) : (((!(bif (bif a then b else false) then c else false)) || ((bif (bif a then b else false) then c else false) == true)) && true) = true := by cases a <;> cases b <;> cases c <;> rfl
theorem tt1 (a b c : Bool) : ((!((bif (bif a then b else false) then c else false) == true)) || true) = true := by cases a <;> cases b <;> cases c <;> rfl
theorem tt2 (a b : Bool) : (((!(bif a then b else false)) || ((bif a then b else false) == true)) && true) = true := by cases a <;> cases b <;> rfl
theorem tt3 (a b c : Bool) : ((!((bif a then b else false) == true)) || ((((!((bif a then b else false) == true)) || ((bif a then b else false) == true)) && (((!((bif a then b else false) == true)) || ((bif a then b else false) == true)) && true)) && c)) = ((!(a && b)) || c) := by cases a <;> cases b <;> cases c <;> rfl
theorem tt4 (a b c : Bool) : ((!((bif a then b else false) == true)) || ((((!((bif a then b else false) == true)) || ((bif a then b else false) == true)) && true) && c)) = ((!(a && b)) || c) := by cases a <;> cases b <;> cases c <;> rfl
theorem tt5 (a b : Bool) : ((!((bif a then b else false) == true)) || true) = true := by cases a <;> cases b <;> rfl
theorem tt6 (a : Bool) : (((!a) || (a == true)) && true) = true := by cases a <;> rfl
theorem tt7 (a b : Bool) : ((!(a == true)) || ((((!(a == true)) || (a == true)) && true) && b)) = ((!a) || b) := by cases a <;> cases b <;> rfl
theorem tt8 (a : Bool) : ((!(a == true)) || true) = true := by cases a <;> rfl
theorem tt9 (a b : Bool) : (bif a then true else b) = (a || b) := by cases a <;> cases b <;> rfl
theorem tt10 (a : Bool) : (((!(!a)) || (a == false)) && true) = true := by cases a <;> rfl
theorem tt11 (a : Bool) : (((!(a == false)) || ((((!(a == false)) || (a == false)) && true) && true)) && true) = true := by cases a <;> rfl
theorem tt12 (a b : Bool) : (((!(a == false)) || ((((!(a == false)) || (a == false)) && (((!(a == false)) || (a == false)) && true)) && b)) && true) = (a || b) := by cases a <;> cases b <;> rfl
theorem tt13 (a b : Bool) : (((!(a == false)) || ((((!(a == false)) || (a == false)) && true) && b)) && true) = (a || b) := by cases a <;> cases b <;> rfl
theorem tt14 (a : Bool) : (((!(a == false)) || true) && true) = true := by cases a <;> rfl
theorem tt15 (a : Bool) : (a && true) = a := by cases a <;> rfl
theorem tt16 (a b c d : Bool) : (bif (bif (!a) then true else (!b)) then true else (!(c == d))) = (((!a) || (!b)) || (!(c == d))) := by cases a <;> cases b <;> cases c <;> cases d <;> rfl
theorem tt17 (a b : Bool) : ((!(!(bif (!a) then true else (!b)))) || ((bif (!a) then true else (!b)) == false)) = true := by cases a <;> cases b <;> rfl
theorem tt18 (a b : Bool) : ((!((bif (!a) then true else (!b)) == false)) || ((((!((bif (!a) then true else (!b)) == false)) || ((bif (!a) then true else (!b)) == false)) && (((!((bif (!a) then true else (!b)) == false)) || ((bif (!a) then true else (!b)) == false)) && true)) && true)) = true := by cases a <;> cases b <;> rfl
theorem tt19 (a b c : Bool) : ((!((bif (!a) then true else (!b)) == false)) || ((((!((bif (!a) then true else (!b)) == false)) || ((bif (!a) then true else (!b)) == false)) && true) && c)) = (((!a) || (!b)) || c) := by cases a <;> cases b <;> cases c <;> rfl
theorem tt20 (a b : Bool) : ((!((bif (!a) then true else (!b)) == false)) || true) = true := by cases a <;> cases b <;> rfl
theorem tt21 (a : Bool) : ((!(!(!a))) || ((!a) == false)) = true := by cases a <;> rfl
theorem tt22 (a : Bool) : ((!((!a) == false)) || ((((!((!a) == false)) || ((!a) == false)) && true) && true)) = true := by cases a <;> rfl
theorem tt23 (a b : Bool) : ((!((!a) == false)) || ((((!((!a) == false)) || ((!a) == false)) && true) && b)) = ((!a) || b) := by cases a <;> cases b <;> rfl
theorem tt24 (a : Bool) : ((!((!a) == false)) || true) = true := by cases a <;> rfl
noncomputable def law05.SumExact.tab : List (Nat × Entry) := [(18, law05.awake.spec), (19, sum.Sub.spec), (21, ref04.Finite.spec), (22, ref04.Neg.spec), (23, ref04.Value.spec), (24, ref02.Neg.spec), (25, ref02.Compare.spec), (26, ref02.Scale.spec), (27, ref02.Same.spec), (28, ref02.Sub.spec)]
noncomputable def law05.SumExact.E : Env := envOf (tabOf law05.SumExact.tab) (fun _ => false) (fun _ => none) (fun _ => none)
theorem law05.SumExact.ev (N : Nat) (a : Int) (b : Int) : funD law05.SumExact.E N Try.f6 (bodyOf Try.f6) [.int .u64 a, .int .u64 b] =
  bif (inU64 a) then
    bif ((!(finI a)) || (inU64 b)) then
      bif (((!(finI a)) || (!(finI b))) || (inU64 a)) then
        bif (((!(finI a)) || (!(finI b))) || (inU64 b)) then
          bif (((!(finI a)) || (!(finI b))) || (!((negI a) == (negI b)))) then
            some (.bool true)
          else bif (inU64 a) then
            bif (inU64 b) then
              bif (inU64 a) then
                bif (negI a) then
                  bif (okW (negW (mD (valI a))) (limbsI (mD (valI a)))) then
                    bif (okW (negW (mD (valI b))) (limbsI (mD (valI b)))) then
                      bif ((okW (negW (- wv (negW (mD (valI b))) (limbsI (mD (valI b))))) (limbsI (- wv (negW (mD (valI b))) (limbsI (mD (valI b))))) && okE (eD (valI b) (partEI b))) && okE (1 : Int)) then
                        bif (((okV (negW (- wv (negW (mD (valI a))) (limbsI (mD (valI a))))) (limbsI (- wv (negW (mD (valI a))) (limbsI (mD (valI a))))) && okV (negW (mD (wv (negW (- wv (negW (mD (valI b))) (limbsI (mD (valI b))))) (limbsI (- wv (negW (mD (valI b))) (limbsI (mD (valI b)))))))) (limbsI (mD (wv (negW (- wv (negW (mD (valI b))) (limbsI (mD (valI b))))) (limbsI (- wv (negW (mD (valI b))) (limbsI (mD (valI b))))))))) && okE (eD (valI a) (partEI a))) && okE (eD (wv (negW (- wv (negW (mD (valI b))) (limbsI (mD (valI b))))) (limbsI (- wv (negW (mD (valI b))) (limbsI (mD (valI b)))))) ((eD (valI b) (partEI b)) + (1 : Int)))) then
                          bif ((ltI (0 : Int) (cmpD (wv (negW (- wv (negW (mD (valI a))) (limbsI (mD (valI a))))) (limbsI (- wv (negW (mD (valI a))) (limbsI (mD (valI a)))))) (eD (valI a) (partEI a)) (wv (negW (mD (wv (negW (- wv (negW (mD (valI b))) (limbsI (mD (valI b))))) (limbsI (- wv (negW (mD (valI b))) (limbsI (mD (valI b)))))))) (limbsI (mD (wv (negW (- wv (negW (mD (valI b))) (limbsI (mD (valI b))))) (limbsI (- wv (negW (mD (valI b))) (limbsI (mD (valI b))))))))) (eD (wv (negW (- wv (negW (mD (valI b))) (limbsI (mD (valI b))))) (limbsI (- wv (negW (mD (valI b))) (limbsI (mD (valI b)))))) ((eD (valI b) (partEI b)) + (1 : Int))))) || ((okW (negW (- wv (negW (mD (valI a))) (limbsI (mD (valI a))))) (limbsI (- wv (negW (mD (valI a))) (limbsI (mD (valI a))))) && okE (eD (valI a) (partEI a))) && okE (1 : Int))) then
                            bif ((ltI (0 : Int) (cmpD (wv (negW (- wv (negW (mD (valI a))) (limbsI (mD (valI a))))) (limbsI (- wv (negW (mD (valI a))) (limbsI (mD (valI a)))))) (eD (valI a) (partEI a)) (wv (negW (mD (wv (negW (- wv (negW (mD (valI b))) (limbsI (mD (valI b))))) (limbsI (- wv (negW (mD (valI b))) (limbsI (mD (valI b)))))))) (limbsI (mD (wv (negW (- wv (negW (mD (valI b))) (limbsI (mD (valI b))))) (limbsI (- wv (negW (mD (valI b))) (limbsI (mD (valI b))))))))) (eD (wv (negW (- wv (negW (mD (valI b))) (limbsI (mD (valI b))))) (limbsI (- wv (negW (mD (valI b))) (limbsI (mD (valI b)))))) ((eD (valI b) (partEI b)) + (1 : Int))))) || (((okV (negW (- wv (negW (mD (valI b))) (limbsI (mD (valI b))))) (limbsI (- wv (negW (mD (valI b))) (limbsI (mD (valI b))))) && okV (negW (mD (wv (negW (- wv (negW (mD (valI a))) (limbsI (mD (valI a))))) (limbsI (- wv (negW (mD (valI a))) (limbsI (mD (valI a)))))))) (limbsI (mD (wv (negW (- wv (negW (mD (valI a))) (limbsI (mD (valI a))))) (limbsI (- wv (negW (mD (valI a))) (limbsI (mD (valI a))))))))) && okE (eD (valI b) (partEI b))) && okE (eD (wv (negW (- wv (negW (mD (valI a))) (limbsI (mD (valI a))))) (limbsI (- wv (negW (mD (valI a))) (limbsI (mD (valI a)))))) ((eD (valI a) (partEI a)) + (1 : Int))))) then
                              bif ((ltI (0 : Int) (cmpD (wv (negW (- wv (negW (mD (valI a))) (limbsI (mD (valI a))))) (limbsI (- wv (negW (mD (valI a))) (limbsI (mD (valI a)))))) (eD (valI a) (partEI a)) (wv (negW (mD (wv (negW (- wv (negW (mD (valI b))) (limbsI (mD (valI b))))) (limbsI (- wv (negW (mD (valI b))) (limbsI (mD (valI b)))))))) (limbsI (mD (wv (negW (- wv (negW (mD (valI b))) (limbsI (mD (valI b))))) (limbsI (- wv (negW (mD (valI b))) (limbsI (mD (valI b))))))))) (eD (wv (negW (- wv (negW (mD (valI b))) (limbsI (mD (valI b))))) (limbsI (- wv (negW (mD (valI b))) (limbsI (mD (valI b)))))) ((eD (valI b) (partEI b)) + (1 : Int))))) || (ltI (0 : Int) (cmpD (wv (negW (- wv (negW (mD (valI b))) (limbsI (mD (valI b))))) (limbsI (- wv (negW (mD (valI b))) (limbsI (mD (valI b)))))) (eD (valI b) (partEI b)) (wv (negW (mD (wv (negW (- wv (negW (mD (valI a))) (limbsI (mD (valI a))))) (limbsI (- wv (negW (mD (valI a))) (limbsI (mD (valI a)))))))) (limbsI (mD (wv (negW (- wv (negW (mD (valI a))) (limbsI (mD (valI a))))) (limbsI (- wv (negW (mD (valI a))) (limbsI (mD (valI a))))))))) (eD (wv (negW (- wv (negW (mD (valI a))) (limbsI (mD (valI a))))) (limbsI (- wv (negW (mD (valI a))) (limbsI (mD (valI a)))))) ((eD (valI a) (partEI a)) + (1 : Int)))))) then
                                some (.bool true)
                              else bif (inU64 a && inU64 b) then
                                bif ((!((subFI a b) == (0 : Int))) || (inU64 (subBI a b))) then
                                  bif ((!(((subFI a b) == (0 : Int)) && (finI (subBI a b)))) || (inU64 (subBI a b))) then
                                    bif ((!(((subFI a b) == (0 : Int)) && (finI (subBI a b)))) || (inU64 a)) then
                                      bif ((!(((subFI a b) == (0 : Int)) && (finI (subBI a b)))) || (inU64 b)) then
                                        bif ((!(((subFI a b) == (0 : Int)) && (finI (subBI a b)))) || (((okV (negW (mD (valI a))) (limbsI (mD (valI a))) && okV (negW (mD (valI b))) (limbsI (mD (valI b)))) && okE (eD (valI a) (partEI a))) && okE (eD (valI b) (partEI b)))) then
                                          bif ((!(((subFI a b) == (0 : Int)) && (finI (subBI a b)))) || (okW (negW (mD (valI (subBI a b)))) (limbsI (mD (valI (subBI a b)))) && okW (negW (addM (wv (negW (mD (valI a))) (limbsI (mD (valI a)))) (eD (valI a) (partEI a)) (- wv (negW (mD (valI b))) (limbsI (mD (valI b)))) (eD (valI b) (partEI b)))) (limbsI (addM (wv (negW (mD (valI a))) (limbsI (mD (valI a)))) (eD (valI a) (partEI a)) (- wv (negW (mD (valI b))) (limbsI (mD (valI b)))) (eD (valI b) (partEI b)))))) then
                                            some (.bool (bif (bif (bif ((subFI a b) == (0 : Int)) then (finI (subBI a b)) else false) then (((decide ((eD (valI (subBI a b)) (partEI (subBI a b))) = (addE (wv (negW (mD (valI a))) (limbsI (mD (valI a)))) (eD (valI a) (partEI a)) (- wv (negW (mD (valI b))) (limbsI (mD (valI b)))) (eD (valI b) (partEI b))))) && sameI (wv (negW (mD (valI (subBI a b)))) (limbsI (mD (valI (subBI a b))))) (wv (negW (addM (wv (negW (mD (valI a))) (limbsI (mD (valI a)))) (eD (valI a) (partEI a)) (- wv (negW (mD (valI b))) (limbsI (mD (valI b)))) (eD (valI b) (partEI b)))) (limbsI (addM (wv (negW (mD (valI a))) (limbsI (mD (valI a)))) (eD (valI a) (partEI a)) (- wv (negW (mD (valI b))) (limbsI (mD (valI b)))) (eD (valI b) (partEI b))))))) else false) then true else false))
                                          else none
                                        else none
                                      else none
                                    else none
                                  else none
                                else none
                              else none
                            else none
                          else none
                        else none
                      else none
                    else none
                  else none
                else bif ((okW (negW (mD (valI b))) (limbsI (mD (valI b))) && okE (eD (valI b) (partEI b))) && okE (1 : Int)) then
                  bif (((okV (negW (mD (valI a))) (limbsI (mD (valI a))) && okV (negW (mD (wv (negW (mD (valI b))) (limbsI (mD (valI b)))))) (limbsI (mD (wv (negW (mD (valI b))) (limbsI (mD (valI b))))))) && okE (eD (valI a) (partEI a))) && okE (eD (wv (negW (mD (valI b))) (limbsI (mD (valI b)))) ((eD (valI b) (partEI b)) + (1 : Int)))) then
                    bif ((ltI (0 : Int) (cmpD (wv (negW (mD (valI a))) (limbsI (mD (valI a)))) (eD (valI a) (partEI a)) (wv (negW (mD (wv (negW (mD (valI b))) (limbsI (mD (valI b)))))) (limbsI (mD (wv (negW (mD (valI b))) (limbsI (mD (valI b))))))) (eD (wv (negW (mD (valI b))) (limbsI (mD (valI b)))) ((eD (valI b) (partEI b)) + (1 : Int))))) || ((okW (negW (mD (valI a))) (limbsI (mD (valI a))) && okE (eD (valI a) (partEI a))) && okE (1 : Int))) then
                      bif ((ltI (0 : Int) (cmpD (wv (negW (mD (valI a))) (limbsI (mD (valI a)))) (eD (valI a) (partEI a)) (wv (negW (mD (wv (negW (mD (valI b))) (limbsI (mD (valI b)))))) (limbsI (mD (wv (negW (mD (valI b))) (limbsI (mD (valI b))))))) (eD (wv (negW (mD (valI b))) (limbsI (mD (valI b)))) ((eD (valI b) (partEI b)) + (1 : Int))))) || (((okV (negW (mD (valI b))) (limbsI (mD (valI b))) && okV (negW (mD (wv (negW (mD (valI a))) (limbsI (mD (valI a)))))) (limbsI (mD (wv (negW (mD (valI a))) (limbsI (mD (valI a))))))) && okE (eD (valI b) (partEI b))) && okE (eD (wv (negW (mD (valI a))) (limbsI (mD (valI a)))) ((eD (valI a) (partEI a)) + (1 : Int))))) then
                        bif ((ltI (0 : Int) (cmpD (wv (negW (mD (valI a))) (limbsI (mD (valI a)))) (eD (valI a) (partEI a)) (wv (negW (mD (wv (negW (mD (valI b))) (limbsI (mD (valI b)))))) (limbsI (mD (wv (negW (mD (valI b))) (limbsI (mD (valI b))))))) (eD (wv (negW (mD (valI b))) (limbsI (mD (valI b)))) ((eD (valI b) (partEI b)) + (1 : Int))))) || (ltI (0 : Int) (cmpD (wv (negW (mD (valI b))) (limbsI (mD (valI b)))) (eD (valI b) (partEI b)) (wv (negW (mD (wv (negW (mD (valI a))) (limbsI (mD (valI a)))))) (limbsI (mD (wv (negW (mD (valI a))) (limbsI (mD (valI a))))))) (eD (wv (negW (mD (valI a))) (limbsI (mD (valI a)))) ((eD (valI a) (partEI a)) + (1 : Int)))))) then
                          some (.bool true)
                        else bif (inU64 a && inU64 b) then
                          bif ((!((subFI a b) == (0 : Int))) || (inU64 (subBI a b))) then
                            bif ((!(((subFI a b) == (0 : Int)) && (finI (subBI a b)))) || (inU64 (subBI a b))) then
                              bif ((!(((subFI a b) == (0 : Int)) && (finI (subBI a b)))) || (inU64 a)) then
                                bif ((!(((subFI a b) == (0 : Int)) && (finI (subBI a b)))) || (inU64 b)) then
                                  bif ((!(((subFI a b) == (0 : Int)) && (finI (subBI a b)))) || (((okV (negW (mD (valI a))) (limbsI (mD (valI a))) && okV (negW (mD (valI b))) (limbsI (mD (valI b)))) && okE (eD (valI a) (partEI a))) && okE (eD (valI b) (partEI b)))) then
                                    bif ((!(((subFI a b) == (0 : Int)) && (finI (subBI a b)))) || (okW (negW (mD (valI (subBI a b)))) (limbsI (mD (valI (subBI a b)))) && okW (negW (addM (wv (negW (mD (valI a))) (limbsI (mD (valI a)))) (eD (valI a) (partEI a)) (- wv (negW (mD (valI b))) (limbsI (mD (valI b)))) (eD (valI b) (partEI b)))) (limbsI (addM (wv (negW (mD (valI a))) (limbsI (mD (valI a)))) (eD (valI a) (partEI a)) (- wv (negW (mD (valI b))) (limbsI (mD (valI b)))) (eD (valI b) (partEI b)))))) then
                                      some (.bool (bif (bif (bif ((subFI a b) == (0 : Int)) then (finI (subBI a b)) else false) then (((decide ((eD (valI (subBI a b)) (partEI (subBI a b))) = (addE (wv (negW (mD (valI a))) (limbsI (mD (valI a)))) (eD (valI a) (partEI a)) (- wv (negW (mD (valI b))) (limbsI (mD (valI b)))) (eD (valI b) (partEI b))))) && sameI (wv (negW (mD (valI (subBI a b)))) (limbsI (mD (valI (subBI a b))))) (wv (negW (addM (wv (negW (mD (valI a))) (limbsI (mD (valI a)))) (eD (valI a) (partEI a)) (- wv (negW (mD (valI b))) (limbsI (mD (valI b)))) (eD (valI b) (partEI b)))) (limbsI (addM (wv (negW (mD (valI a))) (limbsI (mD (valI a)))) (eD (valI a) (partEI a)) (- wv (negW (mD (valI b))) (limbsI (mD (valI b)))) (eD (valI b) (partEI b))))))) else false) then true else false))
                                    else none
                                  else none
                                else none
                              else none
                            else none
                          else none
                        else none
                      else none
                    else none
                  else none
                else none
              else none
            else none
          else none
        else none
      else none
    else none
  else none :=
  Eq.trans (b := bif (inU64 a) then
    bif ((!((!(finI a)) == false)) || true) then
      bif ((!((!(finI a)) == false)) || ((((!((!(finI a)) == false)) || ((!(finI a)) == false)) && true) && (inU64 b))) then
        bif ((!((!(finI a)) == false)) || ((((!((!(finI a)) == false)) || ((!(finI a)) == false)) && true) && true)) then
          bif ((!(!(!(finI a)))) || ((!(finI a)) == false)) then
            bif ((!((bif (!(finI a)) then true else (!(finI b))) == false)) || true) then
              bif ((!((bif (!(finI a)) then true else (!(finI b))) == false)) || ((((!((bif (!(finI a)) then true else (!(finI b))) == false)) || ((bif (!(finI a)) then true else (!(finI b))) == false)) && true) && (inU64 a))) then
                bif ((!((bif (!(finI a)) then true else (!(finI b))) == false)) || true) then
                  bif ((!((bif (!(finI a)) then true else (!(finI b))) == false)) || ((((!((bif (!(finI a)) then true else (!(finI b))) == false)) || ((bif (!(finI a)) then true else (!(finI b))) == false)) && true) && (inU64 b))) then
                    bif ((!((bif (!(finI a)) then true else (!(finI b))) == false)) || ((((!((bif (!(finI a)) then true else (!(finI b))) == false)) || ((bif (!(finI a)) then true else (!(finI b))) == false)) && (((!((bif (!(finI a)) then true else (!(finI b))) == false)) || ((bif (!(finI a)) then true else (!(finI b))) == false)) && true)) && true)) then
                      bif ((!(!(bif (!(finI a)) then true else (!(finI b))))) || ((bif (!(finI a)) then true else (!(finI b))) == false)) then
                        bif (bif (bif (!(finI a)) then true else (!(finI b))) then true else (!((negI a) == (negI b)))) then
                          some (.bool true)
                        else bif (inU64 a) then
                          bif (inU64 b) then
                            bif (inU64 a) then
                              bif (negI a) then
                                bif (okW (negW (mD (valI a))) (limbsI (mD (valI a)))) then
                                  bif (okW (negW (mD (valI b))) (limbsI (mD (valI b)))) then
                                    bif (((okW (negW (- wv (negW (mD (valI b))) (limbsI (mD (valI b))))) (limbsI (- wv (negW (mD (valI b))) (limbsI (mD (valI b))))) && okE (eD (valI b) (partEI b))) && okE (1 : Int)) && true) then
                                      bif ((((okV (negW (- wv (negW (mD (valI a))) (limbsI (mD (valI a))))) (limbsI (- wv (negW (mD (valI a))) (limbsI (mD (valI a))))) && okV (negW (mD (wv (negW (- wv (negW (mD (valI b))) (limbsI (mD (valI b))))) (limbsI (- wv (negW (mD (valI b))) (limbsI (mD (valI b)))))))) (limbsI (mD (wv (negW (- wv (negW (mD (valI b))) (limbsI (mD (valI b))))) (limbsI (- wv (negW (mD (valI b))) (limbsI (mD (valI b))))))))) && okE (eD (valI a) (partEI a))) && okE (eD (wv (negW (- wv (negW (mD (valI b))) (limbsI (mD (valI b))))) (limbsI (- wv (negW (mD (valI b))) (limbsI (mD (valI b)))))) ((eD (valI b) (partEI b)) + (1 : Int)))) && true) then
                                        bif (((!((ltI (0 : Int) (cmpD (wv (negW (- wv (negW (mD (valI a))) (limbsI (mD (valI a))))) (limbsI (- wv (negW (mD (valI a))) (limbsI (mD (valI a)))))) (eD (valI a) (partEI a)) (wv (negW (mD (wv (negW (- wv (negW (mD (valI b))) (limbsI (mD (valI b))))) (limbsI (- wv (negW (mD (valI b))) (limbsI (mD (valI b)))))))) (limbsI (mD (wv (negW (- wv (negW (mD (valI b))) (limbsI (mD (valI b))))) (limbsI (- wv (negW (mD (valI b))) (limbsI (mD (valI b))))))))) (eD (wv (negW (- wv (negW (mD (valI b))) (limbsI (mD (valI b))))) (limbsI (- wv (negW (mD (valI b))) (limbsI (mD (valI b)))))) ((eD (valI b) (partEI b)) + (1 : Int))))) == false)) || true) && true) then
                                          bif (((!((ltI (0 : Int) (cmpD (wv (negW (- wv (negW (mD (valI a))) (limbsI (mD (valI a))))) (limbsI (- wv (negW (mD (valI a))) (limbsI (mD (valI a)))))) (eD (valI a) (partEI a)) (wv (negW (mD (wv (negW (- wv (negW (mD (valI b))) (limbsI (mD (valI b))))) (limbsI (- wv (negW (mD (valI b))) (limbsI (mD (valI b)))))))) (limbsI (mD (wv (negW (- wv (negW (mD (valI b))) (limbsI (mD (valI b))))) (limbsI (- wv (negW (mD (valI b))) (limbsI (mD (valI b))))))))) (eD (wv (negW (- wv (negW (mD (valI b))) (limbsI (mD (valI b))))) (limbsI (- wv (negW (mD (valI b))) (limbsI (mD (valI b)))))) ((eD (valI b) (partEI b)) + (1 : Int))))) == false)) || true) && true) then
                                            bif (((!((ltI (0 : Int) (cmpD (wv (negW (- wv (negW (mD (valI a))) (limbsI (mD (valI a))))) (limbsI (- wv (negW (mD (valI a))) (limbsI (mD (valI a)))))) (eD (valI a) (partEI a)) (wv (negW (mD (wv (negW (- wv (negW (mD (valI b))) (limbsI (mD (valI b))))) (limbsI (- wv (negW (mD (valI b))) (limbsI (mD (valI b)))))))) (limbsI (mD (wv (negW (- wv (negW (mD (valI b))) (limbsI (mD (valI b))))) (limbsI (- wv (negW (mD (valI b))) (limbsI (mD (valI b))))))))) (eD (wv (negW (- wv (negW (mD (valI b))) (limbsI (mD (valI b))))) (limbsI (- wv (negW (mD (valI b))) (limbsI (mD (valI b)))))) ((eD (valI b) (partEI b)) + (1 : Int))))) == false)) || ((((!((ltI (0 : Int) (cmpD (wv (negW (- wv (negW (mD (valI a))) (limbsI (mD (valI a))))) (limbsI (- wv (negW (mD (valI a))) (limbsI (mD (valI a)))))) (eD (valI a) (partEI a)) (wv (negW (mD (wv (negW (- wv (negW (mD (valI b))) (limbsI (mD (valI b))))) (limbsI (- wv (negW (mD (valI b))) (limbsI (mD (valI b)))))))) (limbsI (mD (wv (negW (- wv (negW (mD (valI b))) (limbsI (mD (valI b))))) (limbsI (- wv (negW (mD (valI b))) (limbsI (mD (valI b))))))))) (eD (wv (negW (- wv (negW (mD (valI b))) (limbsI (mD (valI b))))) (limbsI (- wv (negW (mD (valI b))) (limbsI (mD (valI b)))))) ((eD (valI b) (partEI b)) + (1 : Int))))) == false)) || ((ltI (0 : Int) (cmpD (wv (negW (- wv (negW (mD (valI a))) (limbsI (mD (valI a))))) (limbsI (- wv (negW (mD (valI a))) (limbsI (mD (valI a)))))) (eD (valI a) (partEI a)) (wv (negW (mD (wv (negW (- wv (negW (mD (valI b))) (limbsI (mD (valI b))))) (limbsI (- wv (negW (mD (valI b))) (limbsI (mD (valI b)))))))) (limbsI (mD (wv (negW (- wv (negW (mD (valI b))) (limbsI (mD (valI b))))) (limbsI (- wv (negW (mD (valI b))) (limbsI (mD (valI b))))))))) (eD (wv (negW (- wv (negW (mD (valI b))) (limbsI (mD (valI b))))) (limbsI (- wv (negW (mD (valI b))) (limbsI (mD (valI b)))))) ((eD (valI b) (partEI b)) + (1 : Int))))) == false)) && true) && ((okW (negW (- wv (negW (mD (valI a))) (limbsI (mD (valI a))))) (limbsI (- wv (negW (mD (valI a))) (limbsI (mD (valI a))))) && okE (eD (valI a) (partEI a))) && okE (1 : Int)))) && true) then
                                              bif (((!((ltI (0 : Int) (cmpD (wv (negW (- wv (negW (mD (valI a))) (limbsI (mD (valI a))))) (limbsI (- wv (negW (mD (valI a))) (limbsI (mD (valI a)))))) (eD (valI a) (partEI a)) (wv (negW (mD (wv (negW (- wv (negW (mD (valI b))) (limbsI (mD (valI b))))) (limbsI (- wv (negW (mD (valI b))) (limbsI (mD (valI b)))))))) (limbsI (mD (wv (negW (- wv (negW (mD (valI b))) (limbsI (mD (valI b))))) (limbsI (- wv (negW (mD (valI b))) (limbsI (mD (valI b))))))))) (eD (wv (negW (- wv (negW (mD (valI b))) (limbsI (mD (valI b))))) (limbsI (- wv (negW (mD (valI b))) (limbsI (mD (valI b)))))) ((eD (valI b) (partEI b)) + (1 : Int))))) == false)) || ((((!((ltI (0 : Int) (cmpD (wv (negW (- wv (negW (mD (valI a))) (limbsI (mD (valI a))))) (limbsI (- wv (negW (mD (valI a))) (limbsI (mD (valI a)))))) (eD (valI a) (partEI a)) (wv (negW (mD (wv (negW (- wv (negW (mD (valI b))) (limbsI (mD (valI b))))) (limbsI (- wv (negW (mD (valI b))) (limbsI (mD (valI b)))))))) (limbsI (mD (wv (negW (- wv (negW (mD (valI b))) (limbsI (mD (valI b))))) (limbsI (- wv (negW (mD (valI b))) (limbsI (mD (valI b))))))))) (eD (wv (negW (- wv (negW (mD (valI b))) (limbsI (mD (valI b))))) (limbsI (- wv (negW (mD (valI b))) (limbsI (mD (valI b)))))) ((eD (valI b) (partEI b)) + (1 : Int))))) == false)) || ((ltI (0 : Int) (cmpD (wv (negW (- wv (negW (mD (valI a))) (limbsI (mD (valI a))))) (limbsI (- wv (negW (mD (valI a))) (limbsI (mD (valI a)))))) (eD (valI a) (partEI a)) (wv (negW (mD (wv (negW (- wv (negW (mD (valI b))) (limbsI (mD (valI b))))) (limbsI (- wv (negW (mD (valI b))) (limbsI (mD (valI b)))))))) (limbsI (mD (wv (negW (- wv (negW (mD (valI b))) (limbsI (mD (valI b))))) (limbsI (- wv (negW (mD (valI b))) (limbsI (mD (valI b))))))))) (eD (wv (negW (- wv (negW (mD (valI b))) (limbsI (mD (valI b))))) (limbsI (- wv (negW (mD (valI b))) (limbsI (mD (valI b)))))) ((eD (valI b) (partEI b)) + (1 : Int))))) == false)) && (((!((ltI (0 : Int) (cmpD (wv (negW (- wv (negW (mD (valI a))) (limbsI (mD (valI a))))) (limbsI (- wv (negW (mD (valI a))) (limbsI (mD (valI a)))))) (eD (valI a) (partEI a)) (wv (negW (mD (wv (negW (- wv (negW (mD (valI b))) (limbsI (mD (valI b))))) (limbsI (- wv (negW (mD (valI b))) (limbsI (mD (valI b)))))))) (limbsI (mD (wv (negW (- wv (negW (mD (valI b))) (limbsI (mD (valI b))))) (limbsI (- wv (negW (mD (valI b))) (limbsI (mD (valI b))))))))) (eD (wv (negW (- wv (negW (mD (valI b))) (limbsI (mD (valI b))))) (limbsI (- wv (negW (mD (valI b))) (limbsI (mD (valI b)))))) ((eD (valI b) (partEI b)) + (1 : Int))))) == false)) || ((ltI (0 : Int) (cmpD (wv (negW (- wv (negW (mD (valI a))) (limbsI (mD (valI a))))) (limbsI (- wv (negW (mD (valI a))) (limbsI (mD (valI a)))))) (eD (valI a) (partEI a)) (wv (negW (mD (wv (negW (- wv (negW (mD (valI b))) (limbsI (mD (valI b))))) (limbsI (- wv (negW (mD (valI b))) (limbsI (mD (valI b)))))))) (limbsI (mD (wv (negW (- wv (negW (mD (valI b))) (limbsI (mD (valI b))))) (limbsI (- wv (negW (mD (valI b))) (limbsI (mD (valI b))))))))) (eD (wv (negW (- wv (negW (mD (valI b))) (limbsI (mD (valI b))))) (limbsI (- wv (negW (mD (valI b))) (limbsI (mD (valI b)))))) ((eD (valI b) (partEI b)) + (1 : Int))))) == false)) && true)) && (((okV (negW (- wv (negW (mD (valI b))) (limbsI (mD (valI b))))) (limbsI (- wv (negW (mD (valI b))) (limbsI (mD (valI b))))) && okV (negW (mD (wv (negW (- wv (negW (mD (valI a))) (limbsI (mD (valI a))))) (limbsI (- wv (negW (mD (valI a))) (limbsI (mD (valI a)))))))) (limbsI (mD (wv (negW (- wv (negW (mD (valI a))) (limbsI (mD (valI a))))) (limbsI (- wv (negW (mD (valI a))) (limbsI (mD (valI a))))))))) && okE (eD (valI b) (partEI b))) && okE (eD (wv (negW (- wv (negW (mD (valI a))) (limbsI (mD (valI a))))) (limbsI (- wv (negW (mD (valI a))) (limbsI (mD (valI a)))))) ((eD (valI a) (partEI a)) + (1 : Int)))))) && true) then
                                                bif (((!((ltI (0 : Int) (cmpD (wv (negW (- wv (negW (mD (valI a))) (limbsI (mD (valI a))))) (limbsI (- wv (negW (mD (valI a))) (limbsI (mD (valI a)))))) (eD (valI a) (partEI a)) (wv (negW (mD (wv (negW (- wv (negW (mD (valI b))) (limbsI (mD (valI b))))) (limbsI (- wv (negW (mD (valI b))) (limbsI (mD (valI b)))))))) (limbsI (mD (wv (negW (- wv (negW (mD (valI b))) (limbsI (mD (valI b))))) (limbsI (- wv (negW (mD (valI b))) (limbsI (mD (valI b))))))))) (eD (wv (negW (- wv (negW (mD (valI b))) (limbsI (mD (valI b))))) (limbsI (- wv (negW (mD (valI b))) (limbsI (mD (valI b)))))) ((eD (valI b) (partEI b)) + (1 : Int))))) == false)) || ((((!((ltI (0 : Int) (cmpD (wv (negW (- wv (negW (mD (valI a))) (limbsI (mD (valI a))))) (limbsI (- wv (negW (mD (valI a))) (limbsI (mD (valI a)))))) (eD (valI a) (partEI a)) (wv (negW (mD (wv (negW (- wv (negW (mD (valI b))) (limbsI (mD (valI b))))) (limbsI (- wv (negW (mD (valI b))) (limbsI (mD (valI b)))))))) (limbsI (mD (wv (negW (- wv (negW (mD (valI b))) (limbsI (mD (valI b))))) (limbsI (- wv (negW (mD (valI b))) (limbsI (mD (valI b))))))))) (eD (wv (negW (- wv (negW (mD (valI b))) (limbsI (mD (valI b))))) (limbsI (- wv (negW (mD (valI b))) (limbsI (mD (valI b)))))) ((eD (valI b) (partEI b)) + (1 : Int))))) == false)) || ((ltI (0 : Int) (cmpD (wv (negW (- wv (negW (mD (valI a))) (limbsI (mD (valI a))))) (limbsI (- wv (negW (mD (valI a))) (limbsI (mD (valI a)))))) (eD (valI a) (partEI a)) (wv (negW (mD (wv (negW (- wv (negW (mD (valI b))) (limbsI (mD (valI b))))) (limbsI (- wv (negW (mD (valI b))) (limbsI (mD (valI b)))))))) (limbsI (mD (wv (negW (- wv (negW (mD (valI b))) (limbsI (mD (valI b))))) (limbsI (- wv (negW (mD (valI b))) (limbsI (mD (valI b))))))))) (eD (wv (negW (- wv (negW (mD (valI b))) (limbsI (mD (valI b))))) (limbsI (- wv (negW (mD (valI b))) (limbsI (mD (valI b)))))) ((eD (valI b) (partEI b)) + (1 : Int))))) == false)) && true) && true)) && true) then
                                                  bif (((!(!(ltI (0 : Int) (cmpD (wv (negW (- wv (negW (mD (valI a))) (limbsI (mD (valI a))))) (limbsI (- wv (negW (mD (valI a))) (limbsI (mD (valI a)))))) (eD (valI a) (partEI a)) (wv (negW (mD (wv (negW (- wv (negW (mD (valI b))) (limbsI (mD (valI b))))) (limbsI (- wv (negW (mD (valI b))) (limbsI (mD (valI b)))))))) (limbsI (mD (wv (negW (- wv (negW (mD (valI b))) (limbsI (mD (valI b))))) (limbsI (- wv (negW (mD (valI b))) (limbsI (mD (valI b))))))))) (eD (wv (negW (- wv (negW (mD (valI b))) (limbsI (mD (valI b))))) (limbsI (- wv (negW (mD (valI b))) (limbsI (mD (valI b)))))) ((eD (valI b) (partEI b)) + (1 : Int))))))) || ((ltI (0 : Int) (cmpD (wv (negW (- wv (negW (mD (valI a))) (limbsI (mD (valI a))))) (limbsI (- wv (negW (mD (valI a))) (limbsI (mD (valI a)))))) (eD (valI a) (partEI a)) (wv (negW (mD (wv (negW (- wv (negW (mD (valI b))) (limbsI (mD (valI b))))) (limbsI (- wv (negW (mD (valI b))) (limbsI (mD (valI b)))))))) (limbsI (mD (wv (negW (- wv (negW (mD (valI b))) (limbsI (mD (valI b))))) (limbsI (- wv (negW (mD (valI b))) (limbsI (mD (valI b))))))))) (eD (wv (negW (- wv (negW (mD (valI b))) (limbsI (mD (valI b))))) (limbsI (- wv (negW (mD (valI b))) (limbsI (mD (valI b)))))) ((eD (valI b) (partEI b)) + (1 : Int))))) == false)) && true) then
                                                    bif (bif (ltI (0 : Int) (cmpD (wv (negW (- wv (negW (mD (valI a))) (limbsI (mD (valI a))))) (limbsI (- wv (negW (mD (valI a))) (limbsI (mD (valI a)))))) (eD (valI a) (partEI a)) (wv (negW (mD (wv (negW (- wv (negW (mD (valI b))) (limbsI (mD (valI b))))) (limbsI (- wv (negW (mD (valI b))) (limbsI (mD (valI b)))))))) (limbsI (mD (wv (negW (- wv (negW (mD (valI b))) (limbsI (mD (valI b))))) (limbsI (- wv (negW (mD (valI b))) (limbsI (mD (valI b))))))))) (eD (wv (negW (- wv (negW (mD (valI b))) (limbsI (mD (valI b))))) (limbsI (- wv (negW (mD (valI b))) (limbsI (mD (valI b)))))) ((eD (valI b) (partEI b)) + (1 : Int))))) then true else (ltI (0 : Int) (cmpD (wv (negW (- wv (negW (mD (valI b))) (limbsI (mD (valI b))))) (limbsI (- wv (negW (mD (valI b))) (limbsI (mD (valI b)))))) (eD (valI b) (partEI b)) (wv (negW (mD (wv (negW (- wv (negW (mD (valI a))) (limbsI (mD (valI a))))) (limbsI (- wv (negW (mD (valI a))) (limbsI (mD (valI a)))))))) (limbsI (mD (wv (negW (- wv (negW (mD (valI a))) (limbsI (mD (valI a))))) (limbsI (- wv (negW (mD (valI a))) (limbsI (mD (valI a))))))))) (eD (wv (negW (- wv (negW (mD (valI a))) (limbsI (mD (valI a))))) (limbsI (- wv (negW (mD (valI a))) (limbsI (mD (valI a)))))) ((eD (valI a) (partEI a)) + (1 : Int)))))) then
                                                      some (.bool true)
                                                    else bif (inU64 a && inU64 b) then
                                                      bif ((!(((subFI a b) == (0 : Int)) == true)) || true) then
                                                        bif ((!(((subFI a b) == (0 : Int)) == true)) || ((((!(((subFI a b) == (0 : Int)) == true)) || (((subFI a b) == (0 : Int)) == true)) && true) && (inU64 (subBI a b)))) then
                                                          bif (((!((subFI a b) == (0 : Int))) || (((subFI a b) == (0 : Int)) == true)) && true) then
                                                            bif ((!((bif ((subFI a b) == (0 : Int)) then (finI (subBI a b)) else false) == true)) || true) then
                                                              bif ((!((bif ((subFI a b) == (0 : Int)) then (finI (subBI a b)) else false) == true)) || ((((!((bif ((subFI a b) == (0 : Int)) then (finI (subBI a b)) else false) == true)) || ((bif ((subFI a b) == (0 : Int)) then (finI (subBI a b)) else false) == true)) && true) && (inU64 (subBI a b)))) then
                                                                bif ((!((bif ((subFI a b) == (0 : Int)) then (finI (subBI a b)) else false) == true)) || true) then
                                                                  bif ((!((bif ((subFI a b) == (0 : Int)) then (finI (subBI a b)) else false) == true)) || ((((!((bif ((subFI a b) == (0 : Int)) then (finI (subBI a b)) else false) == true)) || ((bif ((subFI a b) == (0 : Int)) then (finI (subBI a b)) else false) == true)) && true) && (inU64 a))) then
                                                                    bif ((!((bif ((subFI a b) == (0 : Int)) then (finI (subBI a b)) else false) == true)) || true) then
                                                                      bif ((!((bif ((subFI a b) == (0 : Int)) then (finI (subBI a b)) else false) == true)) || ((((!((bif ((subFI a b) == (0 : Int)) then (finI (subBI a b)) else false) == true)) || ((bif ((subFI a b) == (0 : Int)) then (finI (subBI a b)) else false) == true)) && true) && (inU64 b))) then
                                                                        bif ((!((bif ((subFI a b) == (0 : Int)) then (finI (subBI a b)) else false) == true)) || ((((!((bif ((subFI a b) == (0 : Int)) then (finI (subBI a b)) else false) == true)) || ((bif ((subFI a b) == (0 : Int)) then (finI (subBI a b)) else false) == true)) && (((!((bif ((subFI a b) == (0 : Int)) then (finI (subBI a b)) else false) == true)) || ((bif ((subFI a b) == (0 : Int)) then (finI (subBI a b)) else false) == true)) && true)) && (((okV (negW (mD (valI a))) (limbsI (mD (valI a))) && okV (negW (mD (valI b))) (limbsI (mD (valI b)))) && okE (eD (valI a) (partEI a))) && okE (eD (valI b) (partEI b))))) then
                                                                          bif ((!((bif ((subFI a b) == (0 : Int)) then (finI (subBI a b)) else false) == true)) || ((((!((bif ((subFI a b) == (0 : Int)) then (finI (subBI a b)) else false) == true)) || ((bif ((subFI a b) == (0 : Int)) then (finI (subBI a b)) else false) == true)) && (((!((bif ((subFI a b) == (0 : Int)) then (finI (subBI a b)) else false) == true)) || ((bif ((subFI a b) == (0 : Int)) then (finI (subBI a b)) else false) == true)) && true)) && (okW (negW (mD (valI (subBI a b)))) (limbsI (mD (valI (subBI a b)))) && okW (negW (addM (wv (negW (mD (valI a))) (limbsI (mD (valI a)))) (eD (valI a) (partEI a)) (- wv (negW (mD (valI b))) (limbsI (mD (valI b)))) (eD (valI b) (partEI b)))) (limbsI (addM (wv (negW (mD (valI a))) (limbsI (mD (valI a)))) (eD (valI a) (partEI a)) (- wv (negW (mD (valI b))) (limbsI (mD (valI b)))) (eD (valI b) (partEI b))))))) then
                                                                            bif (((!(bif ((subFI a b) == (0 : Int)) then (finI (subBI a b)) else false)) || ((bif ((subFI a b) == (0 : Int)) then (finI (subBI a b)) else false) == true)) && true) then
                                                                              bif ((!((bif (bif ((subFI a b) == (0 : Int)) then (finI (subBI a b)) else false) then (((decide ((eD (valI (subBI a b)) (partEI (subBI a b))) = (addE (wv (negW (mD (valI a))) (limbsI (mD (valI a)))) (eD (valI a) (partEI a)) (- wv (negW (mD (valI b))) (limbsI (mD (valI b)))) (eD (valI b) (partEI b))))) && sameI (wv (negW (mD (valI (subBI a b)))) (limbsI (mD (valI (subBI a b))))) (wv (negW (addM (wv (negW (mD (valI a))) (limbsI (mD (valI a)))) (eD (valI a) (partEI a)) (- wv (negW (mD (valI b))) (limbsI (mD (valI b)))) (eD (valI b) (partEI b)))) (limbsI (addM (wv (negW (mD (valI a))) (limbsI (mD (valI a)))) (eD (valI a) (partEI a)) (- wv (negW (mD (valI b))) (limbsI (mD (valI b)))) (eD (valI b) (partEI b))))))) else false) == true)) || true) then
                                                                                bif (((!(bif (bif ((subFI a b) == (0 : Int)) then (finI (subBI a b)) else false) then (((decide ((eD (valI (subBI a b)) (partEI (subBI a b))) = (addE (wv (negW (mD (valI a))) (limbsI (mD (valI a)))) (eD (valI a) (partEI a)) (- wv (negW (mD (valI b))) (limbsI (mD (valI b)))) (eD (valI b) (partEI b))))) && sameI (wv (negW (mD (valI (subBI a b)))) (limbsI (mD (valI (subBI a b))))) (wv (negW (addM (wv (negW (mD (valI a))) (limbsI (mD (valI a)))) (eD (valI a) (partEI a)) (- wv (negW (mD (valI b))) (limbsI (mD (valI b)))) (eD (valI b) (partEI b)))) (limbsI (addM (wv (negW (mD (valI a))) (limbsI (mD (valI a)))) (eD (valI a) (partEI a)) (- wv (negW (mD (valI b))) (limbsI (mD (valI b)))) (eD (valI b) (partEI b))))))) else false)) || ((bif (bif ((subFI a b) == (0 : Int)) then (finI (subBI a b)) else false) then (((decide ((eD (valI (subBI a b)) (partEI (subBI a b))) = (addE (wv (negW (mD (valI a))) (limbsI (mD (valI a)))) (eD (valI a) (partEI a)) (- wv (negW (mD (valI b))) (limbsI (mD (valI b)))) (eD (valI b) (partEI b))))) && sameI (wv (negW (mD (valI (subBI a b)))) (limbsI (mD (valI (subBI a b))))) (wv (negW (addM (wv (negW (mD (valI a))) (limbsI (mD (valI a)))) (eD (valI a) (partEI a)) (- wv (negW (mD (valI b))) (limbsI (mD (valI b)))) (eD (valI b) (partEI b)))) (limbsI (addM (wv (negW (mD (valI a))) (limbsI (mD (valI a)))) (eD (valI a) (partEI a)) (- wv (negW (mD (valI b))) (limbsI (mD (valI b)))) (eD (valI b) (partEI b))))))) else false) == true)) && true) then
                                                                                  some (.bool (bif (bif (bif ((subFI a b) == (0 : Int)) then (finI (subBI a b)) else false) then (((decide ((eD (valI (subBI a b)) (partEI (subBI a b))) = (addE (wv (negW (mD (valI a))) (limbsI (mD (valI a)))) (eD (valI a) (partEI a)) (- wv (negW (mD (valI b))) (limbsI (mD (valI b)))) (eD (valI b) (partEI b))))) && sameI (wv (negW (mD (valI (subBI a b)))) (limbsI (mD (valI (subBI a b))))) (wv (negW (addM (wv (negW (mD (valI a))) (limbsI (mD (valI a)))) (eD (valI a) (partEI a)) (- wv (negW (mD (valI b))) (limbsI (mD (valI b)))) (eD (valI b) (partEI b)))) (limbsI (addM (wv (negW (mD (valI a))) (limbsI (mD (valI a)))) (eD (valI a) (partEI a)) (- wv (negW (mD (valI b))) (limbsI (mD (valI b)))) (eD (valI b) (partEI b))))))) else false) then true else false))
                                                                                else none
                                                                              else none
                                                                            else none
                                                                          else none
                                                                        else none
                                                                      else none
                                                                    else none
                                                                  else none
                                                                else none
                                                              else none
                                                            else none
                                                          else none
                                                        else none
                                                      else none
                                                    else none
                                                  else none
                                                else none
                                              else none
                                            else none
                                          else none
                                        else none
                                      else none
                                    else none
                                  else none
                                else none
                              else bif (((okW (negW (mD (valI b))) (limbsI (mD (valI b))) && okE (eD (valI b) (partEI b))) && okE (1 : Int)) && true) then
                                bif ((((okV (negW (mD (valI a))) (limbsI (mD (valI a))) && okV (negW (mD (wv (negW (mD (valI b))) (limbsI (mD (valI b)))))) (limbsI (mD (wv (negW (mD (valI b))) (limbsI (mD (valI b))))))) && okE (eD (valI a) (partEI a))) && okE (eD (wv (negW (mD (valI b))) (limbsI (mD (valI b)))) ((eD (valI b) (partEI b)) + (1 : Int)))) && true) then
                                  bif (((!((ltI (0 : Int) (cmpD (wv (negW (mD (valI a))) (limbsI (mD (valI a)))) (eD (valI a) (partEI a)) (wv (negW (mD (wv (negW (mD (valI b))) (limbsI (mD (valI b)))))) (limbsI (mD (wv (negW (mD (valI b))) (limbsI (mD (valI b))))))) (eD (wv (negW (mD (valI b))) (limbsI (mD (valI b)))) ((eD (valI b) (partEI b)) + (1 : Int))))) == false)) || true) && true) then
                                    bif (((!((ltI (0 : Int) (cmpD (wv (negW (mD (valI a))) (limbsI (mD (valI a)))) (eD (valI a) (partEI a)) (wv (negW (mD (wv (negW (mD (valI b))) (limbsI (mD (valI b)))))) (limbsI (mD (wv (negW (mD (valI b))) (limbsI (mD (valI b))))))) (eD (wv (negW (mD (valI b))) (limbsI (mD (valI b)))) ((eD (valI b) (partEI b)) + (1 : Int))))) == false)) || true) && true) then
                                      bif (((!((ltI (0 : Int) (cmpD (wv (negW (mD (valI a))) (limbsI (mD (valI a)))) (eD (valI a) (partEI a)) (wv (negW (mD (wv (negW (mD (valI b))) (limbsI (mD (valI b)))))) (limbsI (mD (wv (negW (mD (valI b))) (limbsI (mD (valI b))))))) (eD (wv (negW (mD (valI b))) (limbsI (mD (valI b)))) ((eD (valI b) (partEI b)) + (1 : Int))))) == false)) || ((((!((ltI (0 : Int) (cmpD (wv (negW (mD (valI a))) (limbsI (mD (valI a)))) (eD (valI a) (partEI a)) (wv (negW (mD (wv (negW (mD (valI b))) (limbsI (mD (valI b)))))) (limbsI (mD (wv (negW (mD (valI b))) (limbsI (mD (valI b))))))) (eD (wv (negW (mD (valI b))) (limbsI (mD (valI b)))) ((eD (valI b) (partEI b)) + (1 : Int))))) == false)) || ((ltI (0 : Int) (cmpD (wv (negW (mD (valI a))) (limbsI (mD (valI a)))) (eD (valI a) (partEI a)) (wv (negW (mD (wv (negW (mD (valI b))) (limbsI (mD (valI b)))))) (limbsI (mD (wv (negW (mD (valI b))) (limbsI (mD (valI b))))))) (eD (wv (negW (mD (valI b))) (limbsI (mD (valI b)))) ((eD (valI b) (partEI b)) + (1 : Int))))) == false)) && true) && ((okW (negW (mD (valI a))) (limbsI (mD (valI a))) && okE (eD (valI a) (partEI a))) && okE (1 : Int)))) && true) then
                                        bif (((!((ltI (0 : Int) (cmpD (wv (negW (mD (valI a))) (limbsI (mD (valI a)))) (eD (valI a) (partEI a)) (wv (negW (mD (wv (negW (mD (valI b))) (limbsI (mD (valI b)))))) (limbsI (mD (wv (negW (mD (valI b))) (limbsI (mD (valI b))))))) (eD (wv (negW (mD (valI b))) (limbsI (mD (valI b)))) ((eD (valI b) (partEI b)) + (1 : Int))))) == false)) || ((((!((ltI (0 : Int) (cmpD (wv (negW (mD (valI a))) (limbsI (mD (valI a)))) (eD (valI a) (partEI a)) (wv (negW (mD (wv (negW (mD (valI b))) (limbsI (mD (valI b)))))) (limbsI (mD (wv (negW (mD (valI b))) (limbsI (mD (valI b))))))) (eD (wv (negW (mD (valI b))) (limbsI (mD (valI b)))) ((eD (valI b) (partEI b)) + (1 : Int))))) == false)) || ((ltI (0 : Int) (cmpD (wv (negW (mD (valI a))) (limbsI (mD (valI a)))) (eD (valI a) (partEI a)) (wv (negW (mD (wv (negW (mD (valI b))) (limbsI (mD (valI b)))))) (limbsI (mD (wv (negW (mD (valI b))) (limbsI (mD (valI b))))))) (eD (wv (negW (mD (valI b))) (limbsI (mD (valI b)))) ((eD (valI b) (partEI b)) + (1 : Int))))) == false)) && (((!((ltI (0 : Int) (cmpD (wv (negW (mD (valI a))) (limbsI (mD (valI a)))) (eD (valI a) (partEI a)) (wv (negW (mD (wv (negW (mD (valI b))) (limbsI (mD (valI b)))))) (limbsI (mD (wv (negW (mD (valI b))) (limbsI (mD (valI b))))))) (eD (wv (negW (mD (valI b))) (limbsI (mD (valI b)))) ((eD (valI b) (partEI b)) + (1 : Int))))) == false)) || ((ltI (0 : Int) (cmpD (wv (negW (mD (valI a))) (limbsI (mD (valI a)))) (eD (valI a) (partEI a)) (wv (negW (mD (wv (negW (mD (valI b))) (limbsI (mD (valI b)))))) (limbsI (mD (wv (negW (mD (valI b))) (limbsI (mD (valI b))))))) (eD (wv (negW (mD (valI b))) (limbsI (mD (valI b)))) ((eD (valI b) (partEI b)) + (1 : Int))))) == false)) && true)) && (((okV (negW (mD (valI b))) (limbsI (mD (valI b))) && okV (negW (mD (wv (negW (mD (valI a))) (limbsI (mD (valI a)))))) (limbsI (mD (wv (negW (mD (valI a))) (limbsI (mD (valI a))))))) && okE (eD (valI b) (partEI b))) && okE (eD (wv (negW (mD (valI a))) (limbsI (mD (valI a)))) ((eD (valI a) (partEI a)) + (1 : Int)))))) && true) then
                                          bif (((!((ltI (0 : Int) (cmpD (wv (negW (mD (valI a))) (limbsI (mD (valI a)))) (eD (valI a) (partEI a)) (wv (negW (mD (wv (negW (mD (valI b))) (limbsI (mD (valI b)))))) (limbsI (mD (wv (negW (mD (valI b))) (limbsI (mD (valI b))))))) (eD (wv (negW (mD (valI b))) (limbsI (mD (valI b)))) ((eD (valI b) (partEI b)) + (1 : Int))))) == false)) || ((((!((ltI (0 : Int) (cmpD (wv (negW (mD (valI a))) (limbsI (mD (valI a)))) (eD (valI a) (partEI a)) (wv (negW (mD (wv (negW (mD (valI b))) (limbsI (mD (valI b)))))) (limbsI (mD (wv (negW (mD (valI b))) (limbsI (mD (valI b))))))) (eD (wv (negW (mD (valI b))) (limbsI (mD (valI b)))) ((eD (valI b) (partEI b)) + (1 : Int))))) == false)) || ((ltI (0 : Int) (cmpD (wv (negW (mD (valI a))) (limbsI (mD (valI a)))) (eD (valI a) (partEI a)) (wv (negW (mD (wv (negW (mD (valI b))) (limbsI (mD (valI b)))))) (limbsI (mD (wv (negW (mD (valI b))) (limbsI (mD (valI b))))))) (eD (wv (negW (mD (valI b))) (limbsI (mD (valI b)))) ((eD (valI b) (partEI b)) + (1 : Int))))) == false)) && true) && true)) && true) then
                                            bif (((!(!(ltI (0 : Int) (cmpD (wv (negW (mD (valI a))) (limbsI (mD (valI a)))) (eD (valI a) (partEI a)) (wv (negW (mD (wv (negW (mD (valI b))) (limbsI (mD (valI b)))))) (limbsI (mD (wv (negW (mD (valI b))) (limbsI (mD (valI b))))))) (eD (wv (negW (mD (valI b))) (limbsI (mD (valI b)))) ((eD (valI b) (partEI b)) + (1 : Int))))))) || ((ltI (0 : Int) (cmpD (wv (negW (mD (valI a))) (limbsI (mD (valI a)))) (eD (valI a) (partEI a)) (wv (negW (mD (wv (negW (mD (valI b))) (limbsI (mD (valI b)))))) (limbsI (mD (wv (negW (mD (valI b))) (limbsI (mD (valI b))))))) (eD (wv (negW (mD (valI b))) (limbsI (mD (valI b)))) ((eD (valI b) (partEI b)) + (1 : Int))))) == false)) && true) then
                                              bif (bif (ltI (0 : Int) (cmpD (wv (negW (mD (valI a))) (limbsI (mD (valI a)))) (eD (valI a) (partEI a)) (wv (negW (mD (wv (negW (mD (valI b))) (limbsI (mD (valI b)))))) (limbsI (mD (wv (negW (mD (valI b))) (limbsI (mD (valI b))))))) (eD (wv (negW (mD (valI b))) (limbsI (mD (valI b)))) ((eD (valI b) (partEI b)) + (1 : Int))))) then true else (ltI (0 : Int) (cmpD (wv (negW (mD (valI b))) (limbsI (mD (valI b)))) (eD (valI b) (partEI b)) (wv (negW (mD (wv (negW (mD (valI a))) (limbsI (mD (valI a)))))) (limbsI (mD (wv (negW (mD (valI a))) (limbsI (mD (valI a))))))) (eD (wv (negW (mD (valI a))) (limbsI (mD (valI a)))) ((eD (valI a) (partEI a)) + (1 : Int)))))) then
                                                some (.bool true)
                                              else bif (inU64 a && inU64 b) then
                                                bif ((!(((subFI a b) == (0 : Int)) == true)) || true) then
                                                  bif ((!(((subFI a b) == (0 : Int)) == true)) || ((((!(((subFI a b) == (0 : Int)) == true)) || (((subFI a b) == (0 : Int)) == true)) && true) && (inU64 (subBI a b)))) then
                                                    bif (((!((subFI a b) == (0 : Int))) || (((subFI a b) == (0 : Int)) == true)) && true) then
                                                      bif ((!((bif ((subFI a b) == (0 : Int)) then (finI (subBI a b)) else false) == true)) || true) then
                                                        bif ((!((bif ((subFI a b) == (0 : Int)) then (finI (subBI a b)) else false) == true)) || ((((!((bif ((subFI a b) == (0 : Int)) then (finI (subBI a b)) else false) == true)) || ((bif ((subFI a b) == (0 : Int)) then (finI (subBI a b)) else false) == true)) && true) && (inU64 (subBI a b)))) then
                                                          bif ((!((bif ((subFI a b) == (0 : Int)) then (finI (subBI a b)) else false) == true)) || true) then
                                                            bif ((!((bif ((subFI a b) == (0 : Int)) then (finI (subBI a b)) else false) == true)) || ((((!((bif ((subFI a b) == (0 : Int)) then (finI (subBI a b)) else false) == true)) || ((bif ((subFI a b) == (0 : Int)) then (finI (subBI a b)) else false) == true)) && true) && (inU64 a))) then
                                                              bif ((!((bif ((subFI a b) == (0 : Int)) then (finI (subBI a b)) else false) == true)) || true) then
                                                                bif ((!((bif ((subFI a b) == (0 : Int)) then (finI (subBI a b)) else false) == true)) || ((((!((bif ((subFI a b) == (0 : Int)) then (finI (subBI a b)) else false) == true)) || ((bif ((subFI a b) == (0 : Int)) then (finI (subBI a b)) else false) == true)) && true) && (inU64 b))) then
                                                                  bif ((!((bif ((subFI a b) == (0 : Int)) then (finI (subBI a b)) else false) == true)) || ((((!((bif ((subFI a b) == (0 : Int)) then (finI (subBI a b)) else false) == true)) || ((bif ((subFI a b) == (0 : Int)) then (finI (subBI a b)) else false) == true)) && (((!((bif ((subFI a b) == (0 : Int)) then (finI (subBI a b)) else false) == true)) || ((bif ((subFI a b) == (0 : Int)) then (finI (subBI a b)) else false) == true)) && true)) && (((okV (negW (mD (valI a))) (limbsI (mD (valI a))) && okV (negW (mD (valI b))) (limbsI (mD (valI b)))) && okE (eD (valI a) (partEI a))) && okE (eD (valI b) (partEI b))))) then
                                                                    bif ((!((bif ((subFI a b) == (0 : Int)) then (finI (subBI a b)) else false) == true)) || ((((!((bif ((subFI a b) == (0 : Int)) then (finI (subBI a b)) else false) == true)) || ((bif ((subFI a b) == (0 : Int)) then (finI (subBI a b)) else false) == true)) && (((!((bif ((subFI a b) == (0 : Int)) then (finI (subBI a b)) else false) == true)) || ((bif ((subFI a b) == (0 : Int)) then (finI (subBI a b)) else false) == true)) && true)) && (okW (negW (mD (valI (subBI a b)))) (limbsI (mD (valI (subBI a b)))) && okW (negW (addM (wv (negW (mD (valI a))) (limbsI (mD (valI a)))) (eD (valI a) (partEI a)) (- wv (negW (mD (valI b))) (limbsI (mD (valI b)))) (eD (valI b) (partEI b)))) (limbsI (addM (wv (negW (mD (valI a))) (limbsI (mD (valI a)))) (eD (valI a) (partEI a)) (- wv (negW (mD (valI b))) (limbsI (mD (valI b)))) (eD (valI b) (partEI b))))))) then
                                                                      bif (((!(bif ((subFI a b) == (0 : Int)) then (finI (subBI a b)) else false)) || ((bif ((subFI a b) == (0 : Int)) then (finI (subBI a b)) else false) == true)) && true) then
                                                                        bif ((!((bif (bif ((subFI a b) == (0 : Int)) then (finI (subBI a b)) else false) then (((decide ((eD (valI (subBI a b)) (partEI (subBI a b))) = (addE (wv (negW (mD (valI a))) (limbsI (mD (valI a)))) (eD (valI a) (partEI a)) (- wv (negW (mD (valI b))) (limbsI (mD (valI b)))) (eD (valI b) (partEI b))))) && sameI (wv (negW (mD (valI (subBI a b)))) (limbsI (mD (valI (subBI a b))))) (wv (negW (addM (wv (negW (mD (valI a))) (limbsI (mD (valI a)))) (eD (valI a) (partEI a)) (- wv (negW (mD (valI b))) (limbsI (mD (valI b)))) (eD (valI b) (partEI b)))) (limbsI (addM (wv (negW (mD (valI a))) (limbsI (mD (valI a)))) (eD (valI a) (partEI a)) (- wv (negW (mD (valI b))) (limbsI (mD (valI b)))) (eD (valI b) (partEI b))))))) else false) == true)) || true) then
                                                                          bif (((!(bif (bif ((subFI a b) == (0 : Int)) then (finI (subBI a b)) else false) then (((decide ((eD (valI (subBI a b)) (partEI (subBI a b))) = (addE (wv (negW (mD (valI a))) (limbsI (mD (valI a)))) (eD (valI a) (partEI a)) (- wv (negW (mD (valI b))) (limbsI (mD (valI b)))) (eD (valI b) (partEI b))))) && sameI (wv (negW (mD (valI (subBI a b)))) (limbsI (mD (valI (subBI a b))))) (wv (negW (addM (wv (negW (mD (valI a))) (limbsI (mD (valI a)))) (eD (valI a) (partEI a)) (- wv (negW (mD (valI b))) (limbsI (mD (valI b)))) (eD (valI b) (partEI b)))) (limbsI (addM (wv (negW (mD (valI a))) (limbsI (mD (valI a)))) (eD (valI a) (partEI a)) (- wv (negW (mD (valI b))) (limbsI (mD (valI b)))) (eD (valI b) (partEI b))))))) else false)) || ((bif (bif ((subFI a b) == (0 : Int)) then (finI (subBI a b)) else false) then (((decide ((eD (valI (subBI a b)) (partEI (subBI a b))) = (addE (wv (negW (mD (valI a))) (limbsI (mD (valI a)))) (eD (valI a) (partEI a)) (- wv (negW (mD (valI b))) (limbsI (mD (valI b)))) (eD (valI b) (partEI b))))) && sameI (wv (negW (mD (valI (subBI a b)))) (limbsI (mD (valI (subBI a b))))) (wv (negW (addM (wv (negW (mD (valI a))) (limbsI (mD (valI a)))) (eD (valI a) (partEI a)) (- wv (negW (mD (valI b))) (limbsI (mD (valI b)))) (eD (valI b) (partEI b)))) (limbsI (addM (wv (negW (mD (valI a))) (limbsI (mD (valI a)))) (eD (valI a) (partEI a)) (- wv (negW (mD (valI b))) (limbsI (mD (valI b)))) (eD (valI b) (partEI b))))))) else false) == true)) && true) then
                                                                            some (.bool (bif (bif (bif ((subFI a b) == (0 : Int)) then (finI (subBI a b)) else false) then (((decide ((eD (valI (subBI a b)) (partEI (subBI a b))) = (addE (wv (negW (mD (valI a))) (limbsI (mD (valI a)))) (eD (valI a) (partEI a)) (- wv (negW (mD (valI b))) (limbsI (mD (valI b)))) (eD (valI b) (partEI b))))) && sameI (wv (negW (mD (valI (subBI a b)))) (limbsI (mD (valI (subBI a b))))) (wv (negW (addM (wv (negW (mD (valI a))) (limbsI (mD (valI a)))) (eD (valI a) (partEI a)) (- wv (negW (mD (valI b))) (limbsI (mD (valI b)))) (eD (valI b) (partEI b)))) (limbsI (addM (wv (negW (mD (valI a))) (limbsI (mD (valI a)))) (eD (valI a) (partEI a)) (- wv (negW (mD (valI b))) (limbsI (mD (valI b)))) (eD (valI b) (partEI b))))))) else false) then true else false))
                                                                          else none
                                                                        else none
                                                                      else none
                                                                    else none
                                                                  else none
                                                                else none
                                                              else none
                                                            else none
                                                          else none
                                                        else none
                                                      else none
                                                    else none
                                                  else none
                                                else none
                                              else none
                                            else none
                                          else none
                                        else none
                                      else none
                                    else none
                                  else none
                                else none
                              else none
                            else none
                          else none
                        else none
                      else none
                    else none
                  else none
                else none
              else none
            else none
          else none
        else none
      else none
    else none
  else none) (by kernel_rfl)
  (ifE (ifT (tt24 _) (ifS (tt23 _ _) (ifT (tt22 _) (ifT (tt21 _) (ifT (tt20 _ _) (ifS (tt19 _ _ _) (ifT (tt20 _ _) (ifS (tt19 _ _ _) (ifT (tt18 _ _) (ifT (tt17 _ _) (ifS (tt16 _ _ _ _) rfl (ifE (ifE (ifE (ifE (ifE (ifE (ifS (tt15 _) (ifS (tt15 _) (ifT (tt14 _) (ifT (tt14 _) (ifS (tt13 _ _) (ifS (tt12 _ _) (ifT (tt11 _) (ifT (tt10 _) (ifS (tt9 _ _) rfl (ifE (ifT (tt8 _) (ifS (tt7 _ _) (ifT (tt6 _) (ifT (tt5 _ _) (ifS (tt4 _ _ _) (ifT (tt5 _ _) (ifS (tt4 _ _ _) (ifT (tt5 _ _) (ifS (tt4 _ _ _) (ifS (tt3 _ _ _) (ifS (tt3 _ _ _) (ifT (tt2 _ _) (ifT (tt1 _ _ _) (ifT (tt0 _ _ _) rfl))) rfl) rfl) rfl)) rfl)) rfl))) rfl)) rfl)))) rfl) rfl))) rfl) rfl) rfl) rfl) (ifS (tt15 _) (ifS (tt15 _) (ifT (tt14 _) (ifT (tt14 _) (ifS (tt13 _ _) (ifS (tt12 _ _) (ifT (tt11 _) (ifT (tt10 _) (ifS (tt9 _ _) rfl (ifE (ifT (tt8 _) (ifS (tt7 _ _) (ifT (tt6 _) (ifT (tt5 _ _) (ifS (tt4 _ _ _) (ifT (tt5 _ _) (ifS (tt4 _ _ _) (ifT (tt5 _ _) (ifS (tt4 _ _ _) (ifS (tt3 _ _ _) (ifS (tt3 _ _ _) (ifT (tt2 _ _) (ifT (tt1 _ _ _) (ifT (tt0 _ _ _) rfl))) rfl) rfl) rfl)) rfl)) rfl))) rfl)) rfl)))) rfl) rfl))) rfl) rfl)) rfl) rfl) rfl)))) rfl)) rfl)))) rfl)) rfl)
theorem law05.SumExact.known_of (hk : Knowns Try.prog law05.SumExact.tab) (h : ∀ (a : Int) (b : Int), law05.SumExact.pre [.i a, .i b] = true → ∃ N dv drops, funD law05.SumExact.E N Try.f6 (bodyOf Try.f6) [.int .u64 a, .int .u64 b] = some dv ∧ Wk drops dv (law05.SumExact.out [.i a, .i b])) : Known Try.prog 6 law05.SumExact.spec := by
  refine ⟨meets_entry (E := law05.SumExact.E) (env_ok hk _ _ _) Try.func6 (show Try.f6.body = some (bodyOf Try.f6) by kernel_rfl) fun ats dvs he hp => ?_, call_enter Try.func6 (by kernel_rfl) (show Try.f6.body = some (bodyOf Try.f6) by kernel_rfl)⟩
  obtain ⟨a, _, _, rfl, rfl, he0⟩ := he.i_inv
  obtain ⟨b, _, _, rfl, rfl, he1⟩ := he0.i_inv
  obtain ⟨rfl, rfl⟩ := he1.nil_inv
  exact h a b hp
end EqLaw05E
end Go.Proofs.S1

/- SumExact: the difference of two near numbers of one sign. -/
namespace Go.Proofs.S1
open Go Go.Den Go.Rnd Go.Proofs
open EqLaw05E

theorem sgn_cond (s : Bool) (x y : Nat) : (0 < cmpZ (bif s then -(sgn s x) else sgn s x) (bif s then -(2 * sgn s y) else 2 * sgn s y)) ↔ 2 * y < x := by
  unfold cmpZ sgn
  cases s
  · simp only [cond_false, Bool.false_eq_true, if_false]
    split
    · omega
    · split <;> omega
  · simp only [cond_true, if_true]
    split
    · omega
    · split <;> omega

theorem cmp_mags {a b : Nat} (hs : negN a = negN b) :
    (0 < cmpZ (bif negN b then -(valAt a (-1074)) else valAt a (-1074)) (bif negN b then -(2 * valAt b (-1074)) else 2 * valAt b (-1074))) ↔ 2 * (valAt b (-1074)).natAbs < (valAt a (-1074)).natAbs := by
  unfold valAt
  rw [hs, sgn_abs, sgn_abs]
  exact sgn_cond _ _ _

theorem law05.SumExact.known : Known Try.prog 6 law05.SumExact.spec := law05.SumExact.known_of (.cons law05.awake.known (.cons sum.Sub.known (.cons ref04.Finite.known (.cons ref04.Neg.known (.cons ref04.Value.known (.cons ref02.Neg.known (.cons ref02.Compare.known (.cons ref02.Scale.known (.cons ref02.Same.known (.cons ref02.Sub.known .nil)))))))))) fun a b hp => by
  obtain ⟨ha, hb⟩ := and_true_iff.1 hp
  obtain ⟨a, rfl, hn⟩ := inU64_nat ha
  obtain ⟨b, rfl, hm⟩ := inU64_nat hb
  refine ⟨0, law05.SumExact.out [.i a, .i b], [], ?_, .bool⟩
  show _ = some (DV.bool true)
  have fa : finI (a : Int) = finN a := rfl
  have fb : finI (b : Int) = finN b := rfl
  have na : negI (a : Int) = negN a := rfl
  have nb : negI (b : Int) = negN b := rfl
  have pa : partEI (a : Int) = partE a := rfl
  have pb : partEI (b : Int) = partE b := rfl
  rw [law05.SumExact.ev, ha, hb, fa, fb, na, nb, pa, pb]
  simp only [Bool.or_true, cond_true, wv_of]
  by_cases hc : finN a = true ∧ finN b = true ∧ negN a = negN b
  · obtain ⟨h1, h2, h3⟩ := hc
    have c0 : (!(finN a) || !(finN b) || !(negN a == negN b)) = false := by rw [h1, h2, h3]; simp
    have ea := partE_le a
    have eb := partE_le b
    obtain ⟨v1, v2, v3⟩ := val_ok a
    obtain ⟨w1, w2, w3⟩ := val_ok b
    have m1 := lenN_mono (mD_abs_le (valI (a : Int)))
    have m2 := lenN_mono (mD_abs_le (valI (b : Int)))
    have m3 := lenN_mono (mD_abs_le (mD (valI (a : Int))))
    have m4 := lenN_mono (mD_abs_le (mD (valI (b : Int))))
    have m5 := lenN_mono (mD_abs_le (-(mD (valI (a : Int)))))
    have m6 := lenN_mono (mD_abs_le (-(mD (valI (b : Int)))))
    rw [Int.natAbs_neg] at m5 m6
    have tz : ∀ (v e : Int), lenN v.natAbs < 3 → -300000 ≤ e → e ≤ 300000 → -400000 ≤ eD v e ∧ eD v e ≤ 400000 := fun v e hv h1 h2 => by
      unfold eD
      by_cases h : v = 0
      · rw [if_pos h]; omega
      · rw [if_neg h]
        have l1 := tz_lt (n := v.natAbs) (by omega)
        have l2 := log2_lenN (n := v.natAbs)
        omega
    have k1 := tz (valI (a : Int)) (partE a) (by omega) (by omega) (by omega)
    have k2 := tz (valI (b : Int)) (partE b) (by omega) (by omega) (by omega)
    have q1 : -300000 ≤ eD (valI (a : Int)) (partE a) + 1 ∧ eD (valI (a : Int)) (partE a) + 1 ≤ 300000 := by
      unfold eD
      by_cases h : valI (a : Int) = 0
      · rw [if_pos h]; omega
      · rw [if_neg h]
        have l1 := tz_lt (n := (valI (a : Int)).natAbs) (by omega)
        have l2 := log2_lenN (n := (valI (a : Int)).natAbs)
        omega
    have q2 : -300000 ≤ eD (valI (b : Int)) (partE b) + 1 ∧ eD (valI (b : Int)) (partE b) + 1 ≤ 300000 := by
      unfold eD
      by_cases h : valI (b : Int) = 0
      · rw [if_pos h]; omega
      · rw [if_neg h]
        have l1 := tz_lt (n := (valI (b : Int)).natAbs) (by omega)
        have l2 := log2_lenN (n := (valI (b : Int)).natAbs)
        omega
    have k3 := tz (mD (valI (a : Int))) (eD (valI (a : Int)) (partE a) + 1) (by omega) q1.1 q1.2
    have k4 := tz (mD (valI (b : Int))) (eD (valI (b : Int)) (partE b) + 1) (by omega) q2.1 q2.2
    have k5 := tz (-(mD (valI (a : Int)))) (eD (valI (a : Int)) (partE a) + 1) (by rw [Int.natAbs_neg]; omega) q1.1 q1.2
    have k6 := tz (-(mD (valI (b : Int)))) (eD (valI (b : Int)) (partE b) + 1) (by rw [Int.natAbs_neg]; omega) q2.1 q2.2
    -- what each call asks for
    have o1 : okW (negW (mD (valI (a : Int)))) (limbsI (mD (valI (a : Int)))) = true := okW_of (by omega)
    have o2 : okW (negW (mD (valI (b : Int)))) (limbsI (mD (valI (b : Int)))) = true := okW_of (by omega)
    have o3 : okV (negW (mD (valI (a : Int)))) (limbsI (mD (valI (a : Int)))) = true := okV_of (by omega)
    have o4 : okV (negW (mD (valI (b : Int)))) (limbsI (mD (valI (b : Int)))) = true := okV_of (by omega)
    have o5 : okW (negW (-(mD (valI (a : Int))))) (limbsI (-(mD (valI (a : Int))))) = true := okW_of (by rw [Int.natAbs_neg]; omega)
    have o6 : okW (negW (-(mD (valI (b : Int))))) (limbsI (-(mD (valI (b : Int))))) = true := okW_of (by rw [Int.natAbs_neg]; omega)
    have o7 : okV (negW (-(mD (valI (a : Int))))) (limbsI (-(mD (valI (a : Int))))) = true := okV_of (by rw [Int.natAbs_neg]; omega)
    have o8 : okV (negW (-(mD (valI (b : Int))))) (limbsI (-(mD (valI (b : Int))))) = true := okV_of (by rw [Int.natAbs_neg]; omega)
    have o9 : okV (negW (mD (mD (valI (a : Int))))) (limbsI (mD (mD (valI (a : Int))))) = true := okV_of (by omega)
    have o10 : okV (negW (mD (mD (valI (b : Int))))) (limbsI (mD (mD (valI (b : Int))))) = true := okV_of (by omega)
    have o11 : okV (negW (mD (-(mD (valI (a : Int)))))) (limbsI (mD (-(mD (valI (a : Int)))))) = true := okV_of (by omega)
    have o12 : okV (negW (mD (-(mD (valI (b : Int)))))) (limbsI (mD (-(mD (valI (b : Int)))))) = true := okV_of (by omega)
    have p1 : okE (eD (valI (a : Int)) (partE a)) = true := cdec_eq.2 k1
    have p2 : okE (eD (valI (b : Int)) (partE b)) = true := cdec_eq.2 k2
    have p3 : okE (1 : Int) = true := cdec_eq.2 (by omega)
    have p4 : okE (eD (mD (valI (a : Int))) (eD (valI (a : Int)) (partE a) + 1)) = true := cdec_eq.2 k3
    have p5 : okE (eD (mD (valI (b : Int))) (eD (valI (b : Int)) (partE b) + 1)) = true := cdec_eq.2 k4
    have p6 : okE (eD (-(mD (valI (a : Int)))) (eD (valI (a : Int)) (partE a) + 1)) = true := cdec_eq.2 k5
    have p7 : okE (eD (-(mD (valI (b : Int)))) (eD (valI (b : Int)) (partE b) + 1)) = true := cdec_eq.2 k6
    have t1 := cmp_twice (v := valI (a : Int)) (w := valI (b : Int)) (e := partE a) (f := partE b) (by omega) (by omega)
    have t2 := cmp_twice (v := valI (b : Int)) (w := valI (a : Int)) (e := partE b) (f := partE a) (by omega) (by omega)
    have t3 := cmp_twice' (v := valI (a : Int)) (w := valI (b : Int)) (e := partE a) (f := partE b) (by omega) (by omega)
    have t4 := cmp_twice' (v := valI (b : Int)) (w := valI (a : Int)) (e := partE b) (f := partE a) (by omega) (by omega)
    rw [← val_at, ← val_at] at t1 t2 t3 t4
    have g1 := cmp_mags (a := a) (b := b) h3
    have g2 := cmp_mags (a := b) (b := a) h3.symm
    rw [h3] at g2
    rw [c0, cond_false, o1, o2, o3, o4, o5, o6, o7, o8, o9, o10, o11, o12, p1, p2, p3, p4, p5, p6, p7, t1, t2, t3, t4, h3]
    simp only [Bool.and_self, Bool.or_true, cond_true]
    -- the end, where neither is more than twice the other one
    have fin : ¬ (2 * (valAt b (-1074)).natAbs < (valAt a (-1074)).natAbs) → ¬ (2 * (valAt a (-1074)).natAbs < (valAt b (-1074)).natAbs) →
        subFI (a : Int) (b : Int) = 0 ∧ finI (subBI (a : Int) (b : Int)) = true ∧ inU64 (subBI (a : Int) (b : Int)) = true ∧
        okW (negW (mD (valI (subBI (a : Int) (b : Int))))) (limbsI (mD (valI (subBI (a : Int) (b : Int))))) = true ∧
        okW (negW (addM (mD (valI (a : Int))) (eD (valI (a : Int)) (partE a)) (-(mD (valI (b : Int)))) (eD (valI (b : Int)) (partE b)))) (limbsI (addM (mD (valI (a : Int))) (eD (valI (a : Int)) (partE a)) (-(mD (valI (b : Int)))) (eD (valI (b : Int)) (partE b)))) = true ∧
        eD (valI (subBI (a : Int) (b : Int))) (partEI (subBI (a : Int) (b : Int))) = addE (mD (valI (a : Int))) (eD (valI (a : Int)) (partE a)) (-(mD (valI (b : Int)))) (eD (valI (b : Int)) (partE b)) ∧
        mD (valI (subBI (a : Int) (b : Int))) = addM (mD (valI (a : Int))) (eD (valI (a : Int)) (partE a)) (-(mD (valI (b : Int)))) (eD (valI (b : Int)) (partE b)) := fun n1 n2 => by
      obtain ⟨d1, d2, d3⟩ := near_diff hm h1 h2 h3 (by omega) (by omega)
      have dl := (addN_lt hn (minusN_lt hm)).1
      have e1 : subFI (a : Int) (b : Int) = (((subN a b).2 : Nat) : Int) := rfl
      have e2 : subBI (a : Int) (b : Int) = (((subN a b).1 : Nat) : Int) := rfl
      have hd : (subN a b).1 < 2 ^ 64 := dl
      rw [e1, e2, d1]
      generalize (subN a b).1 = d at *
      have ed := partE_le d
      obtain ⟨x1, _, _⟩ := val_ok d
      have m7 := lenN_mono (mD_abs_le (valI (d : Int)))
      have i1 := eD_ge' (v := valI (a : Int)) (e := partE a) (g := -1074) (by omega) (by decide)
      have i2 := eD_ge' (v := valI (b : Int)) (e := partE b) (g := -1074) (by omega) (by decide)
      have hS := addS_vAt (v := mD (valI (a : Int))) (w := -(mD (valI (b : Int)))) i1 i2
      have hl := le_low (v := mD (valI (a : Int))) (w := -(mD (valI (b : Int)))) i1 i2
      rw [vAt_neg, vAt_odd (by omega), vAt_odd (by omega), ← val_at, ← val_at, ← Int.sub_eq_add_neg, ← d3, val_at] at hS
      obtain ⟨j1, j2⟩ := same_odd hl ed.1 hS
      have ew : partEI (d : Int) = partE d := rfl
      refine ⟨rfl, d2, inU64_of hd, okW_of (by omega), ?_, ?_, ?_⟩
      · unfold addM
        rw [j1]
        exact okW_of (by omega)
      · rw [ew, ← j2]; rfl
      · rw [← j1]; rfl
    cases hb1 : negN b with
    | true =>
      rw [hb1, cond_true, cond_true] at g1 g2
      rw [cond_true, ltI_eq, ltI_eq]
      by_cases big : 2 * (valAt b (-1074)).natAbs < (valAt a (-1074)).natAbs ∨ 2 * (valAt a (-1074)).natAbs < (valAt b (-1074)).natAbs
      · have c1 : (decide (0 < cmpZ (-valAt a (-1074)) (-(2 * valAt b (-1074)))) || decide (0 < cmpZ (-valAt b (-1074)) (-(2 * valAt a (-1074))))) = true := by
          rw [Bool.or_eq_true, decide_eq_true_eq, decide_eq_true_eq, g1, g2]; exact big
        rw [c1]; rfl
      · have c1 : (decide (0 < cmpZ (-valAt a (-1074)) (-(2 * valAt b (-1074)))) || decide (0 < cmpZ (-valAt b (-1074)) (-(2 * valAt a (-1074))))) = false := by
          rw [Bool.or_eq_false_iff, decide_eq_false_iff_not, decide_eq_false_iff_not, g1, g2]; omega
        obtain ⟨f1, f2, f3, f4, f5, f6, f7⟩ := fin (by omega) (by omega)
        rw [c1, cond_false, f3, f4, f5, f1, f2, f6, f7]
        unfold sameI
        simp only [Bool.and_self, Bool.or_true, cond_true, BEq.rfl, decide_true]
    | false =>
      rw [hb1, cond_false, cond_false] at g1 g2
      rw [cond_false, ltI_eq, ltI_eq]
      by_cases big : 2 * (valAt b (-1074)).natAbs < (valAt a (-1074)).natAbs ∨ 2 * (valAt a (-1074)).natAbs < (valAt b (-1074)).natAbs
      · have c1 : (decide (0 < cmpZ (valAt a (-1074)) (2 * valAt b (-1074))) || decide (0 < cmpZ (valAt b (-1074)) (2 * valAt a (-1074)))) = true := by
          rw [Bool.or_eq_true, decide_eq_true_eq, decide_eq_true_eq, g1, g2]; exact big
        rw [c1]; rfl
      · have c1 : (decide (0 < cmpZ (valAt a (-1074)) (2 * valAt b (-1074))) || decide (0 < cmpZ (valAt b (-1074)) (2 * valAt a (-1074)))) = false := by
          rw [Bool.or_eq_false_iff, decide_eq_false_iff_not, decide_eq_false_iff_not, g1, g2]; omega
        obtain ⟨f1, f2, f3, f4, f5, f6, f7⟩ := fin (by omega) (by omega)
        rw [c1, cond_false, f3, f4, f5, f1, f2, f6, f7]
        unfold sameI
        simp only [Bool.and_self, Bool.or_true, cond_true, BEq.rfl, decide_true]
  · have c0 : (!(finN a) || !(finN b) || !(negN a == negN b)) = true := by
      cases h1 : finN a
      · rfl
      · cases h2 : finN b
        · rfl
        · cases h3 : (negN a == negN b)
          · rfl
          · exact absurd ⟨h1, h2, by simpa using h3⟩ hc
    rw [c0]; rfl

end Go.Proofs.S1
