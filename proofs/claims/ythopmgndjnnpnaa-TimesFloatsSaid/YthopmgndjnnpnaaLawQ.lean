/- LawQ of the verified evaluator and its use for this seat (of my texts S1EqLaw06F, S1PLaw06F). -/
import Derived.Test.YthopmgndjnnpnaaSpe
import Derived.Test.YthopmgndjnnpnaaLawM
import Derived.Test.YthopmgndjnnpnaaLawF

/- The evaluator's equations: dioptralaw06.float, dioptralaw06.TimesFloats. Printed by denpy.py. -/
namespace Go.Proofs.S1
open Go Go.Den Go.Rnd Go.Proofs
set_option linter.unusedVariables false
set_option maxRecDepth 100000
namespace EqLaw06F
theorem tt0 (a b : Bool) : (((!(bif a then b else false)) || ((bif a then b else false) == true)) && true) = true := by cases a <;> cases b <;> rfl
theorem tt1 (a b : Bool) : ((!((bif a then b else false) == true)) || true) = true := by cases a <;> cases b <;> rfl
theorem tt2 (a : Bool) : (((!a) || (a == true)) && true) = true := by cases a <;> rfl
theorem tt3 (a : Bool) : ((!(a == true)) || ((((!(a == true)) || (a == true)) && (((!(a == true)) || (a == true)) && true)) && true)) = true := by cases a <;> rfl
theorem tt4 (a : Bool) : ((!(a == true)) || ((((!(a == true)) || (a == true)) && true) && true)) = true := by cases a <;> rfl
theorem tt5 (a : Bool) : ((!(a == true)) || true) = true := by cases a <;> rfl
noncomputable def law06.float.tab : List (Nat × Entry) := []
noncomputable def law06.float.E : Env := envOf (tabOf law06.float.tab) (fun _ => false) (fun _ => none) (fun _ => none)
theorem law06.float.ev (N : Nat) (x : Int) : funD law06.float.E N Try.f44 (bodyOf Try.f44) [.int .u64 x] =
  bif (decide (0 ≤ x)) then
    some (.fl (Int.toNat x))
  else none := by kernel_rfl
theorem law06.float.known_of (hk : Knowns Try.prog law06.float.tab) (h : ∀ (x : Int), law06.float.pre [.i x] = true → ∃ N dv drops, funD law06.float.E N Try.f44 (bodyOf Try.f44) [.int .u64 x] = some dv ∧ Wk drops dv (law06.float.out [.i x])) : Known Try.prog 44 law06.float.spec := by
  refine ⟨meets_entry (E := law06.float.E) (env_ok hk _ _ _) Try.func44 (show Try.f44.body = some (bodyOf Try.f44) by kernel_rfl) fun ats dvs he hp => ?_, call_enter Try.func44 (by kernel_rfl) (show Try.f44.body = some (bodyOf Try.f44) by kernel_rfl)⟩
  obtain ⟨x, _, _, rfl, rfl, he0⟩ := he.i_inv
  obtain ⟨rfl, rfl⟩ := he0.nil_inv
  exact h x hp

noncomputable def law06.TimesFloats.tab : List (Nat × Entry) := [(30, ref05.Canon.nb.spec), (34, times.Div.spec), (36, law06.awake.spec), (37, times.Mul.spec), (44, law06.float.spec)]
noncomputable def law06.TimesFloats.E : Env := envOf (tabOf law06.TimesFloats.tab) (fun _ => false) (fun _ => none) (fun _ => none)
theorem law06.TimesFloats.ev (N : Nat) (a : Int) (b : Int) : funD law06.TimesFloats.E N Try.f15 (bodyOf Try.f15) [.int .u64 a, .int .u64 b] =
  bif (inU64 a && inU64 b) then
    bif (inU64 a && inU64 b) then
      bif (inU64 a) then
        bif (inU64 b) then
          bif (inU64 a) then
            bif (inU64 b) then
              some (.bool (bif (bif ((mulBI a b) == (canonNI ((Ieee.double.mul (Int.toNat a) (Int.toNat b)).getD nanBits))) then ((divBI a b) == (canonNI ((Ieee.double.div (Int.toNat a) (Int.toNat b)).getD nanBits))) else false) then true else false))
            else none
          else none
        else none
      else none
    else none
  else none :=
  Eq.trans (b := bif (inU64 a && inU64 b) then
    bif (inU64 a && inU64 b) then
      bif (inU64 a) then
        bif (inU64 b) then
          bif (inU64 a) then
            bif (inU64 b) then
              bif ((!(((mulBI a b) == (canonNI ((Ieee.double.mul (Int.toNat a) (Int.toNat b)).getD nanBits))) == true)) || true) then
                bif ((!(((mulBI a b) == (canonNI ((Ieee.double.mul (Int.toNat a) (Int.toNat b)).getD nanBits))) == true)) || true) then
                  bif ((!(((mulBI a b) == (canonNI ((Ieee.double.mul (Int.toNat a) (Int.toNat b)).getD nanBits))) == true)) || ((((!(((mulBI a b) == (canonNI ((Ieee.double.mul (Int.toNat a) (Int.toNat b)).getD nanBits))) == true)) || (((mulBI a b) == (canonNI ((Ieee.double.mul (Int.toNat a) (Int.toNat b)).getD nanBits))) == true)) && true) && true)) then
                    bif ((!(((mulBI a b) == (canonNI ((Ieee.double.mul (Int.toNat a) (Int.toNat b)).getD nanBits))) == true)) || ((((!(((mulBI a b) == (canonNI ((Ieee.double.mul (Int.toNat a) (Int.toNat b)).getD nanBits))) == true)) || (((mulBI a b) == (canonNI ((Ieee.double.mul (Int.toNat a) (Int.toNat b)).getD nanBits))) == true)) && true) && true)) then
                      bif ((!(((mulBI a b) == (canonNI ((Ieee.double.mul (Int.toNat a) (Int.toNat b)).getD nanBits))) == true)) || ((((!(((mulBI a b) == (canonNI ((Ieee.double.mul (Int.toNat a) (Int.toNat b)).getD nanBits))) == true)) || (((mulBI a b) == (canonNI ((Ieee.double.mul (Int.toNat a) (Int.toNat b)).getD nanBits))) == true)) && (((!(((mulBI a b) == (canonNI ((Ieee.double.mul (Int.toNat a) (Int.toNat b)).getD nanBits))) == true)) || (((mulBI a b) == (canonNI ((Ieee.double.mul (Int.toNat a) (Int.toNat b)).getD nanBits))) == true)) && true)) && true)) then
                        bif (((!((mulBI a b) == (canonNI ((Ieee.double.mul (Int.toNat a) (Int.toNat b)).getD nanBits)))) || (((mulBI a b) == (canonNI ((Ieee.double.mul (Int.toNat a) (Int.toNat b)).getD nanBits))) == true)) && true) then
                          bif ((!((bif ((mulBI a b) == (canonNI ((Ieee.double.mul (Int.toNat a) (Int.toNat b)).getD nanBits))) then ((divBI a b) == (canonNI ((Ieee.double.div (Int.toNat a) (Int.toNat b)).getD nanBits))) else false) == true)) || true) then
                            bif (((!(bif ((mulBI a b) == (canonNI ((Ieee.double.mul (Int.toNat a) (Int.toNat b)).getD nanBits))) then ((divBI a b) == (canonNI ((Ieee.double.div (Int.toNat a) (Int.toNat b)).getD nanBits))) else false)) || ((bif ((mulBI a b) == (canonNI ((Ieee.double.mul (Int.toNat a) (Int.toNat b)).getD nanBits))) then ((divBI a b) == (canonNI ((Ieee.double.div (Int.toNat a) (Int.toNat b)).getD nanBits))) else false) == true)) && true) then
                              some (.bool (bif (bif ((mulBI a b) == (canonNI ((Ieee.double.mul (Int.toNat a) (Int.toNat b)).getD nanBits))) then ((divBI a b) == (canonNI ((Ieee.double.div (Int.toNat a) (Int.toNat b)).getD nanBits))) else false) then true else false))
                            else none
                          else none
                        else none
                      else none
                    else none
                  else none
                else none
              else none
            else none
          else none
        else none
      else none
    else none
  else none) (by kernel_rfl)
  (ifE (ifE (ifE (ifE (ifE (ifE (ifT (tt5 _) (ifT (tt5 _) (ifT (tt4 _) (ifT (tt4 _) (ifT (tt3 _) (ifT (tt2 _) (ifT (tt1 _ _) (ifT (tt0 _ _) rfl)))))))) rfl) rfl) rfl) rfl) rfl) rfl)
theorem law06.TimesFloats.known_of (hk : Knowns Try.prog law06.TimesFloats.tab) (h : ∀ (a : Int) (b : Int), law06.TimesFloats.pre [.i a, .i b] = true → ∃ N dv drops, funD law06.TimesFloats.E N Try.f15 (bodyOf Try.f15) [.int .u64 a, .int .u64 b] = some dv ∧ Wk drops dv (law06.TimesFloats.out [.i a, .i b])) : Known Try.prog 15 law06.TimesFloats.spec := by
  refine ⟨meets_entry (E := law06.TimesFloats.E) (env_ok hk _ _ _) Try.func15 (show Try.f15.body = some (bodyOf Try.f15) by kernel_rfl) fun ats dvs he hp => ?_, call_enter Try.func15 (by kernel_rfl) (show Try.f15.body = some (bodyOf Try.f15) by kernel_rfl)⟩
  obtain ⟨a, _, _, rfl, rfl, he0⟩ := he.i_inv
  obtain ⟨b, _, _, rfl, rfl, he1⟩ := he0.i_inv
  obtain ⟨rfl, rfl⟩ := he1.nil_inv
  exact h a b hp
end EqLaw06F
end Go.Proofs.S1

/- TimesFloats: product and quotient are what Go's own float64 says. -/
namespace Go.Proofs.S1
open Go Go.Den Go.Rnd Go.Proofs Ieee
open EqLaw06F

theorem num_zero {b : Nat} (h3 : kindN b ≠ 3) (h4 : kindN b ≠ 4) : partM b = 0 ↔ kindN b = 0 :=
  ⟨fun h => by
    by_cases h0 : kindN b = 0
    · exact h0
    · exact absurd h (partM_pos h0 h3 h4), partM_nil⟩

theorem canon_inf (s : Bool) : canonN (signN s infR) = signN s infR := canon_sign s (Nat.le_refl _)

theorem mul_ieee {a b : Nat} (ha : a < 2 ^ 64) (hb : b < 2 ^ 64) {d : Nat} (hd : kindN d = 4) : canonN ((Ieee.double.mul a b).getD d) = (mulN a b).1 := by
  have cd : canonN d = NaN := if_pos hd
  have ex : ∀ s t : Bool, (s ^^ t) = (s != t) := fun s t => by cases s <;> cases t <;> rfl
  unfold Format.mul
  rw [read_eq ha, read_eq hb]
  unfold mulN
  by_cases a4 : kindN a = 4
  · rw [if_pos (.inl a4), readN_nan a4]; exact cd
  · by_cases b4 : kindN b = 4
    · rw [if_pos (.inr b4), readN_nan b4]
      by_cases a3 : kindN a = 3
      · rw [readN_inf a3]; exact cd
      · rw [readN_num a3 a4]; exact cd
    · rw [if_neg (fun h => h.elim a4 b4)]
      by_cases a3 : kindN a = 3
      · rw [if_pos (.inl a3), readN_inf a3]
        by_cases b3 : kindN b = 3
        · rw [readN_inf b3, if_neg (by omega)]
          show canonN (signN (negN a ^^ negN b) infR) = _
          rw [canon_inf, ex]
        · rw [readN_num b3 b4]
          have z := num_zero b3 b4
          by_cases b0 : kindN b = 0
          · have e : (Datum.infinity (negN a)).product (.number (negN b) (partM b) (partE b)) = none := if_pos (z.2 b0)
            rw [e, if_pos (.inr b0)]; exact cd
          · have e : (Datum.infinity (negN a)).product (.number (negN b) (partM b) (partE b)) = some (.infinity (negN a ^^ negN b)) := if_neg (fun k => b0 (z.1 k))
            rw [e, if_neg (by omega)]
            show canonN (signN (negN a ^^ negN b) infR) = _
            rw [canon_inf, ex]
      · rw [readN_num a3 a4]
        have z := num_zero a3 a4
        by_cases b3 : kindN b = 3
        · rw [if_pos (.inr b3), readN_inf b3]
          have sw : ∀ s t : Bool, (t ^^ s) = (s != t) := fun s t => by cases s <;> cases t <;> rfl
          by_cases a0 : kindN a = 0
          · have e : (Datum.number (negN a) (partM a) (partE a)).product (.infinity (negN b)) = none := if_pos (z.2 a0)
            rw [e, if_pos (.inl a0)]; exact cd
          · have e : (Datum.number (negN a) (partM a) (partE a)).product (.infinity (negN b)) = some (.infinity (negN b ^^ negN a)) := if_neg (fun k => a0 (z.1 k))
            rw [e, if_neg (by omega)]
            show canonN (signN (negN b ^^ negN a) infR) = _
            rw [canon_inf, sw]
        · rw [readN_num b3 b4, if_neg (by omega)]
          show canonN (Ieee.double.write (.number (negN a ^^ negN b) (partM a * partM b) (partE a + partE b))) = _
          rw [write_num, canon_sign _ (rung_le _ _), ex]

theorem quo_ieee {m n : Nat} (hm : m ≠ 0) (hn : n ≠ 0) (lm : m < 2 ^ 53) (ln : n < 2 ^ 53) (i j : Int) :
    rung (stick m n (54 + n.log2 - m.log2)) (i - j - ((54 + n.log2 - m.log2 : Nat) : Int) - 1) = rung (stick m n 120) (i - j - 121) := by
  have l1 := (Nat.log2_lt hm).2 lm
  have a1 := Nat.log2_self_le hm
  have a2 := Nat.lt_log2_self (n := n)
  have g1 : 2 ^ 53 ≤ m * 2 ^ (54 + n.log2 - m.log2) / n := by
    rw [Nat.le_div_iff_mul_le (by omega)]
    have h1 : 2 ^ m.log2 * 2 ^ (54 + n.log2 - m.log2) ≤ m * 2 ^ (54 + n.log2 - m.log2) := Nat.mul_le_mul_right _ a1
    have h2 : 2 ^ m.log2 * 2 ^ (54 + n.log2 - m.log2) = 2 ^ 53 * 2 ^ (n.log2 + 1) := by
      rw [← Nat.pow_add, ← Nat.pow_add]
      congr 1
      omega
    have h3 : 2 ^ 53 * n ≤ 2 ^ 53 * 2 ^ (n.log2 + 1) := Nat.mul_le_mul_left _ (by omega)
    omega
  have g2 : 2 ^ 53 ≤ m * 2 ^ 120 / n := quo_ge (t := 53) (by omega) (by omega) ln (by omega)
  exact (stick_same (by omega) g1 g2 (by omega)).1

theorem quo_num (s t : Bool) (m : Nat) (i : Int) (n : Nat) (j : Int) (hn : n ≠ 0) : (Datum.number s m i).quotient 54 (.number t n j) =
    some (.number (s ^^ t) (stick m n (54 + n.log2 - m.log2)) (i - j - ((54 + n.log2 - m.log2 : Nat) : Int) - 1)) := by
  have e : (Datum.number s m i).quotient 54 (.number t n j) = some (.number (s ^^ t) (2 * (m <<< (54 + n.log2 - m.log2) / n) + (m <<< (54 + n.log2 - m.log2) % n != 0).toNat) (i - j - ((54 + n.log2 - m.log2 : Nat) : Int) - 1)) := if_neg hn
  rw [e, Nat.shiftLeft_eq]
  unfold stick
  congr 3
  by_cases h : m * 2 ^ (54 + n.log2 - m.log2) % n = 0
  · rw [if_pos h, h]; rfl
  · have : (m * 2 ^ (54 + n.log2 - m.log2) % n != 0) = true := by simpa using h
    rw [if_neg h, this]; rfl

theorem div_ieee {a b : Nat} (ha : a < 2 ^ 64) (hb : b < 2 ^ 64) {d : Nat} (hd : kindN d = 4) : canonN ((Ieee.double.div a b).getD d) = (divN a b).1 := by
  have cd : canonN d = NaN := if_pos hd
  have ex : ∀ s t : Bool, (s ^^ t) = (s != t) := fun s t => by cases s <;> cases t <;> rfl
  have e54 : Ieee.double.fractionBits + 2 = 54 := rfl
  unfold Format.div
  rw [read_eq ha, read_eq hb, e54]
  unfold divN
  by_cases a4 : kindN a = 4
  · rw [if_pos (.inl a4), readN_nan a4]; exact cd
  · by_cases b4 : kindN b = 4
    · rw [if_pos (.inr b4), readN_nan b4]
      by_cases a3 : kindN a = 3
      · rw [readN_inf a3]; exact cd
      · rw [readN_num a3 a4]; exact cd
    · rw [if_neg (fun h => h.elim a4 b4)]
      by_cases a3 : kindN a = 3
      · rw [readN_inf a3]
        by_cases b3 : kindN b = 3
        · rw [readN_inf b3, if_pos ⟨by omega, .inl a3⟩]; exact cd
        · rw [readN_num b3 b4, if_neg (by omega), if_pos a3]
          show canonN (signN (negN a ^^ negN b) infR) = _
          rw [canon_inf, ex]
      · rw [readN_num a3 a4]
        by_cases b3 : kindN b = 3
        · rw [readN_inf b3, if_neg (by omega), if_neg a3, if_pos (.inl b3)]
          show canonN (Ieee.double.write (.number (negN a ^^ negN b) 0 0)) = _
          rw [write_num, rung_zero, ex]
          exact canon_sign _ (Nat.zero_le _)
        · rw [readN_num b3 b4]
          have za := num_zero a3 a4
          have zb := num_zero b3 b4
          by_cases b0 : kindN b = 0
          · by_cases a0 : kindN a = 0
            · have e : (Datum.number (negN a) (partM a) (partE a)).quotient 54 (.number (negN b) (partM b) (partE b)) = none := by
                show (if partM b = 0 then (if partM a = 0 then none else _) else _) = _
                rw [if_pos (zb.2 b0), if_pos (za.2 a0)]
              rw [e, if_pos ⟨by omega, .inr a0⟩]; exact cd
            · have e : (Datum.number (negN a) (partM a) (partE a)).quotient 54 (.number (negN b) (partM b) (partE b)) = some (.infinity (negN a ^^ negN b)) := by
                show (if partM b = 0 then (if partM a = 0 then none else _) else _) = _
                rw [if_pos (zb.2 b0), if_neg (fun k => a0 (za.1 k))]
              rw [e, if_neg (by omega), if_neg a3, if_neg (by omega), if_pos b0]
              show canonN (signN (negN a ^^ negN b) infR) = _
              rw [canon_inf, ex]
          · have hn : partM b ≠ 0 := fun k => b0 (zb.1 k)
            rw [quo_num _ _ _ _ _ _ hn, if_neg (by omega), if_neg a3]
            show canonN (Ieee.double.write (.number _ _ _)) = _
            rw [write_num, canon_sign _ (rung_le _ _), ex]
            by_cases a0 : kindN a = 0
            · rw [if_pos (.inr a0), za.2 a0]
              have : stick 0 (partM b) (54 + (partM b).log2 - Nat.log2 0) = 0 := by
                unfold stick
                rw [Nat.zero_mul, Nat.zero_div, Nat.zero_mod, if_pos rfl]
              rw [this, rung_zero]
            · have hm : partM a ≠ 0 := fun k => a0 (za.1 k)
              have la := partM_lt a
              have lb := partM_lt b
              rw [if_neg (by omega), if_neg b0, quo_ieee hm hn (by omega) (by omega)]

theorem law06.float.known : Known Try.prog 44 law06.float.spec := law06.float.known_of .nil fun x hp => by
  obtain ⟨n, rfl, hn⟩ := inU64_nat (x := x) hp
  refine ⟨0, law06.float.out [.i n], [], ?_, .fl⟩
  rw [law06.float.ev, decide_eq_true (Int.natCast_nonneg n)]
  rfl

theorem law06.TimesFloats.known : Known Try.prog 15 law06.TimesFloats.spec := law06.TimesFloats.known_of (.cons ref05.Canon.nb_known (.cons times.Div.known (.cons law06.awake.known (.cons times.Mul.known (.cons law06.float.known .nil))))) fun a b hp => by
  obtain ⟨ha, hb⟩ := and_true_iff.1 hp
  obtain ⟨a, rfl, hn⟩ := inU64_nat ha
  obtain ⟨b, rfl, hm⟩ := inU64_nat hb
  refine ⟨0, law06.TimesFloats.out [.i a, .i b], [], ?_, .bool⟩
  have e1 : mulBI (a : Int) (b : Int) = canonNI ((Ieee.double.mul a b).getD nanBits) := by
    unfold mulBI canonNI
    rw [Int.toNat_natCast, Int.toNat_natCast, mul_ieee hn hm nanBits_kind]
  have e2 : divBI (a : Int) (b : Int) = canonNI ((Ieee.double.div a b).getD nanBits) := by
    unfold divBI canonNI
    rw [Int.toNat_natCast, Int.toNat_natCast, div_ieee hn hm nanBits_kind]
  rw [law06.TimesFloats.ev, ha, hb, Int.toNat_natCast, Int.toNat_natCast, e1, e2]
  simp only [BEq.rfl, cond_true, Bool.and_self]
  rfl

end Go.Proofs.S1
