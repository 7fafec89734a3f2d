/- Ref of the verified evaluator and its use for this seat (of my texts S1EqRefD, S1PRefD). -/
import Derived.Test.YtnnoocnokacpmaaGreatSpe
import Derived.Test.YtnnoocnokacpmaaGreatSof
import Derived.Test.YtnnoocnokacpmaaGreatFlo

/- The evaluator's equations: dioptraref04.Neg, dioptraref04.Power, dioptraref04.Frac, dioptraref04.Kind, dioptraref04.Finite, dioptraref04.Minus, dioptraref05.Canon. Printed by denpy.py. -/
namespace Go.Proofs.S1
open Go Go.Den Go.Rnd Go.Proofs
set_option linter.unusedVariables false
set_option maxRecDepth 100000
namespace EqRefD

noncomputable def ref04.Neg.tab : List (Nat × Entry) := []
noncomputable def ref04.Neg.E : Env := envOf (tabOf ref04.Neg.tab) (fun _ => false) (fun _ => none) (fun _ => none)
theorem ref04.Neg.ev (N : Nat) (x : Int) : funD ref04.Neg.E N Tryz.f125 (bodyOf Tryz.f125) [.int .u64 x] =
  some (.bool ((w_u64 (Int.tdiv x (9223372036854775808 : Int))) == (1 : Int))) := by kernel_rfl
theorem ref04.Neg.known_of (hk : Knowns Tryz.prog ref04.Neg.tab) (h : ∀ (x : Int), ref04.Neg.pre [.i x] = true → ∃ N dv drops, funD ref04.Neg.E N Tryz.f125 (bodyOf Tryz.f125) [.int .u64 x] = some dv ∧ Wk drops dv (ref04.Neg.out [.i x])) : Known Tryz.prog 125 ref04.Neg.spec := by
  refine ⟨meets_entry (E := ref04.Neg.E) (env_ok hk _ _ _) Tryz.func125 (show Tryz.f125.body = some (bodyOf Tryz.f125) by kernel_rfl) fun ats dvs he hp => ?_, call_enter Tryz.func125 (by kernel_rfl) (show Tryz.f125.body = some (bodyOf Tryz.f125) by kernel_rfl)⟩
  obtain ⟨x, _, _, rfl, rfl, he0⟩ := he.i_inv
  obtain ⟨rfl, rfl⟩ := he0.nil_inv
  exact h x hp

noncomputable def ref04.Power.tab : List (Nat × Entry) := []
noncomputable def ref04.Power.E : Env := envOf (tabOf ref04.Power.tab) (fun _ => false) (fun _ => none) (fun _ => none)
theorem ref04.Power.ev (N : Nat) (x : Int) : funD ref04.Power.E N Tryz.f105 (bodyOf Tryz.f105) [.int .u64 x] =
  some (.int .i64 (w_i64 (w_u64 (Int.tdiv (Int.tmod x (9223372036854775808 : Int)) (4503599627370496 : Int))))) := by kernel_rfl
theorem ref04.Power.known_of (hk : Knowns Tryz.prog ref04.Power.tab) (h : ∀ (x : Int), ref04.Power.pre [.i x] = true → ∃ N dv drops, funD ref04.Power.E N Tryz.f105 (bodyOf Tryz.f105) [.int .u64 x] = some dv ∧ Wk drops dv (ref04.Power.out [.i x])) : Known Tryz.prog 105 ref04.Power.spec := by
  refine ⟨meets_entry (E := ref04.Power.E) (env_ok hk _ _ _) Tryz.func105 (show Tryz.f105.body = some (bodyOf Tryz.f105) by kernel_rfl) fun ats dvs he hp => ?_, call_enter Tryz.func105 (by kernel_rfl) (show Tryz.f105.body = some (bodyOf Tryz.f105) by kernel_rfl)⟩
  obtain ⟨x, _, _, rfl, rfl, he0⟩ := he.i_inv
  obtain ⟨rfl, rfl⟩ := he0.nil_inv
  exact h x hp

noncomputable def ref04.Frac.tab : List (Nat × Entry) := []
noncomputable def ref04.Frac.E : Env := envOf (tabOf ref04.Frac.tab) (fun _ => false) (fun _ => none) (fun _ => none)
theorem ref04.Frac.ev (N : Nat) (x : Int) : funD ref04.Frac.E N Tryz.f106 (bodyOf Tryz.f106) [.int .u64 x] =
  some (.int .u64 (Int.tmod x (4503599627370496 : Int))) := by kernel_rfl
theorem ref04.Frac.known_of (hk : Knowns Tryz.prog ref04.Frac.tab) (h : ∀ (x : Int), ref04.Frac.pre [.i x] = true → ∃ N dv drops, funD ref04.Frac.E N Tryz.f106 (bodyOf Tryz.f106) [.int .u64 x] = some dv ∧ Wk drops dv (ref04.Frac.out [.i x])) : Known Tryz.prog 106 ref04.Frac.spec := by
  refine ⟨meets_entry (E := ref04.Frac.E) (env_ok hk _ _ _) Tryz.func106 (show Tryz.f106.body = some (bodyOf Tryz.f106) by kernel_rfl) fun ats dvs he hp => ?_, call_enter Tryz.func106 (by kernel_rfl) (show Tryz.f106.body = some (bodyOf Tryz.f106) by kernel_rfl)⟩
  obtain ⟨x, _, _, rfl, rfl, he0⟩ := he.i_inv
  obtain ⟨rfl, rfl⟩ := he0.nil_inv
  exact h x hp

noncomputable def ref04.Kind.tab : List (Nat × Entry) := [(106, ref04.Frac.spec), (105, ref04.Power.spec)]
noncomputable def ref04.Kind.E : Env := envOf (tabOf ref04.Kind.tab) (fun _ => false) (fun _ => none) (fun _ => none)
theorem ref04.Kind.ev (N : Nat) (x : Int) : funD ref04.Kind.E N Tryz.f41 (bodyOf Tryz.f41) [.int .u64 x] =
  bif (natI x) then
  bif ((powI x) == (2047 : Int)) then
  bif (natI x) then
  bif ((fracI x) == (0 : Int)) then
  some (.int .i64 (3 : Int))
  else some (.int .i64 (4 : Int))
  else none
  else bif (natI x) then
  bif (ltI (0 : Int) (powI x)) then
  some (.int .i64 (2 : Int))
  else bif (natI x) then
  bif (ltI (0 : Int) (fracI x)) then
  some (.int .i64 (1 : Int))
  else some (.int .i64 (0 : Int))
  else none
  else none
  else none := by kernel_rfl
theorem ref04.Kind.known_of (hk : Knowns Tryz.prog ref04.Kind.tab) (h : ∀ (x : Int), ref04.Kind.pre [.i x] = true → ∃ N dv drops, funD ref04.Kind.E N Tryz.f41 (bodyOf Tryz.f41) [.int .u64 x] = some dv ∧ Wk drops dv (ref04.Kind.out [.i x])) : Known Tryz.prog 41 ref04.Kind.spec := by
  refine ⟨meets_entry (E := ref04.Kind.E) (env_ok hk _ _ _) Tryz.func41 (show Tryz.f41.body = some (bodyOf Tryz.f41) by kernel_rfl) fun ats dvs he hp => ?_, call_enter Tryz.func41 (by kernel_rfl) (show Tryz.f41.body = some (bodyOf Tryz.f41) by kernel_rfl)⟩
  obtain ⟨x, _, _, rfl, rfl, he0⟩ := he.i_inv
  obtain ⟨rfl, rfl⟩ := he0.nil_inv
  exact h x hp

noncomputable def ref04.Finite.tab : List (Nat × Entry) := [(105, ref04.Power.spec)]
noncomputable def ref04.Finite.E : Env := envOf (tabOf ref04.Finite.tab) (fun _ => false) (fun _ => none) (fun _ => none)
theorem ref04.Finite.ev (N : Nat) (x : Int) : funD ref04.Finite.E N Tryz.f124 (bodyOf Tryz.f124) [.int .u64 x] =
  bif (natI x) then
  some (.bool (ltI (powI x) (2047 : Int)))
  else none := by kernel_rfl
theorem ref04.Finite.known_of (hk : Knowns Tryz.prog ref04.Finite.tab) (h : ∀ (x : Int), ref04.Finite.pre [.i x] = true → ∃ N dv drops, funD ref04.Finite.E N Tryz.f124 (bodyOf Tryz.f124) [.int .u64 x] = some dv ∧ Wk drops dv (ref04.Finite.out [.i x])) : Known Tryz.prog 124 ref04.Finite.spec := by
  refine ⟨meets_entry (E := ref04.Finite.E) (env_ok hk _ _ _) Tryz.func124 (show Tryz.f124.body = some (bodyOf Tryz.f124) by kernel_rfl) fun ats dvs he hp => ?_, call_enter Tryz.func124 (by kernel_rfl) (show Tryz.f124.body = some (bodyOf Tryz.f124) by kernel_rfl)⟩
  obtain ⟨x, _, _, rfl, rfl, he0⟩ := he.i_inv
  obtain ⟨rfl, rfl⟩ := he0.nil_inv
  exact h x hp

noncomputable def ref04.Minus.tab : List (Nat × Entry) := [(125, ref04.Neg.spec)]
noncomputable def ref04.Minus.E : Env := envOf (tabOf ref04.Minus.tab) (fun _ => false) (fun _ => none) (fun _ => none)
theorem ref04.Minus.ev (N : Nat) (x : Int) : funD ref04.Minus.E N Tryz.f126 (bodyOf Tryz.f126) [.int .u64 x] =
  bif (inU64 x) then
  bif (negI x) then
  some (.int .u64 (w_u64 (x - (9223372036854775808 : Int))))
  else some (.int .u64 (w_u64 (x + (9223372036854775808 : Int))))
  else none := by kernel_rfl
theorem ref04.Minus.known_of (hk : Knowns Tryz.prog ref04.Minus.tab) (h : ∀ (x : Int), ref04.Minus.pre [.i x] = true → ∃ N dv drops, funD ref04.Minus.E N Tryz.f126 (bodyOf Tryz.f126) [.int .u64 x] = some dv ∧ Wk drops dv (ref04.Minus.out [.i x])) : Known Tryz.prog 126 ref04.Minus.spec := by
  refine ⟨meets_entry (E := ref04.Minus.E) (env_ok hk _ _ _) Tryz.func126 (show Tryz.f126.body = some (bodyOf Tryz.f126) by kernel_rfl) fun ats dvs he hp => ?_, call_enter Tryz.func126 (by kernel_rfl) (show Tryz.f126.body = some (bodyOf Tryz.f126) by kernel_rfl)⟩
  obtain ⟨x, _, _, rfl, rfl, he0⟩ := he.i_inv
  obtain ⟨rfl, rfl⟩ := he0.nil_inv
  exact h x hp

noncomputable def ref05.Canon.tab : List (Nat × Entry) := [(41, ref04.Kind.spec)]
noncomputable def ref05.Canon.E : Env := envOf (tabOf ref05.Canon.tab) (fun _ => false) (fun _ => none) (fun _ => none)
theorem ref05.Canon.ev (N : Nat) (x : Int) : funD ref05.Canon.E N Tryz.f133 (bodyOf Tryz.f133) [.int .u64 x] =
  bif (natI x) then
  bif ((kindI x) == (4 : Int)) then
  some (.int .u64 (9221120237041090560 : Int))
  else some (.int .u64 x)
  else none := by kernel_rfl
theorem ref05.Canon.known_of (hk : Knowns Tryz.prog ref05.Canon.tab) (h : ∀ (x : Int), ref05.Canon.pre [.i x] = true → ∃ N dv drops, funD ref05.Canon.E N Tryz.f133 (bodyOf Tryz.f133) [.int .u64 x] = some dv ∧ Wk drops dv (ref05.Canon.out [.i x])) : Known Tryz.prog 133 ref05.Canon.spec := by
  refine ⟨meets_entry (E := ref05.Canon.E) (env_ok hk _ _ _) Tryz.func133 (show Tryz.f133.body = some (bodyOf Tryz.f133) by kernel_rfl) fun ats dvs he hp => ?_, call_enter Tryz.func133 (by kernel_rfl) (show Tryz.f133.body = some (bodyOf Tryz.f133) by kernel_rfl)⟩
  obtain ⟨x, _, _, rfl, rfl, he0⟩ := he.i_inv
  obtain ⟨rfl, rfl⟩ := he0.nil_inv
  exact h x hp
end EqRefD
end Go.Proofs.S1

/- The document's words of numbers: what they answer. -/
namespace Go.Proofs.S1
open Go Go.Den Go.Rnd Go.Proofs
open EqRefD

theorem tdiv_nat (n m : Nat) : Int.tdiv (n : Int) (m : Int) = ((n / m : Nat) : Int) := rfl
theorem tmod_nat (n m : Nat) : Int.tmod (n : Int) (m : Int) = ((n % m : Nat) : Int) := rfl
theorem lit63 : (9223372036854775808 : Int) = ((2 ^ 63 : Nat) : Int) := rfl
theorem lit52 : (4503599627370496 : Int) = ((2 ^ 52 : Nat) : Int) := rfl

theorem ref04.Neg.known : Known Tryz.prog 125 ref04.Neg.spec := ref04.Neg.known_of .nil fun x hp => by
  obtain ⟨n, rfl, hn⟩ := inU64_nat (x := x) hp
  refine ⟨0, ref04.Neg.out [.i n], [], ?_, .bool⟩
  rw [ref04.Neg.ev, lit63, tdiv_nat, w_u64_in (by omega) (by omega)]
  show _ = some (DV.bool (negI n))
  unfold negI negN
  rw [Int.toNat_natCast]
  congr 2
  rw [Bool.eq_iff_iff]
  simp only [beq_iff_eq, decide_eq_true_eq]
  omega

theorem ref04.Power.known : Known Tryz.prog 105 ref04.Power.spec := ref04.Power.known_of .nil fun x hp => by
  obtain ⟨n, rfl⟩ := natI_get (x := x) hp
  refine ⟨0, ref04.Power.out [.i n], [], ?_, .int⟩
  rw [ref04.Power.ev, lit63, lit52, tmod_nat, tdiv_nat, w_u64_in (by omega) (by omega), w_i64_in (by omega) (by omega)]
  show _ = some (DV.int .i64 (powI n))
  unfold powI powN
  rw [Int.toNat_natCast]
  congr 2
  have : n % 2 ^ 63 / 2 ^ 52 = n / 2 ^ 52 % 2048 := by omega
  rw [this]

theorem ref04.Frac.known : Known Tryz.prog 106 ref04.Frac.spec := ref04.Frac.known_of .nil fun x hp => by
  obtain ⟨n, rfl⟩ := natI_get (x := x) hp
  refine ⟨0, ref04.Frac.out [.i n], [], ?_, .int⟩
  rw [ref04.Frac.ev, lit52, tmod_nat]
  rfl

theorem ref04.Kind.known : Known Tryz.prog 41 ref04.Kind.spec := ref04.Kind.known_of (.cons ref04.Frac.known (.cons ref04.Power.known .nil)) fun x hp => by
  obtain ⟨n, rfl⟩ := natI_get (x := x) hp
  refine ⟨0, ref04.Kind.out [.i n], [], ?_, .int⟩
  rw [ref04.Kind.ev, natI_nat]
  show _ = some (DV.int .i64 (kindI n))
  unfold kindI kindN powI fracI
  simp only [Int.toNat_natCast, cond_true, ltI_eq]
  have := powN_lt n
  by_cases h1 : powN n = 2047
  · by_cases h2 : fracN n = 0
    · simp [h1, h2]
    · have : ((fracN n : Int) == 0) = false := by simp; exact h2
      simp [h1, this, h2]
  · have h1' : ((powN n : Int) == 2047) = false := by simp; omega
    rw [h1']
    by_cases h3 : 0 < powN n
    · simp [h1, h3]
    · by_cases h4 : 0 < fracN n
      · simp [h1, h3, h4]
      · simp [h1, h3, h4]

theorem ref04.Finite.known : Known Tryz.prog 124 ref04.Finite.spec := ref04.Finite.known_of (.cons ref04.Power.known .nil) fun x hp => by
  obtain ⟨n, rfl, hn⟩ := inU64_nat (x := x) hp
  refine ⟨0, ref04.Finite.out [.i n], [], ?_, .bool⟩
  rw [ref04.Finite.ev, natI_nat, cond_true, ltI_eq]
  show _ = some (DV.bool (finI n))
  unfold finI finN powI
  rw [Int.toNat_natCast]
  have : decide ((powN n : Int) < 2047) = decide (powN n < 2047) := decide_eq_decide.2 (by omega)
  rw [this]

theorem ref04.Minus.known : Known Tryz.prog 126 ref04.Minus.spec := ref04.Minus.known_of (.cons ref04.Neg.known .nil) fun x hp => by
  obtain ⟨n, rfl, hn⟩ := inU64_nat (x := x) hp
  refine ⟨0, ref04.Minus.out [.i n], [], ?_, .int⟩
  rw [ref04.Minus.ev, inU64_of hn, cond_true]
  show _ = some (DV.int .u64 (minusI n))
  unfold minusI minusN negI negN
  rw [Int.toNat_natCast, w_u64_eq, w_u64_eq]
  by_cases h : 2 ^ 63 ≤ n
  · have e : ((n : Int) - 9223372036854775808) % 18446744073709551616 = ((n - 2 ^ 63 : Nat) : Int) := by omega
    rw [if_pos h, decide_eq_true h, cond_true, e]
  · have e : ((n : Int) + 9223372036854775808) % 18446744073709551616 = ((n + 2 ^ 63 : Nat) : Int) := by omega
    rw [if_neg h, decide_eq_false h, cond_false, e]

theorem ref05.Canon.known : Known Tryz.prog 133 ref05.Canon.spec := ref05.Canon.known_of (.cons ref04.Kind.known .nil) fun x hp => by
  obtain ⟨n, rfl⟩ := natI_get (x := x) hp
  refine ⟨0, ref05.Canon.out [.i n], [], ?_, .int⟩
  rw [ref05.Canon.ev, natI_nat, cond_true]
  show _ = some (DV.int .u64 (canonI n))
  unfold canonI canonN kindI
  rw [Int.toNat_natCast]
  by_cases h : kindN n = 4
  · have : ((kindN n : Int) == 4) = true := by simp; omega
    rw [this, if_pos h]; rfl
  · have : ((kindN n : Int) == 4) = false := by simp; omega
    rw [this, if_neg h]; rfl

theorem feq_canon {n m : Nat} (h : FEq n m) : canonN n = canonN m := by
  rcases h with rfl | ⟨h1, h2⟩
  · rfl
  · unfold isNaN64 at h1 h2
    rw [nan_kind n] at h1
    rw [nan_kind m] at h2
    unfold canonN
    rw [if_pos (of_decide_eq_true h1), if_pos (of_decide_eq_true h2)]

theorem one_rel {c : Ctx} {w : World} {d : DV} {vs : List Value} (h : LRel c w [d] vs) : ∃ v, vs = [v] ∧ VRel c w d v := by
  simp only [LRel] at h
  obtain ⟨u, us, rfl, hv, rfl⟩ := h
  exact ⟨u, rfl, hv⟩

theorem ref05.Canon.nb_known : Known Tryz.prog 133 ref05.Canon.nb.spec := by
  refine ⟨fun args ha => ?_, ref05.Canon.known.call⟩
  unfold ref05.Canon.nb.spec entry at ha ⊢
  simp only at ha ⊢
  cases hd : decL [.nb] args with
  | none => rw [hd] at ha; cases ha
  | some bs =>
    rw [hd] at ha
    obtain ⟨ds, h1, h2⟩ := decL_ok hd
    obtain ⟨x, _, _, rfl, rfl, he⟩ := h1.nb_inv
    obtain ⟨rfl, rfl⟩ := he.nil_inv
    refine CallsV.args (args := [.nb x]) ?_ h2
    intro w vals I hI hl
    obtain ⟨v, hv, hr⟩ := one_rel hl
    simp only [VRel] at hr
    obtain ⟨m, rfl, hm⟩ := hr
    have e : ref05.Canon.nb.out [.f x] = ref05.Canon.spec.out [.int .u64 (m : Int)] := by
      show DV.int .u64 (canonNI x) = DV.int .u64 (canonI (m : Int))
      unfold canonNI canonI
      rw [Int.toNat_natCast, feq_canon hm]
    show Calls _ _ _ _ fun e' w' => ∃ v own, e' = .returned v ∧ Go.RowKit.Below w.heap.size w w' ∧ OwnOk own w w' ∧ VRel (resCtx I own w w') w' (ref05.Canon.nb.out [.f x]) v
    rw [e]
    exact ref05.Canon.known.meets [.int .u64 (m : Int)] (natI_nat m) w vals I hI (by rw [hv]; exact ⟨_, _, rfl, rfl, rfl⟩)

end Go.Proofs.S1
