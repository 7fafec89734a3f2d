/- SumAlls answers true at every input, without condition: the law's contract (law05.SumAlls) comes from the verified evaluator, and the sums are those of whole numbers times powers of two, rounded once. -/
import Derived.Test.YthopmgndjnnpnaaRows
import Derived.Test.YthopmgndjnnpnaaLawA
import Derived.Below
import Derived.ChangeSame
import Derived.WalkKit
import Derived.ProofKit
import Derived.OpenShut
namespace Go.Proofs.Ythopmgndjnnpnaa.sumAlls
open Go.ChangeShapes Go.WideShapes Go.ChangeAt Go.RowKit Go.Den Go.Proofs.S1

theorem own : ownKnob Try.prog.godebug = none := by kernel_rfl

/-- What is left to show behind a call that returned true and left all memory that was there as it was. -/
theorem post_below {H : Type} {enc : TypeId × Value → H} {P : Program} {f : Func} {s : ChangeSpec} {apart fresh handsOn again : Bool} {W W' : World} {args : Array Value} {v : Value} {ds gs : List (DataW H)} {before pa pv : List MemPlace}
    (hW : DataW.Whole enc P f.params.toList s.vars apart W args.toList ds gs before)
    (hres : ∀ (b : Nat) (sp : Nat → Bool) (hd : Bool), DataW.TrodAll enc P W' b sp hd f.resultTypes.toList (v.resultList f.resultTypes.size) (s.fn H (ds ++ gs)).results [])
    (hargs : ∀ sp : Nat → Bool, (∀ p ∈ before, sp p.block = true) → DataW.TrodAll enc P W' 0 sp true f.params.toList args.toList (s.fn H (ds ++ gs)).args pa)
    (hvars : ∀ sp : Nat → Bool, (∀ p ∈ before, sp p.block = true) → DataW.TrodVars enc P W' sp s.vars (s.fn H (ds ++ gs)).vars pv)
    (hps : before = pa ++ pv) (hb : Below W.heap.size W W')
    (hok : ∀ (j : Nat) (t : TypeId) (r : Value), f.resultTypes[j]? = some t → (v.resultList f.resultTypes.size)[j]? = some r → Value.okWide P W' .any 0 t r) :
    s.post enc P f apart fresh handsOn again W args v W' := by
  have hlt := hW.lt
  have hin : ∀ p ∈ before, (fun b => decide (b < W.heap.size)) p.block = true := fun p hp => decide_eq_true (hlt p hp)
  refine ⟨ds, gs, before, [], pa, pv, hW, hres _ _ _, hargs _ hin, hvars _ hin, World.keptBut_mono (fun p hp => ⟨hp, ?_⟩) (hb.frame (· ∈ before)), fun _ => ?_⟩
  · exact .inr ((List.mem_append.1 (hps ▸ hp)))
  · obtain ⟨_, _, _, _, _, hz, hn⟩ := hW
    subst hps
    refine ⟨hok, _, _, ([] ++ pa) ++ pv, ⟨[] ++ pa, pv, trodAll_append (hargs _ (fun _ _ => rfl)) (hres _ _ _), hvars _ (fun _ _ => rfl), rfl, fun b off hp => ?_, fun ha => ?_⟩, fun p hp _ => ?_⟩
    · rw [List.nil_append] at hp
      rw [hb.frozen (hlt _ hp)]
      exact hz b off hp
    · rw [List.nil_append]; exact hn ha
    · rw [List.nil_append] at hp; exact hp

/-! ### The call: by the law's contract -/
theorem of_wf {x : Int} (h : (Lit.int .u64 x).wf = true) : inU64 x = true := by
  have h := and_true_iff.1 h
  have h1 : (0 : Int) ≤ x := of_decide_eq_true h.1
  have h2 : x ≤ 18446744073709551615 := of_decide_eq_true h.2
  exact cdec_eq.2 ⟨h1, by omega⟩

theorem walk (v : Value) (l : List Int) (w : World) (I : Nat → Prop) (hI : ∀ b, I b → b < w.heap.size) (hv : VRel (argCtx I) w (.ints .arg .u64 l) v) (hl : ∀ x ∈ l, inU64 x = true) :
    Calls Try.prog 9 #[v] w fun e w' => e = .returned (.bool true) ∧ Below w.heap.size w w' :=
  calls_true law05.SumAlls.known (args := [.ints .arg .u64 l]) (I := I) hI ⟨_, _, rfl, hv, rfl⟩ (cdec_eq.2 hl) rfl

theorem laidOut : laidOutB Try.prog = true := by kernel_rfl
theorem cells23 : Try.prog.cellsOf 23 = 1 := by kernel_rfl

set_option maxRecDepth 100000 in
theorem lifted (os : Os) (started : os.Started) (H : Type) (enc : TypeId × Value → H) :
    ReturnsInHanded {} Try.checked os 9 .any (Rows.sumAllsSpec.pre6 enc Try.prog Try.f9 Rows.sumAllsRow.domain false) (Rows.sumAllsSpec.post enc Try.prog Try.f9 false true false false) := by
  refine returnsInHanded_of_change (C := Try.checked) own started (by kernel_rfl) Try.func9
    (ChangeSpec.witness6 (enc := enc) (C := Try.checked) false ⟨#[], #[.slice none 0 0], []⟩ 8 (by kernel_rfl) (by kernel_rfl) (by kernel_rfl) (by kernel_rfl)) ?_
  intro W base args ds gs before hval0 hW hcnd _
  have hval : ∀ (j : Nat) t v, Try.f9.params[j]? = some t → args[j]? = some v → Value.okWide Try.prog W .any base t v := hval0
  have hW' := hW
  obtain ⟨p, q, hA0, hV, rfl, hfz, hnd⟩ := hW
  have hA : DataW.TrodAll enc Try.prog W 0 (fun _ => true) true Try.f9.params.toList args.toList ds p := hA0
  rw [Try.params9] at hA hval
  obtain ⟨v0, vs0, d0, ds0, p0, q0, hargs, rfl, rfl, h0, r0⟩ := trodAll_cons hA
  obtain ⟨rfl, rfl, rfl⟩ := trodAll_nil r0
  obtain rfl : args = #[v0] := by cases args; simp_all
  obtain ⟨rfl, rfl⟩ := trodVars_none hV
  obtain ⟨a0, len, cap, rfl⟩ := okWide_slice Try.underlying46 (hval 0 46 v0 rfl rfl)
  have h0k := h0
  obtain ⟨fuel, hf⟩ := h0
  clear hA0 hval0
  simp only [List.append_nil] at hW'
  have hlt : ∀ x ∈ p0, x.block < W.heap.size := fun x hx => by simpa using hW'.lt x hx
  have close : ∀ (l : List Int) (I : Nat → Prop), (∀ b, I b → b < W.heap.size) → VRel (argCtx I) W (.ints .arg .u64 l) (.slice a0 len cap) → (∀ x ∈ l, inU64 x = true) →
      Calls Try.prog 9 #[.slice a0 len cap] W fun e w' => ∃ v, e = .returned v ∧ Rows.sumAllsSpec.post enc Try.prog Try.f9 false true false false W #[.slice a0 len cap] v w' := by
    intro l I hI hv hl
    refine (walk _ l W I hI hv hl).mono fun e W' ⟨he, hg⟩ => ?_
    subst he
    refine ⟨_, rfl, _, _, _, [], p0, [], hW', (trodAll_cons_mk (shut_bool Try.underlying4 _) trodAll_mk0), ?_, rfl, ?_, fun h => by cases h⟩
    · exact trodAll_mk1 (Below.trod laidOut (by kernel_rfl) (of_decide_eq_true (by kernel_rfl)) h0k hg hlt)
    · exact hg.frame _
  rcases open_ints Try.underlying46 Try.underlying23 cells23 hf with ⟨hcs, hx⟩ | ⟨a, len', cap', zs, hcs, _, hl, hm, hz, hx, hcell, hwz⟩
  · simp [Value.cells] at hcs
    obtain ⟨rfl, rfl, rfl⟩ := hcs
    exact close [] (fun _ => False) (fun _ h => h.elim) ⟨none, 0, rfl, Nat.le_refl _, .inl rfl⟩ (fun x h => by cases h)
  · simp [Value.cells] at hcs
    obtain ⟨rfl, rfl, rfl⟩ := hcs
    simp only [Prod.mk.injEq] at hx
    obtain ⟨rfl, rfl⟩ := hx
    simp only [if_true] at hz
    have hlen : (zs.take len).length = len := by rw [List.length_take]; omega
    have hin : ∀ x ∈ zs.take len, inU64 x = true := fun x h => of_wf (hwz x (List.mem_of_mem_take h))
    by_cases h0 : len = 0
    · subst h0
      exact close [] (fun _ => False) (fun _ h => h.elim) ⟨some a, cap, rfl, by simp, .inl rfl⟩ (fun x h => by cases h)
    · obtain ⟨b, off, rfl, hc⟩ := ints_at hcell (by omega)
      refine close (zs.take len) (fun c => c = b) (fun c h => ?_) ?_ hin
      · subst h
        exact hlt (.cell c off) (MemPlace.mem_row.2 ⟨0, by omega, by simp⟩)
      · refine ⟨some ⟨b, off, none⟩, cap, by rw [hlen], by rw [hlen]; exact hl, .inr ⟨b, off, rfl, rfl, fun i n hi => ?_⟩⟩
        have hi' : i < len := by
          have := (List.getElem?_eq_some_iff.1 hi).1
          omega
        rw [hc i (by omega)]
        rw [List.getElem?_take_of_lt hi'] at hi
        rw [List.getD_eq_getElem?_getD, hi]
        rfl

theorem over : Rows.sumAllsRow.holds Try.pinned (OpenSpec.ofChange Rows.sumAllsSpec) :=
  OpenClaim.holds_of_wide 9 Try.f9 rfl rfl rfl rfl rfl rfl rfl ⟨rfl, rfl, rfl, rfl, rfl⟩ rfl rfl rfl rfl rfl (by kernel_rfl) Try.func9 (by kernel_rfl)
    (of_decide_eq_true (by kernel_rfl)) (by unfold Func.isWrapper; first | (rw [if_pos (by decide +kernel)]; kernel_rfl) | (rw [if_neg (by decide +kernel)]; exact ⟨rfl, rfl⟩))
    (fun os started H enc _ => lifted os started H enc)

/-- The statement. -/
theorem proved : Rows.SumAllsSaid :=
  over
#print axioms proved
end Go.Proofs.Ythopmgndjnnpnaa.sumAlls
