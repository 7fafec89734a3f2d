/- GsvdInfinite answers true at every input, without condition: the law's contract (law23.GsvdInfinite) comes from the verified evaluator. -/
import Derived.Test.YtclmlepbdjafdaaGreatRows
import Derived.Test.YtclmlepbdjafdaaGreatTK
import Derived.Below
import Derived.ChangeSame
import Derived.WalkKit
import Derived.ProofKit
import Derived.OpenShut
import Derived.Lib.SmallJoins
import Derived.Deep.Strs
import Derived.HandedShaped
namespace Go.Proofs.YtclmlepbdjafdaaGreat.gsvdInfinite
open Go.ChangeShapes Go.WideShapes Go.ChangeAt Go.RowKit Go.Den Go.Proofs.S1 Go.Joins Go.Deep Go.Rnd
set_option maxRecDepth 100000

theorem own : ownKnob Tryz.prog.godebug = none := by kernel_rfl
theorem laidOut : laidOutB Tryz.prog = true := by kernel_rfl
theorem cellsE : Tryz.prog.cellsOf 32 = 1 := by kernel_rfl
theorem cellsS : Tryz.prog.cellsOf 22 = 1 := by kernel_rfl
theorem cellsI : Tryz.prog.cellsOf 3 = 1 := by kernel_rfl
theorem cellsM : Tryz.prog.cellsOf 25 = 3 := by kernel_rfl

theorem of_wf {x : Int} (h : (Lit.int .u64 x).wf = true) : Aj x = true := by
  have h := Af.1 h
  have h1 : (0 : Int) ≤ x := of_decide_eq_true h.1
  have h2 : x ≤ 18446744073709551615 := of_decide_eq_true h.2
  exact Al.2 ⟨h1, by omega⟩

theorem Eb {I J : Nat → Prop} (h : ∀ b, I b → J b) {w : World} {k : IntKind} {l : List Int} {v : Value} (hv : Ak (Ht I) w (.ints .arg k l) v) : Ak (Ht J) w (.ints .arg k l) v := by
  simp only [Ak] at hv ⊢
  obtain ⟨a, cap, e, hc, hh⟩ := hv
  exact ⟨a, cap, e, hc, hh.imp id fun ⟨b, o, e, hb, hcell⟩ => ⟨b, o, e, h b hb, hcell⟩⟩

/-- What a slice weighs. -/
theorem weigh {H : Type} {e s : List (DataW H)} (h : ((DataW.slice e s).weights Tryz.prog 22).all (· ≤ reachBytes) = true) : (e.length + s.length) * 8 ≤ reachBytes := by
  have hb : Tryz.prog.bytesOf 32 = 8 := by kernel_rfl
  unfold DataW.weights at h
  rw [Tryz.underlying22] at h
  simp only [hb, List.all_cons, List.all_append, Bool.and_eq_true, decide_eq_true_eq] at h
  exact h.1
theorem lits_length (k : IntKind) (l : List Int) {H : Type} : (lits k l : List (DataW H)).length = l.length := by simp [lits]

/-- A slice of words, opened. -/
theorem open_list {H : Type} {enc : TypeId × Value → H} {W : World} {n : Nat} {x : Value} {y : DataW H × List MemPlace} (h : DataW.trod enc Tryz.prog W 0 (fun _ => true) true n 22 [x] = some y) (hlt : ∀ z ∈ y.2, z.block < W.heap.size) :
    ∃ (l : List Int) (I : Nat → Prop), (∀ z ∈ l, Aj z = true) ∧ (∀ b, I b → b < W.heap.size) ∧ Ak (Ht I) W (.ints .arg .u64 l) x ∧ ((y.1.weights Tryz.prog 22).all (· ≤ reachBytes) = true → Arf l = true) := by
  rcases open_ints Tryz.underlying22 Tryz.underlying32 cellsE h with ⟨hcs, hx⟩ | ⟨a, len, cap, zs, hcs, _, hl, hm, hz, hx, hcell, hwz⟩
  · simp only [List.cons.injEq, and_true] at hcs
    subst hcs
    exact ⟨[], fun _ => False, fun x h => (by cases h), fun _ h => h.elim, ⟨none, 0, rfl, Nat.le_refl _, .inl rfl⟩, fun _ => Al.2 (Nat.zero_le _)⟩
  · simp only [List.cons.injEq, and_true] at hcs
    subst hcs
    obtain ⟨yd, yp⟩ := y
    simp only [Prod.mk.injEq] at hx
    obtain ⟨rfl, rfl⟩ := hx
    simp only [if_true] at hz
    have hlen : (zs.take len).length = len := by rw [List.length_take]; omega
    have hin : ∀ x ∈ zs.take len, Aj x = true := fun x h => of_wf (hwz x (List.mem_of_mem_take h))
    by_cases h0 : len = 0
    · subst h0
      exact ⟨[], fun _ => False, fun x h => (by cases h), fun _ h => h.elim, ⟨some a, cap, rfl, by simp, .inl rfl⟩, fun _ => Al.2 (Nat.zero_le _)⟩
    · obtain ⟨b, off, rfl, hc⟩ := ints_at hcell (by omega)
      refine ⟨zs.take len, fun x => x = b, hin, fun x h => ?_, ?_, fun hw => ?_⟩
      · subst h
        exact hlt (.cell x off) (MemPlace.mem_row.2 ⟨0, by omega, by simp⟩)
      · refine ⟨some ⟨b, off, none⟩, cap, by rw [hlen], by rw [hlen]; exact hl, .inr ⟨b, off, rfl, rfl, fun i n hi => ?_⟩⟩
        have hi' : i < len := by
          have := (List.getElem?_eq_some_iff.1 hi).1
          omega
        rw [hc i (by omega)]
        rw [List.getElem?_take_of_lt hi'] at hi
        rw [List.getD_eq_getElem?_getD, hi]
        rfl
      · have := weigh hw
        rw [lits_length, lits_length, List.length_take, List.length_drop] at this
        exact Al.2 (by rw [List.length_take]; unfold reachBytes at this; omega)

/-! ### The call: by the law's contract -/
theorem walk (w : World) (I : Nat → Prop) (hI : ∀ b, I b → b < w.heap.size) (l0 : List Int) (x0 : Value) (hl0 : ∀ y ∈ l0, Aj y = true) (ol0 : Arf l0 = true) (hv0 : Ak (Ht I) w (.ints .arg .u64 l0) x0) :
    Calls Tryz.prog 3 #[x0] w fun e w' => e = .returned (.bool true) ∧ Below w.heap.size w w' :=
  Anr B4.Bz.known (args := [.ints .arg .u64 l0]) (I := I) hI ⟨_, _, rfl, hv0, rfl⟩ (Al.2 ⟨by have := Al.1 ol0; omega, hl0⟩) rfl

set_option maxRecDepth 100000 in
theorem lifted (os : Os) (started : os.Started) (H : Type) (enc : TypeId × Value → H) :
    ReturnsInHanded {} Tryz.checked os 3 .any (Rows.gsvdInfiniteSpec.pre6 enc Tryz.prog Tryz.f3 Rows.gsvdInfiniteRow.domain false) (Rows.gsvdInfiniteSpec.post enc Tryz.prog Tryz.f3 false true false false) := by
  refine returnsInHanded_of_change_shaped (C := Tryz.checked) own started (by kernel_rfl) Tryz.func3
    (ChangeSpec.witness6 (enc := enc) (C := Tryz.checked) false ⟨#[], #[.slice none 0 0], []⟩ 8 (by kernel_rfl) (by kernel_rfl) (by kernel_rfl) (by kernel_rfl)) ?_
  intro W base args ds gs before hval0 hW hcnd hsz0 _ _
  have hval : ∀ (j : Nat) t v, Tryz.f3.params[j]? = some t → args[j]? = some v → Value.okWide Tryz.prog W .any base t v := hval0
  have hW' := hW
  obtain ⟨p, q, hA0, hV, rfl, hfz, hnd⟩ := hW
  have hA : DataW.TrodAll enc Tryz.prog W 0 (fun _ => true) true Tryz.f3.params.toList args.toList ds p := hA0
  rw [Tryz.params3] at hA hval
  obtain ⟨v0, vs0, d0, ds0, p0, q0, hargs, rfl, rfl, h0, rr0⟩ := trodAll_cons hA
  obtain ⟨rfl, rfl, rfl⟩ := trodAll_nil rr0
  obtain rfl : args = #[v0] := by cases args; simp_all
  obtain ⟨rfl, rfl⟩ := trodVars_none hV
  clear hA0 hval0
  simp only [List.append_nil] at hW'
  have hsz : (DataW.weightsEach Tryz.prog (Tryz.f3.params.toList ++ []) ([d0] ++ [])).all (· ≤ reachBytes) = true := hsz0
  rw [Tryz.params3] at hsz
  simp only [List.append_nil, DataW.weightsEach, List.all_append, Bool.and_eq_true] at hsz
  have s0 := hsz
  clear hsz0
  have hlt0 : ∀ x ∈ p0, x.block < W.heap.size := fun x hx => hW'.lt x (hx)
  have k0 := h0
  obtain ⟨a0, len0, cap0, rfl⟩ := okWide_slice Tryz.underlying22 (hval 0 22 v0 rfl rfl)
  obtain ⟨fuel0, hf0⟩ := h0
  have e0 : Value := .slice a0 len0 cap0
  obtain ⟨l0, I0, hl0, hI0, hv0, sz0⟩ := open_list (x := .slice a0 len0 cap0) (by simpa [Value.cells] using hf0) hlt0
  have ol0 := sz0 s0
  refine (walk W (fun b => I0 b) (fun b h => hI0 b h) l0 _ hl0 ol0 hv0).mono fun e W' ⟨he, hg⟩ => ?_
  subst he
  refine ⟨_, rfl, _, _, _, [], p0, [], hW', (trodAll_cons_mk (shut_bool Tryz.underlying4 _) trodAll_mk0), ?_, rfl, ?_, fun h => by cases h⟩
  · exact (trodAll_mk1 (Below.trod laidOut (by kernel_rfl) (of_decide_eq_true (by kernel_rfl)) k0 hg hlt0))
  · exact hg.frame _

/-! The closed facts, each by itself: together they are too much for one declaration. -/
theorem band {a b : Bool} (x : a = true) (y : b = true) : (a && b) = true := by rw [x, y]; rfl
theorem fact0 : (Rows.gsvdInfiniteRow.wf (OpenSpec.ofChange Rows.gsvdInfiniteSpec)) = true := by kernel_rfl
theorem fact1 : (laidOutB Tryz.pinned.checked.prog) = true := by kernel_rfl
theorem fact2 : (mapsRowed Tryz.pinned.checked.prog) = true := by kernel_rfl
theorem fact3 : (Tryz.f3.params.all (Tryz.pinned.checked.prog.readableRec ·)) = true := by kernel_rfl
theorem fact4 : (namedTie Tryz.pinned.checked.prog Rows.gsvdInfiniteRow.named Rows.gsvdInfiniteSpec.vars) = true := by kernel_rfl
theorem fact5 : (Rows.gsvdInfiniteRow.stops == []) = true := by kernel_rfl
theorem fact6 : (Tryz.pinned.checked.prog.stops == []) = true := by kernel_rfl
theorem fact7 : (Rows.gsvdInfiniteRow.knobs == []) = true := by kernel_rfl
theorem fact8 : (Tryz.pinned.checked.prog.stopKnobs == []) = true := by kernel_rfl
theorem fact9 : (Rows.gsvdInfiniteRow.inPlace == Tryz.pinned.checked.prog.inPlace 3) = true := by kernel_rfl
theorem fact10 : (Rows.gsvdInfiniteRow.unfollowed == Tryz.pinned.checked.prog.unfollowed 3) = true := by kernel_rfl
theorem fact11 : (Rows.gsvdInfiniteRow.recurses == Tryz.pinned.checked.prog.recurses 3) = true := by kernel_rfl
theorem fact12 : (Rows.gsvdInfiniteRow.named == Tryz.pinned.checked.prog.varsNamed 3) = true := by kernel_rfl
theorem fact13 : (Rows.gsvdInfiniteRow.maps == (Tryz.f3.params.toList ++ Rows.gsvdInfiniteSpec.plain.varTypes Tryz.pinned.checked.prog).any (Tryz.pinned.checked.prog.mapsRec ·)) = true := by kernel_rfl
theorem fact14 : (Rows.gsvdInfiniteRow.ifaces == (Tryz.f3.params.toList ++ Rows.gsvdInfiniteSpec.plain.varTypes Tryz.pinned.checked.prog).any (Tryz.pinned.checked.prog.ifacesRec ·)) = true := by kernel_rfl
theorem fact15 : (Rows.gsvdInfiniteRow.mapsOut == Tryz.pinned.checked.prog.mapsAmong Tryz.f3.resultTypes.toList) = true := by kernel_rfl
theorem fact16 : (Rows.gsvdInfiniteRow.loops == (Tryz.f3.params.toList ++ Rows.gsvdInfiniteSpec.plain.varTypes Tryz.pinned.checked.prog).any (Tryz.pinned.checked.prog.loopsFrom ·)) = true := by kernel_rfl
theorem fact17 : (Rows.gsvdInfiniteRow.wideKeys == (Tryz.f3.params.toList ++ Rows.gsvdInfiniteSpec.plain.varTypes Tryz.pinned.checked.prog ++ Tryz.f3.resultTypes.toList).any (Tryz.pinned.checked.prog.wideKeysFrom ·)) = true := by kernel_rfl
theorem fact18 : (Rows.gsvdInfiniteSpec.vars.all (Tryz.pinned.checked.prog.varReadable ·)) = true := by kernel_rfl
theorem fact19 : (Tryz.f3.resultTypes.all (fun t => Tryz.pinned.checked.prog.readableRec t && decide (t < Tryz.pinned.checked.prog.types.size))) = true := by kernel_rfl
theorem fact20 : (Rows.gsvdInfiniteRow.ifacesOut == Tryz.f3.resultTypes.toList.any (Tryz.pinned.checked.prog.ifacesRec ·)) = true := by kernel_rfl
theorem fact21 : (Rows.gsvdInfiniteRow.loopsOut == Tryz.f3.resultTypes.toList.any (Tryz.pinned.checked.prog.loopsFrom ·)) = true := by kernel_rfl
theorem fact22 : (Rows.gsvdInfiniteRow.plainKeys == Tryz.pinned.checked.prog.plainKeys) = true := by kernel_rfl
theorem fact23 : (Rows.gsvdInfiniteRow.shortTexts.isNone) = true := by kernel_rfl
theorem fact24 : (Tryz.pinned.checked.prog.stopsHeard) = true := by kernel_rfl
theorem fact25 : (Tryz.pinned.checked.prog.mayEnter) = true := by kernel_rfl
theorem fact26 : (Rows.gsvdInfiniteRow.lifted == Tryz.pinned.checked.prog.liftsFinal) = true := by kernel_rfl
theorem fact27 : (Tryz.pinned.checked.prog.make == some Rows.gsvdInfiniteRow.make) = true := by kernel_rfl
theorem fact28 : (Rows.gsvdInfiniteRow.kinds == (if Rows.gsvdInfiniteRow.domain.isEmpty then [] else Tryz.f3.params.toList.map fun t => match Tryz.pinned.checked.prog.underlying t with | some (.int k) => some k | _ => Option.none)) = true := by kernel_rfl
theorem fact29 : (Rows.gsvdInfiniteRow.pinned == Rows.gsvdInfiniteRow.pinnedBy) = true := by kernel_rfl
theorem fact30 : (Rows.gsvdInfiniteRow.veiled == (Tryz.f3.params.toList ++ Rows.gsvdInfiniteSpec.plain.varTypes Tryz.pinned.checked.prog ++ Tryz.f3.resultTypes.toList).any (Tryz.pinned.checked.prog.veiledRec ·)) = true := by kernel_rfl
theorem fact31 : (Rows.gsvdInfiniteRow.veiledFits Tryz.pinned.checked.prog Tryz.f3.params.toList (Tryz.f3.params.toList ++ Rows.gsvdInfiniteSpec.plain.varTypes Tryz.pinned.checked.prog ++ Tryz.f3.resultTypes.toList)) = true := by kernel_rfl
theorem closed : joinedFacts Tryz.pinned.checked.prog 3 Tryz.f3 Rows.gsvdInfiniteSpec Rows.gsvdInfiniteRow = true :=
  band (band (band (band (band (band (band (band (band (band (band (band (band (band (band (band (band (band (band (band (band (band (band (band (band (band (band (band (band (band (band fact0 fact1) fact2) fact3) fact4) fact5) fact6) fact7) fact8) fact9) fact10) fact11) fact12) fact13) fact14) fact15) fact16) fact17) fact18) fact19) fact20) fact21) fact22) fact23) fact24) fact25) fact26) fact27) fact28) fact29) fact30) fact31

theorem over : Rows.gsvdInfiniteRow.holds Tryz.pinned (OpenSpec.ofChange Rows.gsvdInfiniteSpec) :=
  OpenClaim.holds_of_wide 3 Tryz.f3 rfl rfl rfl rfl rfl rfl rfl ⟨rfl, rfl, rfl, rfl, rfl⟩ rfl rfl rfl rfl rfl (by kernel_rfl) Tryz.func3 closed
    (of_decide_eq_true (by kernel_rfl)) (by unfold Func.isWrapper; first | (rw [if_pos (by decide +kernel)]; kernel_rfl) | (rw [if_neg (by decide +kernel)]; exact ⟨rfl, rfl⟩))
    (fun os started H enc _ => lifted os started H enc)

/-- The statement. -/
theorem proved : Rows.GsvdInfiniteSaid :=
  over
#print axioms proved
end Go.Proofs.YtclmlepbdjafdaaGreat.gsvdInfinite
