/- SolveExact answers true at every input, without condition: the law's contract (law17.SolveExact) comes from the verified evaluator. -/
import Derived.Test.YtjbokjpbiobjpaaGreatRows
import Derived.Test.YtjbokjpbiobjpaaGreatTL
import Derived.Below
import Derived.ChangeSame
import Derived.WalkKit
import Derived.ProofKit
import Derived.OpenShut
import Derived.Lib.SmallJoins
import Derived.Deep.Strs
import Derived.HandedShaped
namespace Go.Proofs.YtjbokjpbiobjpaaGreat.solveExact
open Go.ChangeShapes Go.WideShapes Go.ChangeAt Go.RowKit Go.Den Go.Proofs.S1 Go.Joins Go.Deep Go.C4
set_option maxRecDepth 100000

theorem own : ownKnob Tryz.prog.godebug = none := by kernel_rfl
theorem laidOut : laidOutB Tryz.prog = true := by kernel_rfl
theorem cellsE : Tryz.prog.cellsOf 37 = 1 := by kernel_rfl
theorem cellsS : Tryz.prog.cellsOf 22 = 1 := by kernel_rfl
theorem cellsI : Tryz.prog.cellsOf 3 = 1 := by kernel_rfl
theorem cellsM : Tryz.prog.cellsOf 24 = 3 := by kernel_rfl

theorem of_wf {x : Int} (h : (Lit.int .u64 x).wf = true) : Ah x = true := by
  have h := Ag.1 h
  have h1 : (0 : Int) ≤ x := of_decide_eq_true h.1
  have h2 : x ≤ 18446744073709551615 := of_decide_eq_true h.2
  exact Ao.2 ⟨h1, by omega⟩

theorem Es {I J : Nat → Prop} (h : ∀ b, I b → J b) {w : World} {k : IntKind} {l : List Int} {v : Value} (hv : Aj (Ij I) w (.ints .arg k l) v) : Aj (Ij J) w (.ints .arg k l) v := by
  simp only [Aj] at hv ⊢
  obtain ⟨a, cap, e, hc, hh⟩ := hv
  exact ⟨a, cap, e, hc, hh.imp id fun ⟨b, o, e, hb, hcell⟩ => ⟨b, o, e, h b hb, hcell⟩⟩

/-- What a slice weighs. -/
theorem weigh {H : Type} {e s : List (DataW H)} (h : ((DataW.slice e s).weights Tryz.prog 22).all (· ≤ reachBytes) = true) : (e.length + s.length) * 8 ≤ reachBytes := by
  have hb : Tryz.prog.bytesOf 37 = 8 := by kernel_rfl
  unfold DataW.weights at h
  rw [Tryz.underlying22] at h
  simp only [hb, List.all_cons, List.all_append, Bool.and_eq_true, decide_eq_true_eq] at h
  exact h.1
theorem lits_length (k : IntKind) (l : List Int) {H : Type} : (lits k l : List (DataW H)).length = l.length := by simp [lits]

/-- A slice of words, opened. -/
theorem open_list {H : Type} {enc : TypeId × Value → H} {W : World} {n : Nat} {x : Value} {y : DataW H × List MemPlace} (h : DataW.trod enc Tryz.prog W 0 (fun _ => true) true n 22 [x] = some y) (hlt : ∀ z ∈ y.2, z.block < W.heap.size) :
    ∃ (l : List Int) (I : Nat → Prop), (∀ z ∈ l, Ah z = true) ∧ (∀ b, I b → b < W.heap.size) ∧ Aj (Ij I) W (.ints .arg .u64 l) x ∧ ((y.1.weights Tryz.prog 22).all (· ≤ reachBytes) = true → Aut l = true) := by
  rcases open_ints Tryz.underlying22 Tryz.underlying37 cellsE h with ⟨hcs, hx⟩ | ⟨a, len, cap, zs, hcs, _, hl, hm, hz, hx, hcell, hwz⟩
  · simp only [List.cons.injEq, and_true] at hcs
    subst hcs
    exact ⟨[], fun _ => False, fun x h => (by cases h), fun _ h => h.elim, ⟨none, 0, rfl, Nat.le_refl _, .inl rfl⟩, fun _ => Ao.2 (Nat.zero_le _)⟩
  · simp only [List.cons.injEq, and_true] at hcs
    subst hcs
    obtain ⟨yd, yp⟩ := y
    simp only [Prod.mk.injEq] at hx
    obtain ⟨rfl, rfl⟩ := hx
    simp only [if_true] at hz
    have hlen : (zs.take len).length = len := by rw [List.length_take]; omega
    have hin : ∀ x ∈ zs.take len, Ah x = true := fun x h => of_wf (hwz x (List.mem_of_mem_take h))
    by_cases h0 : len = 0
    · subst h0
      exact ⟨[], fun _ => False, fun x h => (by cases h), fun _ h => h.elim, ⟨some a, cap, rfl, by simp, .inl rfl⟩, fun _ => Ao.2 (Nat.zero_le _)⟩
    · obtain ⟨b, off, rfl, hc⟩ := ints_at hcell (by omega)
      refine ⟨zs.take len, fun x => x = b, hin, fun x h => ?_, ?_, fun hw => ?_⟩
      · subst h
        exact hlt (.cell x off) (MemPlace.mem_row.2 ⟨0, by omega, by simp⟩)
      · refine ⟨some ⟨b, off, none⟩, cap, by rw [hlen], by rw [hlen]; exact hl, .inr ⟨b, off, rfl, rfl, fun i n hi => ?_⟩⟩
        have hi' : i < len := by
          have := (List.getElem?_eq_some_iff.1 hi).1
          omega
        rw [hc i (by omega)]
        rw [List.getElem?_take_of_lt hi'] at hi
        rw [List.getD_eq_getElem?_getD, hi]
        rfl
      · have := weigh hw
        rw [lits_length, lits_length, List.length_take, List.length_drop] at this
        exact Ao.2 (by rw [List.length_take]; unfold reachBytes at this; omega)

theorem cells_41 : Tryz.prog.cellsOf 41 = 1 := by kernel_rfl
/-- A slice of i8, opened. -/
theorem open_38 {H : Type} {enc : TypeId × Value → H} {W : World} {n : Nat} {x : Value} {y : DataW H × List MemPlace} (h : DataW.trod enc Tryz.prog W 0 (fun _ => true) true n 38 [x] = some y) (hlt : ∀ z ∈ y.2, z.block < W.heap.size) :
    ∃ (l : List Int) (I : Nat → Prop), (∀ b, I b → b < W.heap.size) ∧ Aj (Ij I) W (.ints .arg .i8 l) x := by
  rcases open_ints Tryz.underlying38 Tryz.underlying41 cells_41 h with ⟨hcs, hx⟩ | ⟨a, len, cap, zs, hcs, _, hl, hm, hz, hx, hcell, hwz⟩
  · simp only [List.cons.injEq, and_true] at hcs
    subst hcs
    exact ⟨[], fun _ => False, fun _ h => h.elim, ⟨none, 0, rfl, Nat.le_refl _, .inl rfl⟩⟩
  · simp only [List.cons.injEq, and_true] at hcs
    subst hcs
    obtain ⟨yd, yp⟩ := y
    simp only [Prod.mk.injEq] at hx
    obtain ⟨rfl, rfl⟩ := hx
    simp only [if_true] at hz
    have hlen : (zs.take len).length = len := by rw [List.length_take]; omega
    by_cases h0 : len = 0
    · subst h0
      exact ⟨[], fun _ => False, fun _ h => h.elim, ⟨some a, cap, rfl, by simp, .inl rfl⟩⟩
    · obtain ⟨b, off, rfl, hc⟩ := ints_at hcell (by omega)
      refine ⟨zs.take len, fun x => x = b, fun x h => ?_, ?_⟩
      · subst h
        exact hlt (.cell x off) (MemPlace.mem_row.2 ⟨0, by omega, by simp⟩)
      · refine ⟨some ⟨b, off, none⟩, cap, by rw [hlen], by rw [hlen]; exact hl, .inr ⟨b, off, rfl, rfl, fun i n hi => ?_⟩⟩
        have hi' : i < len := by
          have := (List.getElem?_eq_some_iff.1 hi).1
          omega
        rw [hc i (by omega)]
        rw [List.getElem?_take_of_lt hi'] at hi
        rw [List.getD_eq_getElem?_getD, hi]
        rfl

theorem of_u8 {x : Int} (h : (Lit.int .u8 x).wf = true) : 0 ≤ x ∧ x ≤ 255 := by
  have h := Ag.1 h
  have h1 : (0 : Int) ≤ x := of_decide_eq_true h.1
  have h2 : x ≤ 255 := of_decide_eq_true h.2
  exact ⟨h1, h2⟩

/-! ### The call: by the law's contract -/
theorem walk (w : World) (I : Nat → Prop) (hI : ∀ b, I b → b < w.heap.size) (n0 : Int) (w0 : 0 ≤ n0 ∧ n0 ≤ 255) (l0 : List Int) (x0 : Value) (hv0 : Aj (Ij I) w (.ints .arg .i8 l0) x0) (l1 : List Int) (x1 : Value) (hv1 : Aj (Ij I) w (.ints .arg .i8 l1) x1) :
    Calls Tryz.prog 5 #[.int .u8 n0, x0, x1] w fun e w' => e = .returned (.bool true) ∧ Below w.heap.size w w' :=
  Aqw Bi.A0.known (args := [.int .u8 n0, .ints .arg .i8 l0, .ints .arg .i8 l1]) (I := I) hI ⟨_, _, rfl, rfl, ⟨_, _, rfl, hv0, ⟨_, _, rfl, hv1, rfl⟩⟩⟩ (Ao.2 w0) rfl

set_option maxRecDepth 100000 in
theorem lifted (os : Os) (started : os.Started) (H : Type) (enc : TypeId × Value → H) :
    ReturnsInHanded {} Tryz.checked os 5 .any (Rows.solveExactSpec.pre6 enc Tryz.prog Tryz.f5 Rows.solveExactRow.domain false) (Rows.solveExactSpec.post enc Tryz.prog Tryz.f5 false true false false) := by
  refine returnsInHanded_of_change_shaped (C := Tryz.checked) own started (by kernel_rfl) Tryz.func5
    (ChangeSpec.witness6 (enc := enc) (C := Tryz.checked) false ⟨#[], #[.int .u8 0, .slice none 0 0, .slice none 0 0], []⟩ 8 (by kernel_rfl) (by kernel_rfl) (by kernel_rfl) (by kernel_rfl)) ?_
  intro W base args ds gs before hval0 hW hcnd hsz0 _ _
  have hval : ∀ (j : Nat) t v, Tryz.f5.params[j]? = some t → args[j]? = some v → Value.okWide Tryz.prog W .any base t v := hval0
  have hW' := hW
  obtain ⟨p, q, hA0, hV, rfl, hfz, hnd⟩ := hW
  have hA : DataW.TrodAll enc Tryz.prog W 0 (fun _ => true) true Tryz.f5.params.toList args.toList ds p := hA0
  rw [Tryz.params5] at hA hval
  obtain ⟨v0, vs0, d0, ds0, p0, q0, hargs, rfl, rfl, h0, rr0⟩ := trodAll_cons hA
  obtain ⟨v1, vs1, d1, ds1, p1, q1, rfl, rfl, rfl, h1, rr1⟩ := trodAll_cons rr0
  obtain ⟨v2, vs2, d2, ds2, p2, q2, rfl, rfl, rfl, h2, rr2⟩ := trodAll_cons rr1
  obtain ⟨rfl, rfl, rfl⟩ := trodAll_nil rr2
  obtain rfl : args = #[v0, v1, v2] := by cases args; simp_all
  obtain ⟨rfl, rfl⟩ := trodVars_none hV
  clear hA0 hval0
  simp only [List.append_nil] at hW'
  clear hsz0
  have hlt0 : ∀ x ∈ p0, x.block < W.heap.size := fun x hx => hW'.lt x (List.mem_append_left _ hx)
  have hlt1 : ∀ x ∈ p1, x.block < W.heap.size := fun x hx => hW'.lt x (List.mem_append_right _ (List.mem_append_left _ hx))
  have hlt2 : ∀ x ∈ p2, x.block < W.heap.size := fun x hx => hW'.lt x (List.mem_append_right _ (List.mem_append_right _ (hx)))
  have k0 := h0
  obtain ⟨n0, e_0, _, _, w0⟩ := open_int Tryz.underlying5 (hval 0 5 v0 rfl rfl) h0
  subst e_0
  have k1 := h1
  obtain ⟨a0, len0, cap0, rfl⟩ := okWide_slice Tryz.underlying38 (hval 1 38 v1 rfl rfl)
  obtain ⟨fuel1, hf1⟩ := h1
  have e0 : Value := .slice a0 len0 cap0
  obtain ⟨l0, I0, hI0, hv0⟩ := open_38 (x := .slice a0 len0 cap0) (by simpa [Value.cells] using hf1) hlt1
  have k2 := h2
  obtain ⟨a1, len1, cap1, rfl⟩ := okWide_slice Tryz.underlying38 (hval 2 38 v2 rfl rfl)
  obtain ⟨fuel2, hf2⟩ := h2
  have e1 : Value := .slice a1 len1 cap1
  obtain ⟨l1, I1, hI1, hv1⟩ := open_38 (x := .slice a1 len1 cap1) (by simpa [Value.cells] using hf2) hlt2
  refine (walk W (fun b => I0 b ∨ I1 b) (fun b h => h.elim (hI0 b) fun h => hI1 b h) n0 (of_u8 w0) l0 _ (Es (fun _ h => .inl h) hv0) l1 _ (Es (fun _ h => .inr h) hv1)).mono fun e W' ⟨he, hg⟩ => ?_
  subst he
  refine ⟨_, rfl, _, _, _, [], p0 ++ (p1 ++ (p2)), [], hW', (trodAll_cons_mk (shut_bool Tryz.underlying4 _) trodAll_mk0), ?_, rfl, ?_, fun h => by cases h⟩
  · exact (trodAll_cons_mk (Below.trod laidOut (by kernel_rfl) (of_decide_eq_true (by kernel_rfl)) k0 hg hlt0) (trodAll_cons_mk (Below.trod laidOut (by kernel_rfl) (of_decide_eq_true (by kernel_rfl)) k1 hg hlt1) (trodAll_mk1 (Below.trod laidOut (by kernel_rfl) (of_decide_eq_true (by kernel_rfl)) k2 hg hlt2))))
  · exact hg.frame _

/-! The closed facts, each by itself: together they are too much for one declaration. -/
theorem band {a b : Bool} (x : a = true) (y : b = true) : (a && b) = true := by rw [x, y]; rfl
theorem fact0 : (Rows.solveExactRow.wf (OpenSpec.ofChange Rows.solveExactSpec)) = true := by kernel_rfl
theorem fact1 : (laidOutB Tryz.pinned.checked.prog) = true := by kernel_rfl
theorem fact2 : (mapsRowed Tryz.pinned.checked.prog) = true := by kernel_rfl
theorem fact3 : (Tryz.f5.params.all (Tryz.pinned.checked.prog.readableRec ·)) = true := by kernel_rfl
theorem fact4 : (namedTie Tryz.pinned.checked.prog Rows.solveExactRow.named Rows.solveExactSpec.vars) = true := by kernel_rfl
theorem fact5 : (Rows.solveExactRow.stops == []) = true := by kernel_rfl
theorem fact6 : (Tryz.pinned.checked.prog.stops == []) = true := by kernel_rfl
theorem fact7 : (Rows.solveExactRow.knobs == []) = true := by kernel_rfl
theorem fact8 : (Tryz.pinned.checked.prog.stopKnobs == []) = true := by kernel_rfl
theorem fact9 : (Rows.solveExactRow.inPlace == Tryz.pinned.checked.prog.inPlace 5) = true := by kernel_rfl
theorem fact10 : (Rows.solveExactRow.unfollowed == Tryz.pinned.checked.prog.unfollowed 5) = true := by kernel_rfl
theorem fact11 : (Rows.solveExactRow.recurses == Tryz.pinned.checked.prog.recurses 5) = true := by kernel_rfl
theorem fact12 : (Rows.solveExactRow.named == Tryz.pinned.checked.prog.varsNamed 5) = true := by kernel_rfl
theorem fact13 : (Rows.solveExactRow.maps == (Tryz.f5.params.toList ++ Rows.solveExactSpec.plain.varTypes Tryz.pinned.checked.prog).any (Tryz.pinned.checked.prog.mapsRec ·)) = true := by kernel_rfl
theorem fact14 : (Rows.solveExactRow.ifaces == (Tryz.f5.params.toList ++ Rows.solveExactSpec.plain.varTypes Tryz.pinned.checked.prog).any (Tryz.pinned.checked.prog.ifacesRec ·)) = true := by kernel_rfl
theorem fact15 : (Rows.solveExactRow.mapsOut == Tryz.pinned.checked.prog.mapsAmong Tryz.f5.resultTypes.toList) = true := by kernel_rfl
theorem fact16 : (Rows.solveExactRow.loops == (Tryz.f5.params.toList ++ Rows.solveExactSpec.plain.varTypes Tryz.pinned.checked.prog).any (Tryz.pinned.checked.prog.loopsFrom ·)) = true := by kernel_rfl
theorem fact17 : (Rows.solveExactRow.wideKeys == (Tryz.f5.params.toList ++ Rows.solveExactSpec.plain.varTypes Tryz.pinned.checked.prog ++ Tryz.f5.resultTypes.toList).any (Tryz.pinned.checked.prog.wideKeysFrom ·)) = true := by kernel_rfl
theorem fact18 : (Rows.solveExactSpec.vars.all (Tryz.pinned.checked.prog.varReadable ·)) = true := by kernel_rfl
theorem fact19 : (Tryz.f5.resultTypes.all (fun t => Tryz.pinned.checked.prog.readableRec t && decide (t < Tryz.pinned.checked.prog.types.size))) = true := by kernel_rfl
theorem fact20 : (Rows.solveExactRow.ifacesOut == Tryz.f5.resultTypes.toList.any (Tryz.pinned.checked.prog.ifacesRec ·)) = true := by kernel_rfl
theorem fact21 : (Rows.solveExactRow.loopsOut == Tryz.f5.resultTypes.toList.any (Tryz.pinned.checked.prog.loopsFrom ·)) = true := by kernel_rfl
theorem fact22 : (Rows.solveExactRow.plainKeys == Tryz.pinned.checked.prog.plainKeys) = true := by kernel_rfl
theorem fact23 : (Rows.solveExactRow.shortTexts.isNone) = true := by kernel_rfl
theorem fact24 : (Tryz.pinned.checked.prog.stopsHeard) = true := by kernel_rfl
theorem fact25 : (Tryz.pinned.checked.prog.mayEnter) = true := by kernel_rfl
theorem fact26 : (Rows.solveExactRow.lifted == Tryz.pinned.checked.prog.liftsFinal) = true := by kernel_rfl
theorem fact27 : (Tryz.pinned.checked.prog.make == some Rows.solveExactRow.make) = true := by kernel_rfl
theorem fact28 : (Rows.solveExactRow.kinds == (if Rows.solveExactRow.domain.isEmpty then [] else Tryz.f5.params.toList.map fun t => match Tryz.pinned.checked.prog.underlying t with | some (.int k) => some k | _ => Option.none)) = true := by kernel_rfl
theorem fact29 : (Rows.solveExactRow.pinned == Rows.solveExactRow.pinnedBy) = true := by kernel_rfl
theorem fact30 : (Rows.solveExactRow.veiled == (Tryz.f5.params.toList ++ Rows.solveExactSpec.plain.varTypes Tryz.pinned.checked.prog ++ Tryz.f5.resultTypes.toList).any (Tryz.pinned.checked.prog.veiledRec ·)) = true := by kernel_rfl
theorem fact31 : (Rows.solveExactRow.veiledFits Tryz.pinned.checked.prog Tryz.f5.params.toList (Tryz.f5.params.toList ++ Rows.solveExactSpec.plain.varTypes Tryz.pinned.checked.prog ++ Tryz.f5.resultTypes.toList)) = true := by kernel_rfl
theorem closed : joinedFacts Tryz.pinned.checked.prog 5 Tryz.f5 Rows.solveExactSpec Rows.solveExactRow = true :=
  band (band (band (band (band (band (band (band (band (band (band (band (band (band (band (band (band (band (band (band (band (band (band (band (band (band (band (band (band (band (band fact0 fact1) fact2) fact3) fact4) fact5) fact6) fact7) fact8) fact9) fact10) fact11) fact12) fact13) fact14) fact15) fact16) fact17) fact18) fact19) fact20) fact21) fact22) fact23) fact24) fact25) fact26) fact27) fact28) fact29) fact30) fact31

theorem over : Rows.solveExactRow.holds Tryz.pinned (OpenSpec.ofChange Rows.solveExactSpec) :=
  OpenClaim.holds_of_wide 5 Tryz.f5 rfl rfl rfl rfl rfl rfl rfl ⟨rfl, rfl, rfl, rfl, rfl⟩ rfl rfl rfl rfl rfl (by kernel_rfl) Tryz.func5 closed
    (of_decide_eq_true (by kernel_rfl)) (by unfold Func.isWrapper; first | (rw [if_pos (by decide +kernel)]; kernel_rfl) | (rw [if_neg (by decide +kernel)]; exact ⟨rfl, rfl⟩))
    (fun os started H enc _ => lifted os started H enc)

/-- The statement. -/
theorem proved : Rows.SolveExactSaid :=
  over
#print axioms proved
end Go.Proofs.YtjbokjpbiobjpaaGreat.solveExact
