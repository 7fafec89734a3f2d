/- SolveLeasts answers true at every input, without condition: the law's contract (law17.SolveLeasts) comes from the verified evaluator; matrices are lists of rows, and what is computed is computed in the same order. -/
import Derived.Test.YtjbokjpbiobjpaaGreatRows
import Derived.Test.YtjbokjpbiobjpaaGreatTN
import Derived.Below
import Derived.ChangeSame
import Derived.WalkKit
import Derived.ProofKit
import Derived.OpenShut
import Derived.Lib.SmallJoins
import Derived.HandedShaped
namespace Go.Proofs.YtjbokjpbiobjpaaGreat.solveLeasts
open Go.ChangeShapes Go.WideShapes Go.ChangeAt Go.RowKit Go.Den Go.Proofs.S1 Go.Joins Go.Rnd
set_option maxRecDepth 100000

theorem own : ownKnob Tryz.prog.godebug = none := by kernel_rfl
theorem laidOut : laidOutB Tryz.prog = true := by kernel_rfl
theorem cells37 : Tryz.prog.cellsOf 37 = 1 := by kernel_rfl

theorem of_wf {x : Int} (h : (Lit.int .u64 x).wf = true) : Ag x = true := by
  have h := Ad.1 h
  have h1 : (0 : Int) ≤ x := of_decide_eq_true h.1
  have h2 : x ≤ 18446744073709551615 := of_decide_eq_true h.2
  exact Av.2 ⟨h1, by omega⟩
theorem of_wfi {x : Int} (h : (Lit.int .i64 x).wf = true) : Ahm x = true := by
  have h := Ad.1 h
  have h1 : (-9223372036854775808 : Int) ≤ x := of_decide_eq_true h.1
  have h2 : x ≤ 9223372036854775807 := of_decide_eq_true h.2
  exact Av.2 ⟨h1, h2⟩

theorem E2 {I J : Nat → Prop} (h : ∀ b, I b → J b) {w : World} {l : List Int} {v : Value} (hv : Ao (J2 I) w (.ints .arg .u64 l) v) : Ao (J2 J) w (.ints .arg .u64 l) v := by
  simp only [Ao] at hv ⊢
  obtain ⟨a, cap, e, hc, hh⟩ := hv
  exact ⟨a, cap, e, hc, hh.imp id fun ⟨b, o, e, hb, hcell⟩ => ⟨b, o, e, h b hb, hcell⟩⟩

/-- What a matrix weighs. -/
theorem weigh {H : Type} {y0 y1 : DataW H} {e s : List (DataW H)} (h : ((DataW.agg [y0, y1, .slice e s]).weights Tryz.prog 24).all (· ≤ reachBytes) = true) : (e.length + s.length) * 8 ≤ reachBytes := by
  have hb : Tryz.prog.bytesOf 37 = 8 := by kernel_rfl
  unfold DataW.weights at h
  rw [Tryz.underlying24] at h
  simp only [List.map_cons, List.map_nil, DataW.weightsEach, DataW.weights, Tryz.underlying22, hb, List.append_nil, List.all_append, List.all_cons, Bool.and_eq_true, decide_eq_true_eq] at h
  exact h.2.2.1
theorem lits_length (k : IntKind) (l : List Int) {H : Type} : (lits k l : List (DataW H)).length = l.length := by simp [lits]

/-- A matrix, opened. -/
theorem open_mat {H : Type} {enc : TypeId × Value → H} {W : World} {base : Nat} {v : Value} {d : DataW H} {p : List MemPlace} (hv : Value.okWide Tryz.prog W .any base 24 v) (h : DataW.Trod enc Tryz.prog W 0 (fun _ => true) true 24 v d p)
    (hlt : ∀ x ∈ p, x.block < W.heap.size) :
    ∃ (r c : Int) (l : List Int) (x : Value) (I : Nat → Prop), v = .agg #[.int .i64 r, .int .i64 c, x] ∧ Ahm r = true ∧ Ahm c = true ∧ (∀ y ∈ l, Ag y = true) ∧ (∀ b, I b → b < W.heap.size) ∧ Ao (J2 I) W (.ints .arg .u64 l) x ∧ ((d.weights Tryz.prog 24).all (· ≤ reachBytes) = true → Gr l = true) := by
  obtain ⟨v0, v1, v2, y0, y1, y2, n, rfl, rfl, rfl, h0, h1, h2⟩ := open_agg3 Tryz.underlying24 (by kernel_rfl) (by kernel_rfl) hv h
  obtain ⟨r, e0, _, w0⟩ := DataW.trod_int Tryz.underlying3 h0
  obtain ⟨c, e1, _, w1⟩ := DataW.trod_int Tryz.underlying3 h1
  simp only [List.cons.injEq, and_true] at e0 e1
  subst e0 e1
  rcases open_ints Tryz.underlying22 Tryz.underlying37 cells37 h2 with ⟨hcs, hx⟩ | ⟨a, len, cap, zs, hcs, _, hl, hm, hz, hx, hcell, hwz⟩
  · simp only [List.cons.injEq, and_true] at hcs
    subst hcs
    exact ⟨r, c, [], _, fun _ => False, rfl, of_wfi w0, of_wfi w1, fun x h => (by cases h), fun _ h => h.elim, ⟨none, 0, rfl, Nat.le_refl _, .inl rfl⟩, fun _ => Av.2 (Nat.zero_le _)⟩
  · simp only [List.cons.injEq, and_true] at hcs
    subst hcs
    obtain ⟨y2d, y2p⟩ := y2
    simp only [Prod.mk.injEq] at hx
    obtain ⟨rfl, rfl⟩ := hx
    simp only [if_true] at hz
    have hlen : (zs.take len).length = len := by rw [List.length_take]; omega
    have hin : ∀ x ∈ zs.take len, Ag x = true := fun x h => of_wf (hwz x (List.mem_of_mem_take h))
    by_cases h0 : len = 0
    · subst h0
      exact ⟨r, c, [], _, fun _ => False, rfl, of_wfi w0, of_wfi w1, fun x h => (by cases h), fun _ h => h.elim, ⟨some a, cap, rfl, by simp, .inl rfl⟩, fun _ => Av.2 (Nat.zero_le _)⟩
    · obtain ⟨b, off, rfl, hc⟩ := ints_at hcell (by omega)
      refine ⟨r, c, zs.take len, _, fun x => x = b, rfl, of_wfi w0, of_wfi w1, hin, fun x h => ?_, ?_, fun hw => ?_⟩
      · subst h
        exact hlt (.cell x off) (List.mem_append_right _ (List.mem_append_right _ (MemPlace.mem_row.2 ⟨0, by omega, by simp⟩)))
      · refine ⟨some ⟨b, off, none⟩, cap, by rw [hlen], by rw [hlen]; exact hl, .inr ⟨b, off, rfl, rfl, fun i n hi => ?_⟩⟩
        have hi' : i < len := by
          have := (List.getElem?_eq_some_iff.1 hi).1
          omega
        rw [hc i (by omega)]
        rw [List.getElem?_take_of_lt hi'] at hi
        rw [List.getD_eq_getElem?_getD, hi]
        rfl
      · have := weigh hw
        rw [lits_length, lits_length, List.length_take, List.length_drop] at this
        exact Av.2 (by rw [List.length_take]; unfold reachBytes at this; omega)

/-! ### The call: by the law's contract -/
theorem walk (w : World) (I : Nat → Prop) (hI : ∀ b, I b → b < w.heap.size) (r0 c0 : Int) (l0 : List Int) (x0 : Value) (_hr0 : Ahm r0 = true) (_hc0 : Ahm c0 = true) (hl0 : ∀ y ∈ l0, Ag y = true) (ol0 : Gr l0 = true) (hv0 : Ao (J2 I) w (.ints .arg .u64 l0) x0) (r1 c1 : Int) (l1 : List Int) (x1 : Value) (_hr1 : Ahm r1 = true) (_hc1 : Ahm c1 = true) (hl1 : ∀ y ∈ l1, Ag y = true) (ol1 : Gr l1 = true) (hv1 : Ao (J2 I) w (.ints .arg .u64 l1) x1) :
    Calls Tryz.prog 4 #[.agg #[.int .i64 r0, .int .i64 c0, x0], .agg #[.int .i64 r1, .int .i64 c1, x1]] w fun e w' => e = .returned (.bool true) ∧ Below w.heap.size w w' :=
  Aro B9.Bk.known (args := [.agg [.int .i64 r0, .int .i64 c0, .ints .arg .u64 l0], .agg [.int .i64 r1, .int .i64 c1, .ints .arg .u64 l1]]) (I := I) hI ⟨_, _, rfl, ⟨_, rfl, ⟨_, _, rfl, rfl, ⟨_, _, rfl, rfl, ⟨_, _, rfl, hv0, rfl⟩⟩⟩⟩, ⟨_, _, rfl, ⟨_, rfl, ⟨_, _, rfl, rfl, ⟨_, _, rfl, rfl, ⟨_, _, rfl, hv1, rfl⟩⟩⟩⟩, rfl⟩⟩ (Ad.2 ⟨Ad.2 ⟨Av.2 hl0, Av.2 hl1⟩, Ad.2 ⟨ol0, ol1⟩⟩) rfl

set_option maxRecDepth 100000 in
theorem lifted (os : Os) (started : os.Started) (H : Type) (enc : TypeId × Value → H) :
    ReturnsInHanded {} Tryz.checked os 4 .any (Rows.solveLeastsSpec.pre6 enc Tryz.prog Tryz.f4 Rows.solveLeastsRow.domain false) (Rows.solveLeastsSpec.post enc Tryz.prog Tryz.f4 false true false false) := by
  refine returnsInHanded_of_change_shaped (C := Tryz.checked) own started (by kernel_rfl) Tryz.func4
    (ChangeSpec.witness6 (enc := enc) (C := Tryz.checked) false ⟨#[], #[.agg #[.int .i64 0, .int .i64 0, .slice none 0 0], .agg #[.int .i64 0, .int .i64 0, .slice none 0 0]], []⟩ 8 (by kernel_rfl) (by kernel_rfl) (by kernel_rfl) (by kernel_rfl)) ?_
  intro W base args ds gs before hval0 hW hcnd hsz0 _ _
  have hval : ∀ (j : Nat) t v, Tryz.f4.params[j]? = some t → args[j]? = some v → Value.okWide Tryz.prog W .any base t v := hval0
  have hW' := hW
  obtain ⟨p, q, hA0, hV, rfl, hfz, hnd⟩ := hW
  have hA : DataW.TrodAll enc Tryz.prog W 0 (fun _ => true) true Tryz.f4.params.toList args.toList ds p := hA0
  rw [Tryz.params4] at hA hval
  obtain ⟨v0, vs0, d0, ds0, p0, q0, hargs, rfl, rfl, h0, rr0⟩ := trodAll_cons hA
  obtain ⟨v1, vs1, d1, ds1, p1, q1, rfl, rfl, rfl, h1, rr1⟩ := trodAll_cons rr0
  obtain ⟨rfl, rfl, rfl⟩ := trodAll_nil rr1
  obtain rfl : args = #[v0, v1] := by cases args; simp_all
  obtain ⟨rfl, rfl⟩ := trodVars_none hV
  clear hA0 hval0
  simp only [List.append_nil] at hW'
  have hsz : (DataW.weightsEach Tryz.prog (Tryz.f4.params.toList ++ []) ([d0, d1] ++ [])).all (· ≤ reachBytes) = true := hsz0
  rw [Tryz.params4] at hsz
  simp only [List.append_nil, DataW.weightsEach, List.all_append, Bool.and_eq_true] at hsz
  obtain ⟨z0, z1⟩ := hsz
  clear hsz0
  have hlt0 : ∀ x ∈ p0, x.block < W.heap.size := fun x hx => hW'.lt x (List.mem_append_left _ hx)
  have hlt1 : ∀ x ∈ p1, x.block < W.heap.size := fun x hx => hW'.lt x (List.mem_append_right _ (hx))
  have k0 := h0
  obtain ⟨r0, c0, l0, x0, I0, rfl, hr0, hc0, hl0, hI0, hv0, sz0⟩ := open_mat (hval 0 24 v0 rfl rfl) h0 hlt0
  have k1 := h1
  obtain ⟨r1, c1, l1, x1, I1, rfl, hr1, hc1, hl1, hI1, hv1, sz1⟩ := open_mat (hval 1 24 v1 rfl rfl) h1 hlt1
  refine (walk W (fun b => I0 b ∨ I1 b) (fun b h => h.elim (hI0 b) (hI1 b)) r0 c0 l0 x0 hr0 hc0 hl0 (sz0 z0) (E2 (fun _ h => .inl h) hv0) r1 c1 l1 x1 hr1 hc1 hl1 (sz1 z1) (E2 (fun _ h => .inr h) hv1)).mono fun e W' ⟨he, hg⟩ => ?_
  subst he
  refine ⟨_, rfl, _, _, _, [], p0 ++ (p1), [], hW', (trodAll_cons_mk (shut_bool Tryz.underlying4 _) trodAll_mk0), ?_, rfl, ?_, fun h => by cases h⟩
  · exact (trodAll_cons_mk (Below.trod laidOut (by kernel_rfl) (of_decide_eq_true (by kernel_rfl)) k0 hg hlt0) (trodAll_mk1 (Below.trod laidOut (by kernel_rfl) (of_decide_eq_true (by kernel_rfl)) k1 hg hlt1)))
  · exact hg.frame _

/-! The closed facts, each by itself: together they are too much for one declaration. -/
theorem band {a b : Bool} (x : a = true) (y : b = true) : (a && b) = true := by rw [x, y]; rfl
theorem fact0 : (Rows.solveLeastsRow.wf (OpenSpec.ofChange Rows.solveLeastsSpec)) = true := by kernel_rfl
theorem fact1 : (laidOutB Tryz.pinned.checked.prog) = true := by kernel_rfl
theorem fact2 : (mapsRowed Tryz.pinned.checked.prog) = true := by kernel_rfl
theorem fact3 : (Tryz.f4.params.all (Tryz.pinned.checked.prog.readableRec ·)) = true := by kernel_rfl
theorem fact4 : (namedTie Tryz.pinned.checked.prog Rows.solveLeastsRow.named Rows.solveLeastsSpec.vars) = true := by kernel_rfl
theorem fact5 : (Rows.solveLeastsRow.stops == []) = true := by kernel_rfl
theorem fact6 : (Tryz.pinned.checked.prog.stops == []) = true := by kernel_rfl
theorem fact7 : (Rows.solveLeastsRow.knobs == []) = true := by kernel_rfl
theorem fact8 : (Tryz.pinned.checked.prog.stopKnobs == []) = true := by kernel_rfl
theorem fact9 : (Rows.solveLeastsRow.inPlace == Tryz.pinned.checked.prog.inPlace 4) = true := by kernel_rfl
theorem fact10 : (Rows.solveLeastsRow.unfollowed == Tryz.pinned.checked.prog.unfollowed 4) = true := by kernel_rfl
theorem fact11 : (Rows.solveLeastsRow.recurses == Tryz.pinned.checked.prog.recurses 4) = true := by kernel_rfl
theorem fact12 : (Rows.solveLeastsRow.named == Tryz.pinned.checked.prog.varsNamed 4) = true := by kernel_rfl
theorem fact13 : (Rows.solveLeastsRow.maps == (Tryz.f4.params.toList ++ Rows.solveLeastsSpec.plain.varTypes Tryz.pinned.checked.prog).any (Tryz.pinned.checked.prog.mapsRec ·)) = true := by kernel_rfl
theorem fact14 : (Rows.solveLeastsRow.ifaces == (Tryz.f4.params.toList ++ Rows.solveLeastsSpec.plain.varTypes Tryz.pinned.checked.prog).any (Tryz.pinned.checked.prog.ifacesRec ·)) = true := by kernel_rfl
theorem fact15 : (Rows.solveLeastsRow.mapsOut == Tryz.pinned.checked.prog.mapsAmong Tryz.f4.resultTypes.toList) = true := by kernel_rfl
theorem fact16 : (Rows.solveLeastsRow.loops == (Tryz.f4.params.toList ++ Rows.solveLeastsSpec.plain.varTypes Tryz.pinned.checked.prog).any (Tryz.pinned.checked.prog.loopsFrom ·)) = true := by kernel_rfl
theorem fact17 : (Rows.solveLeastsRow.wideKeys == (Tryz.f4.params.toList ++ Rows.solveLeastsSpec.plain.varTypes Tryz.pinned.checked.prog ++ Tryz.f4.resultTypes.toList).any (Tryz.pinned.checked.prog.wideKeysFrom ·)) = true := by kernel_rfl
theorem fact18 : (Rows.solveLeastsSpec.vars.all (Tryz.pinned.checked.prog.varReadable ·)) = true := by kernel_rfl
theorem fact19 : (Tryz.f4.resultTypes.all (fun t => Tryz.pinned.checked.prog.readableRec t && decide (t < Tryz.pinned.checked.prog.types.size))) = true := by kernel_rfl
theorem fact20 : (Rows.solveLeastsRow.ifacesOut == Tryz.f4.resultTypes.toList.any (Tryz.pinned.checked.prog.ifacesRec ·)) = true := by kernel_rfl
theorem fact21 : (Rows.solveLeastsRow.loopsOut == Tryz.f4.resultTypes.toList.any (Tryz.pinned.checked.prog.loopsFrom ·)) = true := by kernel_rfl
theorem fact22 : (Rows.solveLeastsRow.plainKeys == Tryz.pinned.checked.prog.plainKeys) = true := by kernel_rfl
theorem fact23 : (Rows.solveLeastsRow.shortTexts.isNone) = true := by kernel_rfl
theorem fact24 : (Tryz.pinned.checked.prog.stopsHeard) = true := by kernel_rfl
theorem fact25 : (Tryz.pinned.checked.prog.mayEnter) = true := by kernel_rfl
theorem fact26 : (Rows.solveLeastsRow.lifted == Tryz.pinned.checked.prog.liftsFinal) = true := by kernel_rfl
theorem fact27 : (Tryz.pinned.checked.prog.make == some Rows.solveLeastsRow.make) = true := by kernel_rfl
theorem fact28 : (Rows.solveLeastsRow.kinds == (if Rows.solveLeastsRow.domain.isEmpty then [] else Tryz.f4.params.toList.map fun t => match Tryz.pinned.checked.prog.underlying t with | some (.int k) => some k | _ => Option.none)) = true := by kernel_rfl
theorem fact29 : (Rows.solveLeastsRow.pinned == Rows.solveLeastsRow.pinnedBy) = true := by kernel_rfl
theorem fact30 : (Rows.solveLeastsRow.veiled == (Tryz.f4.params.toList ++ Rows.solveLeastsSpec.plain.varTypes Tryz.pinned.checked.prog ++ Tryz.f4.resultTypes.toList).any (Tryz.pinned.checked.prog.veiledRec ·)) = true := by kernel_rfl
theorem fact31 : (Rows.solveLeastsRow.veiledFits Tryz.pinned.checked.prog Tryz.f4.params.toList (Tryz.f4.params.toList ++ Rows.solveLeastsSpec.plain.varTypes Tryz.pinned.checked.prog ++ Tryz.f4.resultTypes.toList)) = true := by kernel_rfl
theorem closed : joinedFacts Tryz.pinned.checked.prog 4 Tryz.f4 Rows.solveLeastsSpec Rows.solveLeastsRow = true :=
  band (band (band (band (band (band (band (band (band (band (band (band (band (band (band (band (band (band (band (band (band (band (band (band (band (band (band (band (band (band (band fact0 fact1) fact2) fact3) fact4) fact5) fact6) fact7) fact8) fact9) fact10) fact11) fact12) fact13) fact14) fact15) fact16) fact17) fact18) fact19) fact20) fact21) fact22) fact23) fact24) fact25) fact26) fact27) fact28) fact29) fact30) fact31

theorem over : Rows.solveLeastsRow.holds Tryz.pinned (OpenSpec.ofChange Rows.solveLeastsSpec) :=
  OpenClaim.holds_of_wide 4 Tryz.f4 rfl rfl rfl rfl rfl rfl rfl ⟨rfl, rfl, rfl, rfl, rfl⟩ rfl rfl rfl rfl rfl (by kernel_rfl) Tryz.func4 closed
    (of_decide_eq_true (by kernel_rfl)) (by unfold Func.isWrapper; first | (rw [if_pos (by decide +kernel)]; kernel_rfl) | (rw [if_neg (by decide +kernel)]; exact ⟨rfl, rfl⟩))
    (fun os started H enc _ => lifted os started H enc)

/-- The statement. -/
theorem proved : Rows.SolveLeastsSaid :=
  over
#print axioms proved
end Go.Proofs.YtjbokjpbiobjpaaGreat.solveLeasts
