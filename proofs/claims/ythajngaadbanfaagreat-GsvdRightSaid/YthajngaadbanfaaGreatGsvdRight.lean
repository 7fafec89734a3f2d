/- GsvdRight answers true at every input, without condition: the law's contract (law23.GsvdRight) comes from the verified evaluator. -/
import Derived.Test.YthajngaadbanfaaGreatRows
import Derived.Test.YthajngaadbanfaaGreatTO
import Derived.Below
import Derived.ChangeSame
import Derived.WalkKit
import Derived.ProofKit
import Derived.OpenShut
import Derived.Lib.SmallJoins
import Derived.Deep.Strs
import Derived.HandedShaped
namespace Go.Proofs.YthajngaadbanfaaGreat.gsvdRight
open Go.ChangeShapes Go.WideShapes Go.ChangeAt Go.RowKit Go.Den Go.Proofs.S1 Go.Joins Go.Deep Go.Ck
set_option maxRecDepth 100000

theorem own : ownKnob Tryz.prog.godebug = none := by kernel_rfl
theorem laidOut : laidOutB Tryz.prog = true := by kernel_rfl
theorem cellsE : Tryz.prog.cellsOf 43 = 1 := by kernel_rfl
theorem cellsS : Tryz.prog.cellsOf 22 = 1 := by kernel_rfl
theorem cellsI : Tryz.prog.cellsOf 3 = 1 := by kernel_rfl
theorem cellsM : Tryz.prog.cellsOf 24 = 3 := by kernel_rfl

theorem of_wf {x : Int} (h : (Lit.int .u64 x).wf = true) : Br x = true := by
  have h := Bi.1 h
  have h1 : (0 : Int) ≤ x := of_decide_eq_true h.1
  have h2 : x ≤ 18446744073709551615 := of_decide_eq_true h.2
  exact Bv.2 ⟨h1, by omega⟩

theorem Fg {I J : Nat → Prop} (h : ∀ b, I b → J b) {w : World} {k : IntKind} {l : List Int} {v : Value} (hv : B0 (HC I) w (.Bj .arg k l) v) : B0 (HC J) w (.Bj .arg k l) v := by
  simp only [B0] at hv ⊢
  obtain ⟨a, cap, e, hc, hh⟩ := hv
  exact ⟨a, cap, e, hc, hh.imp id fun ⟨b, o, e, hb, hcell⟩ => ⟨b, o, e, h b hb, hcell⟩⟩

/-- What a slice weighs. -/
theorem weigh {H : Type} {e s : List (DataW H)} (h : ((DataW.slice e s).weights Tryz.prog 22).all (· ≤ reachBytes) = true) : (e.length + s.length) * 8 ≤ reachBytes := by
  have hb : Tryz.prog.bytesOf 43 = 8 := by kernel_rfl
  unfold DataW.weights at h
  rw [Tryz.underlying22] at h
  simp only [hb, List.all_cons, List.all_append, Bool.and_eq_true, decide_eq_true_eq] at h
  exact h.1
theorem lits_length (k : IntKind) (l : List Int) {H : Type} : (lits k l : List (DataW H)).length = l.length := by simp [lits]

/-- A slice of words, opened. -/
theorem open_list {H : Type} {enc : TypeId × Value → H} {W : World} {n : Nat} {x : Value} {y : DataW H × List MemPlace} (h : DataW.trod enc Tryz.prog W 0 (fun _ => true) true n 22 [x] = some y) (hlt : ∀ z ∈ y.2, z.block < W.heap.size) :
    ∃ (l : List Int) (I : Nat → Prop), (∀ z ∈ l, Br z = true) ∧ (∀ b, I b → b < W.heap.size) ∧ B0 (HC I) W (.Bj .arg .u64 l) x ∧ ((y.1.weights Tryz.prog 22).all (· ≤ reachBytes) = true → Aoh l = true) := by
  rcases open_ints Tryz.underlying22 Tryz.underlying43 cellsE h with ⟨hcs, hx⟩ | ⟨a, len, cap, zs, hcs, _, hl, hm, hz, hx, hcell, hwz⟩
  · simp only [List.cons.injEq, and_true] at hcs
    subst hcs
    exact ⟨[], fun _ => False, fun x h => (by cases h), fun _ h => h.elim, ⟨none, 0, rfl, Nat.le_refl _, .inl rfl⟩, fun _ => Bv.2 (Nat.zero_le _)⟩
  · simp only [List.cons.injEq, and_true] at hcs
    subst hcs
    obtain ⟨yd, yp⟩ := y
    simp only [Prod.mk.injEq] at hx
    obtain ⟨rfl, rfl⟩ := hx
    simp only [if_true] at hz
    have hlen : (zs.take len).length = len := by rw [List.length_take]; omega
    have hin : ∀ x ∈ zs.take len, Br x = true := fun x h => of_wf (hwz x (List.mem_of_mem_take h))
    by_cases h0 : len = 0
    · subst h0
      exact ⟨[], fun _ => False, fun x h => (by cases h), fun _ h => h.elim, ⟨some a, cap, rfl, by simp, .inl rfl⟩, fun _ => Bv.2 (Nat.zero_le _)⟩
    · obtain ⟨b, off, rfl, hc⟩ := ints_at hcell (by omega)
      refine ⟨zs.take len, fun x => x = b, hin, fun x h => ?_, ?_, fun hw => ?_⟩
      · subst h
        exact hlt (.cell x off) (MemPlace.mem_row.2 ⟨0, by omega, by simp⟩)
      · refine ⟨some ⟨b, off, none⟩, cap, by rw [hlen], by rw [hlen]; exact hl, .inr ⟨b, off, rfl, rfl, fun i n hi => ?_⟩⟩
        have hi' : i < len := by
          have := (List.getElem?_eq_some_iff.1 hi).1
          omega
        rw [hc i (by omega)]
        rw [List.getElem?_take_of_lt hi'] at hi
        rw [List.getD_eq_getElem?_getD, hi]
        rfl
      · have := weigh hw
        rw [lits_length, lits_length, List.length_take, List.length_drop] at this
        exact Bv.2 (by rw [List.length_take]; unfold reachBytes at this; omega)

/-- A matrix, opened. -/
theorem open_mat {H : Type} {enc : TypeId × Value → H} {W : World} {v0 v1 v2 : Value} {d : DataW H} {p : List MemPlace} (h : DataW.Trod enc Tryz.prog W 0 (fun _ => true) true 24 (.agg #[v0, v1, v2]) d p)
    (hlt : ∀ x ∈ p, x.block < W.heap.size) :
    ∃ (r c : Int) (l : List Int) (x : Value) (I : Nat → Prop), v0 = .int .i64 r ∧ v1 = .int .i64 c ∧ v2 = x ∧ (∀ y ∈ l, Br y = true) ∧ (∀ b, I b → b < W.heap.size) ∧ B0 (HC I) W (.Bj .arg .u64 l) x ∧ ((d.weights Tryz.prog 24).all (· ≤ reachBytes) = true → Aoh l = true) := by
  obtain ⟨fuel, hf⟩ := h
  obtain ⟨y0, y1, y2, n, hx, _, h0, h1, h2⟩ := trod_struct3 Tryz.underlying24 hf
  simp only [Prod.mk.injEq] at hx
  obtain ⟨rfl, rfl⟩ := hx
  replace h0 : DataW.trod enc Tryz.prog W 0 (fun _ => true) true n 3 [v0] = some y0 := by simpa [Value.cells, cellsI] using h0
  replace h1 : DataW.trod enc Tryz.prog W 0 (fun _ => true) true n 3 [v1] = some y1 := by simpa [Value.cells, cellsI] using h1
  replace h2 : DataW.trod enc Tryz.prog W 0 (fun _ => true) true n 22 [v2] = some y2 := by simpa [Value.cells, cellsS, cellsI] using h2
  obtain ⟨r, e0, _, w0⟩ := DataW.trod_int Tryz.underlying3 h0
  obtain ⟨c, e1, _, w1⟩ := DataW.trod_int Tryz.underlying3 h1
  simp only [List.cons.injEq, and_true] at e0 e1
  subst e0 e1
  obtain ⟨l, I, hl, hI, hv, hw⟩ := open_list h2 fun z hz => hlt z (List.mem_append_right _ (List.mem_append_right _ hz))
  refine ⟨r, c, l, _, I, rfl, rfl, rfl, hl, hI, hv, fun h => hw ?_⟩
  rw [DataW.weights, Tryz.underlying24] at h
  simp only [List.map_cons, List.map_nil, DataW.weightsEach, List.append_nil, List.all_append, Bool.and_eq_true] at h
  exact h.2.2

theorem array3 {α : Type} {cs : Array α} (h : cs.size = 3) : ∃ a b c, cs = #[a, b, c] := by
  obtain ⟨x⟩ := cs
  match x, h with
  | [a, b, c], _ => exact ⟨a, b, c, rfl⟩
theorem open_three {base : Nat} {W : World} {v : Value} (hv : Value.okWide Tryz.prog W .any base 24 v) : ∃ a b c : Value, v = .agg #[a, b, c] := by
  obtain ⟨cs, rfl, hsz⟩ := okWide_struct Tryz.underlying24 hv
  obtain ⟨a, b, c, rfl⟩ := array3 (hsz.trans cellsM)
  exact ⟨a, b, c, rfl⟩

/-! ### The call: by the law's contract -/
theorem walk (w : World) (I : Nat → Prop) (hI : ∀ b, I b → b < w.heap.size) (r0 c0 : Int) (l0 : List Int) (x0 : Value) (hl0 : ∀ y ∈ l0, Br y = true) (hv0 : B0 (HC I) w (.Bj .arg .u64 l0) x0) (r1 c1 : Int) (l1 : List Int) (x1 : Value) (hl1 : ∀ y ∈ l1, Br y = true) (hv1 : B0 (HC I) w (.Bj .arg .u64 l1) x1) :
    Calls Tryz.prog 3 #[.agg #[.int .i64 r0, .int .i64 c0, x0], .agg #[.int .i64 r1, .int .i64 c1, x1]] w fun e w' => e = .returned (.bool true) ∧ Below w.heap.size w w' :=
  AkN Cw.DK.Bn (args := [.agg [.int .i64 r0, .int .i64 c0, .Bj .arg .u64 l0], .agg [.int .i64 r1, .int .i64 c1, .Bj .arg .u64 l1]]) (I := I) hI ⟨_, _, rfl, ⟨_, rfl, ⟨_, _, rfl, rfl, ⟨_, _, rfl, rfl, ⟨_, _, rfl, hv0, rfl⟩⟩⟩⟩, ⟨_, _, rfl, ⟨_, rfl, ⟨_, _, rfl, rfl, ⟨_, _, rfl, rfl, ⟨_, _, rfl, hv1, rfl⟩⟩⟩⟩, rfl⟩⟩ (Bi.2 ⟨Bv.2 hl0, Bv.2 hl1⟩) rfl

set_option maxRecDepth 100000 in
theorem lifted (os : Os) (started : os.Started) (H : Type) (enc : TypeId × Value → H) :
    ReturnsInHanded {} Tryz.checked os 3 .any (Rows.gsvdRightSpec.pre6 enc Tryz.prog Tryz.f3 Rows.gsvdRightRow.domain false) (Rows.gsvdRightSpec.post enc Tryz.prog Tryz.f3 false true false false) := by
  refine returnsInHanded_of_change_shaped (C := Tryz.checked) own started (by kernel_rfl) Tryz.func3
    (ChangeSpec.witness6 (enc := enc) (C := Tryz.checked) false ⟨#[], #[.agg #[.int .i64 0, .int .i64 0, .slice none 0 0], .agg #[.int .i64 0, .int .i64 0, .slice none 0 0]], []⟩ 8 (by kernel_rfl) (by kernel_rfl) (by kernel_rfl) (by kernel_rfl)) ?_
  intro W base args ds gs before hval0 hW hcnd hsz0 _ _
  have hval : ∀ (j : Nat) t v, Tryz.f3.params[j]? = some t → args[j]? = some v → Value.okWide Tryz.prog W .any base t v := hval0
  have hW' := hW
  obtain ⟨p, q, hA0, hV, rfl, hfz, hnd⟩ := hW
  have hA : DataW.TrodAll enc Tryz.prog W 0 (fun _ => true) true Tryz.f3.params.toList args.toList ds p := hA0
  rw [Tryz.params3] at hA hval
  obtain ⟨v0, vs0, d0, ds0, p0, q0, hargs, rfl, rfl, h0, rr0⟩ := trodAll_cons hA
  obtain ⟨v1, vs1, d1, ds1, p1, q1, rfl, rfl, rfl, h1, rr1⟩ := trodAll_cons rr0
  obtain ⟨rfl, rfl, rfl⟩ := trodAll_nil rr1
  obtain rfl : args = #[v0, v1] := by cases args; simp_all
  obtain ⟨rfl, rfl⟩ := trodVars_none hV
  clear hA0 hval0
  simp only [List.append_nil] at hW'
  clear hsz0
  have hlt0 : ∀ x ∈ p0, x.block < W.heap.size := fun x hx => hW'.lt x (List.mem_append_left _ hx)
  have hlt1 : ∀ x ∈ p1, x.block < W.heap.size := fun x hx => hW'.lt x (List.mem_append_right _ (hx))
  have k0 := h0
  obtain ⟨e0a, e0b, e0, rfl⟩ := open_three (hval 0 24 v0 rfl rfl)
  obtain ⟨r0, c0, l0, x0, I0, rfl, rfl, rfl, hl0, hI0, hv0, sz0⟩ := open_mat h0 hlt0
  have k1 := h1
  obtain ⟨e1a, e1b, e1, rfl⟩ := open_three (hval 1 24 v1 rfl rfl)
  obtain ⟨r1, c1, l1, x1, I1, rfl, rfl, rfl, hl1, hI1, hv1, sz1⟩ := open_mat h1 hlt1
  refine (walk W (fun b => I0 b ∨ I1 b) (fun b h => h.elim (hI0 b) fun h => hI1 b h) r0 c0 l0 e0 hl0 (Fg (fun _ h => .inl h) hv0) r1 c1 l1 e1 hl1 (Fg (fun _ h => .inr h) hv1)).mono fun e W' ⟨he, hg⟩ => ?_
  subst he
  refine ⟨_, rfl, _, _, _, [], p0 ++ (p1), [], hW', (trodAll_cons_mk (shut_bool Tryz.underlying4 _) trodAll_mk0), ?_, rfl, ?_, fun h => by cases h⟩
  · exact (trodAll_cons_mk (Below.trod laidOut (by kernel_rfl) (of_decide_eq_true (by kernel_rfl)) k0 hg hlt0) (trodAll_mk1 (Below.trod laidOut (by kernel_rfl) (of_decide_eq_true (by kernel_rfl)) k1 hg hlt1)))
  · exact hg.frame _

/-! The closed facts, each by itself: together they are too much for one declaration. -/
theorem band {a b : Bool} (x : a = true) (y : b = true) : (a && b) = true := by rw [x, y]; rfl
theorem fact0 : (Rows.gsvdRightRow.wf (OpenSpec.ofChange Rows.gsvdRightSpec)) = true := by kernel_rfl
theorem fact1 : (laidOutB Tryz.pinned.checked.prog) = true := by kernel_rfl
theorem fact2 : (mapsRowed Tryz.pinned.checked.prog) = true := by kernel_rfl
theorem fact3 : (Tryz.f3.params.all (Tryz.pinned.checked.prog.readableRec ·)) = true := by kernel_rfl
theorem fact4 : (namedTie Tryz.pinned.checked.prog Rows.gsvdRightRow.named Rows.gsvdRightSpec.vars) = true := by kernel_rfl
theorem fact5 : (Rows.gsvdRightRow.stops == []) = true := by kernel_rfl
theorem fact6 : (Tryz.pinned.checked.prog.stops == []) = true := by kernel_rfl
theorem fact7 : (Rows.gsvdRightRow.knobs == []) = true := by kernel_rfl
theorem fact8 : (Tryz.pinned.checked.prog.stopKnobs == []) = true := by kernel_rfl
theorem fact9 : (Rows.gsvdRightRow.inPlace == Tryz.pinned.checked.prog.inPlace 3) = true := by kernel_rfl
theorem fact10 : (Rows.gsvdRightRow.unfollowed == Tryz.pinned.checked.prog.unfollowed 3) = true := by kernel_rfl
theorem fact11 : (Rows.gsvdRightRow.recurses == Tryz.pinned.checked.prog.recurses 3) = true := by kernel_rfl
theorem fact12 : (Rows.gsvdRightRow.named == Tryz.pinned.checked.prog.varsNamed 3) = true := by kernel_rfl
theorem fact13 : (Rows.gsvdRightRow.maps == (Tryz.f3.params.toList ++ Rows.gsvdRightSpec.plain.varTypes Tryz.pinned.checked.prog).any (Tryz.pinned.checked.prog.mapsRec ·)) = true := by kernel_rfl
theorem fact14 : (Rows.gsvdRightRow.ifaces == (Tryz.f3.params.toList ++ Rows.gsvdRightSpec.plain.varTypes Tryz.pinned.checked.prog).any (Tryz.pinned.checked.prog.ifacesRec ·)) = true := by kernel_rfl
theorem fact15 : (Rows.gsvdRightRow.mapsOut == Tryz.pinned.checked.prog.mapsAmong Tryz.f3.resultTypes.toList) = true := by kernel_rfl
theorem fact16 : (Rows.gsvdRightRow.loops == (Tryz.f3.params.toList ++ Rows.gsvdRightSpec.plain.varTypes Tryz.pinned.checked.prog).any (Tryz.pinned.checked.prog.loopsFrom ·)) = true := by kernel_rfl
theorem fact17 : (Rows.gsvdRightRow.wideKeys == (Tryz.f3.params.toList ++ Rows.gsvdRightSpec.plain.varTypes Tryz.pinned.checked.prog ++ Tryz.f3.resultTypes.toList).any (Tryz.pinned.checked.prog.wideKeysFrom ·)) = true := by kernel_rfl
theorem fact18 : (Rows.gsvdRightSpec.vars.all (Tryz.pinned.checked.prog.varReadable ·)) = true := by kernel_rfl
theorem fact19 : (Tryz.f3.resultTypes.all (fun t => Tryz.pinned.checked.prog.readableRec t && decide (t < Tryz.pinned.checked.prog.types.size))) = true := by kernel_rfl
theorem fact20 : (Rows.gsvdRightRow.ifacesOut == Tryz.f3.resultTypes.toList.any (Tryz.pinned.checked.prog.ifacesRec ·)) = true := by kernel_rfl
theorem fact21 : (Rows.gsvdRightRow.loopsOut == Tryz.f3.resultTypes.toList.any (Tryz.pinned.checked.prog.loopsFrom ·)) = true := by kernel_rfl
theorem fact22 : (Rows.gsvdRightRow.plainKeys == Tryz.pinned.checked.prog.plainKeys) = true := by kernel_rfl
theorem fact23 : (Rows.gsvdRightRow.shortTexts.isNone) = true := by kernel_rfl
theorem fact24 : (Tryz.pinned.checked.prog.stopsHeard) = true := by kernel_rfl
theorem fact25 : (Tryz.pinned.checked.prog.mayEnter) = true := by kernel_rfl
theorem fact26 : (Rows.gsvdRightRow.lifted == Tryz.pinned.checked.prog.liftsFinal) = true := by kernel_rfl
theorem fact27 : (Tryz.pinned.checked.prog.make == some Rows.gsvdRightRow.make) = true := by kernel_rfl
theorem fact28 : (Rows.gsvdRightRow.kinds == (if Rows.gsvdRightRow.domain.isEmpty then [] else Tryz.f3.params.toList.map fun t => match Tryz.pinned.checked.prog.underlying t with | some (.int k) => some k | _ => Option.none)) = true := by kernel_rfl
theorem fact29 : (Rows.gsvdRightRow.pinned == Rows.gsvdRightRow.pinnedBy) = true := by kernel_rfl
theorem fact30 : (Rows.gsvdRightRow.veiled == (Tryz.f3.params.toList ++ Rows.gsvdRightSpec.plain.varTypes Tryz.pinned.checked.prog ++ Tryz.f3.resultTypes.toList).any (Tryz.pinned.checked.prog.veiledRec ·)) = true := by kernel_rfl
theorem fact31 : (Rows.gsvdRightRow.veiledFits Tryz.pinned.checked.prog Tryz.f3.params.toList (Tryz.f3.params.toList ++ Rows.gsvdRightSpec.plain.varTypes Tryz.pinned.checked.prog ++ Tryz.f3.resultTypes.toList)) = true := by kernel_rfl
theorem closed : joinedFacts Tryz.pinned.checked.prog 3 Tryz.f3 Rows.gsvdRightSpec Rows.gsvdRightRow = true :=
  band (band (band (band (band (band (band (band (band (band (band (band (band (band (band (band (band (band (band (band (band (band (band (band (band (band (band (band (band (band (band fact0 fact1) fact2) fact3) fact4) fact5) fact6) fact7) fact8) fact9) fact10) fact11) fact12) fact13) fact14) fact15) fact16) fact17) fact18) fact19) fact20) fact21) fact22) fact23) fact24) fact25) fact26) fact27) fact28) fact29) fact30) fact31

theorem over : Rows.gsvdRightRow.holds Tryz.pinned (OpenSpec.ofChange Rows.gsvdRightSpec) :=
  OpenClaim.holds_of_wide 3 Tryz.f3 rfl rfl rfl rfl rfl rfl rfl ⟨rfl, rfl, rfl, rfl, rfl⟩ rfl rfl rfl rfl rfl (by kernel_rfl) Tryz.func3 closed
    (of_decide_eq_true (by kernel_rfl)) (by unfold Func.isWrapper; first | (rw [if_pos (by decide +kernel)]; kernel_rfl) | (rw [if_neg (by decide +kernel)]; exact ⟨rfl, rfl⟩))
    (fun os started H enc _ => lifted os started H enc)

/-- The statement. -/
theorem proved : Rows.GsvdRightSaid :=
  over
#print axioms proved
end Go.Proofs.YthajngaadbanfaaGreat.gsvdRight
