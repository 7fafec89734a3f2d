/- LseSolves answers true at every input, without condition: the law's contract (law20.LseSolves) comes from the verified evaluator. -/
import Derived.Test.YtjbokjpbiobjpaaGreatRows
import Derived.Test.YtjbokjpbiobjpaaGreatTN
import Derived.Below
import Derived.ChangeSame
import Derived.WalkKit
import Derived.ProofKit
import Derived.OpenShut
import Derived.Lib.SmallJoins
import Derived.Deep.Strs
import Derived.HandedShaped
namespace Go.Proofs.YtjbokjpbiobjpaaGreat.lseSolves
open Go.ChangeShapes Go.WideShapes Go.ChangeAt Go.RowKit Go.Den Go.Proofs.S1 Go.Joins Go.Deep Go.Rnd
set_option maxRecDepth 100000

theorem own : ownKnob Tryz.prog.godebug = none := by kernel_rfl
theorem laidOut : laidOutB Tryz.prog = true := by kernel_rfl
theorem cells37 : Tryz.prog.cellsOf 37 = 1 := by kernel_rfl
theorem cells24 : Tryz.prog.cellsOf 24 = 3 := by kernel_rfl
theorem cellsT : Tryz.prog.cellsOf 57 = 12 := by kernel_rfl

theorem of_wf {x : Int} (h : (Lit.int .u64 x).wf = true) : Ag x = true := by
  have h := Ad.1 h
  have h1 : (0 : Int) ≤ x := of_decide_eq_true h.1
  have h2 : x ≤ 18446744073709551615 := of_decide_eq_true h.2
  exact Aw.2 ⟨h1, by omega⟩
theorem of_wfi {x : Int} (h : (Lit.int .i64 x).wf = true) : Aj0 x = true := by
  have h := Ad.1 h
  have h1 : (-9223372036854775808 : Int) ≤ x := of_decide_eq_true h.1
  have h2 : x ≤ 9223372036854775807 := of_decide_eq_true h.2
  exact Aw.2 ⟨h1, h2⟩

theorem Fz {I J : Nat → Prop} (h : ∀ b, I b → J b) {w : World} {l : List Int} {v : Value} (hv : Ao (Ks I) w (.ints .arg .u64 l) v) : Ao (Ks J) w (.ints .arg .u64 l) v := by
  simp only [Ao] at hv ⊢
  obtain ⟨a, cap, e, hc, hh⟩ := hv
  exact ⟨a, cap, e, hc, hh.imp id fun ⟨b, o, e, hb, hcell⟩ => ⟨b, o, e, h b hb, hcell⟩⟩

/-- What a matrix weighs. -/
theorem weigh {H : Type} {y0 y1 : DataW H} {e s : List (DataW H)} (h : ((DataW.agg [y0, y1, .slice e s]).weights Tryz.prog 24).all (· ≤ reachBytes) = true) : (e.length + s.length) * 8 ≤ reachBytes := by
  have hb : Tryz.prog.bytesOf 37 = 8 := by kernel_rfl
  unfold DataW.weights at h
  rw [Tryz.underlying24] at h
  simp only [List.map_cons, List.map_nil, DataW.weightsEach, DataW.weights, Tryz.underlying22, hb, List.append_nil, List.all_append, List.all_cons, Bool.and_eq_true, decide_eq_true_eq] at h
  exact h.2.2.1
theorem lits_length (k : IntKind) (l : List Int) {H : Type} : (lits k l : List (DataW H)).length = l.length := by simp [lits]

/-- What a task weighs. -/
theorem weigh4 {H : Type} {y0 y1 y2 y3 : DataW H} (h : ((DataW.agg [y0, y1, y2, y3]).weights Tryz.prog 57).all (· ≤ reachBytes) = true) :
    (y0.weights Tryz.prog 24).all (· ≤ reachBytes) = true ∧ (y1.weights Tryz.prog 24).all (· ≤ reachBytes) = true ∧ (y2.weights Tryz.prog 24).all (· ≤ reachBytes) = true ∧ (y3.weights Tryz.prog 24).all (· ≤ reachBytes) = true := by
  rw [DataW.weights, Tryz.underlying57] at h
  simp only [List.map_cons, List.map_nil, DataW.weightsEach, List.append_nil, List.all_append, Bool.and_eq_true] at h
  exact h

theorem array12 {α : Type} {cs : Array α} (h : cs.size = 12) : ∃ a b c d e f g i j k l m, cs = #[a, b, c, d, e, f, g, i, j, k, l, m] := by
  obtain ⟨x⟩ := cs
  match x, h with
  | [a, b, c, d, e, f, g, i, j, k, l, m], _ => exact ⟨a, b, c, d, e, f, g, i, j, k, l, m, rfl⟩

theorem open_task {H : Type} {enc : TypeId × Value → H} {W : World} {base : Nat} {v : Value} {d : DataW H} {p : List MemPlace} (hv : Value.okWide Tryz.prog W .any base 57 v) (h : DataW.Trod enc Tryz.prog W 0 (fun _ => true) true 57 v d p) :
    ∃ (a b c e f g i j k l m o : Value), ∃ (y0 y1 y2 y3 : DataW H × List MemPlace), v = .agg #[a, b, c, e, f, g, i, j, k, l, m, o] ∧ d = .agg [y0.1, y1.1, y2.1, y3.1] ∧ p = y0.2 ++ (y1.2 ++ (y2.2 ++ y3.2)) ∧
      DataW.Trod enc Tryz.prog W 0 (fun _ => true) true 24 (.agg #[a, b, c]) y0.1 y0.2 ∧ DataW.Trod enc Tryz.prog W 0 (fun _ => true) true 24 (.agg #[e, f, g]) y1.1 y1.2 ∧
      DataW.Trod enc Tryz.prog W 0 (fun _ => true) true 24 (.agg #[i, j, k]) y2.1 y2.2 ∧ DataW.Trod enc Tryz.prog W 0 (fun _ => true) true 24 (.agg #[l, m, o]) y3.1 y3.2 := by
  obtain ⟨cs, rfl, hsz⟩ := okWide_struct Tryz.underlying57 hv
  obtain ⟨a, b, c, e, f, g, i, j, k, l, m, o, rfl⟩ := array12 (hsz.trans cellsT)
  obtain ⟨fuel, hf⟩ := h
  obtain ⟨y0, y1, y2, y3, n, hx, _, h0, h1, h2, h3⟩ := trod_struct4 Tryz.underlying57 hf
  simp only [Prod.mk.injEq] at hx
  refine ⟨a, b, c, e, f, g, i, j, k, l, m, o, y0, y1, y2, y3, rfl, hx.1, hx.2, ⟨n, ?_⟩, ⟨n, ?_⟩, ⟨n, ?_⟩, ⟨n, ?_⟩⟩
  · simpa [Value.cells, cells24] using h0
  · simpa [Value.cells, cells24] using h1
  · simpa [Value.cells, cells24] using h2
  · simpa [Value.cells, cells24] using h3
theorem open_three {H : Type} {enc : TypeId × Value → H} {W : World} {a b c : Value} {d : DataW H} {p : List MemPlace} (h : DataW.Trod enc Tryz.prog W 0 (fun _ => true) true 24 (.agg #[a, b, c]) d p) :
    ∃ (y0 y1 y2 : DataW H × List MemPlace) (n : Nat), d = .agg [y0.1, y1.1, y2.1] ∧ p = y0.2 ++ (y1.2 ++ y2.2) ∧
      DataW.trod enc Tryz.prog W 0 (fun _ => true) true n 3 [a] = some y0 ∧ DataW.trod enc Tryz.prog W 0 (fun _ => true) true n 3 [b] = some y1 ∧ DataW.trod enc Tryz.prog W 0 (fun _ => true) true n 22 [c] = some y2 := by
  obtain ⟨fuel, hf⟩ := h
  obtain ⟨y0, y1, y2, n, hx, _, h0, h1, h2⟩ := trod_struct3 Tryz.underlying24 hf
  simp only [Prod.mk.injEq] at hx
  have c3 : Tryz.prog.cellsOf 3 = 1 := by kernel_rfl
  have c22 : Tryz.prog.cellsOf 22 = 1 := by kernel_rfl
  exact ⟨y0, y1, y2, n, hx.1, hx.2, by simpa [Value.cells, c3] using h0, by simpa [Value.cells, c3] using h1, by simpa [Value.cells, c22] using h2⟩

/-- A matrix, opened. -/
theorem open_mat {H : Type} {enc : TypeId × Value → H} {W : World} {v0 v1 v2 : Value} {d : DataW H} {p : List MemPlace} (h : DataW.Trod enc Tryz.prog W 0 (fun _ => true) true 24 (.agg #[v0, v1, v2]) d p)
    (hlt : ∀ x ∈ p, x.block < W.heap.size) :
    ∃ (r c : Int) (l : List Int) (x : Value) (I : Nat → Prop), v0 = .int .i64 r ∧ v1 = .int .i64 c ∧ v2 = x ∧ Aj0 r = true ∧ Aj0 c = true ∧ (∀ y ∈ l, Ag y = true) ∧ (∀ b, I b → b < W.heap.size) ∧ Ao (Ks I) W (.ints .arg .u64 l) x ∧ ((d.weights Tryz.prog 24).all (· ≤ reachBytes) = true → F1 l = true) := by
  obtain ⟨y0, y1, y2, n, rfl, rfl, h0, h1, h2⟩ := open_three h
  obtain ⟨r, e0, _, w0⟩ := DataW.trod_int Tryz.underlying3 h0
  obtain ⟨c, e1, _, w1⟩ := DataW.trod_int Tryz.underlying3 h1
  simp only [List.cons.injEq, and_true] at e0 e1
  subst e0 e1
  rcases open_ints Tryz.underlying22 Tryz.underlying37 cells37 h2 with ⟨hcs, hx⟩ | ⟨a, len, cap, zs, hcs, _, hl, hm, hz, hx, hcell, hwz⟩
  · simp only [List.cons.injEq, and_true] at hcs
    subst hcs
    exact ⟨r, c, [], _, fun _ => False, rfl, rfl, rfl, of_wfi w0, of_wfi w1, fun x h => (by cases h), fun _ h => h.elim, ⟨none, 0, rfl, Nat.le_refl _, .inl rfl⟩, fun _ => Aw.2 (Nat.zero_le _)⟩
  · simp only [List.cons.injEq, and_true] at hcs
    subst hcs
    obtain ⟨y2d, y2p⟩ := y2
    simp only [Prod.mk.injEq] at hx
    obtain ⟨rfl, rfl⟩ := hx
    simp only [if_true] at hz
    have hlen : (zs.take len).length = len := by rw [List.length_take]; omega
    have hin : ∀ x ∈ zs.take len, Ag x = true := fun x h => of_wf (hwz x (List.mem_of_mem_take h))
    by_cases h0 : len = 0
    · subst h0
      exact ⟨r, c, [], _, fun _ => False, rfl, rfl, rfl, of_wfi w0, of_wfi w1, fun x h => (by cases h), fun _ h => h.elim, ⟨some a, cap, rfl, by simp, .inl rfl⟩, fun _ => Aw.2 (Nat.zero_le _)⟩
    · obtain ⟨b, off, rfl, hc⟩ := ints_at hcell (by omega)
      refine ⟨r, c, zs.take len, _, fun x => x = b, rfl, rfl, rfl, of_wfi w0, of_wfi w1, hin, fun x h => ?_, ?_, fun hw => ?_⟩
      · subst h
        exact hlt (.cell x off) (List.mem_append_right _ (List.mem_append_right _ (MemPlace.mem_row.2 ⟨0, by omega, by simp⟩)))
      · refine ⟨some ⟨b, off, none⟩, cap, by rw [hlen], by rw [hlen]; exact hl, .inr ⟨b, off, rfl, rfl, fun i n hi => ?_⟩⟩
        have hi' : i < len := by
          have := (List.getElem?_eq_some_iff.1 hi).1
          omega
        rw [hc i (by omega)]
        rw [List.getElem?_take_of_lt hi'] at hi
        rw [List.getD_eq_getElem?_getD, hi]
        rfl
      · have := weigh hw
        rw [lits_length, lits_length, List.length_take, List.length_drop] at this
        exact Aw.2 (by rw [List.length_take]; unfold reachBytes at this; omega)

/-! ### The call: by the law's contract -/
theorem walk (w : World) (I : Nat → Prop) (hI : ∀ b, I b → b < w.heap.size) (r0 c0 : Int) (l0 : List Int) (x0 : Value) (hl0 : ∀ y ∈ l0, Ag y = true) (ol0 : F1 l0 = true) (hv0 : Ao (Ks I) w (.ints .arg .u64 l0) x0) (r1 c1 : Int) (l1 : List Int) (x1 : Value) (hl1 : ∀ y ∈ l1, Ag y = true) (ol1 : F1 l1 = true) (hv1 : Ao (Ks I) w (.ints .arg .u64 l1) x1) (r2 c2 : Int) (l2 : List Int) (x2 : Value) (hl2 : ∀ y ∈ l2, Ag y = true) (ol2 : F1 l2 = true) (hv2 : Ao (Ks I) w (.ints .arg .u64 l2) x2) (r3 c3 : Int) (l3 : List Int) (x3 : Value) (hl3 : ∀ y ∈ l3, Ag y = true) (ol3 : F1 l3 = true) (hv3 : Ao (Ks I) w (.ints .arg .u64 l3) x3) :
    Calls Tryz.prog 8 #[.agg #[.int .i64 r0, .int .i64 c0, x0, .int .i64 r1, .int .i64 c1, x1, .int .i64 r2, .int .i64 c2, x2, .int .i64 r3, .int .i64 c3, x3]] w fun e w' => e = .returned (.bool true) ∧ Below w.heap.size w w' :=
  Au8 Cc.D2.known (args := [.agg [.int .i64 r0, .int .i64 c0, .ints .arg .u64 l0, .int .i64 r1, .int .i64 c1, .ints .arg .u64 l1, .int .i64 r2, .int .i64 c2, .ints .arg .u64 l2, .int .i64 r3, .int .i64 c3, .ints .arg .u64 l3]]) (I := I) hI ⟨_, _, rfl, ⟨_, rfl, ⟨_, _, rfl, rfl, ⟨_, _, rfl, rfl, ⟨_, _, rfl, hv0, ⟨_, _, rfl, rfl, ⟨_, _, rfl, rfl, ⟨_, _, rfl, hv1, ⟨_, _, rfl, rfl, ⟨_, _, rfl, rfl, ⟨_, _, rfl, hv2, ⟨_, _, rfl, rfl, ⟨_, _, rfl, rfl, ⟨_, _, rfl, hv3, rfl⟩⟩⟩⟩⟩⟩⟩⟩⟩⟩⟩⟩⟩, rfl⟩ (Ad.2 ⟨Ad.2 ⟨Ad.2 ⟨Aw.2 hl0, Aw.2 hl1⟩, Ad.2 ⟨Aw.2 hl2, Aw.2 hl3⟩⟩, Ad.2 ⟨Ad.2 ⟨ol0, ol1⟩, Ad.2 ⟨ol2, ol3⟩⟩⟩) rfl

set_option maxRecDepth 100000 in
theorem lifted (os : Os) (started : os.Started) (H : Type) (enc : TypeId × Value → H) :
    ReturnsInHanded {} Tryz.checked os 8 .any (Rows.lseSolvesSpec.pre6 enc Tryz.prog Tryz.f8 Rows.lseSolvesRow.domain false) (Rows.lseSolvesSpec.post enc Tryz.prog Tryz.f8 false true false false) := by
  refine returnsInHanded_of_change_shaped (C := Tryz.checked) own started (by kernel_rfl) Tryz.func8
    (ChangeSpec.witness6 (enc := enc) (C := Tryz.checked) false ⟨#[], #[.agg #[.int .i64 0, .int .i64 0, .slice none 0 0, .int .i64 0, .int .i64 0, .slice none 0 0, .int .i64 0, .int .i64 0, .slice none 0 0, .int .i64 0, .int .i64 0, .slice none 0 0]], []⟩ 8 (by kernel_rfl) (by kernel_rfl) (by kernel_rfl) (by kernel_rfl)) ?_
  intro W base args ds gs before hval0 hW hcnd hsz0 _ _
  have hval : ∀ (j : Nat) t v, Tryz.f8.params[j]? = some t → args[j]? = some v → Value.okWide Tryz.prog W .any base t v := hval0
  have hW' := hW
  obtain ⟨p, q, hA0, hV, rfl, hfz, hnd⟩ := hW
  have hA : DataW.TrodAll enc Tryz.prog W 0 (fun _ => true) true Tryz.f8.params.toList args.toList ds p := hA0
  rw [Tryz.params8] at hA hval
  obtain ⟨v0, vs0, d0, ds0, p0, q0, hargs, rfl, rfl, h0, rr0⟩ := trodAll_cons hA
  obtain ⟨rfl, rfl, rfl⟩ := trodAll_nil rr0
  obtain rfl : args = #[v0] := by cases args; simp_all
  obtain ⟨rfl, rfl⟩ := trodVars_none hV
  clear hA0 hval0
  simp only [List.append_nil] at hW'
  have hsz : (DataW.weightsEach Tryz.prog (Tryz.f8.params.toList ++ []) ([d0] ++ [])).all (· ≤ reachBytes) = true := hsz0
  rw [Tryz.params8] at hsz
  simp only [List.append_nil, DataW.weightsEach] at hsz
  clear hsz0
  have hlt0 : ∀ x ∈ p0, x.block < W.heap.size := fun x hx => hW'.lt x hx
  have k0 := h0
  obtain ⟨a0, b0, e0, a1, b1, e1, a2, b2, e2, a3, b3, e3, y0, y1, y2, y3, rfl, rfl, rfl, t0, t1, t2, t3⟩ := open_task (hval 0 57 v0 rfl rfl) h0
  obtain ⟨z0, z1, z2, z3⟩ := weigh4 hsz
  obtain ⟨r0, c0, l0, x0, I0, rfl, rfl, rfl, _, _, hl0, hI0, hv0, sz0⟩ := open_mat t0 fun x hx => hlt0 x (List.mem_append_left _ hx)
  obtain ⟨r1, c1, l1, x1, I1, rfl, rfl, rfl, _, _, hl1, hI1, hv1, sz1⟩ := open_mat t1 fun x hx => hlt0 x (List.mem_append_right _ (List.mem_append_left _ hx))
  obtain ⟨r2, c2, l2, x2, I2, rfl, rfl, rfl, _, _, hl2, hI2, hv2, sz2⟩ := open_mat t2 fun x hx => hlt0 x (List.mem_append_right _ (List.mem_append_right _ (List.mem_append_left _ hx)))
  obtain ⟨r3, c3, l3, x3, I3, rfl, rfl, rfl, _, _, hl3, hI3, hv3, sz3⟩ := open_mat t3 fun x hx => hlt0 x (List.mem_append_right _ (List.mem_append_right _ (List.mem_append_right _ hx)))
  refine (walk W (fun b => I0 b ∨ I1 b ∨ I2 b ∨ I3 b) (fun b h => h.elim (hI0 b) fun h => h.elim (hI1 b) fun h => h.elim (hI2 b) (hI3 b)) r0 c0 l0 e0 hl0 (sz0 z0) (Fz (fun _ h => .inl h) hv0) r1 c1 l1 e1 hl1 (sz1 z1) (Fz (fun _ h => .inr (.inl h)) hv1) r2 c2 l2 e2 hl2 (sz2 z2) (Fz (fun _ h => .inr (.inr (.inl h))) hv2) r3 c3 l3 e3 hl3 (sz3 z3) (Fz (fun _ h => .inr (.inr (.inr h))) hv3)).mono fun e W' ⟨he, hg⟩ => ?_
  subst he
  refine ⟨_, rfl, _, _, _, [], y0.2 ++ (y1.2 ++ (y2.2 ++ y3.2)), [], hW', (trodAll_cons_mk (shut_bool Tryz.underlying4 _) trodAll_mk0), ?_, rfl, ?_, fun h => by cases h⟩
  · exact trodAll_mk1 (Below.trod laidOut (by kernel_rfl) (of_decide_eq_true (by kernel_rfl)) k0 hg hlt0)
  · exact hg.frame _

/-! The closed facts, each by itself: together they are too much for one declaration. -/
theorem band {a b : Bool} (x : a = true) (y : b = true) : (a && b) = true := by rw [x, y]; rfl
theorem fact0 : (Rows.lseSolvesRow.wf (OpenSpec.ofChange Rows.lseSolvesSpec)) = true := by kernel_rfl
theorem fact1 : (laidOutB Tryz.pinned.checked.prog) = true := by kernel_rfl
theorem fact2 : (mapsRowed Tryz.pinned.checked.prog) = true := by kernel_rfl
theorem fact3 : (Tryz.f8.params.all (Tryz.pinned.checked.prog.readableRec ·)) = true := by kernel_rfl
theorem fact4 : (namedTie Tryz.pinned.checked.prog Rows.lseSolvesRow.named Rows.lseSolvesSpec.vars) = true := by kernel_rfl
theorem fact5 : (Rows.lseSolvesRow.stops == []) = true := by kernel_rfl
theorem fact6 : (Tryz.pinned.checked.prog.stops == []) = true := by kernel_rfl
theorem fact7 : (Rows.lseSolvesRow.knobs == []) = true := by kernel_rfl
theorem fact8 : (Tryz.pinned.checked.prog.stopKnobs == []) = true := by kernel_rfl
theorem fact9 : (Rows.lseSolvesRow.inPlace == Tryz.pinned.checked.prog.inPlace 8) = true := by kernel_rfl
theorem fact10 : (Rows.lseSolvesRow.unfollowed == Tryz.pinned.checked.prog.unfollowed 8) = true := by kernel_rfl
theorem fact11 : (Rows.lseSolvesRow.recurses == Tryz.pinned.checked.prog.recurses 8) = true := by kernel_rfl
theorem fact12 : (Rows.lseSolvesRow.named == Tryz.pinned.checked.prog.varsNamed 8) = true := by kernel_rfl
theorem fact13 : (Rows.lseSolvesRow.maps == (Tryz.f8.params.toList ++ Rows.lseSolvesSpec.plain.varTypes Tryz.pinned.checked.prog).any (Tryz.pinned.checked.prog.mapsRec ·)) = true := by kernel_rfl
theorem fact14 : (Rows.lseSolvesRow.ifaces == (Tryz.f8.params.toList ++ Rows.lseSolvesSpec.plain.varTypes Tryz.pinned.checked.prog).any (Tryz.pinned.checked.prog.ifacesRec ·)) = true := by kernel_rfl
theorem fact15 : (Rows.lseSolvesRow.mapsOut == Tryz.pinned.checked.prog.mapsAmong Tryz.f8.resultTypes.toList) = true := by kernel_rfl
theorem fact16 : (Rows.lseSolvesRow.loops == (Tryz.f8.params.toList ++ Rows.lseSolvesSpec.plain.varTypes Tryz.pinned.checked.prog).any (Tryz.pinned.checked.prog.loopsFrom ·)) = true := by kernel_rfl
theorem fact17 : (Rows.lseSolvesRow.wideKeys == (Tryz.f8.params.toList ++ Rows.lseSolvesSpec.plain.varTypes Tryz.pinned.checked.prog ++ Tryz.f8.resultTypes.toList).any (Tryz.pinned.checked.prog.wideKeysFrom ·)) = true := by kernel_rfl
theorem fact18 : (Rows.lseSolvesSpec.vars.all (Tryz.pinned.checked.prog.varReadable ·)) = true := by kernel_rfl
theorem fact19 : (Tryz.f8.resultTypes.all (fun t => Tryz.pinned.checked.prog.readableRec t && decide (t < Tryz.pinned.checked.prog.types.size))) = true := by kernel_rfl
theorem fact20 : (Rows.lseSolvesRow.ifacesOut == Tryz.f8.resultTypes.toList.any (Tryz.pinned.checked.prog.ifacesRec ·)) = true := by kernel_rfl
theorem fact21 : (Rows.lseSolvesRow.loopsOut == Tryz.f8.resultTypes.toList.any (Tryz.pinned.checked.prog.loopsFrom ·)) = true := by kernel_rfl
theorem fact22 : (Rows.lseSolvesRow.plainKeys == Tryz.pinned.checked.prog.plainKeys) = true := by kernel_rfl
theorem fact23 : (Rows.lseSolvesRow.shortTexts.isNone) = true := by kernel_rfl
theorem fact24 : (Tryz.pinned.checked.prog.stopsHeard) = true := by kernel_rfl
theorem fact25 : (Tryz.pinned.checked.prog.mayEnter) = true := by kernel_rfl
theorem fact26 : (Rows.lseSolvesRow.lifted == Tryz.pinned.checked.prog.liftsFinal) = true := by kernel_rfl
theorem fact27 : (Tryz.pinned.checked.prog.make == some Rows.lseSolvesRow.make) = true := by kernel_rfl
theorem fact28 : (Rows.lseSolvesRow.kinds == (if Rows.lseSolvesRow.domain.isEmpty then [] else Tryz.f8.params.toList.map fun t => match Tryz.pinned.checked.prog.underlying t with | some (.int k) => some k | _ => Option.none)) = true := by kernel_rfl
theorem fact29 : (Rows.lseSolvesRow.pinned == Rows.lseSolvesRow.pinnedBy) = true := by kernel_rfl
theorem fact30 : (Rows.lseSolvesRow.veiled == (Tryz.f8.params.toList ++ Rows.lseSolvesSpec.plain.varTypes Tryz.pinned.checked.prog ++ Tryz.f8.resultTypes.toList).any (Tryz.pinned.checked.prog.veiledRec ·)) = true := by kernel_rfl
theorem fact31 : (Rows.lseSolvesRow.veiledFits Tryz.pinned.checked.prog Tryz.f8.params.toList (Tryz.f8.params.toList ++ Rows.lseSolvesSpec.plain.varTypes Tryz.pinned.checked.prog ++ Tryz.f8.resultTypes.toList)) = true := by kernel_rfl
theorem closed : joinedFacts Tryz.pinned.checked.prog 8 Tryz.f8 Rows.lseSolvesSpec Rows.lseSolvesRow = true :=
  band (band (band (band (band (band (band (band (band (band (band (band (band (band (band (band (band (band (band (band (band (band (band (band (band (band (band (band (band (band (band fact0 fact1) fact2) fact3) fact4) fact5) fact6) fact7) fact8) fact9) fact10) fact11) fact12) fact13) fact14) fact15) fact16) fact17) fact18) fact19) fact20) fact21) fact22) fact23) fact24) fact25) fact26) fact27) fact28) fact29) fact30) fact31

theorem over : Rows.lseSolvesRow.holds Tryz.pinned (OpenSpec.ofChange Rows.lseSolvesSpec) :=
  OpenClaim.holds_of_wide 8 Tryz.f8 rfl rfl rfl rfl rfl rfl rfl ⟨rfl, rfl, rfl, rfl, rfl⟩ rfl rfl rfl rfl rfl (by kernel_rfl) Tryz.func8 closed
    (of_decide_eq_true (by kernel_rfl)) (by unfold Func.isWrapper; first | (rw [if_pos (by decide +kernel)]; kernel_rfl) | (rw [if_neg (by decide +kernel)]; exact ⟨rfl, rfl⟩))
    (fun os started H enc _ => lifted os started H enc)

/-- The statement. -/
theorem proved : Rows.LseSolvesSaid :=
  over
#print axioms proved
end Go.Proofs.YtjbokjpbiobjpaaGreat.lseSolves
