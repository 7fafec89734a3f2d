/- A verified evaluator of the program's form and its use for this seat: Den27, Den28, Den29, Den30, Den31, Den32, Den33, Den34, Den35, Den36, Den37, Den38, Bits. -/
import Derived.Test.YtjbokjpbiobjpaaGreatTC
import Derived.LoopN
import Derived.Scope
import Derived.KernelRfl
import Derived.Laws.StructEq
import Derived.Laws.Externs
import Derived.ChangeKeysEq
import Derived.IntWalk
set_option linter.unusedVariables false
set_option linter.unusedSimpArgs false
noncomputable section
namespace Go.Den
open Go.RowKit (Below)
section
variable {P : Program} {E : Env} {S I0 : Nat → Prop} {B : Nat} {w0 : World}
theorem opsD_ok {β : Type} (he : I6 P E) {ops : Array Oper} {draw : Bool} {Q : Exit → Act → World → Prop} {K : St → Option β} {r : β} :
    ∀ (l : List Oper) (k : Nat) (st : St), (∀ j, l[j]? = ops[k + j]?) → opsD E ops draw l st K = some r → ∀ a w, Ew S I0 B w0 st a w →
    (∀ st a w, K st = some r → Ew S I0 B w0 st a w → Q .normal a w) → wpOps P ops Q (List.range' k l.length) a w
  | [], k, st, _, h, a, w, hh, hQ => hQ st a w h hh
  | o :: l, k, st, hl, h, a, w, hh, hQ => by
    simp only [opsD] at h
    cases hs : Kg E ops draw st o with
    | none => rw [hs] at h; cases h
    | some x =>
      obtain ⟨b, st'⟩ := x
      rw [hs] at h
      simp only at h
      cases b with
      | false => cases h
      | true =>
        simp only [cond_true] at h
        obtain ⟨d, hd⟩ := Vg he hs
        have ho : ops[k]? = some o := by simpa using (hl 0).symm
        rw [List.length_cons, List.range'_succ]
        simp only [wpOps, ho]
        have := hh.step hd (Q := Q) (wpOps P ops Q (List.range' (k + 1) l.length)) (fun v w' hv => opsD_ok he l (k + 1) st' (fun j => by have := hl (j + 1); simpa [Nat.add_assoc, Nat.add_comm 1 j] using this) h _ _ hv hQ)
        split
        · rename_i hw; rw [if_pos hw] at this; exact .inl this
        · rename_i hw; rw [if_neg hw] at this; exact this
theorem H7.congr {A : Nat → Option Place} {f f' : Nat → Option (Bool × OB)} {g g' : Nat → DV} {len len' : Nat} {a : Act} {w : World} (h : H7 S I0 B w0 A f g len a w) (hf : ∀ n, f n = f' n) (hg : ∀ t, g t = g' t) (hl : len = len') : H7 S I0 B w0 A f' g' len' a w := by
  obtain rfl : f = f' := funext hf
  obtain rfl : g = g' := funext hg
  subst hl; exact h
def Ki (listed : Array Bool) (j : Nat) : Prop := listed.getD j false = true
theorem Od {l : Array Bool} {j : Nat} (h : l.getD j true = false) : j < l.size ∧ l.getD j false = false := by
  rcases Nat.lt_or_ge j l.size with h' | h'
  · refine ⟨h', ?_⟩
    simp only [Array.getD_eq_getD_getElem?, Array.getElem?_eq_getElem h', Option.getD_some] at h ⊢; exact h
  · simp [Array.getD_eq_getD_getElem?, Array.getElem?_eq_none h'] at h
theorem Tw {listed : Array Bool} {k : Nat} (hk : k < listed.size) (j : Nat) : Ki (listed.setIfInBounds k true) j ↔ Ki listed j ∨ j = k := by
  unfold Ki
  simp only [Array.getD_eq_getD_getElem?]
  by_cases e : k = j
  · subst e; simp [hk]
  · rw [Array.getElem?_setIfInBounds_ne e]
    exact ⟨.inl, fun h => h.resolve_right (fun h => e h.symm)⟩
theorem count_set {listed : Array Bool} {k : Nat} (h : listed.getD k true = false) : (listed.setIfInBounds k true).toList.count false + 1 = listed.toList.count false := by
  obtain ⟨hk, h2⟩ := Od h
  have hk' : k < listed.toList.length := by simpa using hk
  have hv : listed.toList[k] = false := by
    simpa [Array.getD_eq_getD_getElem?, Array.getElem?_eq_getElem hk] using h2
  have hp : 0 < List.count false listed.toList := List.count_pos_iff.2 (hv ▸ List.getElem_mem hk')
  rw [Array.toList_setIfInBounds, List.count_set hk', hv, if_pos (beq_self_eq_true _), if_neg (by simp)]
  omega
theorem any_ok {ops : Array Oper} {M : List (Nat × List Nat)} {tr : Nat → St} (hd : Rr ops) (T : Trace P E ops (ops.toList.map Hc) M tr) {Q : Exit → Act → World → Prop}
    (hQ : ∀ a w, Ew S I0 B w0 (tr ops.size) a w → Q .normal a w) : ∀ (fuel : Nat) (listed : Array Bool) (a : Act) (w : World), listed.size = ops.size → T1 ops (Ki listed) → listed.toList.count false = fuel →
    (∃ A, H7 S I0 B w0 A (Pa E ops M tr (Ki listed)) (Xn ops tr (Ki listed)) (tr 0).tmps.length a w) → wpAny P .any ops Q fuel listed a w := by
  have last : ∀ (listed : Array Bool) (a : Act) (w : World), listed.size = ops.size → Region.ready .any ops listed = [] → (∃ A, H7 S I0 B w0 A (Pa E ops M tr (Ki listed)) (Xn ops tr (Ki listed)) (tr 0).tmps.length a w) → Q .normal a w := by
    rintro listed a w hsz hr ⟨A, h⟩
    have all : ∀ k, k < ops.size → Ki listed k := by
      intro k
      induction k using Nat.strongRecOn with
      | _ k ih =>
        intro hk
        refine Classical.byContradiction fun hn => ?_
        have : k ∈ Region.ready .any ops listed := mem_ready.2 ⟨?_, ops[k], Array.getElem?_eq_getElem hk, fun e he hb => ?_⟩
        · rw [hr] at this; cases this
        · unfold Ki at hn
          have hk' : k < listed.size := by omega
          simp only [Array.getD_eq_getD_getElem?, Array.getElem?_eq_getElem hk', Option.getD_some, Bool.not_eq_true] at hn ⊢
          exact hn
        · have hlt := hd.lt k ops[k] (Array.getElem?_eq_getElem hk) e.on (mem_dirs.2 ⟨e, he, hb, rfl⟩)
          exact ih e.on hlt (by omega)
    refine hQ a w ⟨A, h.congr (fun n => ?_) (fun t => ?_) (T.len (Nat.le_refl _)).symm⟩
    · exact J8 (val := fun k => look (tr k).heap n) (fun j hj ht => T.valH hj ht) (Nat.le_refl _) fun j hj _ => ⟨fun _ => hj, fun _ => all j hj⟩
    · exact J8 (val := fun k => (tr k).tmps.getD t .undef) (fun j hj ht => T.valT hj ht) (Nat.le_refl _) fun j hj _ => ⟨fun _ => hj, fun _ => all j hj⟩
  intro fuel
  induction fuel with
  | zero =>
    intro listed a w hsz hc hf h
    have hr : Region.ready .any ops listed = [] := by
      refine List.eq_nil_iff_forall_not_mem.2 fun k hk => ?_
      have h1 := count_set (mem_ready.1 hk).1
      omega
    exact ⟨hr, last listed a w hsz hr h⟩
  | succ fuel ih =>
    intro listed a w hsz hc hf h
    refine ⟨fun hr => last listed a w hsz hr h, fun k hk => ?_⟩
    obtain ⟨hun, o, ho, hall⟩ := mem_ready.1 hk
    obtain ⟨hks, hkf⟩ := Od hun
    have hkS : ¬ Ki listed k := by unfold Ki; rw [hkf]; simp
    have hrS : ∀ i ∈ Hc o, Ki listed i := fun i hi => by
      obtain ⟨e, he, hb, rfl⟩ := mem_dirs.1 hi
      exact hall e he hb
    obtain ⟨A, h⟩ := h
    have hstep := T.step hd hc ho hkS hrS h (Q := Q) (wpAny P .any ops Q fuel (listed.setIfInBounds k true)) (fun v w' hv => by
      obtain ⟨A', hv⟩ := hv
      refine ih _ _ _ (by simp [hsz]) ?_ ?_ ⟨A', hv.congr (fun n => ?_) (fun t => ?_) rfl⟩
      · intro j p hp hj i hi
        rw [Tw hks] at hj ⊢
        rcases hj with hj | rfl
        · exact .inl (hc j p hp hj i hi)
        · rw [ho] at hp; cases hp
          exact .inl (hrS i hi)
      · have := count_set hun; omega
      · exact Md fun j _ _ => (Tw hks j).symm
      · exact Md fun j _ _ => (Tw hks j).symm)
    unfold wpOp
    rw [ho]
    simp only
    split
    · rename_i hw; rw [if_pos hw] at hstep; exact .inl hstep
    · rename_i hw; rw [if_neg hw] at hstep; exact hstep
theorem Ew.drew {st : St} {a : Act} {w : World} (h : Ew S I0 B w0 st a w) : Ew S I0 B w0 st a { w with drawn := w.drawn + 1 } := by
  obtain ⟨A, h⟩ := h
  have hmv : Hn A w A { w with drawn := w.drawn + 1 } := ⟨Nat.le_refl _, (Hn.refl A w).names, (Hn.refl A w).live, fun _ _ _ => rfl⟩
  have hl := hmv.Cw (I0 := I0) (B := B)
  exact ⟨A, h.defers, h.size, h.below.trans ⟨rfl, rfl, rfl, Nat.le_refl _, fun _ _ => rfl⟩, h.hB, h.I0lt, fun n p hp => by
    obtain ⟨fo, h1, h2⟩ := h.obj n p hp
    exact ⟨fo, h1, Oy hl (fun _ _ _ => rfl) h2⟩, h.blkB, h.inj, fun t => Ak.Cw hl _ _ (h.tmps t), h.kept⟩
theorem drawD_ok {β : Type} (he : I6 P E) {id : Nat} {ops : Array Oper} {Q : Exit → Act → World → Prop} {K : St → Option β} {r : β} {st : St} (h : drawD E ops st K = some r) {a : Act} {w : World} (hh : Ew S I0 B w0 st a w)
    (hQ : ∀ st a w, K st = some r → Ew S I0 B w0 st a w → Q .normal a w) : (Code.region id ops true).wp P Q a w := by
  unfold drawD at h
  cases hc : Z6 ops (ops.toList.map Hc) with
  | false => rw [hc] at h; cases h
  | true =>
    rw [hc, cond_true] at h
    have hd := drawOk_spec hc
    generalize (bif looseM ops (ops.toList.map Hc) 0 ops.toList then Zz E ops 0 ops.toList st else []) = M at h
    obtain ⟨tr, h0, h1, h2⟩ := T8 he ops.toList 0 st (fun j => by simp) h
    have T : Trace P E ops (ops.toList.map Hc) M tr := ⟨fun k o ho => by
      have := (h2 k o (by simpa using ho)).1
      rw [Nat.zero_add] at this; exact this, fun k o ho hlo => by
      have := (h2 k o (by simpa using ho)).2
      rw [Nat.zero_add] at this; exact this hlo⟩
    refine wp_region_any he.mixed (any_ok hd T (fun a w hw => hQ _ a w (by simpa using h1) hw) _ _ _ _ (by simp) ?_ (by simp) ?_)
    · intro k o _ hk
      unfold Ki at hk
      simp only [Array.getD_eq_getD_getElem?, Array.getElem?_replicate] at hk
      split at hk <;> cases hk
    · obtain ⟨A, hA⟩ := hh.drew
      subst h0
      refine ⟨A, hA.congr (fun n => ?_) (fun t => ?_) rfl⟩
      · refine (J8 (k := 0) (val := fun k => look (tr k).heap n) (fun j hj ht => T.valH hj ht) (by omega) fun j hj _ => ⟨fun hk => ?_, fun h => by omega⟩).symm
        unfold Ki at hk
        simp only [Array.getD_eq_getD_getElem?, Array.getElem?_replicate] at hk
        split at hk <;> cases hk
      · refine (J8 (k := 0) (val := fun k => (tr k).tmps.getD t .undef) (fun j hj ht => T.valT hj ht) (by omega) fun j hj _ => ⟨fun hk => ?_, fun h => by omega⟩).symm
        unfold Ki at hk
        simp only [Array.getD_eq_getD_getElem?, Array.getElem?_replicate] at hk
        split at hk <;> cases hk
end
end Go.Den
namespace Go.Den
open Go.RowKit (Below)
def Ctx.only (c : Ctx) (ns : List Nat) : Ctx := { c with at_ := fun n => if n ∈ ns then c.at_ n else none }
theorem N3 {n : Nat} {l : List Nat} (h : l.contains n = true) : n ∈ l := by simpa using h
theorem Zh {c : Ctx} {w : World} (ns : List Nat) : ∀ (f : Nat) (d : DV) (v : Value), D5 f ns d = true → Ak c w d v → Ak (c.only ns) w d v := by
  intro f
  induction f with
  | zero => intro d v h; simp [D5] at h
  | succ f ih =>
    have all : ∀ (l : List DV) (vs : List Value), l.all (D5 f ns) = true → A4 c w l vs → A4 (c.only ns) w l vs := by
      intro l
      induction l with
      | nil => intro vs _ h; rw [A4.Ff] at h ⊢; exact h
      | cons d l ihl =>
        intro vs h hv
        simp only [List.all_cons, Bool.and_eq_true] at h
        rw [A4.Ca] at hv ⊢
        obtain ⟨u, us, e, h1, h2⟩ := hv
        exact ⟨u, us, e, ih d u h.1 h1, ihl us h.2 h2⟩
    intro d v h hv
    cases d with
    | agg l =>
      simp only [D5] at h
      simp only [Ak] at hv ⊢
      obtain ⟨vs, e, hl⟩ := hv
      exact ⟨vs, e, all l _ h hl⟩
    | tup l =>
      simp only [D5] at h
      simp only [Ak] at hv ⊢
      obtain ⟨vs, e, hl⟩ := hv
      exact ⟨vs, e, all l _ h hl⟩
    | fn g a b =>
      simp only [D5, Bool.and_eq_true] at h
      simp only [Ak] at hv ⊢
      obtain ⟨fs, cs, e, h1, h2⟩ := hv
      exact ⟨fs, cs, e, all a _ h.1 h1, all b _ h.2 h2⟩
    | gd g d =>
      simp only [D5] at h
      simp only [Ak] at hv ⊢
      exact ⟨fun e => ih d v h (hv.1 e), hv.2⟩
    | oref n =>
      simp only [D5] at h
      simp only [Ak] at hv ⊢
      obtain ⟨h1, p, hp, hd⟩ := hv
      exact ⟨h1, p, by simp only [Ctx.only, N3 h, if_true]; exact hp, hd⟩
    | sref n o m =>
      simp only [D5] at h
      simp only [Ak] at hv ⊢
      obtain ⟨h1, p, hp, hd⟩ := hv
      exact ⟨h1, p, by simp only [Ctx.only, N3 h, if_true]; exact hp, hd⟩
    | ptr n i j =>
      simp only [D5] at h
      simp only [Ak] at hv ⊢
      obtain ⟨h1, p, hp, hd⟩ := hv
      exact ⟨h1, p, by simp only [Ctx.only, N3 h, if_true]; exact hp, hd⟩
    | ints g k l => cases g <;> (simp only [Ak] at hv ⊢; exact hv)
    | recs g k l => cases g <;> (simp only [Ak] at hv ⊢; exact hv)
    | undef => simp only [Ak]
    | _ => simp only [Ak] at hv ⊢; exact hv
def Wp (n : Nat) : List (Nat × Nat × Nat × OB) → Option (Nat × Nat × Nat × OB)
  | [] => none
  | x :: xs => if x.2.2.1 = n then some x else Wp n xs
theorem Tu {n : Nat} : ∀ {l : List (Nat × Nat × Nat × OB)} {x}, Wp n l = some x → x ∈ l ∧ x.2.2.1 = n
  | [], x, h => by cases h
  | y :: l, x, h => by
    simp only [Wp] at h
    split at h
    · cases h; exact ⟨List.mem_cons_self, ‹_›⟩
    · exact ⟨List.mem_cons_of_mem _ (Tu h).1, (Tu h).2⟩
theorem Sx : ∀ {l : List (Nat × Nat × Nat × OB)} {x}, (l.map (·.2.2.1)).Nodup → x ∈ l → Wp x.2.2.1 l = some x
  | [], x, _, h => by cases h
  | y :: l, x, hn, h => by
    simp only [List.map_cons, List.nodup_cons] at hn
    simp only [Wp]
    rcases List.mem_cons.1 h with rfl | h
    · rw [if_pos rfl]
    · rw [if_neg (fun e => hn.1 (by rw [e]; exact List.mem_map.2 ⟨x, h, rfl⟩))]
      exact Sx hn.2 h
theorem Ra {b j nm : Nat} : ∀ {l : List (Nat × Nat × Nat × OB)}, Ji b j l = some nm → ∃ ob, (b, j, nm, ob) ∈ l
  | [], h => by cases h
  | (b', j', nm', ob) :: l, h => by
    simp only [Ji] at h
    cases hb : (Nat.beq b b' && Nat.beq j j') with
    | true =>
      rw [hb] at h
      simp only [cond_true, Option.some.injEq] at h
      simp only [Bool.and_eq_true] at hb
      have e1 := Nat.eq_of_beq_eq_true hb.1
      have e2 := Nat.eq_of_beq_eq_true hb.2
      subst e1 e2 h
      exact ⟨ob, List.mem_cons_self⟩
    | false =>
      rw [hb] at h
      obtain ⟨ob', h'⟩ := Ra h
      exact ⟨ob', List.mem_cons_of_mem _ h'⟩
theorem Vw {st : St} : ∀ {l : List (Nat × Nat × Nat × OB)} {h : C4} {ns : List Nat}, Vx st l = some (h, ns) → (l.map (·.2.2.1)).Nodup → ns.Nodup →
    (∀ x ∈ l, ∃ s ob, Zj st x = some (s, ob) ∧ look h x.2.2.1 = some (false, ob) ∧ ∀ n, s = some n → n ∈ ns) ∧
    (∀ n fo, look h n = some fo → ∃ x ∈ l, x.2.2.1 = n) ∧
    (∀ x ∈ l, ∀ y ∈ l, ∀ n ob ob', Zj st x = some (some n, ob) → Zj st y = some (some n, ob') → x = y)
  | [], h, ns, hs, _, _ => by
    simp only [Vx, Option.some.injEq, Prod.mk.injEq] at hs
    obtain ⟨rfl, rfl⟩ := hs
    exact ⟨fun x hx => (by cases hx), fun n fo hl => (by cases hl), fun x hx => (by cases hx)⟩
  | x :: l, h, ns, hs, hn, hns => by
    simp only [Vx] at hs
    cases ho : Zj st x with
    | none => simp [ho] at hs
    | some r =>
      obtain ⟨s, ob⟩ := r
      cases hl : Vx st l with
      | none => simp [ho, hl] at hs
      | some r =>
        obtain ⟨h', ns'⟩ := r
        simp only [ho, hl, Option.some.injEq, Prod.mk.injEq] at hs
        obtain ⟨rfl, rfl⟩ := hs
        simp only [List.map_cons, List.nodup_cons] at hn
        rw [List.nodup_append] at hns
        obtain ⟨i1, i2, i3⟩ := Vw hl hn.2 hns.2.1
        have hx : ∀ y ∈ l, x.2.2.1 ≠ y.2.2.1 := fun y hy e => hn.1 (by rw [e]; exact List.mem_map.2 ⟨y, hy, rfl⟩)
        have cross : ∀ y ∈ l, ∀ n ob ob', Zj st x = some (some n, ob) → Zj st y = some (some n, ob') → False := by
          intro y hy n o1 o2 h1 h2
          rw [ho] at h1; cases h1
          obtain ⟨s', ob', h3, _, h4⟩ := i1 y hy
          rw [h2] at h3; cases h3
          exact hns.2.2 n (by simp) n (h4 n rfl) rfl
        refine ⟨fun y hy => ?_, fun n fo hl' => ?_, fun y hy z hz n o1 o2 h1 h2 => ?_⟩
        · rcases List.mem_cons.1 hy with rfl | hy
          · exact ⟨s, ob, ho, by simp [look], fun n e => by rw [e]; simp⟩
          · obtain ⟨s', ob', h1, h2, h3⟩ := i1 y hy
            refine ⟨s', ob', h1, ?_, fun n e => List.mem_append.2 (.inr (h3 n e))⟩
            simp only [look, show (x.2.2.1 == y.2.2.1) = false by simpa using hx y hy, cond_false]
            exact h2
        · simp only [look] at hl'
          by_cases e : x.2.2.1 = n
          · exact ⟨x, List.mem_cons_self, e⟩
          · rw [show (x.2.2.1 == n) = false by simpa using e] at hl'
            obtain ⟨y, hy, hyn⟩ := i2 n fo hl'
            exact ⟨y, List.mem_cons_of_mem _ hy, hyn⟩
        · rcases List.mem_cons.1 hy with e1 | hy2
          · rcases List.mem_cons.1 hz with e2 | hz2
            · rw [e1, e2]
            · exact (cross z hz2 n o1 o2 (e1 ▸ h1) h2).elim
          · rcases List.mem_cons.1 hz with e2 | hz2
            · exact (cross y hy2 n o2 o1 (e2 ▸ h2) h1).elim
            · exact i3 y hy2 z hz2 n o1 o2 h1 h2
theorem Uh {st : St} {H : Bf} : ∀ {bs : List Nat} {h : C4}, Ro st H bs = some h → bs.Nodup →
    (∀ b ∈ bs, ∃ f cs, look st.heap b = some (f, .box cs) ∧ P7 H.objs H.boxes (b + 1) 0 cs = true ∧ look h b = some (f, .box (Rm H.objs (b + 1) 0 cs))) ∧ (∀ n fo, look h n = some fo → n ∈ bs)
  | [], h, hs, _ => by
    simp only [Ro, Option.some.injEq] at hs
    subst hs
    exact ⟨fun x hx => (by cases hx), fun n fo hl => (by cases hl)⟩
  | b :: bs, h, hs, hn => by
    simp only [Ro] at hs
    split at hs
    · rename_i f cs hl
      cases hc : P7 H.objs H.boxes (b + 1) 0 cs with
      | false => rw [hc] at hs; cases hs
      | true =>
        rw [hc, cond_true] at hs
        cases hb : Ro st H bs with
        | none => rw [hb] at hs; cases hs
        | some h' =>
          rw [hb] at hs
          simp only [Option.some.injEq] at hs
          subst hs
          simp only [List.nodup_cons] at hn
          obtain ⟨i1, i2⟩ := Uh hb hn.2
          refine ⟨fun c hc' => ?_, fun n fo hl' => ?_⟩
          · rcases List.mem_cons.1 hc' with rfl | hc'
            · exact ⟨f, cs, hl, hc, by simp [look]⟩
            · obtain ⟨f', cs', h1, h2, h3⟩ := i1 c hc'
              refine ⟨f', cs', h1, h2, ?_⟩
              have : b ≠ c := fun e => hn.1 (e ▸ hc')
              simp only [look, show (b == c) = false by simpa using this, cond_false]
              exact h3
          · simp only [look] at hl'
            by_cases e : b = n
            · rw [e]; exact List.mem_cons_self
            · rw [show (b == n) = false by simpa using e] at hl'
              exact List.mem_cons_of_mem _ (i2 n fo hl')
    · cases hs
theorem Xm {H : Bf} : ∀ (l : List DV) (k i : Nat), i < l.length → (Vc H k l).getD i .undef = (match Ji 0 (k + i) H.objs with | some nm => .oref nm | none => bif Kw (k + i) H.keep then l.getD i .undef else .undef)
  | [], k, i, h => by simp at h
  | d :: l, k, i, h => by
    cases i with
    | zero =>
      simp only [Vc, List.getD_cons_zero, Nat.add_zero]
      cases Ji 0 k H.objs <;> rfl
    | succ i =>
      have := Xm (H := H) l (k + 1) i (by simpa using h)
      simp only [Vc, List.getD_cons_succ, this]
      rw [show k + 1 + i = k + (i + 1) by omega]
theorem No {H : Bf} : ∀ (l : List DV) (k : Nat), (Vc H k l).length = l.length
  | [], k => rfl
  | d :: l, k => by simp [Vc, No l]
theorem Vu {H : Bf} : ∀ {l : List DV} {k i : Nat}, Vv H k l = true → i < l.length → Ji 0 (k + i) H.objs = none → Kw (k + i) H.keep = true → D5 8 H.boxes (l.getD i .undef) = true
  | [], k, i, _, h, _, _ => by simp at h
  | d :: l, k, i, h, hi, h1, h2 => by
    simp only [Vv, Bool.and_eq_true, Bool.or_eq_true, Bool.not_eq_true'] at h
    cases i with
    | zero =>
      rcases h.1 with h | h | h
      · rw [Nat.add_zero] at h1; rw [h1] at h; cases h
      · rw [Nat.add_zero] at h2; rw [h2] at h; cases h
      · exact h
    | succ i =>
      rw [List.getD_cons_succ]
      exact Vu (k := k + 1) h.2 (by simpa using hi) (by rw [show k + 1 + i = k + (i + 1) by omega]; exact h1) (by rw [show k + 1 + i = k + (i + 1) by omega]; exact h2)
theorem Wx {c c' : Ctx} {w : World} {objs : List (Nat × Nat × Nat × OB)} {boxes : List Nat} {b : Nat} :
    ∀ (l : List DV) (vs : List Value) (k : Nat), P7 objs boxes b k l = true → A4 c w l vs →
    (∀ d v, D5 8 boxes d = true → Ak c w d v → Ak c' w d v) → (∀ i nm d v, l[i]? = some d → Ji b (k + i) objs = some nm → Ak c w d v → Ak c' w (.oref nm) v) → A4 c' w (Rm objs b k l) vs
  | [], vs, k, _, h, _, _ => by rw [A4.Ff] at h; subst h; simp [Rm, A4]
  | d :: l, vs, k, hok, h, h1, h2 => by
    simp only [P7, Bool.and_eq_true, Bool.or_eq_true] at hok
    rw [A4.Ca] at h
    obtain ⟨u, us, rfl, hu, hus⟩ := h
    simp only [Rm]
    rw [A4.Ca]
    refine ⟨u, us, rfl, ?_, Wx l us (k + 1) hok.2 hus h1 fun i nm e v hi hn => h2 (i + 1) nm e v hi (by rw [show k + (i + 1) = k + 1 + i by omega]; exact hn)⟩
    cases hn : Ji b k objs with
    | some nm => exact h2 0 nm d u rfl hn hu
    | none =>
      rw [hn] at hok
      exact h1 d u (hok.1.resolve_left (by simp)) hu
end Go.Den
namespace Go.Den
open Go.RowKit (Below)
def obSize : OB → Nat
  | .recs _ sz _ => sz
  | _ => 1
def Iw (ob : OB) : Place := ⟨.live, .row (.slice none 0 0) (obSize ob)⟩
open Classical in
def Nf (st : St) (H : Bf) (A : Nat → Option Place) (n : Nat) : Option Place :=
  if n ∈ H.boxes then A n else
  match Wp n H.objs with
  | some x => match Rx st x with
    | .nil => some (Iw x.2.2.2)
    | .oref m => A m
    | _ => none
  | none => none
theorem Jk {st : St} {H : Bf} {A : Nat → Option Place} {n : Nat} {p : Place} (h : Nf st H A n = some p) :
    (n ∈ H.boxes ∧ A n = some p) ∨ (n ∉ H.boxes ∧ ∃ x ∈ H.objs, x.2.2.1 = n ∧ ((Rx st x = .nil ∧ p = Iw x.2.2.2) ∨ ∃ m, Rx st x = .oref m ∧ A m = some p)) := by
  unfold Nf at h
  by_cases hb : n ∈ H.boxes
  · rw [if_pos hb] at h; exact .inl ⟨hb, h⟩
  · rw [if_neg hb] at h
    refine .inr ⟨hb, ?_⟩
    cases hf : Wp n H.objs with
    | none => rw [hf] at h; cases h
    | some x =>
      rw [hf] at h
      obtain ⟨hx, hn⟩ := Tu hf
      refine ⟨x, hx, hn, ?_⟩
      simp only at h
      split at h
      · rename_i e; cases h; exact .inl ⟨e, rfl⟩
      · rename_i m e; exact .inr ⟨m, e, h⟩
      · cases h
theorem Oz {st : St} {x : Nat × Nat × Nat × OB} {s : Option Nat} {ob : OB} (h : Zj st x = some (s, ob)) :
    (Rx st x = .nil ∧ s = none ∧ ob = x.2.2.2 ∧ ((∃ e k, ob = .ints e k []) ∨ ∃ e sz, 0 < sz ∧ ob = .recs e sz [])) ∨
    (∃ m, Rx st x = .oref m ∧ s = some m ∧ look st.heap m = some (false, ob) ∧ ((∃ e k l, ob = .ints e k l) ∨ ∃ e sz l, ob = .recs e sz l)) := by
  unfold Zj at h
  split at h
  · rename_i hs
    left
    split at h
    · rename_i e k hx
      simp only [Option.some.injEq, Prod.mk.injEq] at h
      exact ⟨hs, h.1.symm, by rw [hx]; exact h.2.symm, .inl ⟨e, k, h.2.symm⟩⟩
    · rename_i e sz hx
      cases hb : Nat.blt 0 sz with
      | false => rw [hb] at h; cases h
      | true =>
        rw [hb] at h
        simp only [cond_true, Option.some.injEq, Prod.mk.injEq] at h
        exact ⟨hs, h.1.symm, by rw [hx]; exact h.2.symm, .inr ⟨e, sz, by simpa [Nat.blt_eq] using hb, h.2.symm⟩⟩
    · cases h
  · rename_i m hs
    right
    split at h
    · rename_i e k l hl
      simp only [Option.some.injEq, Prod.mk.injEq] at h
      exact ⟨m, hs, h.1.symm, by rw [hl, h.2], .inl ⟨e, k, l, h.2.symm⟩⟩
    · rename_i e sz l hl
      simp only [Option.some.injEq, Prod.mk.injEq] at h
      exact ⟨m, hs, h.1.symm, by rw [hl, h.2], .inr ⟨e, sz, l, h.2.symm⟩⟩
    · cases h
  · cases h
section
variable {S I0 : Nat → Prop} {B : Nat} {w0 : World}
theorem canon0_ok {H : Bf} {st st1 : St} (h : canon0 (some H) st = some st1) {a : Act} {w : World} (hh : Ew S I0 B w0 st a w) : Ew S I0 B w0 st1 a w := by
  obtain ⟨A, hA⟩ := hh
  simp only [canon0] at h
  cases hbd : Ro st H H.boxes with
  | none => rw [hbd] at h; cases h
  | some hb =>
  cases hod : Vx st H.objs with
  | none => rw [hbd, hod] at h; cases h
  | some r =>
  obtain ⟨ho, ns⟩ := r
  rw [hbd, hod] at h
  simp only at h
  cases hc : (Kd (H.boxes ++ H.objs.map (·.2.2.1)) && Kd ns && Vv H 0 st.tmps) with
  | false => rw [hc] at h; cases h
  | true =>
  rw [hc, cond_true, Option.some.injEq] at h
  subst h
  simp only [Bool.and_eq_true] at hc
  obtain ⟨⟨hn, hns⟩, hok⟩ := hc
  have hnd := Ic hn
  rw [List.nodup_append] at hnd
  obtain ⟨hnb, hno, hdis⟩ := hnd
  obtain ⟨o1, o2, o3⟩ := Vw hod hno (Ic hns)
  obtain ⟨b1, b2⟩ := Uh hbd hnb
  have hnin : ∀ x ∈ H.objs, x.2.2.1 ∉ H.boxes := fun x hx e => hdis _ e _ (List.mem_map.2 ⟨x, hx, rfl⟩) rfl
  have hat : ∀ x ∈ H.objs, Nf st H A x.2.2.1 = match Rx st x with | .nil => some (Iw x.2.2.2) | .oref m => A m | _ => none := by
    intro x hx
    unfold Nf
    rw [if_neg (hnin x hx), Sx hno hx]
  have hokc : ∀ b, (Bl I0 B A w).ok b → (Bl I0 B (Nf st H A) w).ok b := by
    rintro b ⟨h1, h2, h3⟩
    refine ⟨h1, h2, fun n p hp hl => ?_⟩
    rcases Jk hp with ⟨_, hp⟩ | ⟨_, x, _, _, ⟨_, rfl⟩ | ⟨m, _, hp⟩⟩
    · exact h3 n p hp hl
    · simp [Iw, Place.Fl, Value.ownBlock]
    · exact h3 m p hp hl
  have hrefs : ∀ d v, D5 8 H.boxes d = true → Ak (Bl I0 B A w) w d v → Ak (Bl I0 B (Nf st H A) w) w d v := by
    intro d v hd hv
    have hl : I5 ((Bl I0 B A w).only H.boxes) w (Bl I0 B (Nf st H A) w) w := by
     refine ⟨hokc, rfl, rfl, fun _ _ h => (by cases h), fun n p hp => ?_, fun _ _ _ => rfl, fun _ _ h => (by cases h)⟩
     simp only [Ctx.only] at hp
     split at hp
     · rename_i hnb'
       refine ⟨p, ?_, ?_⟩
       · show Nf st H A n = some p
         unfold Nf
         rw [if_pos hnb']; exact hp
       · by_cases hpd : p.st = .dead
         · exact .inl hpd
         · exact .inr ⟨hpd, rfl⟩
     · cases hp
    exact Ak.Cw hl d v (Zh H.boxes 8 d v hd hv)
  have hbare : ∀ l rows, Co (Bl I0 B A w).bare w l rows → Co (Bl I0 B (Nf st H A) w).bare w l rows := fun l rows =>
    Co.Cw (c := (Bl I0 B A w).bare) (c' := (Bl I0 B (Nf st H A) w).bare) (w := w) (w' := w) ⟨hokc, rfl, rfl, fun _ _ h => (by cases h), fun _ _ h => (by cases h), fun _ _ _ => rfl, fun _ _ h => (by cases h)⟩ l rows
  have hnamed : ∀ x ∈ H.objs, ∀ v, Ak (Bl I0 B A w) w (Rx st x) v → Ak (Bl I0 B (Nf st H A) w) w (.oref x.2.2.1) v := by
    intro x hx v hv
    obtain ⟨s, ob, h1, _, _⟩ := o1 x hx
    have hax := hat x hx
    rcases Oz h1 with ⟨e, _⟩ | ⟨m, e, _⟩
    · rw [e] at hv hax
      simp only [Ak] at hv ⊢
      subst hv
      exact ⟨rfl, _, hax, .inr ⟨_, rfl⟩⟩
    · rw [e] at hv hax
      simp only [Ak] at hv ⊢
      obtain ⟨h1, p, hp, hd⟩ := hv
      exact ⟨h1, p, hax.trans hp, hd⟩
  refine ⟨Nf st H A, hA.defers, hA.size.trans (No _ _).symm, hA.below, hA.hB, hA.I0lt, fun n p hp => ?_, fun n p b hp hd hpb => ?_, fun n m p q b hp hq hpd hqd hpb hqb => ?_, fun t => ?_, fun b hb => ⟨(hA.kept b hb).1, (hA.kept b hb).2.1, fun n p hp hl hbk => by
    rcases Jk hp with ⟨_, hp⟩ | ⟨_, x, _, _, ⟨_, rfl⟩ | ⟨m, _, hp⟩⟩
    · exact (hA.kept b hb).2.2 n p hp hl hbk
    · simp [Iw, Place.Fl, Value.ownBlock] at hbk
    · exact (hA.kept b hb).2.2 m p hp hl hbk⟩⟩
  · rcases Jk hp with ⟨hnb', hp⟩ | ⟨hnb', x, hx, rfl, hsrc⟩
    · obtain ⟨f, cs, h1, h2, h3⟩ := b1 n hnb'
      obtain ⟨fo, h4, h5⟩ := hA.obj n p hp
      rw [h1] at h4; cases h4
      refine ⟨(f, .box (Rm H.objs (n + 1) 0 cs)), by rw [L6, h3], ?_⟩
      obtain ⟨hst, b, e, cells, hk, hh, hl⟩ := h5
      refine ⟨hst, b, e, cells, hk, hh, Wx cs _ 0 h2 hl hrefs fun i nm d v hi hnm hv => ?_⟩
      obtain ⟨ob, hx⟩ := Ra hnm
      refine hnamed _ hx v ?_
      have : Rx st (n + 1, 0 + i, nm, ob) = d := by
        simp [Rx, h1, List.getD_eq_getElem?_getD, hi]
      rw [this]; exact hv
    · obtain ⟨s, ob, h1, h2, _⟩ := o1 x hx
      have hl : look (hb ++ ho) x.2.2.1 = some (false, ob) := by
        rw [L6]
        cases hq : look hb x.2.2.1 with
        | none => exact h2
        | some fo => exact absurd (b2 _ _ hq) hnb'
      refine ⟨_, hl, ?_⟩
      rcases Oz h1 with ⟨e, _, e2, hob⟩ | ⟨m, e, _, hlm, hob⟩
      · rcases hsrc with ⟨_, rfl⟩ | ⟨m, e', _⟩
        · rw [← e2]
          rcases hob with ⟨e, k, rfl⟩ | ⟨e, sz, hsz, rfl⟩
          · exact ⟨rfl, _, rfl, World.ownsRow_nil w B e 1⟩
          · exact ⟨rfl, hsz, _, [], rfl, by simp [Co], fun r hr => (by cases hr), World.ownsRow_nil w B e sz⟩
        · rw [e] at e'; cases e'
      · rcases hsrc with ⟨e', _⟩ | ⟨m', e', hp'⟩
        · rw [e] at e'; cases e'
        · rw [e] at e'; cases e'
          obtain ⟨fo, h4, h5⟩ := hA.obj m p hp'
          rw [hlm] at h4; cases h4
          rcases hob with ⟨e, k, l, rfl⟩ | ⟨e, sz, l, rfl⟩
          · exact h5
          · obtain ⟨i1, i2, sv, rows, i3, i4, i5, i6⟩ := h5
            exact ⟨i1, i2, sv, rows, i3, hbare _ _ i4, i5, i6⟩
  · rcases Jk hp with ⟨_, hp⟩ | ⟨_, x, hx, rfl, ⟨_, rfl⟩ | ⟨m, _, hp⟩⟩
    · exact hA.blkB n p b hp hd hpb
    · simp [Iw, Place.Fl, Value.ownBlock] at hpb
    · exact hA.blkB m p b hp hd hpb
  · have isBox : ∀ n p, n ∈ H.boxes → A n = some p → ∃ b, p.kind = .box b := by
      intro n p hnb' hp
      obtain ⟨f, cs, h1, _, _⟩ := b1 n hnb'
      obtain ⟨fo, h4, h5⟩ := hA.obj n p hp
      rw [h1] at h4; cases h4
      obtain ⟨_, b, _, _, hk, _⟩ := h5
      exact ⟨b, hk⟩
    have isRow : ∀ x ∈ H.objs, ∀ m p, Rx st x = .oref m → A m = some p → ∃ sv sz, p.kind = .row sv sz := by
      intro x hx m p e hp
      obtain ⟨s, ob, h1, _, _⟩ := o1 x hx
      rcases Oz h1 with ⟨e', _⟩ | ⟨m', e', _, hlm, hob⟩
      · rw [e] at e'; cases e'
      · rw [e] at e'; cases e'
        obtain ⟨fo, h4, h5⟩ := hA.obj m p hp
        rw [hlm] at h4; cases h4
        rcases hob with ⟨e, k, l, rfl⟩ | ⟨e, sz, l, rfl⟩
        · obtain ⟨_, sv, hk, _⟩ := h5; exact ⟨sv, 1, hk⟩
        · obtain ⟨_, _, sv, _, hk, _⟩ := h5; exact ⟨sv, sz, hk⟩
    have same : ∀ m m' : Nat, ∀ p q : Place, A m = some p → A m' = some q → p.st ≠ .dead → q.st ≠ .dead → p.Fl = some b → q.Fl = some b → m = m' := fun m m' p q h1 h2 h3 h4 h5 h6 => hA.inj m m' p q b h1 h2 h3 h4 h5 h6
    rcases Jk hp with ⟨hnb', hp⟩ | ⟨_, x, hx, rfl, ⟨_, rfl⟩ | ⟨i, hi, hp⟩⟩
    · rcases Jk hq with ⟨_, hq⟩ | ⟨_, y, hy, rfl, ⟨_, rfl⟩ | ⟨j, hj, hq⟩⟩
      · exact same n m p q hp hq hpd hqd hpb hqb
      · simp [Iw, Place.Fl, Value.ownBlock] at hqb
      · have e := same n j p q hp hq hpd hqd hpb hqb
        subst e
        rw [hp] at hq; cases hq
        obtain ⟨b', hk⟩ := isBox n p hnb' hp
        obtain ⟨sv, sz, hk'⟩ := isRow y hy n p hj hp
        rw [hk] at hk'; cases hk'
    · simp [Iw, Place.Fl, Value.ownBlock] at hpb
    · rcases Jk hq with ⟨hmb, hq⟩ | ⟨_, y, hy, rfl, ⟨_, rfl⟩ | ⟨j, hj, hq⟩⟩
      · have e := same i m p q hp hq hpd hqd hpb hqb
        subst e
        rw [hp] at hq; cases hq
        obtain ⟨b', hk⟩ := isBox i p hmb hp
        obtain ⟨sv, sz, hk'⟩ := isRow x hx i p hi hp
        rw [hk] at hk'; cases hk'
      · simp [Iw, Place.Fl, Value.ownBlock] at hqb
      · have e := same i j p q hp hq hpd hqd hpb hqb
        subst e
        obtain ⟨s, ob, h1, _, _⟩ := o1 x hx
        obtain ⟨s', ob', h1', _, _⟩ := o1 y hy
        have hs : s = some i := by
          rcases Oz h1 with ⟨e', _⟩ | ⟨m', e', e2, _⟩
          · rw [hi] at e'; cases e'
          · rw [hi] at e'; cases e'; exact e2
        have hs' : s' = some i := by
          rcases Oz h1' with ⟨e', _⟩ | ⟨m', e', e2, _⟩
          · rw [hj] at e'; cases e'
          · rw [hj] at e'; cases e'; exact e2
        subst hs hs'
        rw [o3 x hx y hy i ob ob' h1 h1']
  · rcases Nat.lt_or_ge t st.tmps.length with hlt | hge
    · rw [Xm st.tmps 0 t hlt]
      cases hnm : Ji 0 (0 + t) H.objs with
      | some nm =>
        obtain ⟨ob, hx⟩ := Ra hnm
        refine hnamed _ hx _ ?_
        have : Rx st (0, 0 + t, nm, ob) = st.tmps.getD t .undef := by simp [Rx]
        rw [this]; exact hA.tmps t
      | none =>
        simp only
        cases hk : Kw (0 + t) H.keep with
        | true => exact hrefs _ _ (Vu hok hlt hnm hk) (hA.tmps t)
        | false => simp only [cond_false, Ak]
    · rw [List.getD_eq_getElem?_getD, List.getElem?_eq_none (by rw [No]; exact hge)]
      simp only [Option.getD_none, Ak]
theorem canon_ok {H : Bf} {st st1 : St} (h : canon (some H) st = some st1) {a : Act} {w : World} (hh : Ew S I0 B w0 st a w) : Ew S I0 B w0 st1 a w := canon0_ok (H := trimH st H) h hh
end
end Go.Den
namespace Go.Den
open Go.RowKit (Below)
section
variable {P : Program} {E : Env} {S I0 : Nat → Prop} {B : Nat} {w0 : World}
theorem forget_get {keep : Option (List Nat)} {st : St} (t : Nat) : (forget keep st).tmps.getD t .undef = st.tmps.getD t .undef ∨ (forget keep st).tmps.getD t .undef = .undef := by
  cases keep with
  | none => exact .inl rfl
  | some ks =>
    simp only [forget, List.getD_eq_getElem?_getD, List.getElem?_map, List.getElem?_zipIdx]
    cases st.tmps[t]? with
    | none => exact .inl rfl
    | some d =>
      simp only [Option.map_some, Option.getD_some]
      cases ks.contains (0 + t)
      · exact .inr rfl
      · exact .inl rfl
theorem Xg {keep : Option (List Nat)} {st : St} : (forget keep st).tmps.length = st.tmps.length := by
  cases keep <;> simp [forget]
theorem forget_heap {keep : Option (List Nat)} {st : St} : (forget keep st).heap = st.heap := by
  cases keep <;> rfl
theorem Ew.forget {keep : Option (List Nat)} {st : St} {a : Act} {w : World} (h : Ew S I0 B w0 st a w) : Ew S I0 B w0 (forget keep st) a w := by
  obtain ⟨A, h⟩ := h
  refine ⟨A, h.defers, h.size.trans Xg.symm, h.below, h.hB, h.I0lt, by rw [forget_heap]; exact h.obj, h.blkB, h.inj, fun t => ?_, h.kept⟩
  rcases forget_get (keep := keep) (st := st) t with e | e
  · rw [e]; exact h.tmps t
  · rw [e]; simp only [Ak]
def Shows {β : Type} (P : Program) (S I0 : Nat → Prop) (B : Nat) (w0 : World) (r : β) (c : Code) (body : St → (St → Option β) → (Nat → St → Option β) → (St → Option β) → Option β) : Prop :=
  ∀ (st : St) (Kn : St → Option β) (Kx : Nat → St → Option β) (Kr : St → Option β), body st Kn Kx Kr = some r → ∀ (a : Act) (w : World), Ew S I0 B w0 st a w → ∀ Q : Exit → Act → World → Prop,
    (∀ st a w, Kn st = some r → Ew S I0 B w0 st a w → Q .normal a w) → (∀ id st a w, Kx id st = some r → Ew S I0 B w0 st a w → Q (.exit id) a w) →
    (∀ st a w, Kr st = some r → Ew S I0 B w0 st a w → Q .ret a w) → c.wp P Q a w
theorem Yo {H : Option Bf} {st st1 : St} (hc : canon H st = some st1) {a : Act} {w : World} (hh : Ew S I0 B w0 st a w) : Ew S I0 B w0 st1 a w := by
  cases H with
  | none => simp only [canon, Option.some.injEq] at hc; subst hc; exact hh
  | some H => exact canon_ok hc hh
theorem iterG_ok {β : Type} {r : β} {c : Code} {body : St → (St → Option β) → (Nat → St → Option β) → (St → Option β) → Option β} (hb : Shows P S I0 B w0 r c body) {H : Option Bf} {Kx : Nat → St → Option β} {Kr : St → Option β}
    {Q : Exit → Act → World → Prop} (hx : ∀ id st a w, Kx id st = some r → Ew S I0 B w0 st a w → Q (.exit id) a w) (hr : ∀ st a w, Kr st = some r → Ew S I0 B w0 st a w → Q .ret a w) :
    ∀ (n : Nat) (st : St), Wg H body n st Kx Kr = some r → ∀ a w, Ew S I0 B w0 st a w → Code.rounds P c Q n a w
  | 0, st, h, _, _, _ => by simp [Wg] at h
  | n + 1, st, h, a, w, hh => by
    simp only [Wg] at h
    rw [rounds_succ]
    refine hb st _ Kx Kr h a w hh _ (fun st2 a2 w2 hk hh2 => ?_) (fun id st2 a2 w2 hk hh2 => hx id st2 a2 w2 hk hh2) (fun st2 a2 w2 hk hh2 => hr st2 a2 w2 hk hh2)
    cases hc : canon H st2 with
    | none => rw [hc] at hk; cases hk
    | some st3 =>
      rw [hc] at hk
      exact iterG_ok hb hx hr n st3 hk a2 w2 (Yo hc hh2)
theorem iter_ok {β : Type} {r : β} {c : Code} {body : St → (St → Option β) → (Nat → St → Option β) → (St → Option β) → Option β} (hb : Shows P S I0 B w0 r c body) {H : Option Bf} {Kx : Nat → St → Option β} {Kr : St → Option β}
    {Q : Exit → Act → World → Prop} (hx : ∀ id st a w, Kx id st = some r → Ew S I0 B w0 st a w → Q (.exit id) a w) (hr : ∀ st a w, Kr st = some r → Ew S I0 B w0 st a w → Q .ret a w)
    (n : Nat) (st : St) (h : iter H body n st Kx Kr = some r) (a : Act) (w : World) (hh : Ew S I0 B w0 st a w) : Code.rounds P c Q n a w := by
  unfold iter at h
  cases hc : canon H st with
  | none => rw [hc] at h; cases h
  | some st1 =>
    rw [hc] at h
    exact iterG_ok hb hx hr n st1 h a w (Yo hc hh)
theorem Pg {β : Type} (he : I6 P E) (fuel : Nat) (r : β) : ∀ (c : Code) (b : Nat), Shows P S I0 B w0 r c (den E fuel b c)
  | .skip, b => fun st Kn Kx Kr h a w hh Q hn hx hr => by
    simp only [den] at h
    exact wp_skip (hn st a w h hh)
  | .label l, b => fun st Kn Kx Kr h a w hh Q hn hx hr => by
    simp only [den] at h
    exact wp_label (hn st a w h hh)
  | .region id ops draw, b => fun st Kn Kx Kr h a w hh Q hn hx hr => by
    simp only [den] at h
    have reg : ∀ st, regD E ops draw Kn st = some r → Ew S I0 B w0 st a w → (Code.region id ops draw).wp P Q a w := by
      intro st h hh
      cases draw with
      | true => exact drawD_ok he h hh hn
      | false =>
        simp only [regD, cond_false] at h
        have := opsD_ok he ops.toList 0 _ (fun j => by simp) h a w hh hn
        rw [Array.length_toList, ← List.range_eq_range'] at this
        exact wp_region this
    cases hl : E.live id with
    | none => rw [hl] at h; exact reg st h hh
    | some ks =>
      rw [hl] at h
      simp only [Xp] at h
      exact reg _ h hh.forget
  | .seq x y, b => fun st Kn Kx Kr h a w hh Q hn hx hr => by
    simp only [den] at h
    refine wp_seq (Pg he fuel r x b st _ Kx Kr h a w hh _ (fun st' a' w' hk hh' => ?_) (fun id st' a' w' hk hh' => hx id st' a' w' hk hh') (fun st' a' w' hk hh' => hr st' a' w' hk hh'))
    exact Pg he fuel r y b st' Kn Kx Kr hk a' w' hh' Q hn hx hr
  | .cond c x y, b => fun st Kn Kx Kr h a w hh Q hn hx hr => by
    simp only [den] at h
    cases hv : Gi st.tmps c with
    | bool t =>
      rw [hv] at h
      simp only at h
      have hev : a.eval c = .bool t := by
        obtain ⟨A, hA⟩ := hh
        have : Ak (Bl I0 B A w) w (Gi st.tmps c) (a.eval c) := by
          cases c with
          | tmp t => exact hA.tmps t
          | const v => exact Yk v
          | global g => simp only [Gi, Ak]
          | func f => simp [Gi] at hv
        rw [hv] at this
        simpa only [Ak] using this
      refine wp_cond hev ?_
      cases t with
      | true => exact Pg he fuel r x b st Kn Kx Kr h a w hh Q hn hx hr
      | false => exact Pg he fuel r y b st Kn Kx Kr h a w hh Q hn hx hr
    | _ => rw [hv] at h; cases h
  | .block id c, b => fun st Kn Kx Kr h a w hh Q hn hx hr => by
    simp only [den] at h
    refine wp_block (Pg he fuel r c id st Kn _ Kr h a w hh _ (fun st' a' w' hk hh' => hn st' a' w' hk hh') (fun id' st' a' w' hk hh' => ?_) (fun st' a' w' hk hh' => hr st' a' w' hk hh'))
    simp only [Exit.inBlock]
    by_cases e : id' = id
    · rw [if_pos e]
      rw [show (id' == id) = true by simpa using e] at hk
      exact hn st' a' w' hk hh'
    · rw [if_neg e]
      rw [show (id' == id) = false by simpa using e] at hk
      exact hx id' st' a' w' hk hh'
  | .loop c, b => fun st Kn Kx Kr h a w hh Q hn hx hr => by
    simp only [den] at h
    exact wp_loop_rounds fuel (iter_ok (Pg he fuel r c b) hx hr fuel st h a w hh)
  | .scope c, b => fun st Kn Kx Kr h a w hh Q hn hx hr => by
    simp only [den] at h
    exact wp_scope_straight (Pg he fuel r c b st Kn Kx Kr h a w hh _ (fun st' a' w' hk hh' => hn st' a' w' hk hh') (fun id st' a' w' hk hh' => hx id st' a' w' hk hh') (fun st' a' w' hk hh' => hr st' a' w' hk hh'))
  | .exit id, b => fun st Kn Kx Kr h a w hh Q hn hx hr => by
    simp only [den] at h
    exact wp_exit (hx id st a w h hh)
  | .ret, b => fun st Kn Kx Kr h a w hh Q hn hx hr => by
    simp only [den] at h
    exact wp_ret (hr st a w h hh)
  | .rangeFunc .., b => fun st Kn Kx Kr h => by simp [den] at h
  | .goto l, b => fun st Kn Kx Kr h => by simp [den] at h
  | .refuse s, b => fun st Kn Kx Kr h => by simp [den] at h
end
end Go.Den
namespace Go.Den
open Go.RowKit (Below)
def oneV : List Value → Value
  | [v] => v
  | vs => .tuple vs.toArray
def Tf (tmps : Array Value) : ResultVar → Sem Value
  | .tmp t => pure (tmps.getD t undef)
  | .cell a t => do loadVar t (← asAddr (tmps.getD a undef))
section
variable {P : Program} {E : Env} {S I0 : Nat → Prop} {B : Nat} {w0 : World} {A : Nat → Option Place}
theorem run_asAddr {t : TypeId} {va v : Value} {w : World} (h : (Instr.loadAt t va).run P w = .ok v w) : (do loadVar t (← asAddr va) : Sem Value).run P w = .ok v w := by
  unfold Instr.loadAt at h
  cases va with
  | pointer a =>
    cases a with
    | none => simp [Instr.sureAddr] at h
    | some a =>
      simp only [Instr.sureAddr, asAddr] at h ⊢
      exact h
  | _ => simp [Instr.sureAddr] at h
theorem resOne_ok (hty : ∀ t ti, E.ty t = some ti → Bv P t ti) {st : St} {a : Act} {w : World} (hA : H7 S I0 B w0 A (look st.heap) (fun t => st.tmps.getD t .undef) st.tmps.length a w)
    {r : ResultVar} {d : DV} (h1 : Vq E st r = some d) : ∃ v, Ak (Bl I0 B A w) w d v ∧ (Tf a.tmps r).run P w = .ok v w := by
  cases r with
  | tmp t =>
    simp only [Vq, Option.some.injEq] at h1
    subst h1
    exact ⟨_, hA.tmps t, by simp [Tf]⟩
  | cell x t =>
    simp only [Vq] at h1
    cases hT : E.ty t with
    | none => simp [hT] at h1
    | some ti =>
      rw [hT, Option.bind_some] at h1
      cases hl : X7 st.heap ti (st.tmps.getD x .undef) with
      | none => rw [hl] at h1; cases h1
      | some q =>
        rw [hl, Option.bind_some] at h1
        cases hq : q.req with
        | false => rw [hq] at h1; cases h1
        | true =>
          rw [hq, cond_true, Option.some.injEq] at h1
          subst h1
          have hm : Mem I0 B A st.heap w := hA.mem fun n p fo _ hl => hl
          obtain ⟨v, hr, hv⟩ := loadD_ok hm (hty _ _ hT) (hA.tmps x) hl hq
          exact ⟨v, hv, run_asAddr hr⟩
theorem Xu (hty : ∀ t ti, E.ty t = some ti → Bv P t ti) {st : St} {a : Act} {w : World} (hA : H7 S I0 B w0 A (look st.heap) (fun t => st.tmps.getD t .undef) st.tmps.length a w) :
    ∀ (rs : List ResultVar) (ds : List DV), Q7 E st rs = some ds → ∃ vs : List Value, A4 (Bl I0 B A w) w ds vs ∧ (rs.mapM (Tf a.tmps)).run P w = .ok vs w
  | [], ds, h => by
    simp only [Q7, Option.some.injEq] at h; subst h
    exact ⟨[], by simp [A4], rfl⟩
  | r :: rs, ds, h => by
    simp only [Q7] at h
    cases h1 : Vq E st r with
    | none => simp [h1] at h
    | some d =>
      cases h2 : Q7 E st rs with
      | none => simp [h1, h2] at h
      | some ds' =>
        simp only [h1, h2, Option.bind_some, Option.some.injEq] at h
        subst h
        obtain ⟨vs, i1, i2⟩ := Xu hty hA rs ds' h2
        obtain ⟨v, hv, hr⟩ := resOne_ok hty hA h1
        refine ⟨v :: vs, by rw [A4.Ca]; exact ⟨v, vs, rfl, hv, i1⟩, ?_⟩
        simp only [List.mapM_cons, Sem.run_bind, hr, Result.andThen_ok, i2, Sem.run_pure]
theorem run_results {fn : Func} {tmps : Array Value} {w : World} {vs : List Value} (h : (fn.results.toList.mapM (Tf tmps)).run P w = .ok vs w) :
    (results fn tmps).run P w = .ok (oneV vs) w := by
  have h' : (fn.results.mapM (Tf tmps)).run P w = .ok vs.toArray w := by
    rw [Array.mapM_eq_mapM_toList]
    simp only [Sem.run_map, h, Result.andThen_ok]
  have e : results fn tmps = (do let vs ← fn.results.mapM (Tf tmps); pure (if h : vs.size = 1 then vs[0] else .tuple vs)) := by
    unfold results
    congr 2
  rw [e]
  simp only [Sem.run_bind, h', Result.andThen_ok, Sem.run_pure]
  congr 1
  match vs with
  | [] => rfl
  | [v] => rfl
  | v :: u :: us => simp [oneV]
def Lg (h : C4) (f : Nat) (l : List DV) : Option (List DV × List Nat × List Nat) :=
  l.foldr (fun d acc => (Fc h f d).bind fun (x, ns, os) => acc.bind fun (xs, ms, ps) => some (x :: xs, ns ++ ms, os ++ ps)) (some ([], [], []))
theorem Th {h : C4} {f : Nat} {d : DV} {l : List DV} {r : List DV × List Nat × List Nat} (hh : Lg h f (d :: l) = some r) :
    ∃ x ns os xs ms ps, Fc h f d = some (x, ns, os) ∧ Lg h f l = some (xs, ms, ps) ∧ r = (x :: xs, ns ++ ms, os ++ ps) := by
  have e : Lg h f (d :: l) = (Fc h f d).bind fun (x, ns, os) => (Lg h f l).bind fun (xs, ms, ps) => some (x :: xs, ns ++ ms, os ++ ps) := rfl
  rw [e] at hh
  cases h1 : Fc h f d with
  | none => simp [h1] at hh
  | some a =>
    obtain ⟨x, ns, os⟩ := a
    cases h2 : Lg h f l with
    | none => simp [h1, h2] at hh
    | some b =>
      obtain ⟨xs, ms, ps⟩ := b
      simp only [h1, h2, Option.bind_some, Option.some.injEq] at hh
      exact ⟨x, ns, os, xs, ms, ps, rfl, rfl, hh.symm⟩
def Jy (A : Nat → Option Place) (OS : List Nat) (i : Nat) : Option Nat :=
  if i ∈ OS then match A i with
    | some p => if p.st = .live then p.Fl else none
    | none => none
  else none
theorem M8 {OS : List Nat} {i b : Nat} (h : Jy A OS i = some b) : i ∈ OS ∧ ∃ p, A i = some p ∧ p.st = .live ∧ p.Fl = some b := by
  unfold Jy at h
  split at h
  · cases hA : A i with
    | none => rw [hA] at h; cases h
    | some p =>
      rw [hA] at h
      simp only at h
      split at h
      · exact ⟨‹_›, p, rfl, ‹_›, h⟩
      · cases h
  · cases h
theorem ownOf_of {OS : List Nat} {i b : Nat} {p : Place} (h : i ∈ OS) (hp : A i = some p) (hl : p.st = .live) (hb : p.Fl = some b) : Jy A OS i = some b := by
  unfold Jy
  rw [if_pos h, hp]
  simp only [hl, if_true, hb]
theorem raise_ok {h : C4} {w w' : World} (hm : Mem I0 w.heap.size A h w') {NS OS : List Nat} (hdis : ∀ n ∈ NS, n ∉ OS) :
    ∀ (f : Nat) (d : DV) (v : Value) d' ns os, Fc h f d = some (d', ns, os) → (∀ n ∈ ns, n ∈ NS) → (∀ n ∈ os, n ∈ OS) → Ak (Bl I0 w.heap.size A w') w' d v → Ak (C3 I0 (Jy A OS) w w') w' d' v := by
  have hok : ∀ b, (Bl I0 w.heap.size A w').ok b → (C3 I0 (Jy A OS) w w').ok b := by
    rintro b ⟨h1, h2, h3⟩
    refine ⟨h1, h2, fun i hi => ?_⟩
    obtain ⟨_, p, hp, hl, hb⟩ := M8 hi
    exact h3 i p hp hl hb
  have hbare : ∀ l rows, Co (Bl I0 w.heap.size A w').bare w' l rows → Co (C3 I0 (Jy A OS) w w').bare w' l rows := fun l rows =>
    Co.Cw (c := (Bl I0 w.heap.size A w').bare) (c' := (C3 I0 (Jy A OS) w w').bare) (w := w') (w' := w') ⟨hok, rfl, rfl, fun _ _ h => (by cases h), fun _ _ h => (by cases h), fun _ _ _ => rfl, fun _ _ h => (by cases h)⟩ l rows
  have hleaf : ∀ d v, D5 1 [] d = true → Ak (Bl I0 w.heap.size A w') w' d v → Ak (C3 I0 (Jy A OS) w w') w' d v := by
    intro d v hd hv
    have hl : I5 ((Bl I0 w.heap.size A w').only []) w' (C3 I0 (Jy A OS) w w') w' :=
      ⟨hok, rfl, rfl, fun _ _ h => (by cases h), fun n p hp => (by simp [Ctx.only] at hp), fun _ _ _ => rfl, fun _ _ h => (by cases h)⟩
    exact Ak.Cw hl d v (Zh [] 1 d v hd hv)
  have frozenBlk : ∀ n p, A n = some p → p.st ≠ .dead → (p.st ≠ .live ∨ n ∉ OS) → ∀ b, p.Fl = some b → (C3 I0 (Jy A OS) w w').Fl .fresh b := by
    intro n p hp hd hc b hb
    obtain ⟨h1, h2⟩ := hm.blkB n p b hp hd hb
    refine ⟨⟨h2, .inr h1, fun i hi => ?_⟩, rfl, h1⟩
    obtain ⟨hio, q, hq, hl, hqb⟩ := M8 hi
    have e := hm.inj n i p q b hp hq hd (by rw [hl]; simp) hb hqb
    subst e
    rw [hp] at hq; cases hq
    rcases hc with hc | hc
    · exact hc hl
    · exact hc hio
  intro f
  induction f with
  | zero => intro d v d' ns os h; simp [Fc] at h
  | succ f ih =>
    have all : ∀ (l : List DV) (vs : List Value) l' ns os, Lg h f l = some (l', ns, os) → (∀ n ∈ ns, n ∈ NS) → (∀ n ∈ os, n ∈ OS) → A4 (Bl I0 w.heap.size A w') w' l vs → A4 (C3 I0 (Jy A OS) w w') w' l' vs := by
      intro l
      induction l with
      | nil =>
        intro vs l' ns os hr _ _ hv
        simp only [Lg, List.foldr_nil, Option.some.injEq, Prod.mk.injEq] at hr
        obtain ⟨rfl, _, _⟩ := hr
        rw [A4.Ff] at hv ⊢; exact hv
      | cons d l ihl =>
        intro vs l' ns os hr h1 h2 hv
        obtain ⟨x, n1, o1, xs, ms, ps, e1, e2, e⟩ := Th hr
        cases e
        rw [A4.Ca] at hv ⊢
        obtain ⟨u, us, e, hu, hus⟩ := hv
        exact ⟨u, us, e, ih d u x n1 o1 e1 (fun n hn => h1 n (List.mem_append.2 (.inl hn))) (fun n hn => h2 n (List.mem_append.2 (.inl hn))) hu,
          ihl us xs ms ps e2 (fun n hn => h1 n (List.mem_append.2 (.inr hn))) (fun n hn => h2 n (List.mem_append.2 (.inr hn))) hus⟩
    intro d v d' ns os hr hns hos hv
    cases d with
    | agg l =>
      have hr : (Lg h f l).bind (fun (l, ns, os) => some (DV.agg l, ns, os)) = some (d', ns, os) := hr
      cases hl : Lg h f l with
      | none => rw [hl] at hr; cases hr
      | some r =>
        obtain ⟨l', ns', os'⟩ := r
        rw [hl] at hr
        simp only [Option.bind_some, Option.some.injEq, Prod.mk.injEq] at hr
        obtain ⟨rfl, rfl, rfl⟩ := hr
        simp only [Ak] at hv ⊢
        obtain ⟨vs, e, h1⟩ := hv
        exact ⟨vs, e, all l _ l' _ _ hl hns hos h1⟩
    | tup l =>
      have hr : (Lg h f l).bind (fun (l, ns, os) => some (DV.tup l, ns, os)) = some (d', ns, os) := hr
      cases hl : Lg h f l with
      | none => rw [hl] at hr; cases hr
      | some r =>
        obtain ⟨l', ns', os'⟩ := r
        rw [hl] at hr
        simp only [Option.bind_some, Option.some.injEq, Prod.mk.injEq] at hr
        obtain ⟨rfl, rfl, rfl⟩ := hr
        simp only [Ak] at hv ⊢
        obtain ⟨vs, e, h1⟩ := hv
        exact ⟨vs, e, all l _ l' _ _ hl hns hos h1⟩
    | oref n =>
      simp only [Ak] at hv
      obtain ⟨hone, p, hp, hd⟩ := hv
      simp only [Fc] at hr
      split at hr
      · rename_i e k l hl
        simp only [Option.some.injEq, Prod.mk.injEq] at hr
        obtain ⟨rfl, rfl, rfl⟩ := hr
        obtain ⟨hst, sv, hk, ho⟩ := Dy hm hp hl
        obtain ⟨size, hk'⟩ := hd.resolve_left (Bo hst)
        rw [hk] at hk'; cases hk'
        simp only [Ak]
        exact ⟨ho, fun b hb => ownOf_of (hos n (by simp)) hp hst (by unfold Place.Fl; rw [hk]; exact hb)⟩
      · rename_i e sz l hl
        simp only [Option.some.injEq, Prod.mk.injEq] at hr
        obtain ⟨rfl, rfl, rfl⟩ := hr
        obtain ⟨hst, hsz, sv, rows, hk, hrr, hlen, ho⟩ := D8 hm hp hl
        obtain ⟨size, hk'⟩ := hd.resolve_left (Bo hst)
        rw [hk] at hk'; cases hk'
        simp only [Ak]
        exact ⟨rows, hbare _ _ hrr, hlen, ho, fun b hb => ownOf_of (hos n (by simp)) hp hst (by unfold Place.Fl; rw [hk]; exact hb)⟩
      · rename_i e k l hl
        simp only [Option.some.injEq, Prod.mk.injEq] at hr
        obtain ⟨rfl, rfl, rfl⟩ := hr
        obtain ⟨hst, sv, hk, ho⟩ := Dy hm hp hl
        obtain ⟨size, hk'⟩ := hd.resolve_left (Bo hst)
        rw [hk] at hk'; cases hk'
        have hst' : p.st = .frozen := hst
        have := Jf hk ho (E6 ho) (ok := (C3 I0 (Jy A OS) w w').Fl .fresh) (frozenBlk n p hp (Bo hst) (.inl (by rw [hst']; simp)))
        simp only [List.drop_zero, List.take_length] at this
        simp only [Ak]
        exact this
      · rename_i e sz l hl
        simp only [Option.some.injEq, Prod.mk.injEq] at hr
        obtain ⟨rfl, rfl, rfl⟩ := hr
        obtain ⟨hst, hsz, sv, rows, hk, hrr, hlen, ho⟩ := D8 hm hp hl
        obtain ⟨size, hk'⟩ := hd.resolve_left (Bo hst)
        rw [hk] at hk'; cases hk'
        have hst' : p.st = .frozen := hst
        have := Je hk (hbare _ _ hrr) hlen ho (E6 ho) (ok := (C3 I0 (Jy A OS) w w').Fl .fresh) (frozenBlk n p hp (Bo hst) (.inl (by rw [hst']; simp)))
        simp only [List.drop_zero, List.take_length] at this
        simp only [Ak]
        exact this
      · cases hr
    | sref n off len =>
      simp only [Ak] at hv
      obtain ⟨hone, p, hp, hd⟩ := hv
      simp only [Fc] at hr
      split at hr
      · rename_i fz e k l hl
        simp only [Option.some.injEq, Prod.mk.injEq] at hr
        obtain ⟨rfl, rfl, rfl⟩ := hr
        obtain ⟨hst, sv, hk, ho⟩ := Dy hm hp hl
        obtain ⟨sv', size, hk', hs⟩ := hd.resolve_left (Bo hst)
        rw [hk] at hk'; cases hk'
        have := Jf hk ho hs (ok := (C3 I0 (Jy A OS) w w').Fl .fresh) (frozenBlk n p hp (Bo hst) (.inr (hdis n (hns n (by simp)))))
        simp only [Ak]
        exact this
      · rename_i fz e sz l hl
        simp only [Option.some.injEq, Prod.mk.injEq] at hr
        obtain ⟨rfl, rfl, rfl⟩ := hr
        obtain ⟨hst, hsz, sv, rows, hk, hrr, hlen, ho⟩ := D8 hm hp hl
        obtain ⟨sv', size, hk', hs⟩ := hd.resolve_left (Bo hst)
        rw [hk] at hk'; cases hk'
        have := Je hk (hbare _ _ hrr) hlen ho hs (ok := (C3 I0 (Jy A OS) w w').Fl .fresh) (frozenBlk n p hp (Bo hst) (.inr (hdis n (hns n (by simp)))))
        simp only [Ak]
        exact this
      · cases hr
    | ptr n i j => simp [Fc] at hr
    | fn g a b => simp [Fc] at hr
    | gd g d => simp [Fc] at hr
    | undef => simp [Fc] at hr
    | cellp cs => simp [Fc] at hr
    | nil => simp only [Fc, Option.some.injEq, Prod.mk.injEq] at hr; obtain ⟨rfl, _, _⟩ := hr; exact hleaf _ _ rfl hv
    | bool b => simp only [Fc, Option.some.injEq, Prod.mk.injEq] at hr; obtain ⟨rfl, _, _⟩ := hr; exact hleaf _ _ rfl hv
    | int k n => simp only [Fc, Option.some.injEq, Prod.mk.injEq] at hr; obtain ⟨rfl, _, _⟩ := hr; exact hleaf _ _ rfl hv
    | fl n => simp only [Fc, Option.some.injEq, Prod.mk.injEq] at hr; obtain ⟨rfl, _, _⟩ := hr; exact hleaf _ _ rfl hv
    | nb n => simp only [Fc, Option.some.injEq, Prod.mk.injEq] at hr; obtain ⟨rfl, _, _⟩ := hr; exact hleaf _ _ rfl hv
    | ints g k l => simp only [Fc, Option.some.injEq, Prod.mk.injEq] at hr; obtain ⟨rfl, _, _⟩ := hr; exact hleaf _ _ rfl hv
    | recs g k l => simp only [Fc, Option.some.injEq, Prod.mk.injEq] at hr; obtain ⟨rfl, _, _⟩ := hr; exact hleaf _ _ rfl hv
end
end Go.Den
namespace Go.Den
open Go.RowKit (Below)
theorem resD_ok {S : Nat → Prop} {P : Program} {E : Env} (hty : ∀ t ti, E.ty t = some ti → Bv P t ti) {I : Nat → Prop} {fn : Func} {st : St} {out : DV} (h : W8 E fn st = some out) {w w' : World} {a : Act} (hh : Ew S I w.heap.size w st a w') :
    ∃ v own, (results fn a.tmps).run P w' = .ok v w' ∧ Below w.heap.size w w' ∧ OwnOk own w w' ∧ Ak (C3 I own w w') w' out v := by
  obtain ⟨A, hA⟩ := hh
  unfold W8 at h
  cases hds : Q7 E st fn.results.toList with
  | none => simp [hds] at h
  | some ds =>
    rw [hds, Option.bind_some] at h
    obtain ⟨vs, hv, hr⟩ := Xu hty hA _ ds hds
    have hm : Mem I w.heap.size A st.heap w' := hA.mem fun n p fo _ hl => hl
    have hone : Ak (Bl I w.heap.size A w') w' (oneD ds) (oneV vs) := by
      match ds, vs, hv with
      | [], vs, hv =>
        rw [A4.Ff] at hv; subst hv
        simp only [Ak, oneD, oneV]
        exact ⟨#[], rfl, by simp [A4]⟩
      | [d], vs, hv =>
        rw [A4.Ca] at hv
        obtain ⟨u, us, rfl, h1, h2⟩ := hv
        rw [A4.Ff] at h2; subst h2
        exact h1
      | d :: d' :: ds, vs, hv =>
        have hv' := hv
        rw [A4.Ca] at hv
        obtain ⟨u, us, rfl, h1, h2⟩ := hv
        rw [A4.Ca] at h2
        obtain ⟨u', us', rfl, h3, h4⟩ := h2
        simp only [Ak, oneD, oneV]
        exact ⟨_, rfl, by simpa using hv'⟩
    cases hrs : Fc st.heap 6 (oneD ds) with
    | none => rw [hrs] at h; cases h
    | some r =>
      obtain ⟨d, ns, os⟩ := r
      rw [hrs, Option.bind_some] at h
      simp only at h
      cases hc : (ns.all fun n => !(os.contains n)) with
      | false => rw [hc] at h; cases h
      | true =>
        rw [hc, cond_true, Option.some.injEq] at h
        subst h
        have hdis : ∀ n ∈ ns, n ∉ os := fun n hn hno => by
          have := List.all_eq_true.1 hc n hn
          simp [hno] at this
        refine ⟨_, Jy A os, run_results hr, hA.below, ⟨fun i b hb => ?_, fun i j b hi hj => ?_⟩, raise_ok hm hdis 6 _ _ _ ns os hrs (fun _ h => h) (fun _ h => h) hone⟩
        · obtain ⟨_, p, hp, hl, hpb⟩ := M8 hb
          exact hm.blkB i p b hp (by rw [hl]; simp) hpb
        · obtain ⟨_, p, hp, hl, hpb⟩ := M8 hi
          obtain ⟨_, q, hq, hl', hqb⟩ := M8 hj
          exact hm.inj i j p q b hp hq (by rw [hl]; simp) (by rw [hl']; simp) hpb hqb
theorem fun_ok {P : Program} {E : Env} (he : I6 P E) {fuel : Nat} {f : FuncId} {fn : Func} {body : Code} (hf : P.funcs[f]? = some fn) (hb : fn.body = some body) {args : List DV} {out : DV} (h : A1 E fuel fn body args = some out) : Mp P f args out := by
  intro w vals I hI hv
  refine calls_of_wp hf hb ?_
  unfold A1 at h
  have hlen : args.length = vals.size := by have := hv.length; simpa using this
  have hh : Ew (fun _ => False) I w.heap.size w ⟨args ++ List.replicate (fn.ntmps - args.length) .undef, []⟩ ⟨vals ++ Array.replicate (fn.ntmps - vals.size) undef, []⟩ w := by
    refine ⟨fun _ => none, rfl, by simp only [Array.size_append, Array.size_replicate, List.length_append, List.length_replicate]; omega, Below.refl _ _, Nat.le_refl _, hI, fun n p h => (by cases h), fun n p b h => (by cases h), fun n m p q b h => (by cases h), fun t => ?_, fun b h => h.elim⟩
    have hw : I3 (I1 I) (Bl I w.heap.size (fun _ => none) w) := ⟨fun b hb => ⟨hI b hb, .inl hb, fun n p h => (by cases h)⟩, rfl, fun _ => rfl, fun _ => rfl⟩
    have hl := A4.Eo hw _ _ hv
    rcases Nat.lt_or_ge t args.length with hlt | hge
    · obtain ⟨v, h1, h2⟩ := hl.getD t hlt
      simp only [List.getD_eq_getElem?_getD, List.getElem?_append_left hlt] at h2 ⊢
      have hlt' : t < vals.size := by omega
      have e : (vals ++ Array.replicate (fn.ntmps - vals.size) undef).getD t undef = v := by
        rw [Array.getD_eq_getD_getElem?, Array.getElem?_append_left hlt']
        rw [Array.getElem?_toList] at h1
        rw [h1]; rfl
      rw [e]; exact h2
    · rw [List.getD_eq_getElem?_getD, List.getElem?_append_right hge, List.getElem?_replicate]
      split <;> simp only [Option.getD_some, Option.getD_none, Ak]
  refine Pg he fuel out body 0 _ _ _ _ h _ _ hh _ (fun st a w' hk hh' => ?_) (fun id st a w' hk => by cases hk) (fun st a w' hk hh' => ?_)
  · obtain ⟨v, own, h1, h2, h3, h4⟩ := resD_ok he.ty hk hh'
    have hd : a.defers = [] := by obtain ⟨A, hA⟩ := hh'; exact hA.defers
    exact ⟨hd, v, h1, v, own, rfl, h2, h3, h4⟩
  · obtain ⟨v, own, h1, h2, h3, h4⟩ := resD_ok he.ty hk hh'
    have hd : a.defers = [] := by obtain ⟨A, hA⟩ := hh'; exact hA.defers
    exact ⟨hd, v, h1, v, own, rfl, h2, h3, h4⟩
end Go.Den
namespace Go.Den
open Go.RowKit (Below)
inductive AT where
  | b
  | i (k : IntKind)
  | s (k : IntKind)
  | fl
  | nb
  | st (l : List AT)
  | fn (g : FuncId) (l : List AT)
  | fm (g : FuncId) (l : List AT)
  | cp (l : List AT)
inductive Atom where
  | b (x : Bool)
  | i (x : Int)
  | l (x : List Int)
  | f (x : Nat)
def dec1 : AT → DV → Option Atom
  | .b, .bool x => some (.b x)
  | .i k, .int k' x => bif decide (k = k') then some (.i x) else none
  | .s _, .nil => some (.l [])
  | .s k, .ints .arg k' l => bif decide (k = k') then some (.l l) else none
  | .fl, .fl n => some (.f n)
  | .nb, .nb n => some (.f n)
  | _, _ => none
def Ww : List AT → List DV → Option (List Atom)
  | [], [] => some []
  | t :: ts, d :: ds => match dec1 t d with
    | some a => match Ww ts ds with
      | some as => some (a :: as)
      | none => none
    | none => none
  | _, _ => none
def Qo : List AT → List DV → Option (List Atom)
  | [], [] => some []
  | .cp l :: ts, .cellp cs :: ds => match Ww l cs with
    | some as => match Qo ts ds with
      | some bs => some (as ++ bs)
      | none => none
    | none => none
  | .st l :: ts, .agg cs :: ds => match Ww l cs with
    | some as => match Qo ts ds with
      | some bs => some (as ++ bs)
      | none => none
    | none => none
  | t :: ts, d :: ds => match dec1 t d with
    | some a => match Qo ts ds with
      | some bs => some (a :: bs)
      | none => none
    | none => none
  | _, _ => none
def Lv : List AT → List DV → Option (List Atom)
  | [], [] => some []
  | .fm g l :: ts, .fn g' fs [] :: ds => bif Nat.beq g g' then
      match Qo l fs with
      | some as => match Lv ts ds with
        | some bs => some (as ++ bs)
        | none => none
      | none => none
    else none
  | .fn g l :: ts, .fn g' [] cs :: ds => bif Nat.beq g g' then
      match Qo l cs with
      | some as => match Lv ts ds with
        | some bs => some (as ++ bs)
        | none => none
      | none => none
    else none
  | .cp l :: ts, .cellp cs :: ds => match Qo l cs with
    | some as => match Lv ts ds with
      | some bs => some (as ++ bs)
      | none => none
    | none => none
  | .st l :: ts, .agg cs :: ds => match Qo l cs with
    | some as => match Lv ts ds with
      | some bs => some (as ++ bs)
      | none => none
    | none => none
  | t :: ts, d :: ds => match dec1 t d with
    | some a => match Lv ts ds with
      | some bs => some (a :: bs)
      | none => none
    | none => none
  | _, _ => none
inductive Fo : List AT → List Atom → List DV → Prop
  | nil : Fo [] [] []
  | b {ts as ds} (x : Bool) : Fo ts as ds → Fo (.b :: ts) (.b x :: as) (.bool x :: ds)
  | i {ts as ds} (k : IntKind) (x : Int) : Fo ts as ds → Fo (.i k :: ts) (.i x :: as) (.int k x :: ds)
  | s {ts as ds} (k : IntKind) (x : List Int) : Fo ts as ds → Fo (.s k :: ts) (.l x :: as) (.ints .arg k x :: ds)
  | fl {ts as ds} (x : Nat) : Fo ts as ds → Fo (.fl :: ts) (.f x :: as) (.fl x :: ds)
  | nb {ts as ds} (x : Nat) : Fo ts as ds → Fo (.nb :: ts) (.f x :: as) (.nb x :: ds)
  | st {l ts as cs bs ds} : Fo l as cs → Fo ts bs ds → Fo (.st l :: ts) (as ++ bs) (.agg cs :: ds)
  | fn {g l ts as cs bs ds} : Fo l as cs → Fo ts bs ds → Fo (.fn g l :: ts) (as ++ bs) (.fn g [] cs :: ds)
  | fm {g l ts as cs bs ds} : Fo l as cs → Fo ts bs ds → Fo (.fm g l :: ts) (as ++ bs) (.fn g cs [] :: ds)
  | cp {l ts as cs bs ds} : Fo l as cs → Fo ts bs ds → Fo (.cp l :: ts) (as ++ bs) (.cellp cs :: ds)
theorem nil_ints {c : Ctx} {w : World} {k : IntKind} {v : Value} (h : Ak c w .nil v) : Ak c w (.ints .arg k []) v := by
  simp only [Ak] at h ⊢
  subst h
  exact ⟨none, 0, rfl, Nat.le_refl _, .inl trivial⟩
theorem Aab {t : AT} {d : DV} {a : Atom} (h : dec1 t d = some a) : ∃ d', (∀ ts as ds, Fo ts as ds → Fo (t :: ts) (a :: as) (d' :: ds)) ∧ ∀ c w v, Ak c w d v → Ak c w d' v := by
  unfold dec1 at h
  split at h
  · simp only [Option.some.injEq] at h; subst h
    exact ⟨_, fun _ _ _ he => .b _ he, fun _ _ _ h => h⟩
  · rename_i k k' x
    by_cases e : k = k'
    · subst e
      simp only [decide_true, cond_true, Option.some.injEq] at h; subst h
      exact ⟨_, fun _ _ _ he => .i _ _ he, fun _ _ _ h => h⟩
    · simp [e] at h
  · rename_i k
    simp only [Option.some.injEq] at h; subst h
    exact ⟨_, fun _ _ _ he => .s k _ he, fun _ _ _ h => nil_ints h⟩
  · rename_i k k' x
    by_cases e : k = k'
    · subst e
      simp only [decide_true, cond_true, Option.some.injEq] at h; subst h
      exact ⟨_, fun _ _ _ he => .s _ _ he, fun _ _ _ h => h⟩
    · simp [e] at h
  · simp only [Option.some.injEq] at h; subst h
    exact ⟨_, fun _ _ _ he => .fl _ he, fun _ _ _ h => h⟩
  · simp only [Option.some.injEq] at h; subst h
    exact ⟨_, fun _ _ _ he => .nb _ he, fun _ _ _ h => h⟩
  · cases h
theorem Aaa : ∀ {ts : List AT} {ds : List DV} {as : List Atom}, Ww ts ds = some as → ∃ ds', Fo ts as ds' ∧ ∀ c w vs, A4 c w ds vs → A4 c w ds' vs
  | [], [], as, h => by
    simp only [Ww, Option.some.injEq] at h; subst h
    exact ⟨[], .nil, fun _ _ _ h => h⟩
  | t :: ts, d :: ds, as, h => by
    simp only [Ww] at h
    cases h1 : dec1 t d with
    | none => rw [h1] at h; cases h
    | some a =>
      cases h2 : Ww ts ds with
      | none => rw [h1, h2] at h; cases h
      | some bs =>
        rw [h1, h2] at h
        simp only [Option.some.injEq] at h; subst h
        obtain ⟨d', i1, i2⟩ := Aab h1
        obtain ⟨ds', j1, j2⟩ := Aaa h2
        refine ⟨d' :: ds', i1 _ _ _ j1, fun c w vs hv => ?_⟩
        rw [A4.Ca] at hv ⊢
        obtain ⟨u, us, e, hu, hus⟩ := hv
        exact ⟨u, us, e, i2 _ _ _ hu, j2 _ _ _ hus⟩
  | [], _ :: _, as, h => by simp [Ww] at h
  | _ :: _, [], as, h => by simp [Ww] at h
theorem N2 : ∀ {ts : List AT} {ds : List DV} {as : List Atom}, Qo ts ds = some as → ∃ ds', Fo ts as ds' ∧ ∀ c w vs, A4 c w ds vs → A4 c w ds' vs
  | ts, ds, as, h => by
    unfold Qo at h
    split at h
    · simp only [Option.some.injEq] at h; subst h
      exact ⟨[], .nil, fun _ _ _ h => h⟩
    · rename_i l ts cs ds
      cases h1 : Ww l cs with
      | none => rw [h1] at h; cases h
      | some a =>
        cases h2 : Qo ts ds with
        | none => rw [h1, h2] at h; cases h
        | some bs =>
          rw [h1, h2] at h
          simp only [Option.some.injEq] at h; subst h
          obtain ⟨cs', i1, i2⟩ := Aaa h1
          obtain ⟨ds', j1, j2⟩ := N2 h2
          refine ⟨.cellp cs' :: ds', .cp i1 j1, fun c w vs hv => ?_⟩
          rw [A4.Ca] at hv ⊢
          obtain ⟨u, us, e, hu, hus⟩ := hv
          refine ⟨u, us, e, ?_, j2 _ _ _ hus⟩
          simp only [Ak] at hu ⊢
          obtain ⟨b, o, vs, e, hb, hh, hc⟩ := hu
          exact ⟨b, o, vs, e, hb, i2 _ _ _ hh, hc⟩
    · rename_i l ts cs ds
      cases h1 : Ww l cs with
      | none => rw [h1] at h; cases h
      | some a =>
        cases h2 : Qo ts ds with
        | none => rw [h1, h2] at h; cases h
        | some bs =>
          rw [h1, h2] at h
          simp only [Option.some.injEq] at h; subst h
          obtain ⟨cs', i1, i2⟩ := Aaa h1
          obtain ⟨ds', j1, j2⟩ := N2 h2
          refine ⟨.agg cs' :: ds', .st i1 j1, fun c w vs hv => ?_⟩
          rw [A4.Ca] at hv ⊢
          obtain ⟨u, us, e, hu, hus⟩ := hv
          refine ⟨u, us, e, ?_, j2 _ _ _ hus⟩
          simp only [Ak] at hu ⊢
          obtain ⟨vs, e, hh⟩ := hu
          exact ⟨vs, e, i2 _ _ _ hh⟩
    · rename_i t ts d ds _ _
      cases h1 : dec1 t d with
      | none => rw [h1] at h; cases h
      | some a =>
        cases h2 : Qo ts ds with
        | none => rw [h1, h2] at h; cases h
        | some bs =>
          rw [h1, h2] at h
          simp only [Option.some.injEq] at h; subst h
          obtain ⟨d', i1, i2⟩ := Aab h1
          obtain ⟨ds', j1, j2⟩ := N2 h2
          refine ⟨d' :: ds', i1 _ _ _ j1, fun c w vs hv => ?_⟩
          rw [A4.Ca] at hv ⊢
          obtain ⟨u, us, e, hu, hus⟩ := hv
          exact ⟨u, us, e, i2 _ _ _ hu, j2 _ _ _ hus⟩
    · cases h
theorem Mb : ∀ {ts : List AT} {ds : List DV} {as : List Atom}, Lv ts ds = some as → ∃ ds', Fo ts as ds' ∧ ∀ c w vs, A4 c w ds vs → A4 c w ds' vs
  | ts, ds, as, h => by
    unfold Lv at h
    split at h
    · simp only [Option.some.injEq] at h; subst h
      exact ⟨[], .nil, fun _ _ _ h => h⟩
    · rename_i g l ts g' cs ds
      cases hg : Nat.beq g g' with
      | false => rw [hg] at h; cases h
      | true =>
      rw [hg, cond_true] at h
      obtain rfl := Nat.eq_of_beq_eq_true hg
      cases h1 : Qo l cs with
      | none => rw [h1] at h; cases h
      | some a =>
        cases h2 : Lv ts ds with
        | none => rw [h1, h2] at h; cases h
        | some bs =>
          rw [h1, h2] at h
          simp only [Option.some.injEq] at h; subst h
          obtain ⟨cs', i1, i2⟩ := N2 h1
          obtain ⟨ds', j1, j2⟩ := Mb h2
          refine ⟨.fn g cs' [] :: ds', .fm i1 j1, fun c w vs hv => ?_⟩
          rw [A4.Ca] at hv ⊢
          obtain ⟨u, us, e, hu, hus⟩ := hv
          refine ⟨u, us, e, ?_, j2 _ _ _ hus⟩
          simp only [Ak] at hu ⊢
          obtain ⟨fs', vs, e, hf, hh⟩ := hu
          exact ⟨fs', vs, e, i2 _ _ _ hf, hh⟩
    · rename_i g l ts g' cs ds
      cases hg : Nat.beq g g' with
      | false => rw [hg] at h; cases h
      | true =>
      rw [hg, cond_true] at h
      obtain rfl := Nat.eq_of_beq_eq_true hg
      cases h1 : Qo l cs with
      | none => rw [h1] at h; cases h
      | some a =>
        cases h2 : Lv ts ds with
        | none => rw [h1, h2] at h; cases h
        | some bs =>
          rw [h1, h2] at h
          simp only [Option.some.injEq] at h; subst h
          obtain ⟨cs', i1, i2⟩ := N2 h1
          obtain ⟨ds', j1, j2⟩ := Mb h2
          refine ⟨.fn g [] cs' :: ds', .fn i1 j1, fun c w vs hv => ?_⟩
          rw [A4.Ca] at hv ⊢
          obtain ⟨u, us, e, hu, hus⟩ := hv
          refine ⟨u, us, e, ?_, j2 _ _ _ hus⟩
          simp only [Ak] at hu ⊢
          obtain ⟨fs', vs, e, hf, hh⟩ := hu
          exact ⟨fs', vs, e, hf, i2 _ _ _ hh⟩
    · rename_i l ts cs ds
      cases h1 : Qo l cs with
      | none => rw [h1] at h; cases h
      | some a =>
        cases h2 : Lv ts ds with
        | none => rw [h1, h2] at h; cases h
        | some bs =>
          rw [h1, h2] at h
          simp only [Option.some.injEq] at h; subst h
          obtain ⟨cs', i1, i2⟩ := N2 h1
          obtain ⟨ds', j1, j2⟩ := Mb h2
          refine ⟨.cellp cs' :: ds', .cp i1 j1, fun c w vs hv => ?_⟩
          rw [A4.Ca] at hv ⊢
          obtain ⟨u, us, e, hu, hus⟩ := hv
          refine ⟨u, us, e, ?_, j2 _ _ _ hus⟩
          simp only [Ak] at hu ⊢
          obtain ⟨b, o, vs, e, hb, hh, hc⟩ := hu
          exact ⟨b, o, vs, e, hb, i2 _ _ _ hh, hc⟩
    · rename_i l ts cs ds
      cases h1 : Qo l cs with
      | none => rw [h1] at h; cases h
      | some a =>
        cases h2 : Lv ts ds with
        | none => rw [h1, h2] at h; cases h
        | some bs =>
          rw [h1, h2] at h
          simp only [Option.some.injEq] at h; subst h
          obtain ⟨cs', i1, i2⟩ := N2 h1
          obtain ⟨ds', j1, j2⟩ := Mb h2
          refine ⟨.agg cs' :: ds', .st i1 j1, fun c w vs hv => ?_⟩
          rw [A4.Ca] at hv ⊢
          obtain ⟨u, us, e, hu, hus⟩ := hv
          refine ⟨u, us, e, ?_, j2 _ _ _ hus⟩
          simp only [Ak] at hu ⊢
          obtain ⟨vs, e, hh⟩ := hu
          exact ⟨vs, e, i2 _ _ _ hh⟩
    · rename_i t ts d ds _ _ _ _
      cases h1 : dec1 t d with
      | none => rw [h1] at h; cases h
      | some a =>
        cases h2 : Lv ts ds with
        | none => rw [h1, h2] at h; cases h
        | some bs =>
          rw [h1, h2] at h
          simp only [Option.some.injEq] at h; subst h
          obtain ⟨d', i1, i2⟩ := Aab h1
          obtain ⟨ds', j1, j2⟩ := Mb h2
          refine ⟨d' :: ds', i1 _ _ _ j1, fun c w vs hv => ?_⟩
          rw [A4.Ca] at hv ⊢
          obtain ⟨u, us, e, hu, hus⟩ := hv
          exact ⟨u, us, e, i2 _ _ _ hu, j2 _ _ _ hus⟩
    · cases h
def entry (ts : List AT) (pre : List Atom → Bool) (out : List Atom → DV) : Entry where
  pre := fun args => match Lv ts args with
    | some as => pre as
    | none => false
  out := fun args => match Lv ts args with
    | some as => out as
    | none => .undef
inductive Wk (drops : List Nat) : DV → DV → Prop
  | refl {d : DV} (h : D5 1 [] d = true) (ho : ∀ i e k l, d ≠ .ints (.own i e) k l) (hr : ∀ i e k l, d ≠ .recs (.own i e) k l) : Wk drops d d
  | nil (g : Flag) (k : IntKind) : Wk drops .nil (.ints g k [])
  | fresh (k : IntKind) (l : List Int) : Wk drops (.ints .fresh k l) (.ints .arg k l)
  | keep (i : Nat) (e : TypeId) (k : IntKind) (l : List Int) (h : i ∉ drops) : Wk drops (.ints (.own i e) k l) (.ints (.own i e) k l)
  | keepR (i : Nat) (e : TypeId) (sz : Nat) (l : List (List DV)) (h : i ∉ drops) : Wk drops (.recs (.own i e) sz l) (.recs (.own i e) sz l)
  | nilR (g : Flag) (sz : Nat) : Wk drops .nil (.recs g sz [])
  | dropR (i : Nat) (e : TypeId) (sz : Nat) (l : List (List DV)) (h : i ∈ drops) : Wk drops (.recs (.own i e) sz l) (.recs .fresh sz l)
  | drop (i : Nat) (e : TypeId) (k : IntKind) (l : List Int) (h : i ∈ drops) : Wk drops (.ints (.own i e) k l) (.ints .fresh k l)
  | dropA (i : Nat) (e : TypeId) (k : IntKind) (l : List Int) (h : i ∈ drops) : Wk drops (.ints (.own i e) k l) (.ints .arg k l)
  | agg {l l' : List DV} (h : l.length = l'.length) (hw : ∀ (j : Nat) d d', l[j]? = some d → l'[j]? = some d' → Wk drops d d') : Wk drops (.agg l) (.agg l')
  | tup {l l' : List DV} (h : l.length = l'.length) (hw : ∀ (j : Nat) d d', l[j]? = some d → l'[j]? = some d' → Wk drops d d') : Wk drops (.tup l) (.tup l')
def Gw (drops : List Nat) (own : Nat → Option Nat) (i : Nat) : Option Nat := if i ∈ drops then none else own i
theorem J5 {drops : List Nat} {own : Nat → Option Nat} {i b : Nat} (h : Gw drops own i = some b) : own i = some b ∧ i ∉ drops := by
  unfold Gw at h
  split at h
  · cases h
  · exact ⟨h, ‹_›⟩
theorem Qs {w : World} {base : Nat} {e : TypeId} {k : IntKind} {l : List Int} {v : Value} (ho : w.ownsRow base e 1 v l.length (l.map (Value.int k))) {ok : Nat → Prop} (hok : ∀ b, v.ownBlock = some b → ok b) :
    ∃ a cap, v = .slice a l.length cap ∧ l.length ≤ cap ∧ (l = [] ∨ ∃ b o, a = some ⟨b, o, none⟩ ∧ ok b ∧ ∀ (i : Nat) n, l[i]? = some n → w.cell? ⟨b, o + i, none⟩ = some (.int k n)) := by
  have := Jf (p := ⟨.live, .row v 1⟩) rfl ho (E6 ho) (ok := ok) hok
  simp only [List.drop_zero, List.take_length] at this
  exact this
theorem Wk.rel {drops : List Nat} {d d' : DV} (h : Wk drops d d') {I : Nat → Prop} {own : Nat → Option Nat} {w w' : World} (ho : OwnOk own w w') : ∀ v, Ak (C3 I own w w') w' d v → Ak (C3 I (Gw drops own) w w') w' d' v := by
  have hok : ∀ b, (C3 I own w w').ok b → (C3 I (Gw drops own) w w').ok b := by
    rintro b ⟨h1, h2, h3⟩
    exact ⟨h1, h2, fun i hi => h3 i (J5 hi).1⟩
  have hblk : ∀ i b, i ∈ drops → own i = some b → (C3 I (Gw drops own) w w').ok b ∧ w.heap.size ≤ b := by
    intro i b hi hb
    obtain ⟨h1, h2⟩ := ho.lt i b hb
    refine ⟨⟨h2, .inr h1, fun j hj => ?_⟩, h1⟩
    obtain ⟨h3, h4⟩ := J5 hj
    rw [ho.inj j i b h3 hb] at h4
    exact h4 hi
  induction h with
  | @refl d h h1 h2 =>
    intro v hv
    have hl : I5 (({ C3 I own w w' with own := fun _ => none } : Ctx).only []) w' (C3 I (Gw drops own) w w') w' :=
      ⟨hok, rfl, rfl, fun _ _ h => (by cases h), fun n p hp => (by simp [Ctx.only] at hp), fun _ _ _ => rfl, fun _ _ h => (by cases h)⟩
    refine Ak.Cw hl d v (Zh [] 1 d v h ?_)
    cases d with
    | ints g k l =>
      cases g with
      | own i e => exact absurd rfl (h1 i e k l)
      | _ => simp only [Ak] at hv ⊢; exact hv
    | recs g k l =>
      cases g with
      | own i e => exact absurd rfl (h2 i e k l)
      | _ => simp only [Ak] at hv ⊢; exact hv
    | agg l =>
      cases l with
      | nil => simp only [Ak] at hv ⊢; simpa [A4] using hv
      | cons a l => simp [D5] at h
    | tup l =>
      cases l with
      | nil => simp only [Ak] at hv ⊢; simpa [A4] using hv
      | cons a l => simp [D5] at h
    | fn g a c =>
      cases a with
      | cons _ _ => simp [D5] at h
      | nil =>
        cases c with
        | cons _ _ => simp [D5] at h
        | nil => simp only [Ak] at hv ⊢; simpa [A4] using hv
    | gd c d => simp [D5] at h
    | oref n => simp [D5] at h
    | sref n o m => simp [D5] at h
    | ptr n i j => simp [D5] at h
    | undef => simp only [Ak]
    | _ => simp only [Ak] at hv ⊢; exact hv
  | nil g k =>
    intro v hv
    simp only [Ak] at hv
    subst hv
    cases g with
    | own i e => simp only [Ak]; exact ⟨World.ownsRow_nil w' _ e 1, fun b hb => by cases hb⟩
    | _ => simp only [Ak]; exact ⟨none, 0, rfl, Nat.le_refl _, .inl trivial⟩
  | nilR g sz =>
    intro v hv
    simp only [Ak] at hv
    subst hv
    cases g with
    | own i e => simp only [Ak]; exact ⟨[], by simp [Co], by simp, World.ownsRow_nil w' _ e sz, fun b hb => by cases hb⟩
    | _ => simp only [Ak]; exact ⟨none, 0, rfl, Nat.le_refl _, .inl trivial⟩
  | dropR i e sz l h =>
    intro v hv
    simp only [Ak] at hv ⊢
    obtain ⟨rows, h1, h2, h3, h4⟩ := hv
    have hr := Co.Cw (c := (C3 I own w w').bare) (c' := (C3 I (Gw drops own) w w').bare) ⟨hok, rfl, rfl, fun _ _ h => (by cases h), fun _ _ h => (by cases h), fun _ _ _ => rfl, fun _ _ h => (by cases h)⟩ _ _ h1
    have := Je (p := ⟨.live, .row v sz⟩) rfl hr h2 h3 (by have := E6 h3; exact this) (ok := fun b => (C3 I (Gw drops own) w w').ok b ∧ w.heap.size ≤ b) (fun b hb => hblk i b h (h4 b hb))
    simp only [List.drop_zero, List.take_length] at this
    obtain ⟨a, cap, e1, e2, e3⟩ := this
    exact ⟨a, cap, e1, e2, e3.imp id fun ⟨b, o, rows', e4, e5, e6, e7, e8⟩ => ⟨b, o, rows', e4, ⟨e5.1, rfl, e5.2⟩, e6, e7, e8⟩⟩
  | fresh k l =>
    intro v hv
    simp only [Ak] at hv ⊢
    obtain ⟨a, cap, e, h1, h2⟩ := hv
    exact ⟨a, cap, e, h1, h2.imp id fun ⟨b, o, h3, h4, h5⟩ => ⟨b, o, h3, hok b h4.1, h5⟩⟩
  | keep i e k l h =>
    intro v hv
    simp only [Ak] at hv ⊢
    exact ⟨hv.1, fun b hb => by show Gw drops own i = some b; unfold Gw; rw [if_neg h]; exact hv.2 b hb⟩
  | keepR i e sz l h =>
    intro v hv
    simp only [Ak] at hv ⊢
    obtain ⟨rows, h1, h2, h3, h4⟩ := hv
    refine ⟨rows, ?_, h2, h3, fun b hb => by show Gw drops own i = some b; unfold Gw; rw [if_neg h]; exact h4 b hb⟩
    exact Co.Cw (c := (C3 I own w w').bare) (c' := (C3 I (Gw drops own) w w').bare) ⟨hok, rfl, rfl, fun _ _ h => (by cases h), fun _ _ h => (by cases h), fun _ _ _ => rfl, fun _ _ h => (by cases h)⟩ _ _ h1
  | drop i e k l h =>
    intro v hv
    simp only [Ak] at hv ⊢
    exact Qs hv.1 fun b hb => ⟨(hblk i b h (hv.2 b hb)).1, rfl, (hblk i b h (hv.2 b hb)).2⟩
  | dropA i e k l h =>
    intro v hv
    simp only [Ak] at hv ⊢
    exact Qs hv.1 fun b hb => (hblk i b h (hv.2 b hb)).1
  | @agg l l' h hw ih =>
    intro v hv
    simp only [Ak] at hv ⊢
    obtain ⟨vs, e, hl⟩ := hv
    refine ⟨vs, e, A4.Jh (by rw [← h]; exact hl.length) fun j d v hd hv => ?_⟩
    have hlt : j < l.length := by rw [h]; exact (List.getElem?_eq_some_iff.1 hd).1
    obtain ⟨u, hu, hr⟩ := hl.get j _ (List.getElem?_eq_getElem hlt)
    rw [hv] at hu; cases hu
    exact ih j _ d (List.getElem?_eq_getElem hlt) hd v hr
  | @tup l l' h hw ih =>
    intro v hv
    simp only [Ak] at hv ⊢
    obtain ⟨vs, e, hl⟩ := hv
    refine ⟨vs, e, A4.Jh (by rw [← h]; exact hl.length) fun j d v hd hv => ?_⟩
    have hlt : j < l.length := by rw [h]; exact (List.getElem?_eq_some_iff.1 hd).1
    obtain ⟨u, hu, hr⟩ := hl.get j _ (List.getElem?_eq_getElem hlt)
    rw [hv] at hu; cases hu
    exact ih j _ d (List.getElem?_eq_getElem hlt) hd v hr
theorem Mp.weak {P : Program} {f : FuncId} {args : List DV} {out out' : DV} (h : Mp P f args out) {drops : List Nat} (hw : Wk drops out out') : Mp P f args out' := by
  intro w vals I hI hv
  refine (h w vals I hI hv).mono ?_
  rintro e w' ⟨v, own, he, hb, ho, hr⟩
  refine ⟨v, Gw drops own, he, hb, ⟨fun i b hi => ho.lt i b (J5 hi).1, fun i j b hi hj => ho.inj i j b (J5 hi).1 (J5 hj).1⟩, hw.rel ho v hr⟩
theorem Mp.args {P : Program} {f : FuncId} {args args' : List DV} {out : DV} (h : Mp P f args out) (ha : ∀ c w vs, A4 c w args' vs → A4 c w args vs) : Mp P f args' out :=
  fun w vals I hI hv => h w vals I hI (ha _ _ _ hv)
theorem Ua {P : Program} {E : Env} (he : I6 P E) {f : FuncId} {fn : Func} {body : Code} (hf : P.funcs[f]? = some fn) (hb : fn.body = some body) {ts : List AT} {pre : List Atom → Bool} {out : List Atom → DV}
    (h : ∀ as ds, Fo ts as ds → pre as = true → ∃ fuel d drops, A1 E fuel fn body ds = some d ∧ Wk drops d (out as)) : W6 P f (entry ts pre out) := by
  intro args ha
  simp only [entry] at ha ⊢
  cases hd : Lv ts args with
  | none => rw [hd] at ha; cases ha
  | some as =>
    rw [hd] at ha
    simp only at ha ⊢
    obtain ⟨ds, h1, h2⟩ := Mb hd
    obtain ⟨fuel, d, drops, h3, h4⟩ := h as ds h1 ha
    exact ((fun_ok he hf hb h3).weak h4).args h2
end Go.Den
namespace Go.Den
structure Pt (β : Type) where
  b : Nat
  c : Code
  Kn : St → Option β
  Kx : Nat → St → Option β
  Kr : St → Option β
def descend {β : Type} (E : Env) (n : Nat) : List Nat → List Nat → Nat → Code → (St → Option β) → (Nat → St → Option β) → (St → Option β) → Pt β
  | 0 :: p, ms, b, .seq x y, Kn, Kx, Kr => descend E n p ms b x (fun st' => den E n b y st' Kn Kx Kr) Kx Kr
  | _ :: p, ms, b, .seq _ y, Kn, Kx, Kr => descend E n p ms b y Kn Kx Kr
  | 0 :: p, ms, b, .cond _ x _, Kn, Kx, Kr => descend E n p ms b x Kn Kx Kr
  | _ :: p, ms, b, .cond _ _ y, Kn, Kx, Kr => descend E n p ms b y Kn Kx Kr
  | _ :: p, ms, _, .block id c, Kn, Kx, Kr => descend E n p ms id c Kn (fun id' st' => bif id' == id then Kn st' else Kx id' st') Kr
  | _ :: p, ms, b, .scope c, Kn, Kx, Kr => descend E n p ms b c Kn Kx Kr
  | _ :: p, m :: ms, b, .loop c, _, Kx, Kr => descend E n p ms b c (fun st2 => match canon (E.hint b) st2 with | some st3 => Wg (E.hint b) (den E n b c) m st3 Kx Kr | none => none) Kx Kr
  | _, _, b, c, Kn, Kx, Kr => ⟨b, c, Kn, Kx, Kr⟩
def cutAt (E : Env) (n : Nat) (fn : Func) (body : Code) (p ms : List Nat) (st : St) : Option DV :=
  match descend E n p ms 0 body (fun st => W8 E fn st) (fun _ _ => none) (fun st => W8 E fn st) with
  | ⟨b, .seq (.region _ ops draw) y, Kn, Kx, Kr⟩ => Y4 (regD E ops draw (fun st' => den E n b y st' Kn Kx Kr)) st
  | ⟨_, .region _ ops draw, Kn, _, _⟩ => Y4 (regD E ops draw Kn) st
  | _ => none
def cutNow (E : Env) (n : Nat) (fn : Func) (body : Code) (p ms : List Nat) (st : St) : Option DV :=
  match descend E n p ms 0 body (fun st => W8 E fn st) (fun _ _ => none) (fun st => W8 E fn st) with
  | ⟨b, .seq (.region _ ops draw) y, Kn, Kx, Kr⟩ => regD E ops draw (fun st' => den E n b y st' Kn Kx Kr) st
  | ⟨_, .region _ ops draw, Kn, _, _⟩ => regD E ops draw Kn st
  | _ => none
theorem Ph (E : Env) (n : Nat) (fn : Func) (body : Code) (p ms : List Nat) (st : St) : cutAt E n fn body p ms st = cutNow E n fn body p ms st := by
  unfold cutAt cutNow
  split <;> simp only [Xp]
def B6 (E : Env) (n : Nat) (fn : Func) (body : Code) (p ms : List Nat) (m : Nat) (st : St) : Option DV :=
  match descend E n p ms 0 body (fun st => W8 E fn st) (fun _ _ => none) (fun st => W8 E fn st) with
  | ⟨b, .loop c, _, Kx, Kr⟩ => Wg (E.hint b) (den E n b c) m st Kx Kr
  | _ => none
def atL (i : Nat) : List (Nat × DV) → DV
  | [] => .undef
  | (j, d) :: l => bif Nat.beq i j then d else atL i l
def mkTF (l : List (Nat × DV)) : Nat → Nat → List DV
  | 0, _ => []
  | k + 1, i => atL i l :: mkTF l k (i + 1)
def Hq (n : Nat) (l : List (Nat × DV)) : List DV := mkTF l n 0
end Go.Den
namespace Go.Den
open Go.RowKit (Below)
def Ab (x : Int) : Int := IntKind.i64.wrap x
def Bd (x : Int) : Int := IntKind.u64.wrap x
def Im (x : Int) : Int := IntKind.u32.wrap x
def D3 (k : IntKind) (x y : Int) : Int := k.wrap (BitVec.ofInt k.bits x &&& BitVec.ofInt k.bits y).toNat
def Gy (k : IntKind) (x y : Int) : Int := k.wrap (BitVec.ofInt k.bits x ||| BitVec.ofInt k.bits y).toNat
def bXor (k : IntKind) (x y : Int) : Int := k.wrap (BitVec.ofInt k.bits x ^^^ BitVec.ofInt k.bits y).toNat
def Fj (k : IntKind) (x y : Int) : Int := k.wrap (BitVec.ofInt k.bits x &&& ~~~(BitVec.ofInt k.bits y)).toNat
def Bp (k : IntKind) (x y : Int) : Int := k.wrap (x * 2 ^ (min y.toNat k.bits))
def Ct (k : IntKind) (x y : Int) : Int := x.fdiv (2 ^ (min y.toNat k.bits))
def C2 (p : Prop) : Bool := @decide p (Classical.propDecidable p)
theorem Ar {p : Prop} : C2 p = true ↔ p := by unfold C2; exact @decide_eq_true_iff p (Classical.propDecidable p)
def Ad (f : Func) : Code := f.body.getD .skip
def A8 : List (Nat × Entry) → Nat → Option Entry
  | [], _ => none
  | (m, e) :: l, n => bif Nat.beq m n then some e else A8 l n
def tyOf : List (Nat × TI) → Nat → Option TI
  | [], _ => none
  | (m, e) :: l, n => bif Nat.beq m n then some e else tyOf l n
theorem ifT {α : Type} {R : Bool} {A A' B : α} (h : R = true) (ha : A = A') : (bif R then A else B) = A' := by rw [h, ha]; rfl
theorem Ax {α : Type} {R : Bool} {A A' : Option α} (h : R = true) (ha : A = A') : (bif R then A else none) = A' := ifT h ha
theorem C1 {α : Type} {R S : Bool} {A A' B B' : α} (h : R = S) (ha : A = A') (hb : B = B') : (bif R then A else B) = bif S then A' else B' := by rw [h, ha, hb]
theorem Fb {α : Type} {R : Bool} {A A' B B' : α} (ha : A = A') (hb : B = B') : (bif R then A else B) = bif R then A' else B' := by rw [ha, hb]
structure Am (P : Program) (g : FuncId) (e : Entry) : Prop where
  meets : W6 P g e
  call : ∀ (args : Array Value) (w : World), (callFunc g args).run P w = .ok (.enter g args) w
inductive A0 (P : Program) : List (Nat × Entry) → Prop
  | nil : A0 P []
  | cons {g e l} : Am P g e → A0 P l → A0 P ((g, e) :: l)
theorem A0.get {P : Program} {l : List (Nat × Entry)} (h : A0 P l) {g : Nat} {e : Entry} (hg : A8 l g = some e) : Am P g e := by
  induction h with
  | nil => cases hg
  | @cons g' e' l h1 h2 ih =>
    simp only [A8] at hg
    cases hb : Nat.beq g' g with
    | true =>
      rw [hb] at hg
      simp only [cond_true, Option.some.injEq] at hg
      have := Nat.eq_of_beq_eq_true hb
      subst this hg
      exact h1
    | false => rw [hb] at hg; exact ih hg
theorem Rn {P : Program} {f : FuncId} {fn : Func} {body : Code} (hf : P.funcs[f]? = some fn) (hn : (fn.name == "runtime.NumGoroutine") = false) (hb : fn.body = some body) (args : Array Value) (w : World) :
    (callFunc f args).run P w = .ok (.enter f args) w := by
  have h1 : fn.name ≠ "runtime.NumGoroutine" := by simpa using hn
  simp [callFunc, hf, h1, hb]
inductive Qi (P : Program) : List (Nat × TI) → Prop
  | nil : Qi P []
  | cons {t ti l} : Bv P t ti → Qi P l → Qi P ((t, ti) :: l)
theorem Qi.get {P : Program} {l : List (Nat × TI)} (h : Qi P l) {t : Nat} {ti : TI} (hg : tyOf l t = some ti) : Bv P t ti := by
  induction h with
  | nil => cases hg
  | @cons t' ti' l h1 h2 ih =>
    simp only [tyOf] at hg
    cases hb : Nat.beq t' t with
    | true =>
      rw [hb] at hg
      simp only [cond_true, Option.some.injEq] at hg
      have := Nat.eq_of_beq_eq_true hb
      subst this hg
      exact h1
    | false => rw [hb] at hg; exact ih hg
theorem Bx {P : Program} {t : TypeId} {ti : TI} {z : Value} (h : (P.info? t).map (fun i => (i.zero, i.size, i.bytes)) = some (some z, ti.size, ti.bytes)) (hz : Aal ti.zero z.cells.toList) (hs : z.cells.size = ti.size)
    (h1 : ∀ u ∈ z.cells.toList, u.oneCell' = true) (hd : B0 P t ti.kind) : Bv P t ti := by
  cases hi : P.info? t with
  | none => rw [hi] at h; cases h
  | some i =>
    rw [hi] at h
    simp only [Option.map_some, Option.some.injEq, Prod.mk.injEq] at h
    exact ⟨⟨i, z, hi, h.2.1, h.2.2, h.1, hz, hs, h1⟩, hd⟩
def recN (ts : List AT) (pre : List Atom → Bool) (out : List Atom → DV) (mu : List Atom → Nat) (n : Nat) : Entry := entry ts (fun as => pre as && C2 (mu as < n)) out
theorem meets_recN {P : Program} {E : Nat → Env} {f : FuncId} {fn : Func} {body : Code} (hf : P.funcs[f]? = some fn) (hb : fn.body = some body) {ts : List AT} {pre : List Atom → Bool} {out : List Atom → DV} (mu : List Atom → Nat)
    (he : ∀ n, W6 P f (recN ts pre out mu n) → I6 P (E n))
    (h : ∀ n as ds, Fo ts as ds → pre as = true → mu as < n + 1 → ∃ fuel d drops, A1 (E n) fuel fn body ds = some d ∧ Wk drops d (out as)) : W6 P f (entry ts pre out) := by
  have key : ∀ n, W6 P f (recN ts pre out mu n) := by
    intro n
    induction n with
    | zero =>
      intro args ha
      simp only [recN, entry] at ha
      split at ha
      · simp only [Bool.and_eq_true, Ar] at ha; omega
      · cases ha
    | succ n ih =>
      refine Ua (he n ih) hf hb fun as ds hd hp => ?_
      simp only [Bool.and_eq_true, Ar] at hp
      exact h n as ds hd hp.1 hp.2
  intro args ha
  simp only [entry] at ha
  cases hd : Lv ts args with
  | none => rw [hd] at ha; cases ha
  | some as =>
    rw [hd] at ha
    have := key (mu as + 1) args (by simp only [recN, entry, hd, Bool.and_eq_true, Ar]; exact ⟨ha, Nat.lt_succ_self _⟩)
    simp only [recN, entry] at this ⊢
    exact this
theorem Kp {P : Program} (w : World) {t : TypeId} {ti : TI} (hf : Bv P t ti) (ha : ti.agg = false) {xs : Array Value} {i : Nat} {v : Value} (hv : xs[i]? = some v) : (part t xs i).run P w = .ok v w := by
  simp [part, hf.R7 w, ha, hv]
theorem Vh {z : Bool} {l m : List DV} (h : sameShape (.bool z :: l) m = true) : ∃ b m', m = .bool b :: m' ∧ sameShape l m' = true := by
  cases m with
  | nil => simp [sameShape] at h
  | cons d m' => cases d <;> simp [sameShape] at h; exact ⟨_, _, rfl, h⟩
theorem H9 {k : IntKind} {z : Int} {l m : List DV} (h : sameShape (.int k z :: l) m = true) : ∃ b m', m = .int k b :: m' ∧ sameShape l m' = true := by
  cases m with
  | nil => simp [sameShape] at h
  | cons d m' => cases d <;> simp [sameShape] at h; obtain ⟨rfl, h⟩ := h; exact ⟨_, _, rfl, h⟩
theorem P2 {m : List DV} (h : sameShape [] m = true) : m = [] := by
  cases m with
  | nil => rfl
  | cons d m' => cases d <;> simp [sameShape] at h
theorem calls_true {P : Program} {g : FuncId} {e : Entry} (h : Am P g e) {vals : Array Value} {w : World} {args : List DV} {I : Nat → Prop} (hI : ∀ b, I b → b < w.heap.size) (ha : A4 (I1 I) w args vals.toList)
    (hp : e.pre args = true) (ho : e.out args = .bool true) : Calls P g vals w fun e w' => e = .returned (.bool true) ∧ Below w.heap.size w w' := by
  refine (h.meets args hp w vals I hI ha).mono ?_
  rintro e w' ⟨v, own, he, hb, _, hv⟩
  rw [ho] at hv
  simp only [Ak] at hv
  subst hv
  exact ⟨he, hb⟩
end Go.Den
namespace Go.Den
open Go.RowKit (Below)
end Go.Den
namespace Go.Den
def altE (ts : List AT) (e1 e2 : Entry) : Entry where
  pre := fun args => match Lv ts args with
    | some _ => e1.pre args
    | none => e2.pre args
  out := fun args => match Lv ts args with
    | some _ => e1.out args
    | none => e2.out args
theorem Am.alt {P : Program} {g : FuncId} {ts : List AT} {e1 e2 : Entry} (h1 : Am P g e1) (h2 : Am P g e2) : Am P g (altE ts e1 e2) := by
  refine ⟨fun args ha => ?_, h1.call⟩
  simp only [altE] at ha ⊢
  cases hd : Lv ts args with
  | none => rw [hd] at ha; exact h2.meets args ha
  | some x => rw [hd] at ha; exact h1.meets args ha
theorem Am.weak {P : Program} {g : FuncId} {ts : List AT} {pre pre' : List Atom → Bool} {out out' : List Atom → DV} (h : Am P g (entry ts pre out)) (drops : List Nat)
    (hw : ∀ ats, pre' ats = true → pre ats = true ∧ Wk drops (out ats) (out' ats)) : Am P g (entry ts pre' out') := by
  refine ⟨fun args ha => ?_, h.call⟩
  simp only [entry] at ha ⊢
  cases hd : Lv ts args with
  | none => rw [hd] at ha; cases ha
  | some x =>
    rw [hd] at ha
    have := h.meets args (by simp only [entry, hd]; exact (hw x ha).1)
    simp only [entry, hd] at this
    exact this.weak (hw x ha).2
end Go.Den
namespace Go.Den
def Mq : Nat → List AT → (List Atom → List DV → Prop) → Prop
  | 0, _, _ => False
  | _ + 1, [], K => K [] []
  | n + 1, .b :: ts, K => ∀ x : Bool, Mq n ts fun as ds => K (.b x :: as) (.bool x :: ds)
  | n + 1, .i k :: ts, K => ∀ x : Int, Mq n ts fun as ds => K (.i x :: as) (.int k x :: ds)
  | n + 1, .s k :: ts, K => ∀ x : List Int, Mq n ts fun as ds => K (.l x :: as) (.ints .arg k x :: ds)
  | n + 1, .fl :: ts, K => ∀ x : Nat, Mq n ts fun as ds => K (.f x :: as) (.fl x :: ds)
  | n + 1, .nb :: ts, K => ∀ x : Nat, Mq n ts fun as ds => K (.f x :: as) (.nb x :: ds)
  | n + 1, .st l :: ts, K => Mq n l fun as cs => Mq n ts fun bs ds => K (as ++ bs) (.agg cs :: ds)
  | n + 1, .fn g l :: ts, K => Mq n l fun as cs => Mq n ts fun bs ds => K (as ++ bs) (.fn g [] cs :: ds)
  | n + 1, .fm g l :: ts, K => Mq n l fun as cs => Mq n ts fun bs ds => K (as ++ bs) (.fn g cs [] :: ds)
  | n + 1, .cp l :: ts, K => Mq n l fun as cs => Mq n ts fun bs ds => K (as ++ bs) (.cellp cs :: ds)
theorem Mq.go : ∀ (n : Nat) {ts : List AT} {as : List Atom} {ds : List DV} {K : List Atom → List DV → Prop}, Mq n ts K → Fo ts as ds → K as ds := by
  intro n
  induction n with
  | zero => intro ts as ds K h _; exact h.elim
  | succ n ih =>
    intro ts as ds K h e
    cases e with
    | nil => exact h
    | b x e => exact ih (K := fun as ds => K (.b x :: as) (.bool x :: ds)) (h x) e
    | i k x e => exact ih (K := fun as ds => K (.i x :: as) (.int k x :: ds)) (h x) e
    | s k x e => exact ih (K := fun as ds => K (.l x :: as) (.ints .arg k x :: ds)) (h x) e
    | fl x e => exact ih (K := fun as ds => K (.f x :: as) (.fl x :: ds)) (h x) e
    | nb x e => exact ih (K := fun as ds => K (.f x :: as) (.nb x :: ds)) (h x) e
    | @st _ _ a c _ _ e1 e2 => exact ih (K := fun bs ds => K (a ++ bs) (.agg c :: ds)) (ih (K := fun as cs => Mq n _ fun bs ds => K (as ++ bs) (.agg cs :: ds)) h e1) e2
    | @fn g _ _ a c _ _ e1 e2 => exact ih (K := fun bs ds => K (a ++ bs) (.fn g [] c :: ds)) (ih (K := fun as cs => Mq n _ fun bs ds => K (as ++ bs) (.fn g [] cs :: ds)) h e1) e2
    | @fm g _ _ a c _ _ e1 e2 => exact ih (K := fun bs ds => K (a ++ bs) (.fn g c [] :: ds)) (ih (K := fun as cs => Mq n _ fun bs ds => K (as ++ bs) (.fn g cs [] :: ds)) h e1) e2
    | @cp _ _ a c _ _ e1 e2 => exact ih (K := fun bs ds => K (a ++ bs) (.cellp c :: ds)) (ih (K := fun as cs => Mq n _ fun bs ds => K (as ++ bs) (.cellp cs :: ds)) h e1) e2
theorem Aj {P : Program} {E : Env} (he : I6 P E) {f : FuncId} {fn : Func} {body : Code} (hf : P.funcs[f]? = some fn) (hb : fn.body = some body) (hn : (fn.name == "runtime.NumGoroutine") = false) {ts : List AT} {pre : List Atom → Bool} {out : List Atom → DV}
    (h : Mq 40 ts fun as ds => pre as = true → ∃ N dv drops, A1 E N fn body ds = some dv ∧ Wk drops dv (out as)) : Am P f (entry ts pre out) :=
  ⟨Ua he hf hb fun _ _ e hp => Mq.go 40 h e hp, Rn hf hn hb⟩
end Go.Den
namespace Go.Den
theorem Ap {x : Int} (h1 : -9223372036854775808 ≤ x) (h2 : x ≤ 9223372036854775807) : Ab x = x := Go.IntWalk.i64_in x ⟨h1, h2⟩
theorem Mt (x : Int) : Bd x = x % 18446744073709551616 := by unfold Bd IntKind.wrap; simp [IntKind.bits, IntKind.signed]
theorem w_u32_eq (x : Int) : Im x = x % 4294967296 := by unfold Im IntKind.wrap; simp [IntKind.bits, IntKind.signed]
theorem Cv {x : Int} (h1 : 0 ≤ x) (h2 : x < 18446744073709551616) : Bd x = x := by rw [Mt]; omega
theorem Jt {x : Int} (h1 : 0 ≤ x) (h2 : x < 4294967296) : Im x = x := by rw [w_u32_eq]; omega
theorem bShr_eq (k : IntKind) (x y : Int) : Ct k x y = x / 2 ^ (min y.toNat k.bits) := by
  unfold Ct
  exact Int.fdiv_eq_ediv_of_nonneg _ (Int.le_of_lt (Int.pow_pos (by decide)))
theorem Gk (k : IntKind) (n s : Nat) (h : s ≤ k.bits) : Ct k n s = ((n / 2 ^ s : Nat) : Int) := by
  rw [bShr_eq, Int.toNat_natCast, Nat.min_eq_left h]
  push_cast
  rfl
theorem Em (n s : Nat) (h : s ≤ 64) : Bp .u64 n s = ((n * 2 ^ s % 2 ^ 64 : Nat) : Int) := by
  unfold Bp
  rw [Int.toNat_natCast, show IntKind.u64.bits = 64 from rfl, Nat.min_eq_left h]
  show Bd _ = _
  rw [Mt]
  show _ = ((n * 2 ^ s % 18446744073709551616 : Nat) : Int)
  rw [Int.natCast_emod, Int.natCast_mul, Int.natCast_pow]
  rfl
theorem Hj (b n : Nat) : (BitVec.ofInt b n).toNat = n % 2 ^ b := by
  rw [BitVec.toNat_ofInt]
  rw [show ((n : Int) % (2 ^ b : Nat)) = ((n % 2 ^ b : Nat) : Int) by push_cast; rfl, Int.toNat_natCast]
theorem Rt {n : Nat} (h : n < 2 ^ 64) : IntKind.u64.wrap n = n := by
  show Bd _ = _
  rw [Mt]
  omega
theorem bAnd_u64 {a b : Nat} (ha : a < 2 ^ 64) (hb : b < 2 ^ 64) : D3 .u64 a b = ((a &&& b : Nat) : Int) := by
  unfold D3
  rw [BitVec.toNat_and, Hj, Hj, show IntKind.u64.bits = 64 from rfl, Nat.mod_eq_of_lt ha, Nat.mod_eq_of_lt hb]
  exact Rt (Nat.lt_of_le_of_lt Nat.and_le_left ha)
theorem S5 {a b : Nat} (ha : a < 2 ^ 64) (hb : b < 2 ^ 64) : Gy .u64 a b = ((a ||| b : Nat) : Int) := by
  unfold Gy
  rw [BitVec.toNat_or, Hj, Hj, show IntKind.u64.bits = 64 from rfl, Nat.mod_eq_of_lt ha, Nat.mod_eq_of_lt hb]
  exact Rt (Nat.or_lt_two_pow ha hb)
theorem bXor_u64 {a b : Nat} (ha : a < 2 ^ 64) (hb : b < 2 ^ 64) : bXor .u64 a b = ((a ^^^ b : Nat) : Int) := by
  unfold bXor
  rw [BitVec.toNat_xor, Hj, Hj, show IntKind.u64.bits = 64 from rfl, Nat.mod_eq_of_lt ha, Nat.mod_eq_of_lt hb]
  exact Rt (Nat.xor_lt_two_pow ha hb)
theorem Hm {a : Nat} (k : Nat) (ha : a < 2 ^ 64) (hk : k ≤ 64) : D3 .u64 a ((2 ^ k - 1 : Nat) : Int) = ((a % 2 ^ k : Nat) : Int) := by
  rw [bAnd_u64 ha (by have := Nat.pow_le_pow_right (n := 2) (by decide) hk; have := Nat.pow_pos (a := 2) (n := k) (by decide); omega), Nat.and_two_pow_sub_one_eq_mod]
theorem Lh {a b k : Nat} (hb : b < 2 ^ k) : b ||| (a * 2 ^ k) = a * 2 ^ k + b := by
  rw [Nat.or_comm, Nat.mul_comm, Nat.two_pow_add_eq_or_of_lt hb]
theorem bOr_apart {a b k : Nat} (hb : b < 2 ^ k) (h : a * 2 ^ k + b < 2 ^ 64) : Gy .u64 b ((a * 2 ^ k : Nat) : Int) = ((a * 2 ^ k + b : Nat) : Int) := by
  rw [S5 (by omega) (by omega), Lh hb]
theorem Ln {a b k : Nat} (hb : b < 2 ^ k) (h : a * 2 ^ k + b < 2 ^ 64) : Gy .u64 ((a * 2 ^ k : Nat) : Int) b = ((a * 2 ^ k + b : Nat) : Int) := by
  rw [S5 (by omega) (by omega), Nat.or_comm, Lh hb]
theorem Vb {r : Nat} (hr : r < 2 ^ 63) : (2 ^ 63 + r) ^^^ 2 ^ 63 = r ∧ r ^^^ 2 ^ 63 = 2 ^ 63 + r := by
  have e2 := Nat.two_pow_add_eq_or_of_lt hr 1
  rw [Nat.mul_one] at e2
  have a1 : r ^^^ 2 ^ 63 = 2 ^ 63 + r := by
    rw [e2]
    apply Nat.eq_of_testBit_eq
    intro i
    rw [Nat.testBit_xor, Nat.testBit_or, Nat.testBit_two_pow]
    by_cases hi : 63 = i
    · subst hi
      rw [Nat.testBit_lt_two_pow hr]; simp
    · simp [hi]
  refine ⟨?_, a1⟩
  rw [← a1, Nat.xor_assoc, Nat.xor_self, Nat.xor_zero]
theorem xor_top {a : Nat} (ha : a < 2 ^ 64) : a ^^^ 2 ^ 63 = if 2 ^ 63 ≤ a then a - 2 ^ 63 else a + 2 ^ 63 := by
  by_cases h : 2 ^ 63 ≤ a
  · rw [if_pos h]
    obtain ⟨r, rfl⟩ : ∃ r, a = 2 ^ 63 + r := ⟨a - 2 ^ 63, by omega⟩
    rw [(Vb (by omega)).1]; omega
  · rw [if_neg h, (Vb (by omega)).2]; omega
def Ah (x : Int) : Bool := C2 (0 ≤ x ∧ x < 18446744073709551616)
theorem Bg {x : Int} (h : Ah x = true) : ∃ n : Nat, x = n ∧ n < 2 ^ 64 := by
  unfold Ah at h
  rw [Ar] at h
  exact ⟨x.toNat, by omega, by omega⟩
theorem By {n : Nat} (h : n < 2 ^ 64) : Ah n = true := by
  unfold Ah
  rw [Ar]
  omega
inductive WkL (drops : List Nat) : List DV → List DV → Prop
  | nil : WkL drops [] []
  | cons {d d' l l'} : Wk drops d d' → WkL drops l l' → WkL drops (d :: l) (d' :: l')
theorem WkL.length {drops : List Nat} {l l' : List DV} (h : WkL drops l l') : l.length = l'.length := by
  induction h with
  | nil => rfl
  | cons _ _ ih => simp [ih]
theorem WkL.get {drops : List Nat} {l l' : List DV} (h : WkL drops l l') : ∀ (j : Nat) d d', l[j]? = some d → l'[j]? = some d' → Wk drops d d' := by
  induction h with
  | nil => intro j d d' h; cases h
  | cons h1 _ ih =>
    intro j d d' h2 h3
    cases j with
    | zero => cases h2; cases h3; exact h1
    | succ j => exact ih j d d' h2 h3
theorem Wk.J7 {drops : List Nat} {l l' : List DV} (h : WkL drops l l') : Wk drops (.agg l) (.agg l') := .agg h.length h.get
theorem Wk.Gg {drops : List Nat} {l l' : List DV} (h : WkL drops l l') : Wk drops (.tup l) (.tup l') := .tup h.length h.get
theorem Wk.bool {drops : List Nat} {b : Bool} : Wk drops (.bool b) (.bool b) := .refl rfl (by intros; simp) (by intros; simp)
theorem Wk.int {drops : List Nat} {k : IntKind} {x : Int} : Wk drops (.int k x) (.int k x) := .refl rfl (by intros; simp) (by intros; simp)
theorem Wk.fl {drops : List Nat} {x : Nat} : Wk drops (.fl x) (.fl x) := .refl rfl (by intros; simp) (by intros; simp)
theorem Wk.nb {drops : List Nat} {x : Nat} : Wk drops (.nb x) (.nb x) := .refl rfl (by intros; simp) (by intros; simp)
theorem Wk.argL {drops : List Nat} {k : IntKind} {l : List Int} : Wk drops (.ints .arg k l) (.ints .arg k l) := .refl rfl (by intros; simp) (by intros; simp)
theorem Wk.Rf {drops : List Nat} {k : IntKind} {l : List Int} : Wk drops (.ints .fresh k l) (.ints .fresh k l) := .refl rfl (by intros; simp) (by intros; simp)
theorem Fo.Zn {as : List Atom} {ds : List DV} (h : Fo [] as ds) : as = [] ∧ ds = [] := by cases h; exact ⟨rfl, rfl⟩
theorem Fo.b_inv {ts : List AT} {as : List Atom} {ds : List DV} (h : Fo (.b :: ts) as ds) : ∃ x as' ds', as = .b x :: as' ∧ ds = .bool x :: ds' ∧ Fo ts as' ds' := by
  cases h with | b x h => exact ⟨x, _, _, rfl, rfl, h⟩
theorem Fo.i_inv {k : IntKind} {ts : List AT} {as : List Atom} {ds : List DV} (h : Fo (.i k :: ts) as ds) : ∃ x as' ds', as = .i x :: as' ∧ ds = .int k x :: ds' ∧ Fo ts as' ds' := by
  cases h with | i k x h => exact ⟨x, _, _, rfl, rfl, h⟩
theorem Fo.nb_inv {ts : List AT} {as : List Atom} {ds : List DV} (h : Fo (.nb :: ts) as ds) : ∃ x as' ds', as = .f x :: as' ∧ ds = .nb x :: ds' ∧ Fo ts as' ds' := by
  cases h with | nb x h => exact ⟨x, _, _, rfl, rfl, h⟩
end Go.Den
end
