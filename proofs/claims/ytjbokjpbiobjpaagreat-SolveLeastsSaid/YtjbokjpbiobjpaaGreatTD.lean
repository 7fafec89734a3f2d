/- A verified evaluator of the program's form and its use for this seat: Den28, Den29, Den30, Den31, Den32, Den33, Den34, Den35, Den36, Den37, Den38, Bits. -/
import Derived.Test.YtjbokjpbiobjpaaGreatTC
import Derived.LoopN
import Derived.Scope
import Derived.KernelRfl
import Derived.Laws.StructEq
import Derived.Laws.Externs
import Derived.ChangeKeysEq
import Derived.IntWalk
set_option linter.unusedVariables false
set_option linter.unusedSimpArgs false
noncomputable section
namespace Go.Den
open Go.RowKit (Below)
def Ctx.only (c : Ctx) (ns : List Nat) : Ctx := { c with at_ := fun n => if n ∈ ns then c.at_ n else none }
theorem O7 {n : Nat} {l : List Nat} (h : l.contains n = true) : n ∈ l := by simpa using h
theorem Abc {c : Ctx} {w : World} (ns : List Nat) : ∀ (f : Nat) (d : DV) (v : Value), Ej f ns d = true → Ao c w d v → Ao (c.only ns) w d v := by
  intro f
  induction f with
  | zero => intro d v h; simp [Ej] at h
  | succ f ih =>
    have all : ∀ (l : List DV) (vs : List Value), l.all (Ej f ns) = true → A8 c w l vs → A8 (c.only ns) w l vs := by
      intro l
      induction l with
      | nil => intro vs _ h; rw [A8.Fy] at h ⊢; exact h
      | cons d l ihl =>
        intro vs h hv
        simp only [List.all_cons, Atd] at h
        rw [A8.Co] at hv ⊢
        obtain ⟨u, us, e, h1, h2⟩ := hv
        exact ⟨u, us, e, ih d u h.1 h1, ihl us h.2 h2⟩
    intro d v h hv
    cases d with
    | agg l =>
      simp only [Ej] at h
      simp only [Ao] at hv ⊢
      obtain ⟨vs, e, hl⟩ := hv
      exact ⟨vs, e, all l _ h hl⟩
    | tup l =>
      simp only [Ej] at h
      simp only [Ao] at hv ⊢
      obtain ⟨vs, e, hl⟩ := hv
      exact ⟨vs, e, all l _ h hl⟩
    | fn g a b =>
      simp only [Ej, Atd] at h
      simp only [Ao] at hv ⊢
      obtain ⟨fs, cs, e, h1, h2⟩ := hv
      exact ⟨fs, cs, e, all a _ h.1 h1, all b _ h.2 h2⟩
    | gd g d =>
      simp only [Ej] at h
      simp only [Ao] at hv ⊢
      exact ⟨fun e => ih d v h (hv.1 e), hv.2⟩
    | oref n =>
      simp only [Ej] at h
      simp only [Ao] at hv ⊢
      obtain ⟨h1, p, hp, hd⟩ := hv
      exact ⟨h1, p, by simp only [Ctx.only, O7 h, if_true]; exact hp, hd⟩
    | sref n o m =>
      simp only [Ej] at h
      simp only [Ao] at hv ⊢
      obtain ⟨h1, p, hp, hd⟩ := hv
      exact ⟨h1, p, by simp only [Ctx.only, O7 h, if_true]; exact hp, hd⟩
    | ptr n i j =>
      simp only [Ej] at h
      simp only [Ao] at hv ⊢
      obtain ⟨h1, p, hp, hd⟩ := hv
      exact ⟨h1, p, by simp only [Ctx.only, O7 h, if_true]; exact hp, hd⟩
    | ints g k l => cases g <;> (simp only [Ao] at hv ⊢; exact hv)
    | recs g k l => cases g <;> (simp only [Ao] at hv ⊢; exact hv)
    | undef => simp only [Ao]
    | _ => simp only [Ao] at hv ⊢; exact hv
def X4 (n : Nat) : List (Nat × Nat × Nat × OB) → Option (Nat × Nat × Nat × OB)
  | [] => none
  | x :: xs => if x.2.2.1 = n then some x else X4 n xs
theorem Uy {n : Nat} : ∀ {l : List (Nat × Nat × Nat × OB)} {x}, X4 n l = some x → x ∈ l ∧ x.2.2.1 = n
  | [], x, h => by cases h
  | y :: l, x, h => by
    simp only [X4] at h
    split at h
    · cases h; exact ⟨List.mem_cons_self, ‹_›⟩
    · exact ⟨List.mem_cons_of_mem _ (Uy h).1, (Uy h).2⟩
theorem Tz : ∀ {l : List (Nat × Nat × Nat × OB)} {x}, (l.map (·.2.2.1)).Nodup → x ∈ l → X4 x.2.2.1 l = some x
  | [], x, _, h => by cases h
  | y :: l, x, hn, h => by
    simp only [List.map_cons, List.nodup_cons] at hn
    simp only [X4]
    rcases List.mem_cons.1 h with rfl | h
    · rw [if_pos rfl]
    · rw [if_neg (fun e => hn.1 (by rw [e]; exact List.mem_map.2 ⟨x, h, rfl⟩))]
      exact Tz hn.2 h
theorem R5 {b j nm : Nat} : ∀ {l : List (Nat × Nat × Nat × OB)}, Ke b j l = some nm → ∃ ob, (b, j, nm, ob) ∈ l
  | [], h => by cases h
  | (b', j', nm', ob) :: l, h => by
    simp only [Ke] at h
    cases hb : (Nat.beq b b' && Nat.beq j j') with
    | true =>
      rw [hb] at h
      simp only [As2, As5] at h
      simp only [Atd] at hb
      have e1 := Atk hb.1
      have e2 := Atk hb.2
      subst e1 e2 h
      exact ⟨ob, List.mem_cons_self⟩
    | false =>
      rw [hb] at h
      obtain ⟨ob', h'⟩ := R5 h
      exact ⟨ob', List.mem_cons_of_mem _ h'⟩
theorem Xa {st : St} : ∀ {l : List (Nat × Nat × Nat × OB)} {h : Dn} {ns : List Nat}, Xb st l = some (h, ns) → (l.map (·.2.2.1)).Nodup → ns.Nodup →
    (∀ x ∈ l, ∃ s ob, Abf st x = some (s, ob) ∧ look h x.2.2.1 = some (false, ob) ∧ ∀ n, s = some n → n ∈ ns) ∧
    (∀ n fo, look h n = some fo → ∃ x ∈ l, x.2.2.1 = n) ∧
    (∀ x ∈ l, ∀ y ∈ l, ∀ n ob ob', Abf st x = some (some n, ob) → Abf st y = some (some n, ob') → x = y)
  | [], h, ns, hs, _, _ => by
    simp only [Xb, As5, Atb] at hs
    obtain ⟨rfl, rfl⟩ := hs
    exact ⟨fun x hx => (by cases hx), fun n fo hl => (by cases hl), fun x hx => (by cases hx)⟩
  | x :: l, h, ns, hs, hn, hns => by
    simp only [Xb] at hs
    cases ho : Abf st x with
    | none => simp [ho] at hs
    | some r =>
      obtain ⟨s, ob⟩ := r
      cases hl : Xb st l with
      | none => simp [ho, hl] at hs
      | some r =>
        obtain ⟨h', ns'⟩ := r
        simp only [ho, hl, As5, Atb] at hs
        obtain ⟨rfl, rfl⟩ := hs
        simp only [List.map_cons, List.nodup_cons] at hn
        rw [List.nodup_append] at hns
        obtain ⟨i1, i2, i3⟩ := Xa hl hn.2 hns.2.1
        have hx : ∀ y ∈ l, x.2.2.1 ≠ y.2.2.1 := fun y hy e => hn.1 (by rw [e]; exact List.mem_map.2 ⟨y, hy, rfl⟩)
        have cross : ∀ y ∈ l, ∀ n ob ob', Abf st x = some (some n, ob) → Abf st y = some (some n, ob') → False := by
          intro y hy n o1 o2 h1 h2
          rw [ho] at h1; cases h1
          obtain ⟨s', ob', h3, _, h4⟩ := i1 y hy
          rw [h2] at h3; cases h3
          exact hns.2.2 n (by simp) n (h4 n rfl) rfl
        refine ⟨fun y hy => ?_, fun n fo hl' => ?_, fun y hy z hz n o1 o2 h1 h2 => ?_⟩
        · rcases List.mem_cons.1 hy with rfl | hy
          · exact ⟨s, ob, ho, by simp [look], fun n e => by rw [e]; simp⟩
          · obtain ⟨s', ob', h1, h2, h3⟩ := i1 y hy
            refine ⟨s', ob', h1, ?_, fun n e => List.mem_append.2 (.inr (h3 n e))⟩
            simp only [look, show (x.2.2.1 == y.2.2.1) = false by simpa using hx y hy, As6]
            exact h2
        · simp only [look] at hl'
          by_cases e : x.2.2.1 = n
          · exact ⟨x, List.mem_cons_self, e⟩
          · rw [show (x.2.2.1 == n) = false by simpa using e] at hl'
            obtain ⟨y, hy, hyn⟩ := i2 n fo hl'
            exact ⟨y, List.mem_cons_of_mem _ hy, hyn⟩
        · rcases List.mem_cons.1 hy with e1 | hy2
          · rcases List.mem_cons.1 hz with e2 | hz2
            · rw [e1, e2]
            · exact (cross z hz2 n o1 o2 (e1 ▸ h1) h2).elim
          · rcases List.mem_cons.1 hz with e2 | hz2
            · exact (cross y hy2 n o2 o1 (e2 ▸ h2) h1).elim
            · exact i3 y hy2 z hz2 n o1 o2 h1 h2
theorem Vm {st : St} {H : Ba} : ∀ {bs : List Nat} {h : Dn}, Sk st H bs = some h → bs.Nodup →
    (∀ b ∈ bs, ∃ f cs, look st.heap b = some (f, .box cs) ∧ Qz H.objs H.boxes (b + 1) 0 cs = true ∧ look h b = some (f, .box (Sh H.objs (b + 1) 0 cs))) ∧ (∀ n fo, look h n = some fo → n ∈ bs)
  | [], h, hs, _ => by
    simp only [Sk, As5] at hs
    subst hs
    exact ⟨fun x hx => (by cases hx), fun n fo hl => (by cases hl)⟩
  | b :: bs, h, hs, hn => by
    simp only [Sk] at hs
    split at hs
    · rename_i f cs hl
      cases hc : Qz H.objs H.boxes (b + 1) 0 cs with
      | false => rw [hc] at hs; cases hs
      | true =>
        rw [hc, As2] at hs
        cases hb : Sk st H bs with
        | none => rw [hb] at hs; cases hs
        | some h' =>
          rw [hb] at hs
          simp only [As5] at hs
          subst hs
          simp only [List.nodup_cons] at hn
          obtain ⟨i1, i2⟩ := Vm hb hn.2
          refine ⟨fun c hc' => ?_, fun n fo hl' => ?_⟩
          · rcases List.mem_cons.1 hc' with rfl | hc'
            · exact ⟨f, cs, hl, hc, by simp [look]⟩
            · obtain ⟨f', cs', h1, h2, h3⟩ := i1 c hc'
              refine ⟨f', cs', h1, h2, ?_⟩
              have : b ≠ c := fun e => hn.1 (e ▸ hc')
              simp only [look, show (b == c) = false by simpa using this, As6]
              exact h3
          · simp only [look] at hl'
            by_cases e : b = n
            · rw [e]; exact List.mem_cons_self
            · rw [show (b == n) = false by simpa using e] at hl'
              exact List.mem_cons_of_mem _ (i2 n fo hl')
    · cases hs
theorem Zb {H : Ba} : ∀ (l : List DV) (k i : Nat), i < l.length → (Wi H k l).getD i .undef = (match Ke 0 (k + i) H.objs with | some nm => .oref nm | none => bif Lq (k + i) H.keep then l.getD i .undef else .undef)
  | [], k, i, h => by simp at h
  | d :: l, k, i, h => by
    cases i with
    | zero =>
      simp only [Wi, List.getD_cons_zero, Nat.add_zero]
      cases Ke 0 k H.objs <;> rfl
    | succ i =>
      have := Zb (H := H) l (k + 1) i (by simpa using h)
      simp only [Wi, List.getD_cons_succ, this]
      rw [show k + 1 + i = k + (i + 1) by omega]
theorem Oj {H : Ba} : ∀ (l : List DV) (k : Nat), (Wi H k l).length = l.length
  | [], k => rfl
  | d :: l, k => by simp [Wi, Oj l]
theorem W8 {H : Ba} : ∀ {l : List DV} {k i : Nat}, W9 H k l = true → i < l.length → Ke 0 (k + i) H.objs = none → Lq (k + i) H.keep = true → Ej 8 H.boxes (l.getD i .undef) = true
  | [], k, i, _, h, _, _ => by simp at h
  | d :: l, k, i, h, hi, h1, h2 => by
    simp only [W9, Atd, Bool.or_eq_true, Bool.not_eq_true'] at h
    cases i with
    | zero =>
      rcases h.1 with h | h | h
      · rw [Nat.add_zero] at h1; rw [h1] at h; cases h
      · rw [Nat.add_zero] at h2; rw [h2] at h; cases h
      · exact h
    | succ i =>
      rw [List.getD_cons_succ]
      exact W8 (k := k + 1) h.2 (by simpa using hi) (by rw [show k + 1 + i = k + (i + 1) by omega]; exact h1) (by rw [show k + 1 + i = k + (i + 1) by omega]; exact h2)
theorem Yi {c c' : Ctx} {w : World} {objs : List (Nat × Nat × Nat × OB)} {boxes : List Nat} {b : Nat} :
    ∀ (l : List DV) (vs : List Value) (k : Nat), Qz objs boxes b k l = true → A8 c w l vs →
    (∀ d v, Ej 8 boxes d = true → Ao c w d v → Ao c' w d v) → (∀ i nm d v, l[i]? = some d → Ke b (k + i) objs = some nm → Ao c w d v → Ao c' w (.oref nm) v) → A8 c' w (Sh objs b k l) vs
  | [], vs, k, _, h, _, _ => by rw [A8.Fy] at h; subst h; simp [Sh, A8]
  | d :: l, vs, k, hok, h, h1, h2 => by
    simp only [Qz, Atd, Bool.or_eq_true] at hok
    rw [A8.Co] at h
    obtain ⟨u, us, rfl, hu, hus⟩ := h
    simp only [Sh]
    rw [A8.Co]
    refine ⟨u, us, rfl, ?_, Yi l us (k + 1) hok.2 hus h1 fun i nm e v hi hn => h2 (i + 1) nm e v hi (by rw [show k + (i + 1) = k + 1 + i by omega]; exact hn)⟩
    cases hn : Ke b k objs with
    | some nm => exact h2 0 nm d u rfl hn hu
    | none =>
      rw [hn] at hok
      exact h1 d u (hok.1.resolve_left (by simp)) hu
end Go.Den
namespace Go.Den
open Go.RowKit (Below)
def Aq6 : OB → Nat
  | .recs _ sz _ => sz
  | _ => 1
def Jt (ob : OB) : Place := ⟨.live, .row (.slice none 0 0) (Aq6 ob)⟩
open Classical in
def N8 (st : St) (H : Ba) (A : Nat → Option Place) (n : Nat) : Option Place :=
  if n ∈ H.boxes then A n else
  match X4 n H.objs with
  | some x => match Sv st x with
    | .nil => some (Jt x.2.2.2)
    | .oref m => A m
    | _ => none
  | none => none
theorem Kg {st : St} {H : Ba} {A : Nat → Option Place} {n : Nat} {p : Place} (h : N8 st H A n = some p) :
    (n ∈ H.boxes ∧ A n = some p) ∨ (n ∉ H.boxes ∧ ∃ x ∈ H.objs, x.2.2.1 = n ∧ ((Sv st x = .nil ∧ p = Jt x.2.2.2) ∨ ∃ m, Sv st x = .oref m ∧ A m = some p)) := by
  unfold N8 at h
  by_cases hb : n ∈ H.boxes
  · rw [if_pos hb] at h; exact .inl ⟨hb, h⟩
  · rw [if_neg hb] at h
    refine .inr ⟨hb, ?_⟩
    cases hf : X4 n H.objs with
    | none => rw [hf] at h; cases h
    | some x =>
      rw [hf] at h
      obtain ⟨hx, hn⟩ := Uy hf
      refine ⟨x, hx, hn, ?_⟩
      simp only at h
      split at h
      · rename_i e; cases h; exact .inl ⟨e, rfl⟩
      · rename_i m e; exact .inr ⟨m, e, h⟩
      · cases h
theorem Pv {st : St} {x : Nat × Nat × Nat × OB} {s : Option Nat} {ob : OB} (h : Abf st x = some (s, ob)) :
    (Sv st x = .nil ∧ s = none ∧ ob = x.2.2.2 ∧ ((∃ e k, ob = .ints e k []) ∨ ∃ e sz, 0 < sz ∧ ob = .recs e sz [])) ∨
    (∃ m, Sv st x = .oref m ∧ s = some m ∧ look st.heap m = some (false, ob) ∧ ((∃ e k l, ob = .ints e k l) ∨ ∃ e sz l, ob = .recs e sz l)) := by
  unfold Abf at h
  split at h
  · rename_i hs
    left
    split at h
    · rename_i e k hx
      simp only [As5, Atb] at h
      exact ⟨hs, h.1.symm, by rw [hx]; exact h.2.symm, .inl ⟨e, k, h.2.symm⟩⟩
    · rename_i e sz hx
      cases hb : Nat.blt 0 sz with
      | false => rw [hb] at h; cases h
      | true =>
        rw [hb] at h
        simp only [As2, As5, Atb] at h
        exact ⟨hs, h.1.symm, by rw [hx]; exact h.2.symm, .inr ⟨e, sz, by simpa [Nat.blt_eq] using hb, h.2.symm⟩⟩
    · cases h
  · rename_i m hs
    right
    split at h
    · rename_i e k l hl
      simp only [As5, Atb] at h
      exact ⟨m, hs, h.1.symm, by rw [hl, h.2], .inl ⟨e, k, l, h.2.symm⟩⟩
    · rename_i e sz l hl
      simp only [As5, Atb] at h
      exact ⟨m, hs, h.1.symm, by rw [hl, h.2], .inr ⟨e, sz, l, h.2.symm⟩⟩
    · cases h
  · cases h
section
variable {S I0 : Nat → Prop} {B : Nat} {w0 : World}
theorem Aj1 {H : Ba} {st st1 : St} (h : Agj (some H) st = some st1) {a : Act} {w : World} (hh : E7 S I0 B w0 st a w) : E7 S I0 B w0 st1 a w := by
  obtain ⟨A, hA⟩ := hh
  simp only [Agj] at h
  cases hbd : Sk st H H.boxes with
  | none => rw [hbd] at h; cases h
  | some hb =>
  cases hod : Xb st H.objs with
  | none => rw [hbd, hod] at h; cases h
  | some r =>
  obtain ⟨ho, ns⟩ := r
  rw [hbd, hod] at h
  simp only at h
  cases hc : (Lb (H.boxes ++ H.objs.map (·.2.2.1)) && Lb ns && W9 H 0 st.tmps) with
  | false => rw [hc] at h; cases h
  | true =>
  rw [hc, As2, As5] at h
  subst h
  simp only [Atd] at hc
  obtain ⟨⟨hn, hns⟩, hok⟩ := hc
  have hnd := Jc hn
  rw [List.nodup_append] at hnd
  obtain ⟨hnb, hno, hdis⟩ := hnd
  obtain ⟨o1, o2, o3⟩ := Xa hod hno (Jc hns)
  obtain ⟨b1, b2⟩ := Vm hbd hnb
  have hnin : ∀ x ∈ H.objs, x.2.2.1 ∉ H.boxes := fun x hx e => hdis _ e _ (List.mem_map.2 ⟨x, hx, rfl⟩) rfl
  have hat : ∀ x ∈ H.objs, N8 st H A x.2.2.1 = match Sv st x with | .nil => some (Jt x.2.2.2) | .oref m => A m | _ => none := by
    intro x hx
    unfold N8
    rw [if_neg (hnin x hx), Tz hno hx]
  have hokc : ∀ b, (Bs I0 B A w).ok b → (Bs I0 B (N8 st H A) w).ok b := by
    rintro b ⟨h1, h2, h3⟩
    refine ⟨h1, h2, fun n p hp hl => ?_⟩
    rcases Kg hp with ⟨_, hp⟩ | ⟨_, x, _, _, ⟨_, rfl⟩ | ⟨m, _, hp⟩⟩
    · exact h3 n p hp hl
    · simp [Jt, Place.F9, Value.ownBlock]
    · exact h3 m p hp hl
  have hrefs : ∀ d v, Ej 8 H.boxes d = true → Ao (Bs I0 B A w) w d v → Ao (Bs I0 B (N8 st H A) w) w d v := by
    intro d v hd hv
    have hl : K6 ((Bs I0 B A w).only H.boxes) w (Bs I0 B (N8 st H A) w) w := by
     refine ⟨hokc, rfl, rfl, fun _ _ h => (by cases h), fun n p hp => ?_, fun _ _ _ => rfl, fun _ _ h => (by cases h)⟩
     simp only [Ctx.only] at hp
     split at hp
     · rename_i hnb'
       refine ⟨p, ?_, ?_⟩
       · show N8 st H A n = some p
         unfold N8
         rw [if_pos hnb']; exact hp
       · by_cases hpd : p.st = .dead
         · exact .inl hpd
         · exact .inr ⟨hpd, rfl⟩
     · cases hp
    exact Ao.Dd hl d v (Abc H.boxes 8 d v hd hv)
  have hbare : ∀ l rows, C2 (Bs I0 B A w).bare w l rows → C2 (Bs I0 B (N8 st H A) w).bare w l rows := fun l rows =>
    C2.Dd (c := (Bs I0 B A w).bare) (c' := (Bs I0 B (N8 st H A) w).bare) (w := w) (w' := w) ⟨hokc, rfl, rfl, fun _ _ h => (by cases h), fun _ _ h => (by cases h), fun _ _ _ => rfl, fun _ _ h => (by cases h)⟩ l rows
  have hnamed : ∀ x ∈ H.objs, ∀ v, Ao (Bs I0 B A w) w (Sv st x) v → Ao (Bs I0 B (N8 st H A) w) w (.oref x.2.2.1) v := by
    intro x hx v hv
    obtain ⟨s, ob, h1, _, _⟩ := o1 x hx
    have hax := hat x hx
    rcases Pv h1 with ⟨e, _⟩ | ⟨m, e, _⟩
    · rw [e] at hv hax
      simp only [Ao] at hv ⊢
      subst hv
      exact ⟨rfl, _, hax, .inr ⟨_, rfl⟩⟩
    · rw [e] at hv hax
      simp only [Ao] at hv ⊢
      obtain ⟨h1, p, hp, hd⟩ := hv
      exact ⟨h1, p, hax.trans hp, hd⟩
  refine ⟨N8 st H A, hA.defers, hA.size.trans (Oj _ _).symm, hA.below, hA.hB, hA.I0lt, fun n p hp => ?_, fun n p b hp hd hpb => ?_, fun n m p q b hp hq hpd hqd hpb hqb => ?_, fun t => ?_, fun b hb => ⟨(hA.kept b hb).1, (hA.kept b hb).2.1, fun n p hp hl hbk => by
    rcases Kg hp with ⟨_, hp⟩ | ⟨_, x, _, _, ⟨_, rfl⟩ | ⟨m, _, hp⟩⟩
    · exact (hA.kept b hb).2.2 n p hp hl hbk
    · simp [Jt, Place.F9, Value.ownBlock] at hbk
    · exact (hA.kept b hb).2.2 m p hp hl hbk⟩⟩
  · rcases Kg hp with ⟨hnb', hp⟩ | ⟨hnb', x, hx, rfl, hsrc⟩
    · obtain ⟨f, cs, h1, h2, h3⟩ := b1 n hnb'
      obtain ⟨fo, h4, h5⟩ := hA.obj n p hp
      rw [h1] at h4; cases h4
      refine ⟨(f, .box (Sh H.objs (n + 1) 0 cs)), by rw [M6, h3], ?_⟩
      obtain ⟨hst, b, e, cells, hk, hh, hl⟩ := h5
      refine ⟨hst, b, e, cells, hk, hh, Yi cs _ 0 h2 hl hrefs fun i nm d v hi hnm hv => ?_⟩
      obtain ⟨ob, hx⟩ := R5 hnm
      refine hnamed _ hx v ?_
      have : Sv st (n + 1, 0 + i, nm, ob) = d := by
        simp [Sv, h1, Atc, hi]
      rw [this]; exact hv
    · obtain ⟨s, ob, h1, h2, _⟩ := o1 x hx
      have hl : look (hb ++ ho) x.2.2.1 = some (false, ob) := by
        rw [M6]
        cases hq : look hb x.2.2.1 with
        | none => exact h2
        | some fo => exact absurd (b2 _ _ hq) hnb'
      refine ⟨_, hl, ?_⟩
      rcases Pv h1 with ⟨e, _, e2, hob⟩ | ⟨m, e, _, hlm, hob⟩
      · rcases hsrc with ⟨_, rfl⟩ | ⟨m, e', _⟩
        · rw [← e2]
          rcases hob with ⟨e, k, rfl⟩ | ⟨e, sz, hsz, rfl⟩
          · exact ⟨rfl, _, rfl, World.ownsRow_nil w B e 1⟩
          · exact ⟨rfl, hsz, _, [], rfl, by simp [C2], fun r hr => (by cases hr), World.ownsRow_nil w B e sz⟩
        · rw [e] at e'; cases e'
      · rcases hsrc with ⟨e', _⟩ | ⟨m', e', hp'⟩
        · rw [e] at e'; cases e'
        · rw [e] at e'; cases e'
          obtain ⟨fo, h4, h5⟩ := hA.obj m p hp'
          rw [hlm] at h4; cases h4
          rcases hob with ⟨e, k, l, rfl⟩ | ⟨e, sz, l, rfl⟩
          · exact h5
          · obtain ⟨i1, i2, sv, rows, i3, i4, i5, i6⟩ := h5
            exact ⟨i1, i2, sv, rows, i3, hbare _ _ i4, i5, i6⟩
  · rcases Kg hp with ⟨_, hp⟩ | ⟨_, x, hx, rfl, ⟨_, rfl⟩ | ⟨m, _, hp⟩⟩
    · exact hA.blkB n p b hp hd hpb
    · simp [Jt, Place.F9, Value.ownBlock] at hpb
    · exact hA.blkB m p b hp hd hpb
  · have isBox : ∀ n p, n ∈ H.boxes → A n = some p → ∃ b, p.kind = .box b := by
      intro n p hnb' hp
      obtain ⟨f, cs, h1, _, _⟩ := b1 n hnb'
      obtain ⟨fo, h4, h5⟩ := hA.obj n p hp
      rw [h1] at h4; cases h4
      obtain ⟨_, b, _, _, hk, _⟩ := h5
      exact ⟨b, hk⟩
    have isRow : ∀ x ∈ H.objs, ∀ m p, Sv st x = .oref m → A m = some p → ∃ sv sz, p.kind = .row sv sz := by
      intro x hx m p e hp
      obtain ⟨s, ob, h1, _, _⟩ := o1 x hx
      rcases Pv h1 with ⟨e', _⟩ | ⟨m', e', _, hlm, hob⟩
      · rw [e] at e'; cases e'
      · rw [e] at e'; cases e'
        obtain ⟨fo, h4, h5⟩ := hA.obj m p hp
        rw [hlm] at h4; cases h4
        rcases hob with ⟨e, k, l, rfl⟩ | ⟨e, sz, l, rfl⟩
        · obtain ⟨_, sv, hk, _⟩ := h5; exact ⟨sv, 1, hk⟩
        · obtain ⟨_, _, sv, _, hk, _⟩ := h5; exact ⟨sv, sz, hk⟩
    have same : ∀ m m' : Nat, ∀ p q : Place, A m = some p → A m' = some q → p.st ≠ .dead → q.st ≠ .dead → p.F9 = some b → q.F9 = some b → m = m' := fun m m' p q h1 h2 h3 h4 h5 h6 => hA.inj m m' p q b h1 h2 h3 h4 h5 h6
    rcases Kg hp with ⟨hnb', hp⟩ | ⟨_, x, hx, rfl, ⟨_, rfl⟩ | ⟨i, hi, hp⟩⟩
    · rcases Kg hq with ⟨_, hq⟩ | ⟨_, y, hy, rfl, ⟨_, rfl⟩ | ⟨j, hj, hq⟩⟩
      · exact same n m p q hp hq hpd hqd hpb hqb
      · simp [Jt, Place.F9, Value.ownBlock] at hqb
      · have e := same n j p q hp hq hpd hqd hpb hqb
        subst e
        rw [hp] at hq; cases hq
        obtain ⟨b', hk⟩ := isBox n p hnb' hp
        obtain ⟨sv, sz, hk'⟩ := isRow y hy n p hj hp
        rw [hk] at hk'; cases hk'
    · simp [Jt, Place.F9, Value.ownBlock] at hpb
    · rcases Kg hq with ⟨hmb, hq⟩ | ⟨_, y, hy, rfl, ⟨_, rfl⟩ | ⟨j, hj, hq⟩⟩
      · have e := same i m p q hp hq hpd hqd hpb hqb
        subst e
        rw [hp] at hq; cases hq
        obtain ⟨b', hk⟩ := isBox i p hmb hp
        obtain ⟨sv, sz, hk'⟩ := isRow x hx i p hi hp
        rw [hk] at hk'; cases hk'
      · simp [Jt, Place.F9, Value.ownBlock] at hqb
      · have e := same i j p q hp hq hpd hqd hpb hqb
        subst e
        obtain ⟨s, ob, h1, _, _⟩ := o1 x hx
        obtain ⟨s', ob', h1', _, _⟩ := o1 y hy
        have hs : s = some i := by
          rcases Pv h1 with ⟨e', _⟩ | ⟨m', e', e2, _⟩
          · rw [hi] at e'; cases e'
          · rw [hi] at e'; cases e'; exact e2
        have hs' : s' = some i := by
          rcases Pv h1' with ⟨e', _⟩ | ⟨m', e', e2, _⟩
          · rw [hj] at e'; cases e'
          · rw [hj] at e'; cases e'; exact e2
        subst hs hs'
        rw [o3 x hx y hy i ob ob' h1 h1']
  · rcases Nat.lt_or_ge t st.tmps.length with hlt | hge
    · rw [Zb st.tmps 0 t hlt]
      cases hnm : Ke 0 (0 + t) H.objs with
      | some nm =>
        obtain ⟨ob, hx⟩ := R5 hnm
        refine hnamed _ hx _ ?_
        have : Sv st (0, 0 + t, nm, ob) = st.tmps.getD t .undef := by simp [Sv]
        rw [this]; exact hA.tmps t
      | none =>
        simp only
        cases hk : Lq (0 + t) H.keep with
        | true => exact hrefs _ _ (W8 hok hlt hnm hk) (hA.tmps t)
        | false => simp only [As6, Ao]
    · rw [Atc, List.getElem?_eq_none (by rw [Oj]; exact hge)]
      simp only [Option.getD_none, Ao]
theorem Anf {H : Ba} {st st1 : St} (h : canon (some H) st = some st1) {a : Act} {w : World} (hh : E7 S I0 B w0 st a w) : E7 S I0 B w0 st1 a w := Aj1 (H := Ap3 st H) h hh
end
end Go.Den
namespace Go.Den
open Go.RowKit (Below)
section
variable {P : Program} {E : Env} {S I0 : Nat → Prop} {B : Nat} {w0 : World}
theorem Af6 {keep : Option (List Nat)} {st : St} (t : Nat) : (forget keep st).tmps.getD t .undef = st.tmps.getD t .undef ∨ (forget keep st).tmps.getD t .undef = .undef := by
  cases keep with
  | none => exact .inl rfl
  | some ks =>
    simp only [forget, Atc, List.getElem?_map, List.getElem?_zipIdx]
    cases st.tmps[t]? with
    | none => exact .inl rfl
    | some d =>
      simp only [Option.map_some, Option.getD_some]
      cases ks.contains (0 + t)
      · exact .inr rfl
      · exact .inl rfl
theorem Y4 {keep : Option (List Nat)} {st : St} : (forget keep st).tmps.length = st.tmps.length := by
  cases keep <;> simp [forget]
theorem Ad6 {keep : Option (List Nat)} {st : St} : (forget keep st).heap = st.heap := by
  cases keep <;> rfl
theorem E7.forget {keep : Option (List Nat)} {st : St} {a : Act} {w : World} (h : E7 S I0 B w0 st a w) : E7 S I0 B w0 (forget keep st) a w := by
  obtain ⟨A, h⟩ := h
  refine ⟨A, h.defers, h.size.trans Y4.symm, h.below, h.hB, h.I0lt, by rw [Ad6]; exact h.obj, h.blkB, h.inj, fun t => ?_, h.kept⟩
  rcases Af6 (keep := keep) (st := st) t with e | e
  · rw [e]; exact h.tmps t
  · rw [e]; simp only [Ao]
def Anu {β : Type} (P : Program) (S I0 : Nat → Prop) (B : Nat) (w0 : World) (r : β) (c : Code) (body : St → (St → Option β) → (Nat → St → Option β) → (St → Option β) → Option β) : Prop :=
  ∀ (st : St) (Kn : St → Option β) (Kx : Nat → St → Option β) (Kr : St → Option β), body st Kn Kx Kr = some r → ∀ (a : Act) (w : World), E7 S I0 B w0 st a w → ∀ Q : Exit → Act → World → Prop,
    (∀ st a w, Kn st = some r → E7 S I0 B w0 st a w → Q .normal a w) → (∀ id st a w, Kx id st = some r → E7 S I0 B w0 st a w → Q (.exit id) a w) →
    (∀ st a w, Kr st = some r → E7 S I0 B w0 st a w → Q .ret a w) → c.wp P Q a w
theorem Aad {H : Option Ba} {st st1 : St} (hc : canon H st = some st1) {a : Act} {w : World} (hh : E7 S I0 B w0 st a w) : E7 S I0 B w0 st1 a w := by
  cases H with
  | none => simp only [canon, As5] at hc; subst hc; exact hh
  | some H => exact Anf hc hh
theorem Ad2 {β : Type} {r : β} {c : Code} {body : St → (St → Option β) → (Nat → St → Option β) → (St → Option β) → Option β} (hb : Anu P S I0 B w0 r c body) {H : Option Ba} {Kx : Nat → St → Option β} {Kr : St → Option β}
    {Q : Exit → Act → World → Prop} (hx : ∀ id st a w, Kx id st = some r → E7 S I0 B w0 st a w → Q (.exit id) a w) (hr : ∀ st a w, Kr st = some r → E7 S I0 B w0 st a w → Q .ret a w) :
    ∀ (n : Nat) (st : St), Xv H body n st Kx Kr = some r → ∀ a w, E7 S I0 B w0 st a w → Code.rounds P c Q n a w
  | 0, st, h, _, _, _ => by simp [Xv] at h
  | n + 1, st, h, a, w, hh => by
    simp only [Xv] at h
    rw [rounds_succ]
    refine hb st _ Kx Kr h a w hh _ (fun st2 a2 w2 hk hh2 => ?_) (fun id st2 a2 w2 hk hh2 => hx id st2 a2 w2 hk hh2) (fun st2 a2 w2 hk hh2 => hr st2 a2 w2 hk hh2)
    cases hc : canon H st2 with
    | none => rw [hc] at hk; cases hk
    | some st3 =>
      rw [hc] at hk
      exact Ad2 hb hx hr n st3 hk a2 w2 (Aad hc hh2)
theorem Ao7 {β : Type} {r : β} {c : Code} {body : St → (St → Option β) → (Nat → St → Option β) → (St → Option β) → Option β} (hb : Anu P S I0 B w0 r c body) {H : Option Ba} {Kx : Nat → St → Option β} {Kr : St → Option β}
    {Q : Exit → Act → World → Prop} (hx : ∀ id st a w, Kx id st = some r → E7 S I0 B w0 st a w → Q (.exit id) a w) (hr : ∀ st a w, Kr st = some r → E7 S I0 B w0 st a w → Q .ret a w)
    (n : Nat) (st : St) (h : iter H body n st Kx Kr = some r) (a : Act) (w : World) (hh : E7 S I0 B w0 st a w) : Code.rounds P c Q n a w := by
  unfold iter at h
  cases hc : canon H st with
  | none => rw [hc] at h; cases h
  | some st1 =>
    rw [hc] at h
    exact Ad2 hb hx hr n st1 h a w (Aad hc hh)
theorem Qc {β : Type} (he : J6 P E) (fuel : Nat) (r : β) : ∀ (c : Code) (b : Nat), Anu P S I0 B w0 r c (den E fuel b c)
  | .skip, b => fun st Kn Kx Kr h a w hh Q hn hx hr => by
    simp only [den] at h
    exact wp_skip (hn st a w h hh)
  | .label l, b => fun st Kn Kx Kr h a w hh Q hn hx hr => by
    simp only [den] at h
    exact wp_label (hn st a w h hh)
  | .region id ops draw, b => fun st Kn Kx Kr h a w hh Q hn hx hr => by
    simp only [den] at h
    have reg : ∀ st, Ada E ops draw Kn st = some r → E7 S I0 B w0 st a w → (Code.region id ops draw).wp P Q a w := by
      intro st h hh
      cases draw with
      | true => exact Am1 he h hh hn
      | false =>
        simp only [Ada, As6] at h
        have := Ahc he ops.toList 0 _ (fun j => by simp) h a w hh hn
        rw [Array.length_toList, ← List.range_eq_range'] at this
        exact wp_region this
    cases hl : E.live id with
    | none => rw [hl] at h; exact reg st h hh
    | some ks =>
      rw [hl] at h
      simp only [Zd] at h
      exact reg _ h hh.forget
  | .seq x y, b => fun st Kn Kx Kr h a w hh Q hn hx hr => by
    simp only [den] at h
    refine wp_seq (Qc he fuel r x b st _ Kx Kr h a w hh _ (fun st' a' w' hk hh' => ?_) (fun id st' a' w' hk hh' => hx id st' a' w' hk hh') (fun st' a' w' hk hh' => hr st' a' w' hk hh'))
    exact Qc he fuel r y b st' Kn Kx Kr hk a' w' hh' Q hn hx hr
  | .cond c x y, b => fun st Kn Kx Kr h a w hh Q hn hx hr => by
    simp only [den] at h
    cases hv : Ha st.tmps c with
    | bool t =>
      rw [hv] at h
      simp only at h
      have hev : a.eval c = .bool t := by
        obtain ⟨A, hA⟩ := hh
        have : Ao (Bs I0 B A w) w (Ha st.tmps c) (a.eval c) := by
          cases c with
          | tmp t => exact hA.tmps t
          | const v => exact Aaa v
          | global g => simp only [Ha, Ao]
          | func f => simp [Ha] at hv
        rw [hv] at this
        simpa only [Ao] using this
      refine wp_cond hev ?_
      cases t with
      | true => exact Qc he fuel r x b st Kn Kx Kr h a w hh Q hn hx hr
      | false => exact Qc he fuel r y b st Kn Kx Kr h a w hh Q hn hx hr
    | _ => rw [hv] at h; cases h
  | .block id c, b => fun st Kn Kx Kr h a w hh Q hn hx hr => by
    simp only [den] at h
    refine wp_block (Qc he fuel r c id st Kn _ Kr h a w hh _ (fun st' a' w' hk hh' => hn st' a' w' hk hh') (fun id' st' a' w' hk hh' => ?_) (fun st' a' w' hk hh' => hr st' a' w' hk hh'))
    simp only [Exit.inBlock]
    by_cases e : id' = id
    · rw [if_pos e]
      rw [show (id' == id) = true by simpa using e] at hk
      exact hn st' a' w' hk hh'
    · rw [if_neg e]
      rw [show (id' == id) = false by simpa using e] at hk
      exact hx id' st' a' w' hk hh'
  | .loop c, b => fun st Kn Kx Kr h a w hh Q hn hx hr => by
    simp only [den] at h
    exact wp_loop_rounds fuel (Ao7 (Qc he fuel r c b) hx hr fuel st h a w hh)
  | .scope c, b => fun st Kn Kx Kr h a w hh Q hn hx hr => by
    simp only [den] at h
    exact wp_scope_straight (Qc he fuel r c b st Kn Kx Kr h a w hh _ (fun st' a' w' hk hh' => hn st' a' w' hk hh') (fun id st' a' w' hk hh' => hx id st' a' w' hk hh') (fun st' a' w' hk hh' => hr st' a' w' hk hh'))
  | .exit id, b => fun st Kn Kx Kr h a w hh Q hn hx hr => by
    simp only [den] at h
    exact wp_exit (hx id st a w h hh)
  | .ret, b => fun st Kn Kx Kr h a w hh Q hn hx hr => by
    simp only [den] at h
    exact wp_ret (hr st a w h hh)
  | .rangeFunc .., b => fun st Kn Kx Kr h => by simp [den] at h
  | .goto l, b => fun st Kn Kx Kr h => by simp [den] at h
  | .refuse s, b => fun st Kn Kx Kr h => by simp [den] at h
end
end Go.Den
namespace Go.Den
open Go.RowKit (Below)
def Alk : List Value → Value
  | [v] => v
  | vs => .tuple vs.toArray
def Uj (tmps : Array Value) : ResultVar → Sem Value
  | .tmp t => pure (tmps.getD t undef)
  | .cell a t => do loadVar t (← asAddr (tmps.getD a undef))
section
variable {P : Program} {E : Env} {S I0 : Nat → Prop} {B : Nat} {w0 : World} {A : Nat → Option Place}
theorem Afh {t : TypeId} {va v : Value} {w : World} (h : (Instr.loadAt t va).run P w = .ok v w) : (do loadVar t (← asAddr va) : Sem Value).run P w = .ok v w := by
  unfold Instr.loadAt at h
  cases va with
  | pointer a =>
    cases a with
    | none => simp [Instr.sureAddr] at h
    | some a =>
      simp only [Instr.sureAddr, asAddr] at h ⊢
      exact h
  | _ => simp [Instr.sureAddr] at h
theorem Ain (hty : ∀ t ti, E.ty t = some ti → B8 P t ti) {st : St} {a : Act} {w : World} (hA : I6 S I0 B w0 A (look st.heap) (fun t => st.tmps.getD t .undef) st.tmps.length a w)
    {r : ResultVar} {d : DV} (h1 : Wy E st r = some d) : ∃ v, Ao (Bs I0 B A w) w d v ∧ (Uj a.tmps r).run P w = .ok v w := by
  cases r with
  | tmp t =>
    simp only [Wy, As5] at h1
    subst h1
    exact ⟨_, hA.tmps t, by simp [Uj]⟩
  | cell x t =>
    simp only [Wy] at h1
    cases hT : E.ty t with
    | none => simp [hT] at h1
    | some ti =>
      rw [hT, Ata] at h1
      cases hl : Zy st.heap ti (st.tmps.getD x .undef) with
      | none => rw [hl] at h1; cases h1
      | some q =>
        rw [hl, Ata] at h1
        cases hq : q.req with
        | false => rw [hq] at h1; cases h1
        | true =>
          rw [hq, As2, As5] at h1
          subst h1
          have hm : Mem I0 B A st.heap w := hA.mem fun n p fo _ hl => hl
          obtain ⟨v, hr, hv⟩ := Adt hm (hty _ _ hT) (hA.tmps x) hl hq
          exact ⟨v, hv, Afh hr⟩
theorem Zl (hty : ∀ t ti, E.ty t = some ti → B8 P t ti) {st : St} {a : Act} {w : World} (hA : I6 S I0 B w0 A (look st.heap) (fun t => st.tmps.getD t .undef) st.tmps.length a w) :
    ∀ (rs : List ResultVar) (ds : List DV), R1 E st rs = some ds → ∃ vs : List Value, A8 (Bs I0 B A w) w ds vs ∧ (rs.mapM (Uj a.tmps)).run P w = .ok vs w
  | [], ds, h => by
    simp only [R1, As5] at h; subst h
    exact ⟨[], by simp [A8], rfl⟩
  | r :: rs, ds, h => by
    simp only [R1] at h
    cases h1 : Wy E st r with
    | none => simp [h1] at h
    | some d =>
      cases h2 : R1 E st rs with
      | none => simp [h1, h2] at h
      | some ds' =>
        simp only [h1, h2, Ata, As5] at h
        subst h
        obtain ⟨vs, i1, i2⟩ := Zl hty hA rs ds' h2
        obtain ⟨v, hv, hr⟩ := Ain hty hA h1
        refine ⟨v :: vs, by rw [A8.Co]; exact ⟨v, vs, rfl, hv, i1⟩, ?_⟩
        simp only [List.mapM_cons, Sem.run_bind, hr, Result.andThen_ok, i2, Sem.run_pure]
theorem Ac5 {fn : Func} {tmps : Array Value} {w : World} {vs : List Value} (h : (fn.results.toList.mapM (Uj tmps)).run P w = .ok vs w) :
    (results fn tmps).run P w = .ok (Alk vs) w := by
  have h' : (fn.results.mapM (Uj tmps)).run P w = .ok vs.toArray w := by
    rw [Array.mapM_eq_mapM_toList]
    simp only [Sem.run_map, h, Result.andThen_ok]
  have e : results fn tmps = (do let vs ← fn.results.mapM (Uj tmps); pure (if h : vs.size = 1 then vs[0] else .tuple vs)) := by
    unfold results
    congr 2
  rw [e]
  simp only [Sem.run_bind, h', Result.andThen_ok, Sem.run_pure]
  congr 1
  match vs with
  | [] => rfl
  | [v] => rfl
  | v :: u :: us => simp [Alk]
def Me (h : Dn) (f : Nat) (l : List DV) : Option (List DV × List Nat × List Nat) :=
  l.foldr (fun d acc => (Fw h f d).bind fun (x, ns, os) => acc.bind fun (xs, ms, ps) => some (x :: xs, ns ++ ms, os ++ ps)) (some ([], [], []))
theorem Um {h : Dn} {f : Nat} {d : DV} {l : List DV} {r : List DV × List Nat × List Nat} (hh : Me h f (d :: l) = some r) :
    ∃ x ns os xs ms ps, Fw h f d = some (x, ns, os) ∧ Me h f l = some (xs, ms, ps) ∧ r = (x :: xs, ns ++ ms, os ++ ps) := by
  have e : Me h f (d :: l) = (Fw h f d).bind fun (x, ns, os) => (Me h f l).bind fun (xs, ms, ps) => some (x :: xs, ns ++ ms, os ++ ps) := rfl
  rw [e] at hh
  cases h1 : Fw h f d with
  | none => simp [h1] at hh
  | some a =>
    obtain ⟨x, ns, os⟩ := a
    cases h2 : Me h f l with
    | none => simp [h1, h2] at hh
    | some b =>
      obtain ⟨xs, ms, ps⟩ := b
      simp only [h1, h2, Ata, As5] at hh
      exact ⟨x, ns, os, xs, ms, ps, rfl, rfl, hh.symm⟩
def Kw (A : Nat → Option Place) (OS : List Nat) (i : Nat) : Option Nat :=
  if i ∈ OS then match A i with
    | some p => if p.st = .live then p.F9 else none
    | none => none
  else none
theorem Nz {OS : List Nat} {i b : Nat} (h : Kw A OS i = some b) : i ∈ OS ∧ ∃ p, A i = some p ∧ p.st = .live ∧ p.F9 = some b := by
  unfold Kw at h
  split at h
  · cases hA : A i with
    | none => rw [hA] at h; cases h
    | some p =>
      rw [hA] at h
      simp only at h
      split at h
      · exact ⟨‹_›, p, rfl, ‹_›, h⟩
      · cases h
  · cases h
theorem Adh {OS : List Nat} {i b : Nat} {p : Place} (h : i ∈ OS) (hp : A i = some p) (hl : p.st = .live) (hb : p.F9 = some b) : Kw A OS i = some b := by
  unfold Kw
  rw [if_pos h, hp]
  simp only [hl, if_true, hb]
theorem Ala {h : Dn} {w w' : World} (hm : Mem I0 w.heap.size A h w') {NS OS : List Nat} (hdis : ∀ n ∈ NS, n ∉ OS) :
    ∀ (f : Nat) (d : DV) (v : Value) d' ns os, Fw h f d = some (d', ns, os) → (∀ n ∈ ns, n ∈ NS) → (∀ n ∈ os, n ∈ OS) → Ao (Bs I0 w.heap.size A w') w' d v → Ao (Dk I0 (Kw A OS) w w') w' d' v := by
  have hok : ∀ b, (Bs I0 w.heap.size A w').ok b → (Dk I0 (Kw A OS) w w').ok b := by
    rintro b ⟨h1, h2, h3⟩
    refine ⟨h1, h2, fun i hi => ?_⟩
    obtain ⟨_, p, hp, hl, hb⟩ := Nz hi
    exact h3 i p hp hl hb
  have hbare : ∀ l rows, C2 (Bs I0 w.heap.size A w').bare w' l rows → C2 (Dk I0 (Kw A OS) w w').bare w' l rows := fun l rows =>
    C2.Dd (c := (Bs I0 w.heap.size A w').bare) (c' := (Dk I0 (Kw A OS) w w').bare) (w := w') (w' := w') ⟨hok, rfl, rfl, fun _ _ h => (by cases h), fun _ _ h => (by cases h), fun _ _ _ => rfl, fun _ _ h => (by cases h)⟩ l rows
  have hleaf : ∀ d v, Ej 1 [] d = true → Ao (Bs I0 w.heap.size A w') w' d v → Ao (Dk I0 (Kw A OS) w w') w' d v := by
    intro d v hd hv
    have hl : K6 ((Bs I0 w.heap.size A w').only []) w' (Dk I0 (Kw A OS) w w') w' :=
      ⟨hok, rfl, rfl, fun _ _ h => (by cases h), fun n p hp => (by simp [Ctx.only] at hp), fun _ _ _ => rfl, fun _ _ h => (by cases h)⟩
    exact Ao.Dd hl d v (Abc [] 1 d v hd hv)
  have frozenBlk : ∀ n p, A n = some p → p.st ≠ .dead → (p.st ≠ .live ∨ n ∉ OS) → ∀ b, p.F9 = some b → (Dk I0 (Kw A OS) w w').F9 .fresh b := by
    intro n p hp hd hc b hb
    obtain ⟨h1, h2⟩ := hm.blkB n p b hp hd hb
    refine ⟨⟨h2, .inr h1, fun i hi => ?_⟩, rfl, h1⟩
    obtain ⟨hio, q, hq, hl, hqb⟩ := Nz hi
    have e := hm.inj n i p q b hp hq hd (by rw [hl]; simp) hb hqb
    subst e
    rw [hp] at hq; cases hq
    rcases hc with hc | hc
    · exact hc hl
    · exact hc hio
  intro f
  induction f with
  | zero => intro d v d' ns os h; simp [Fw] at h
  | succ f ih =>
    have all : ∀ (l : List DV) (vs : List Value) l' ns os, Me h f l = some (l', ns, os) → (∀ n ∈ ns, n ∈ NS) → (∀ n ∈ os, n ∈ OS) → A8 (Bs I0 w.heap.size A w') w' l vs → A8 (Dk I0 (Kw A OS) w w') w' l' vs := by
      intro l
      induction l with
      | nil =>
        intro vs l' ns os hr _ _ hv
        simp only [Me, List.foldr_nil, As5, Atb] at hr
        obtain ⟨rfl, _, _⟩ := hr
        rw [A8.Fy] at hv ⊢; exact hv
      | cons d l ihl =>
        intro vs l' ns os hr h1 h2 hv
        obtain ⟨x, n1, o1, xs, ms, ps, e1, e2, e⟩ := Um hr
        cases e
        rw [A8.Co] at hv ⊢
        obtain ⟨u, us, e, hu, hus⟩ := hv
        exact ⟨u, us, e, ih d u x n1 o1 e1 (fun n hn => h1 n (List.mem_append.2 (.inl hn))) (fun n hn => h2 n (List.mem_append.2 (.inl hn))) hu,
          ihl us xs ms ps e2 (fun n hn => h1 n (List.mem_append.2 (.inr hn))) (fun n hn => h2 n (List.mem_append.2 (.inr hn))) hus⟩
    intro d v d' ns os hr hns hos hv
    cases d with
    | agg l =>
      have hr : (Me h f l).bind (fun (l, ns, os) => some (DV.agg l, ns, os)) = some (d', ns, os) := hr
      cases hl : Me h f l with
      | none => rw [hl] at hr; cases hr
      | some r =>
        obtain ⟨l', ns', os'⟩ := r
        rw [hl] at hr
        simp only [Ata, As5, Atb] at hr
        obtain ⟨rfl, rfl, rfl⟩ := hr
        simp only [Ao] at hv ⊢
        obtain ⟨vs, e, h1⟩ := hv
        exact ⟨vs, e, all l _ l' _ _ hl hns hos h1⟩
    | tup l =>
      have hr : (Me h f l).bind (fun (l, ns, os) => some (DV.tup l, ns, os)) = some (d', ns, os) := hr
      cases hl : Me h f l with
      | none => rw [hl] at hr; cases hr
      | some r =>
        obtain ⟨l', ns', os'⟩ := r
        rw [hl] at hr
        simp only [Ata, As5, Atb] at hr
        obtain ⟨rfl, rfl, rfl⟩ := hr
        simp only [Ao] at hv ⊢
        obtain ⟨vs, e, h1⟩ := hv
        exact ⟨vs, e, all l _ l' _ _ hl hns hos h1⟩
    | oref n =>
      simp only [Ao] at hv
      obtain ⟨hone, p, hp, hd⟩ := hv
      simp only [Fw] at hr
      split at hr
      · rename_i e k l hl
        simp only [As5, Atb] at hr
        obtain ⟨rfl, rfl, rfl⟩ := hr
        obtain ⟨hst, sv, hk, ho⟩ := D9 hm hp hl
        obtain ⟨size, hk'⟩ := hd.resolve_left (B1 hst)
        rw [hk] at hk'; cases hk'
        simp only [Ao]
        exact ⟨ho, fun b hb => Adh (hos n (by simp)) hp hst (by unfold Place.F9; rw [hk]; exact hb)⟩
      · rename_i e sz l hl
        simp only [As5, Atb] at hr
        obtain ⟨rfl, rfl, rfl⟩ := hr
        obtain ⟨hst, hsz, sv, rows, hk, hrr, hlen, ho⟩ := El hm hp hl
        obtain ⟨size, hk'⟩ := hd.resolve_left (B1 hst)
        rw [hk] at hk'; cases hk'
        simp only [Ao]
        exact ⟨rows, hbare _ _ hrr, hlen, ho, fun b hb => Adh (hos n (by simp)) hp hst (by unfold Place.F9; rw [hk]; exact hb)⟩
      · rename_i e k l hl
        simp only [As5, Atb] at hr
        obtain ⟨rfl, rfl, rfl⟩ := hr
        obtain ⟨hst, sv, hk, ho⟩ := D9 hm hp hl
        obtain ⟨size, hk'⟩ := hd.resolve_left (B1 hst)
        rw [hk] at hk'; cases hk'
        have hst' : p.st = .frozen := hst
        have := Kc hk ho (Fk ho) (ok := (Dk I0 (Kw A OS) w w').F9 .fresh) (frozenBlk n p hp (B1 hst) (.inl (by rw [hst']; simp)))
        simp only [List.drop_zero, List.take_length] at this
        simp only [Ao]
        exact this
      · rename_i e sz l hl
        simp only [As5, Atb] at hr
        obtain ⟨rfl, rfl, rfl⟩ := hr
        obtain ⟨hst, hsz, sv, rows, hk, hrr, hlen, ho⟩ := El hm hp hl
        obtain ⟨size, hk'⟩ := hd.resolve_left (B1 hst)
        rw [hk] at hk'; cases hk'
        have hst' : p.st = .frozen := hst
        have := Kb hk (hbare _ _ hrr) hlen ho (Fk ho) (ok := (Dk I0 (Kw A OS) w w').F9 .fresh) (frozenBlk n p hp (B1 hst) (.inl (by rw [hst']; simp)))
        simp only [List.drop_zero, List.take_length] at this
        simp only [Ao]
        exact this
      · cases hr
    | sref n off len =>
      simp only [Ao] at hv
      obtain ⟨hone, p, hp, hd⟩ := hv
      simp only [Fw] at hr
      split at hr
      · rename_i fz e k l hl
        simp only [As5, Atb] at hr
        obtain ⟨rfl, rfl, rfl⟩ := hr
        obtain ⟨hst, sv, hk, ho⟩ := D9 hm hp hl
        obtain ⟨sv', size, hk', hs⟩ := hd.resolve_left (B1 hst)
        rw [hk] at hk'; cases hk'
        have := Kc hk ho hs (ok := (Dk I0 (Kw A OS) w w').F9 .fresh) (frozenBlk n p hp (B1 hst) (.inr (hdis n (hns n (by simp)))))
        simp only [Ao]
        exact this
      · rename_i fz e sz l hl
        simp only [As5, Atb] at hr
        obtain ⟨rfl, rfl, rfl⟩ := hr
        obtain ⟨hst, hsz, sv, rows, hk, hrr, hlen, ho⟩ := El hm hp hl
        obtain ⟨sv', size, hk', hs⟩ := hd.resolve_left (B1 hst)
        rw [hk] at hk'; cases hk'
        have := Kb hk (hbare _ _ hrr) hlen ho hs (ok := (Dk I0 (Kw A OS) w w').F9 .fresh) (frozenBlk n p hp (B1 hst) (.inr (hdis n (hns n (by simp)))))
        simp only [Ao]
        exact this
      · cases hr
    | ptr n i j => simp [Fw] at hr
    | fn g a b => simp [Fw] at hr
    | gd g d => simp [Fw] at hr
    | undef => simp [Fw] at hr
    | cellp cs => simp [Fw] at hr
    | nil => simp only [Fw, As5, Atb] at hr; obtain ⟨rfl, _, _⟩ := hr; exact hleaf _ _ rfl hv
    | bool b => simp only [Fw, As5, Atb] at hr; obtain ⟨rfl, _, _⟩ := hr; exact hleaf _ _ rfl hv
    | int k n => simp only [Fw, As5, Atb] at hr; obtain ⟨rfl, _, _⟩ := hr; exact hleaf _ _ rfl hv
    | fl n => simp only [Fw, As5, Atb] at hr; obtain ⟨rfl, _, _⟩ := hr; exact hleaf _ _ rfl hv
    | nb n => simp only [Fw, As5, Atb] at hr; obtain ⟨rfl, _, _⟩ := hr; exact hleaf _ _ rfl hv
    | ints g k l => simp only [Fw, As5, Atb] at hr; obtain ⟨rfl, _, _⟩ := hr; exact hleaf _ _ rfl hv
    | recs g k l => simp only [Fw, As5, Atb] at hr; obtain ⟨rfl, _, _⟩ := hr; exact hleaf _ _ rfl hv
end
end Go.Den
namespace Go.Den
open Go.RowKit (Below)
theorem Ag6 {S : Nat → Prop} {P : Program} {E : Env} (hty : ∀ t ti, E.ty t = some ti → B8 P t ti) {I : Nat → Prop} {fn : Func} {st : St} {out : DV} (h : Yt E fn st = some out) {w w' : World} {a : Act} (hh : E7 S I w.heap.size w st a w') :
    ∃ v own, (results fn a.tmps).run P w' = .ok v w' ∧ Below w.heap.size w w' ∧ Ah3 own w w' ∧ Ao (Dk I own w w') w' out v := by
  obtain ⟨A, hA⟩ := hh
  unfold Yt at h
  cases hds : R1 E st fn.results.toList with
  | none => simp [hds] at h
  | some ds =>
    rw [hds, Ata] at h
    obtain ⟨vs, hv, hr⟩ := Zl hty hA _ ds hds
    have hm : Mem I w.heap.size A st.heap w' := hA.mem fun n p fo _ hl => hl
    have hone : Ao (Bs I w.heap.size A w') w' (All ds) (Alk vs) := by
      match ds, vs, hv with
      | [], vs, hv =>
        rw [A8.Fy] at hv; subst hv
        simp only [Ao, All, Alk]
        exact ⟨#[], rfl, by simp [A8]⟩
      | [d], vs, hv =>
        rw [A8.Co] at hv
        obtain ⟨u, us, rfl, h1, h2⟩ := hv
        rw [A8.Fy] at h2; subst h2
        exact h1
      | d :: d' :: ds, vs, hv =>
        have hv' := hv
        rw [A8.Co] at hv
        obtain ⟨u, us, rfl, h1, h2⟩ := hv
        rw [A8.Co] at h2
        obtain ⟨u', us', rfl, h3, h4⟩ := h2
        simp only [Ao, All, Alk]
        exact ⟨_, rfl, by simpa using hv'⟩
    cases hrs : Fw st.heap 6 (All ds) with
    | none => rw [hrs] at h; cases h
    | some r =>
      obtain ⟨d, ns, os⟩ := r
      rw [hrs, Ata] at h
      simp only at h
      cases hc : (ns.all fun n => !(os.contains n)) with
      | false => rw [hc] at h; cases h
      | true =>
        rw [hc, As2, As5] at h
        subst h
        have hdis : ∀ n ∈ ns, n ∉ os := fun n hn hno => by
          have := List.all_eq_true.1 hc n hn
          simp [hno] at this
        refine ⟨_, Kw A os, Ac5 hr, hA.below, ⟨fun i b hb => ?_, fun i j b hi hj => ?_⟩, Ala hm hdis 6 _ _ _ ns os hrs (fun _ h => h) (fun _ h => h) hone⟩
        · obtain ⟨_, p, hp, hl, hpb⟩ := Nz hb
          exact hm.blkB i p b hp (by rw [hl]; simp) hpb
        · obtain ⟨_, p, hp, hl, hpb⟩ := Nz hi
          obtain ⟨_, q, hq, hl', hqb⟩ := Nz hj
          exact hm.inj i j p q b hp hq (by rw [hl]; simp) (by rw [hl']; simp) hpb hqb
theorem Are {P : Program} {E : Env} (he : J6 P E) {fuel : Nat} {f : FuncId} {fn : Func} {body : Code} (hf : P.funcs[f]? = some fn) (hb : fn.body = some body) {args : List DV} {out : DV} (h : Bx E fuel fn body args = some out) : Nn P f args out := by
  intro w vals I hI hv
  refine calls_of_wp hf hb ?_
  unfold Bx at h
  have hlen : args.length = vals.size := by have := hv.length; simpa using this
  have hh : E7 (fun _ => False) I w.heap.size w ⟨args ++ List.replicate (fn.ntmps - args.length) .undef, []⟩ ⟨vals ++ Array.replicate (fn.ntmps - vals.size) undef, []⟩ w := by
    refine ⟨fun _ => none, rfl, by simp only [Array.size_append, Array.size_replicate, List.length_append, List.length_replicate]; omega, Below.refl _ _, Nat.le_refl _, hI, fun n p h => (by cases h), fun n p b h => (by cases h), fun n m p q b h => (by cases h), fun t => ?_, fun b h => h.elim⟩
    have hw : J4 (J2 I) (Bs I w.heap.size (fun _ => none) w) := ⟨fun b hb => ⟨hI b hb, .inl hb, fun n p h => (by cases h)⟩, rfl, fun _ => rfl, fun _ => rfl⟩
    have hl := A8.E2 hw _ _ hv
    rcases Nat.lt_or_ge t args.length with hlt | hge
    · obtain ⟨v, h1, h2⟩ := hl.getD t hlt
      simp only [Atc, List.getElem?_append_left hlt] at h2 ⊢
      have hlt' : t < vals.size := by omega
      have e : (vals ++ Array.replicate (fn.ntmps - vals.size) undef).getD t undef = v := by
        rw [Array.getD_eq_getD_getElem?, Array.getElem?_append_left hlt']
        rw [Array.getElem?_toList] at h1
        rw [h1]; rfl
      rw [e]; exact h2
    · rw [Atc, List.getElem?_append_right hge, List.getElem?_replicate]
      split <;> simp only [Option.getD_some, Option.getD_none, Ao]
  refine Qc he fuel out body 0 _ _ _ _ h _ _ hh _ (fun st a w' hk hh' => ?_) (fun id st a w' hk => by cases hk) (fun st a w' hk hh' => ?_)
  · obtain ⟨v, own, h1, h2, h3, h4⟩ := Ag6 he.ty hk hh'
    have hd : a.defers = [] := by obtain ⟨A, hA⟩ := hh'; exact hA.defers
    exact ⟨hd, v, h1, v, own, rfl, h2, h3, h4⟩
  · obtain ⟨v, own, h1, h2, h3, h4⟩ := Ag6 he.ty hk hh'
    have hd : a.defers = [] := by obtain ⟨A, hA⟩ := hh'; exact hA.defers
    exact ⟨hd, v, h1, v, own, rfl, h2, h3, h4⟩
end Go.Den
namespace Go.Den
open Go.RowKit (Below)
inductive AT where
  | b
  | i (k : IntKind)
  | s (k : IntKind)
  | fl
  | nb
  | st (l : List AT)
  | fn (g : FuncId) (l : List AT)
  | fm (g : FuncId) (l : List AT)
  | cp (l : List AT)
inductive Atom where
  | b (x : Bool)
  | i (x : Int)
  | l (x : List Int)
  | f (x : Nat)
def Aek : AT → DV → Option Atom
  | .b, .bool x => some (.b x)
  | .i k, .int k' x => bif decide (k = k') then some (.i x) else none
  | .s _, .nil => some (.l [])
  | .s k, .ints .arg k' l => bif decide (k = k') then some (.l l) else none
  | .fl, .fl n => some (.f n)
  | .nb, .nb n => some (.f n)
  | _, _ => none
def Yg : List AT → List DV → Option (List Atom)
  | [], [] => some []
  | t :: ts, d :: ds => match Aek t d with
    | some a => match Yg ts ds with
      | some as => some (a :: as)
      | none => none
    | none => none
  | _, _ => none
def Rj : List AT → List DV → Option (List Atom)
  | [], [] => some []
  | .cp l :: ts, .cellp cs :: ds => match Yg l cs with
    | some as => match Rj ts ds with
      | some bs => some (as ++ bs)
      | none => none
    | none => none
  | .st l :: ts, .agg cs :: ds => match Yg l cs with
    | some as => match Rj ts ds with
      | some bs => some (as ++ bs)
      | none => none
    | none => none
  | t :: ts, d :: ds => match Aek t d with
    | some a => match Rj ts ds with
      | some bs => some (a :: bs)
      | none => none
    | none => none
  | _, _ => none
def Mu : List AT → List DV → Option (List Atom)
  | [], [] => some []
  | .fm g l :: ts, .fn g' fs [] :: ds => bif Nat.beq g g' then
      match Rj l fs with
      | some as => match Mu ts ds with
        | some bs => some (as ++ bs)
        | none => none
      | none => none
    else none
  | .fn g l :: ts, .fn g' [] cs :: ds => bif Nat.beq g g' then
      match Rj l cs with
      | some as => match Mu ts ds with
        | some bs => some (as ++ bs)
        | none => none
      | none => none
    else none
  | .cp l :: ts, .cellp cs :: ds => match Rj l cs with
    | some as => match Mu ts ds with
      | some bs => some (as ++ bs)
      | none => none
    | none => none
  | .st l :: ts, .agg cs :: ds => match Rj l cs with
    | some as => match Mu ts ds with
      | some bs => some (as ++ bs)
      | none => none
    | none => none
  | t :: ts, d :: ds => match Aek t d with
    | some a => match Mu ts ds with
      | some bs => some (a :: bs)
      | none => none
    | none => none
  | _, _ => none
inductive Gb : List AT → List Atom → List DV → Prop
  | nil : Gb [] [] []
  | b {ts as ds} (x : Bool) : Gb ts as ds → Gb (.b :: ts) (.b x :: as) (.bool x :: ds)
  | i {ts as ds} (k : IntKind) (x : Int) : Gb ts as ds → Gb (.i k :: ts) (.i x :: as) (.int k x :: ds)
  | s {ts as ds} (k : IntKind) (x : List Int) : Gb ts as ds → Gb (.s k :: ts) (.l x :: as) (.ints .arg k x :: ds)
  | fl {ts as ds} (x : Nat) : Gb ts as ds → Gb (.fl :: ts) (.f x :: as) (.fl x :: ds)
  | nb {ts as ds} (x : Nat) : Gb ts as ds → Gb (.nb :: ts) (.f x :: as) (.nb x :: ds)
  | st {l ts as cs bs ds} : Gb l as cs → Gb ts bs ds → Gb (.st l :: ts) (as ++ bs) (.agg cs :: ds)
  | fn {g l ts as cs bs ds} : Gb l as cs → Gb ts bs ds → Gb (.fn g l :: ts) (as ++ bs) (.fn g [] cs :: ds)
  | fm {g l ts as cs bs ds} : Gb l as cs → Gb ts bs ds → Gb (.fm g l :: ts) (as ++ bs) (.fn g cs [] :: ds)
  | cp {l ts as cs bs ds} : Gb l as cs → Gb ts bs ds → Gb (.cp l :: ts) (as ++ bs) (.cellp cs :: ds)
theorem Alq {c : Ctx} {w : World} {k : IntKind} {v : Value} (h : Ao c w .nil v) : Ao c w (.ints .arg k []) v := by
  simp only [Ao] at h ⊢
  subst h
  exact ⟨none, 0, rfl, Nat.le_refl _, .inl trivial⟩
theorem Ab0 {t : AT} {d : DV} {a : Atom} (h : Aek t d = some a) : ∃ d', (∀ ts as ds, Gb ts as ds → Gb (t :: ts) (a :: as) (d' :: ds)) ∧ ∀ c w v, Ao c w d v → Ao c w d' v := by
  unfold Aek at h
  split at h
  · simp only [As5] at h; subst h
    exact ⟨_, fun _ _ _ he => .b _ he, fun _ _ _ h => h⟩
  · rename_i k k' x
    by_cases e : k = k'
    · subst e
      simp only [decide_true, As2, As5] at h; subst h
      exact ⟨_, fun _ _ _ he => .i _ _ he, fun _ _ _ h => h⟩
    · simp [e] at h
  · rename_i k
    simp only [As5] at h; subst h
    exact ⟨_, fun _ _ _ he => .s k _ he, fun _ _ _ h => Alq h⟩
  · rename_i k k' x
    by_cases e : k = k'
    · subst e
      simp only [decide_true, As2, As5] at h; subst h
      exact ⟨_, fun _ _ _ he => .s _ _ he, fun _ _ _ h => h⟩
    · simp [e] at h
  · simp only [As5] at h; subst h
    exact ⟨_, fun _ _ _ he => .fl _ he, fun _ _ _ h => h⟩
  · simp only [As5] at h; subst h
    exact ⟨_, fun _ _ _ he => .nb _ he, fun _ _ _ h => h⟩
  · cases h
theorem Abz : ∀ {ts : List AT} {ds : List DV} {as : List Atom}, Yg ts ds = some as → ∃ ds', Gb ts as ds' ∧ ∀ c w vs, A8 c w ds vs → A8 c w ds' vs
  | [], [], as, h => by
    simp only [Yg, As5] at h; subst h
    exact ⟨[], .nil, fun _ _ _ h => h⟩
  | t :: ts, d :: ds, as, h => by
    simp only [Yg] at h
    cases h1 : Aek t d with
    | none => rw [h1] at h; cases h
    | some a =>
      cases h2 : Yg ts ds with
      | none => rw [h1, h2] at h; cases h
      | some bs =>
        rw [h1, h2] at h
        simp only [As5] at h; subst h
        obtain ⟨d', i1, i2⟩ := Ab0 h1
        obtain ⟨ds', j1, j2⟩ := Abz h2
        refine ⟨d' :: ds', i1 _ _ _ j1, fun c w vs hv => ?_⟩
        rw [A8.Co] at hv ⊢
        obtain ⟨u, us, e, hu, hus⟩ := hv
        exact ⟨u, us, e, i2 _ _ _ hu, j2 _ _ _ hus⟩
  | [], _ :: _, as, h => by simp [Yg] at h
  | _ :: _, [], as, h => by simp [Yg] at h
theorem O6 : ∀ {ts : List AT} {ds : List DV} {as : List Atom}, Rj ts ds = some as → ∃ ds', Gb ts as ds' ∧ ∀ c w vs, A8 c w ds vs → A8 c w ds' vs
  | ts, ds, as, h => by
    unfold Rj at h
    split at h
    · simp only [As5] at h; subst h
      exact ⟨[], .nil, fun _ _ _ h => h⟩
    · rename_i l ts cs ds
      cases h1 : Yg l cs with
      | none => rw [h1] at h; cases h
      | some a =>
        cases h2 : Rj ts ds with
        | none => rw [h1, h2] at h; cases h
        | some bs =>
          rw [h1, h2] at h
          simp only [As5] at h; subst h
          obtain ⟨cs', i1, i2⟩ := Abz h1
          obtain ⟨ds', j1, j2⟩ := O6 h2
          refine ⟨.cellp cs' :: ds', .cp i1 j1, fun c w vs hv => ?_⟩
          rw [A8.Co] at hv ⊢
          obtain ⟨u, us, e, hu, hus⟩ := hv
          refine ⟨u, us, e, ?_, j2 _ _ _ hus⟩
          simp only [Ao] at hu ⊢
          obtain ⟨b, o, vs, e, hb, hh, hc⟩ := hu
          exact ⟨b, o, vs, e, hb, i2 _ _ _ hh, hc⟩
    · rename_i l ts cs ds
      cases h1 : Yg l cs with
      | none => rw [h1] at h; cases h
      | some a =>
        cases h2 : Rj ts ds with
        | none => rw [h1, h2] at h; cases h
        | some bs =>
          rw [h1, h2] at h
          simp only [As5] at h; subst h
          obtain ⟨cs', i1, i2⟩ := Abz h1
          obtain ⟨ds', j1, j2⟩ := O6 h2
          refine ⟨.agg cs' :: ds', .st i1 j1, fun c w vs hv => ?_⟩
          rw [A8.Co] at hv ⊢
          obtain ⟨u, us, e, hu, hus⟩ := hv
          refine ⟨u, us, e, ?_, j2 _ _ _ hus⟩
          simp only [Ao] at hu ⊢
          obtain ⟨vs, e, hh⟩ := hu
          exact ⟨vs, e, i2 _ _ _ hh⟩
    · rename_i t ts d ds _ _
      cases h1 : Aek t d with
      | none => rw [h1] at h; cases h
      | some a =>
        cases h2 : Rj ts ds with
        | none => rw [h1, h2] at h; cases h
        | some bs =>
          rw [h1, h2] at h
          simp only [As5] at h; subst h
          obtain ⟨d', i1, i2⟩ := Ab0 h1
          obtain ⟨ds', j1, j2⟩ := O6 h2
          refine ⟨d' :: ds', i1 _ _ _ j1, fun c w vs hv => ?_⟩
          rw [A8.Co] at hv ⊢
          obtain ⟨u, us, e, hu, hus⟩ := hv
          exact ⟨u, us, e, i2 _ _ _ hu, j2 _ _ _ hus⟩
    · cases h
theorem Nb : ∀ {ts : List AT} {ds : List DV} {as : List Atom}, Mu ts ds = some as → ∃ ds', Gb ts as ds' ∧ ∀ c w vs, A8 c w ds vs → A8 c w ds' vs
  | ts, ds, as, h => by
    unfold Mu at h
    split at h
    · simp only [As5] at h; subst h
      exact ⟨[], .nil, fun _ _ _ h => h⟩
    · rename_i g l ts g' cs ds
      cases hg : Nat.beq g g' with
      | false => rw [hg] at h; cases h
      | true =>
      rw [hg, As2] at h
      obtain rfl := Atk hg
      cases h1 : Rj l cs with
      | none => rw [h1] at h; cases h
      | some a =>
        cases h2 : Mu ts ds with
        | none => rw [h1, h2] at h; cases h
        | some bs =>
          rw [h1, h2] at h
          simp only [As5] at h; subst h
          obtain ⟨cs', i1, i2⟩ := O6 h1
          obtain ⟨ds', j1, j2⟩ := Nb h2
          refine ⟨.fn g cs' [] :: ds', .fm i1 j1, fun c w vs hv => ?_⟩
          rw [A8.Co] at hv ⊢
          obtain ⟨u, us, e, hu, hus⟩ := hv
          refine ⟨u, us, e, ?_, j2 _ _ _ hus⟩
          simp only [Ao] at hu ⊢
          obtain ⟨fs', vs, e, hf, hh⟩ := hu
          exact ⟨fs', vs, e, i2 _ _ _ hf, hh⟩
    · rename_i g l ts g' cs ds
      cases hg : Nat.beq g g' with
      | false => rw [hg] at h; cases h
      | true =>
      rw [hg, As2] at h
      obtain rfl := Atk hg
      cases h1 : Rj l cs with
      | none => rw [h1] at h; cases h
      | some a =>
        cases h2 : Mu ts ds with
        | none => rw [h1, h2] at h; cases h
        | some bs =>
          rw [h1, h2] at h
          simp only [As5] at h; subst h
          obtain ⟨cs', i1, i2⟩ := O6 h1
          obtain ⟨ds', j1, j2⟩ := Nb h2
          refine ⟨.fn g [] cs' :: ds', .fn i1 j1, fun c w vs hv => ?_⟩
          rw [A8.Co] at hv ⊢
          obtain ⟨u, us, e, hu, hus⟩ := hv
          refine ⟨u, us, e, ?_, j2 _ _ _ hus⟩
          simp only [Ao] at hu ⊢
          obtain ⟨fs', vs, e, hf, hh⟩ := hu
          exact ⟨fs', vs, e, hf, i2 _ _ _ hh⟩
    · rename_i l ts cs ds
      cases h1 : Rj l cs with
      | none => rw [h1] at h; cases h
      | some a =>
        cases h2 : Mu ts ds with
        | none => rw [h1, h2] at h; cases h
        | some bs =>
          rw [h1, h2] at h
          simp only [As5] at h; subst h
          obtain ⟨cs', i1, i2⟩ := O6 h1
          obtain ⟨ds', j1, j2⟩ := Nb h2
          refine ⟨.cellp cs' :: ds', .cp i1 j1, fun c w vs hv => ?_⟩
          rw [A8.Co] at hv ⊢
          obtain ⟨u, us, e, hu, hus⟩ := hv
          refine ⟨u, us, e, ?_, j2 _ _ _ hus⟩
          simp only [Ao] at hu ⊢
          obtain ⟨b, o, vs, e, hb, hh, hc⟩ := hu
          exact ⟨b, o, vs, e, hb, i2 _ _ _ hh, hc⟩
    · rename_i l ts cs ds
      cases h1 : Rj l cs with
      | none => rw [h1] at h; cases h
      | some a =>
        cases h2 : Mu ts ds with
        | none => rw [h1, h2] at h; cases h
        | some bs =>
          rw [h1, h2] at h
          simp only [As5] at h; subst h
          obtain ⟨cs', i1, i2⟩ := O6 h1
          obtain ⟨ds', j1, j2⟩ := Nb h2
          refine ⟨.agg cs' :: ds', .st i1 j1, fun c w vs hv => ?_⟩
          rw [A8.Co] at hv ⊢
          obtain ⟨u, us, e, hu, hus⟩ := hv
          refine ⟨u, us, e, ?_, j2 _ _ _ hus⟩
          simp only [Ao] at hu ⊢
          obtain ⟨vs, e, hh⟩ := hu
          exact ⟨vs, e, i2 _ _ _ hh⟩
    · rename_i t ts d ds _ _ _ _
      cases h1 : Aek t d with
      | none => rw [h1] at h; cases h
      | some a =>
        cases h2 : Mu ts ds with
        | none => rw [h1, h2] at h; cases h
        | some bs =>
          rw [h1, h2] at h
          simp only [As5] at h; subst h
          obtain ⟨d', i1, i2⟩ := Ab0 h1
          obtain ⟨ds', j1, j2⟩ := Nb h2
          refine ⟨d' :: ds', i1 _ _ _ j1, fun c w vs hv => ?_⟩
          rw [A8.Co] at hv ⊢
          obtain ⟨u, us, e, hu, hus⟩ := hv
          exact ⟨u, us, e, i2 _ _ _ hu, j2 _ _ _ hus⟩
    · cases h
def entry (ts : List AT) (pre : List Atom → Bool) (out : List Atom → DV) : Entry where
  pre := fun args => match Mu ts args with
    | some as => pre as
    | none => false
  out := fun args => match Mu ts args with
    | some as => out as
    | none => .undef
inductive Wk (drops : List Nat) : DV → DV → Prop
  | refl {d : DV} (h : Ej 1 [] d = true) (ho : ∀ i e k l, d ≠ .ints (.own i e) k l) (hr : ∀ i e k l, d ≠ .recs (.own i e) k l) : Wk drops d d
  | nil (g : Aez) (k : IntKind) : Wk drops .nil (.ints g k [])
  | fresh (k : IntKind) (l : List Int) : Wk drops (.ints .fresh k l) (.ints .arg k l)
  | keep (i : Nat) (e : TypeId) (k : IntKind) (l : List Int) (h : i ∉ drops) : Wk drops (.ints (.own i e) k l) (.ints (.own i e) k l)
  | keepR (i : Nat) (e : TypeId) (sz : Nat) (l : List (List DV)) (h : i ∉ drops) : Wk drops (.recs (.own i e) sz l) (.recs (.own i e) sz l)
  | nilR (g : Aez) (sz : Nat) : Wk drops .nil (.recs g sz [])
  | dropR (i : Nat) (e : TypeId) (sz : Nat) (l : List (List DV)) (h : i ∈ drops) : Wk drops (.recs (.own i e) sz l) (.recs .fresh sz l)
  | drop (i : Nat) (e : TypeId) (k : IntKind) (l : List Int) (h : i ∈ drops) : Wk drops (.ints (.own i e) k l) (.ints .fresh k l)
  | dropA (i : Nat) (e : TypeId) (k : IntKind) (l : List Int) (h : i ∈ drops) : Wk drops (.ints (.own i e) k l) (.ints .arg k l)
  | agg {l l' : List DV} (h : l.length = l'.length) (hw : ∀ (j : Nat) d d', l[j]? = some d → l'[j]? = some d' → Wk drops d d') : Wk drops (.agg l) (.agg l')
  | tup {l l' : List DV} (h : l.length = l'.length) (hw : ∀ (j : Nat) d d', l[j]? = some d → l'[j]? = some d' → Wk drops d d') : Wk drops (.tup l) (.tup l')
def Hl (drops : List Nat) (own : Nat → Option Nat) (i : Nat) : Option Nat := if i ∈ drops then none else own i
theorem K3 {drops : List Nat} {own : Nat → Option Nat} {i b : Nat} (h : Hl drops own i = some b) : own i = some b ∧ i ∉ drops := by
  unfold Hl at h
  split at h
  · cases h
  · exact ⟨h, ‹_›⟩
theorem Rn {w : World} {base : Nat} {e : TypeId} {k : IntKind} {l : List Int} {v : Value} (ho : w.ownsRow base e 1 v l.length (l.map (Value.int k))) {ok : Nat → Prop} (hok : ∀ b, v.ownBlock = some b → ok b) :
    ∃ a cap, v = .slice a l.length cap ∧ l.length ≤ cap ∧ (l = [] ∨ ∃ b o, a = some ⟨b, o, none⟩ ∧ ok b ∧ ∀ (i : Nat) n, l[i]? = some n → w.cell? ⟨b, o + i, none⟩ = some (.int k n)) := by
  have := Kc (p := ⟨.live, .row v 1⟩) rfl ho (Fk ho) (ok := ok) hok
  simp only [List.drop_zero, List.take_length] at this
  exact this
theorem Wk.rel {drops : List Nat} {d d' : DV} (h : Wk drops d d') {I : Nat → Prop} {own : Nat → Option Nat} {w w' : World} (ho : Ah3 own w w') : ∀ v, Ao (Dk I own w w') w' d v → Ao (Dk I (Hl drops own) w w') w' d' v := by
  have hok : ∀ b, (Dk I own w w').ok b → (Dk I (Hl drops own) w w').ok b := by
    rintro b ⟨h1, h2, h3⟩
    exact ⟨h1, h2, fun i hi => h3 i (K3 hi).1⟩
  have hblk : ∀ i b, i ∈ drops → own i = some b → (Dk I (Hl drops own) w w').ok b ∧ w.heap.size ≤ b := by
    intro i b hi hb
    obtain ⟨h1, h2⟩ := ho.lt i b hb
    refine ⟨⟨h2, .inr h1, fun j hj => ?_⟩, h1⟩
    obtain ⟨h3, h4⟩ := K3 hj
    rw [ho.inj j i b h3 hb] at h4
    exact h4 hi
  induction h with
  | @refl d h h1 h2 =>
    intro v hv
    have hl : K6 (({ Dk I own w w' with own := fun _ => none } : Ctx).only []) w' (Dk I (Hl drops own) w w') w' :=
      ⟨hok, rfl, rfl, fun _ _ h => (by cases h), fun n p hp => (by simp [Ctx.only] at hp), fun _ _ _ => rfl, fun _ _ h => (by cases h)⟩
    refine Ao.Dd hl d v (Abc [] 1 d v h ?_)
    cases d with
    | ints g k l =>
      cases g with
      | own i e => exact absurd rfl (h1 i e k l)
      | _ => simp only [Ao] at hv ⊢; exact hv
    | recs g k l =>
      cases g with
      | own i e => exact absurd rfl (h2 i e k l)
      | _ => simp only [Ao] at hv ⊢; exact hv
    | agg l =>
      cases l with
      | nil => simp only [Ao] at hv ⊢; simpa [A8] using hv
      | cons a l => simp [Ej] at h
    | tup l =>
      cases l with
      | nil => simp only [Ao] at hv ⊢; simpa [A8] using hv
      | cons a l => simp [Ej] at h
    | fn g a c =>
      cases a with
      | cons _ _ => simp [Ej] at h
      | nil =>
        cases c with
        | cons _ _ => simp [Ej] at h
        | nil => simp only [Ao] at hv ⊢; simpa [A8] using hv
    | gd c d => simp [Ej] at h
    | oref n => simp [Ej] at h
    | sref n o m => simp [Ej] at h
    | ptr n i j => simp [Ej] at h
    | undef => simp only [Ao]
    | _ => simp only [Ao] at hv ⊢; exact hv
  | nil g k =>
    intro v hv
    simp only [Ao] at hv
    subst hv
    cases g with
    | own i e => simp only [Ao]; exact ⟨World.ownsRow_nil w' _ e 1, fun b hb => by cases hb⟩
    | _ => simp only [Ao]; exact ⟨none, 0, rfl, Nat.le_refl _, .inl trivial⟩
  | nilR g sz =>
    intro v hv
    simp only [Ao] at hv
    subst hv
    cases g with
    | own i e => simp only [Ao]; exact ⟨[], by simp [C2], by simp, World.ownsRow_nil w' _ e sz, fun b hb => by cases hb⟩
    | _ => simp only [Ao]; exact ⟨none, 0, rfl, Nat.le_refl _, .inl trivial⟩
  | dropR i e sz l h =>
    intro v hv
    simp only [Ao] at hv ⊢
    obtain ⟨rows, h1, h2, h3, h4⟩ := hv
    have hr := C2.Dd (c := (Dk I own w w').bare) (c' := (Dk I (Hl drops own) w w').bare) ⟨hok, rfl, rfl, fun _ _ h => (by cases h), fun _ _ h => (by cases h), fun _ _ _ => rfl, fun _ _ h => (by cases h)⟩ _ _ h1
    have := Kb (p := ⟨.live, .row v sz⟩) rfl hr h2 h3 (by have := Fk h3; exact this) (ok := fun b => (Dk I (Hl drops own) w w').ok b ∧ w.heap.size ≤ b) (fun b hb => hblk i b h (h4 b hb))
    simp only [List.drop_zero, List.take_length] at this
    obtain ⟨a, cap, e1, e2, e3⟩ := this
    exact ⟨a, cap, e1, e2, e3.imp id fun ⟨b, o, rows', e4, e5, e6, e7, e8⟩ => ⟨b, o, rows', e4, ⟨e5.1, rfl, e5.2⟩, e6, e7, e8⟩⟩
  | fresh k l =>
    intro v hv
    simp only [Ao] at hv ⊢
    obtain ⟨a, cap, e, h1, h2⟩ := hv
    exact ⟨a, cap, e, h1, h2.imp id fun ⟨b, o, h3, h4, h5⟩ => ⟨b, o, h3, hok b h4.1, h5⟩⟩
  | keep i e k l h =>
    intro v hv
    simp only [Ao] at hv ⊢
    exact ⟨hv.1, fun b hb => by show Hl drops own i = some b; unfold Hl; rw [if_neg h]; exact hv.2 b hb⟩
  | keepR i e sz l h =>
    intro v hv
    simp only [Ao] at hv ⊢
    obtain ⟨rows, h1, h2, h3, h4⟩ := hv
    refine ⟨rows, ?_, h2, h3, fun b hb => by show Hl drops own i = some b; unfold Hl; rw [if_neg h]; exact h4 b hb⟩
    exact C2.Dd (c := (Dk I own w w').bare) (c' := (Dk I (Hl drops own) w w').bare) ⟨hok, rfl, rfl, fun _ _ h => (by cases h), fun _ _ h => (by cases h), fun _ _ _ => rfl, fun _ _ h => (by cases h)⟩ _ _ h1
  | drop i e k l h =>
    intro v hv
    simp only [Ao] at hv ⊢
    exact Rn hv.1 fun b hb => ⟨(hblk i b h (hv.2 b hb)).1, rfl, (hblk i b h (hv.2 b hb)).2⟩
  | dropA i e k l h =>
    intro v hv
    simp only [Ao] at hv ⊢
    exact Rn hv.1 fun b hb => (hblk i b h (hv.2 b hb)).1
  | @agg l l' h hw ih =>
    intro v hv
    simp only [Ao] at hv ⊢
    obtain ⟨vs, e, hl⟩ := hv
    refine ⟨vs, e, A8.La (by rw [← h]; exact hl.length) fun j d v hd hv => ?_⟩
    have hlt : j < l.length := by rw [h]; exact (List.getElem?_eq_some_iff.1 hd).1
    obtain ⟨u, hu, hr⟩ := hl.get j _ (Atj hlt)
    rw [hv] at hu; cases hu
    exact ih j _ d (Atj hlt) hd v hr
  | @tup l l' h hw ih =>
    intro v hv
    simp only [Ao] at hv ⊢
    obtain ⟨vs, e, hl⟩ := hv
    refine ⟨vs, e, A8.La (by rw [← h]; exact hl.length) fun j d v hd hv => ?_⟩
    have hlt : j < l.length := by rw [h]; exact (List.getElem?_eq_some_iff.1 hd).1
    obtain ⟨u, hu, hr⟩ := hl.get j _ (Atj hlt)
    rw [hv] at hu; cases hu
    exact ih j _ d (Atj hlt) hd v hr
theorem Nn.Akd {P : Program} {f : FuncId} {args : List DV} {out out' : DV} (h : Nn P f args out) {drops : List Nat} (hw : Wk drops out out') : Nn P f args out' := by
  intro w vals I hI hv
  refine (h w vals I hI hv).mono ?_
  rintro e w' ⟨v, own, he, hb, ho, hr⟩
  refine ⟨v, Hl drops own, he, hb, ⟨fun i b hi => ho.lt i b (K3 hi).1, fun i j b hi hj => ho.inj i j b (K3 hi).1 (K3 hj).1⟩, hw.rel ho v hr⟩
theorem Nn.args {P : Program} {f : FuncId} {args args' : List DV} {out : DV} (h : Nn P f args out) (ha : ∀ c w vs, A8 c w args' vs → A8 c w args vs) : Nn P f args' out :=
  fun w vals I hI hv => h w vals I hI (ha _ _ _ hv)
theorem Vf {P : Program} {E : Env} (he : J6 P E) {f : FuncId} {fn : Func} {body : Code} (hf : P.funcs[f]? = some fn) (hb : fn.body = some body) {ts : List AT} {pre : List Atom → Bool} {out : List Atom → DV}
    (h : ∀ as ds, Gb ts as ds → pre as = true → ∃ fuel d drops, Bx E fuel fn body ds = some d ∧ Wk drops d (out as)) : Yr P f (entry ts pre out) := by
  intro args ha
  simp only [entry] at ha ⊢
  cases hd : Mu ts args with
  | none => rw [hd] at ha; cases ha
  | some as =>
    rw [hd] at ha
    simp only at ha ⊢
    obtain ⟨ds, h1, h2⟩ := Nb hd
    obtain ⟨fuel, d, drops, h3, h4⟩ := h as ds h1 ha
    exact ((Are he hf hb h3).Akd h4).args h2
end Go.Den
namespace Go.Den
structure Pt (β : Type) where
  b : Nat
  c : Code
  Kn : St → Option β
  Kx : Nat → St → Option β
  Kr : St → Option β
def descend {β : Type} (E : Env) (n : Nat) : List Nat → List Nat → Nat → Code → (St → Option β) → (Nat → St → Option β) → (St → Option β) → Pt β
  | 0 :: p, ms, b, .seq x y, Kn, Kx, Kr => descend E n p ms b x (fun st' => den E n b y st' Kn Kx Kr) Kx Kr
  | _ :: p, ms, b, .seq _ y, Kn, Kx, Kr => descend E n p ms b y Kn Kx Kr
  | 0 :: p, ms, b, .cond _ x _, Kn, Kx, Kr => descend E n p ms b x Kn Kx Kr
  | _ :: p, ms, b, .cond _ _ y, Kn, Kx, Kr => descend E n p ms b y Kn Kx Kr
  | _ :: p, ms, _, .block id c, Kn, Kx, Kr => descend E n p ms id c Kn (fun id' st' => bif id' == id then Kn st' else Kx id' st') Kr
  | _ :: p, ms, b, .scope c, Kn, Kx, Kr => descend E n p ms b c Kn Kx Kr
  | _ :: p, m :: ms, b, .loop c, _, Kx, Kr => descend E n p ms b c (fun st2 => match canon (E.hint b) st2 with | some st3 => Xv (E.hint b) (den E n b c) m st3 Kx Kr | none => none) Kx Kr
  | _, _, b, c, Kn, Kx, Kr => ⟨b, c, Kn, Kx, Kr⟩
def cutAt (E : Env) (n : Nat) (fn : Func) (body : Code) (p ms : List Nat) (st : St) : Option DV :=
  match descend E n p ms 0 body (fun st => Yt E fn st) (fun _ _ => none) (fun st => Yt E fn st) with
  | ⟨b, .seq (.region _ ops draw) y, Kn, Kx, Kr⟩ => Aav (Ada E ops draw (fun st' => den E n b y st' Kn Kx Kr)) st
  | ⟨_, .region _ ops draw, Kn, _, _⟩ => Aav (Ada E ops draw Kn) st
  | _ => none
def Am6 (E : Env) (n : Nat) (fn : Func) (body : Code) (p ms : List Nat) (st : St) : Option DV :=
  match descend E n p ms 0 body (fun st => Yt E fn st) (fun _ _ => none) (fun st => Yt E fn st) with
  | ⟨b, .seq (.region _ ops draw) y, Kn, Kx, Kr⟩ => Ada E ops draw (fun st' => den E n b y st' Kn Kx Kr) st
  | ⟨_, .region _ ops draw, Kn, _, _⟩ => Ada E ops draw Kn st
  | _ => none
theorem Qd (E : Env) (n : Nat) (fn : Func) (body : Code) (p ms : List Nat) (st : St) : cutAt E n fn body p ms st = Am6 E n fn body p ms st := by
  unfold cutAt Am6
  split <;> simp only [Zd]
def B0 (E : Env) (n : Nat) (fn : Func) (body : Code) (p ms : List Nat) (m : Nat) (st : St) : Option DV :=
  match descend E n p ms 0 body (fun st => Yt E fn st) (fun _ _ => none) (fun st => Yt E fn st) with
  | ⟨b, .loop c, _, Kx, Kr⟩ => Xv (E.hint b) (den E n b c) m st Kx Kr
  | _ => none
def atL (i : Nat) : List (Nat × DV) → DV
  | [] => .undef
  | (j, d) :: l => bif Nat.beq i j then d else atL i l
def Asu (l : List (Nat × DV)) : Nat → Nat → List DV
  | 0, _ => []
  | k + 1, i => atL i l :: Asu l k (i + 1)
def F7 (n : Nat) (l : List (Nat × DV)) : List DV := Asu l n 0
end Go.Den
namespace Go.Den
open Go.RowKit (Below)
def Ab (x : Int) : Int := IntKind.i64.wrap x
def Bh (x : Int) : Int := IntKind.u64.wrap x
def Jl (x : Int) : Int := IntKind.u32.wrap x
def Eg (k : IntKind) (x y : Int) : Int := k.wrap (BitVec.ofInt k.bits x &&& BitVec.ofInt k.bits y).toNat
def Hn (k : IntKind) (x y : Int) : Int := k.wrap (BitVec.ofInt k.bits x ||| BitVec.ofInt k.bits y).toNat
def Apu (k : IntKind) (x y : Int) : Int := k.wrap (BitVec.ofInt k.bits x ^^^ BitVec.ofInt k.bits y).toNat
def F5 (k : IntKind) (x y : Int) : Int := k.wrap (BitVec.ofInt k.bits x &&& ~~~(BitVec.ofInt k.bits y)).toNat
def B2 (k : IntKind) (x y : Int) : Int := k.wrap (x * 2 ^ (min y.toNat k.bits))
def C8 (k : IntKind) (x y : Int) : Int := x.fdiv (2 ^ (min y.toNat k.bits))
def C3 (p : Prop) : Bool := @decide p (Classical.propDecidable p)
theorem Av {p : Prop} : C3 p = true ↔ p := by unfold C3; exact @decide_eq_true_iff p (Classical.propDecidable p)
def An (f : Func) : Code := f.body.getD .skip
def A5 : List (Nat × Entry) → Nat → Option Entry
  | [], _ => none
  | (m, e) :: l, n => bif Nat.beq m n then some e else A5 l n
def Akp : List (Nat × TI) → Nat → Option TI
  | [], _ => none
  | (m, e) :: l, n => bif Nat.beq m n then some e else Akp l n
theorem ifT {α : Type} {R : Bool} {A A' B : α} (h : R = true) (ha : A = A') : (bif R then A else B) = A' := by rw [h, ha]; rfl
theorem Ax {α : Type} {R : Bool} {A A' : Option α} (h : R = true) (ha : A = A') : (bif R then A else none) = A' := ifT h ha
theorem Cx {α : Type} {R S : Bool} {A A' B B' : α} (h : R = S) (ha : A = A') (hb : B = B') : (bif R then A else B) = bif S then A' else B' := by rw [h, ha, hb]
theorem Ee {α : Type} {R : Bool} {A A' B B' : α} (ha : A = A') (hb : B = B') : (bif R then A else B) = bif R then A' else B' := by rw [ha, hb]
structure A3 (P : Program) (g : FuncId) (e : Entry) : Prop where
  meets : Yr P g e
  call : ∀ (args : Array Value) (w : World), (callFunc g args).run P w = .ok (.enter g args) w
inductive Ay (P : Program) : List (Nat × Entry) → Prop
  | nil : Ay P []
  | cons {g e l} : A3 P g e → Ay P l → Ay P ((g, e) :: l)
theorem Ay.get {P : Program} {l : List (Nat × Entry)} (h : Ay P l) {g : Nat} {e : Entry} (hg : A5 l g = some e) : A3 P g e := by
  induction h with
  | nil => cases hg
  | @cons g' e' l h1 h2 ih =>
    simp only [A5] at hg
    cases hb : Nat.beq g' g with
    | true =>
      rw [hb] at hg
      simp only [As2, As5] at hg
      have := Atk hb
      subst this hg
      exact h1
    | false => rw [hb] at hg; exact ih hg
theorem Sj {P : Program} {f : FuncId} {fn : Func} {body : Code} (hf : P.funcs[f]? = some fn) (hn : (fn.name == "runtime.NumGoroutine") = false) (hb : fn.body = some body) (args : Array Value) (w : World) :
    (callFunc f args).run P w = .ok (.enter f args) w := by
  have h1 : fn.name ≠ "runtime.NumGoroutine" := by simpa using hn
  simp [callFunc, hf, h1, hb]
inductive Rd (P : Program) : List (Nat × TI) → Prop
  | nil : Rd P []
  | cons {t ti l} : B8 P t ti → Rd P l → Rd P ((t, ti) :: l)
theorem Rd.get {P : Program} {l : List (Nat × TI)} (h : Rd P l) {t : Nat} {ti : TI} (hg : Akp l t = some ti) : B8 P t ti := by
  induction h with
  | nil => cases hg
  | @cons t' ti' l h1 h2 ih =>
    simp only [Akp] at hg
    cases hb : Nat.beq t' t with
    | true =>
      rw [hb] at hg
      simp only [As2, As5] at hg
      have := Atk hb
      subst this hg
      exact h1
    | false => rw [hb] at hg; exact ih hg
theorem Ca {P : Program} {t : TypeId} {ti : TI} {z : Value} (h : (P.info? t).map (fun i => (i.zero, i.size, i.bytes)) = some (some z, ti.size, ti.bytes)) (hz : Ab8 ti.zero z.cells.toList) (hs : z.cells.size = ti.size)
    (h1 : ∀ u ∈ z.cells.toList, u.oneCell' = true) (hd : Cc P t ti.kind) : B8 P t ti := by
  cases hi : P.info? t with
  | none => rw [hi] at h; cases h
  | some i =>
    rw [hi] at h
    simp only [Option.map_some, As5, Atb] at h
    exact ⟨⟨i, z, hi, h.2.1, h.2.2, h.1, hz, hs, h1⟩, hd⟩
def Aip (ts : List AT) (pre : List Atom → Bool) (out : List Atom → DV) (mu : List Atom → Nat) (n : Nat) : Entry := entry ts (fun as => pre as && C3 (mu as < n)) out
theorem Afw {P : Program} {E : Nat → Env} {f : FuncId} {fn : Func} {body : Code} (hf : P.funcs[f]? = some fn) (hb : fn.body = some body) {ts : List AT} {pre : List Atom → Bool} {out : List Atom → DV} (mu : List Atom → Nat)
    (he : ∀ n, Yr P f (Aip ts pre out mu n) → J6 P (E n))
    (h : ∀ n as ds, Gb ts as ds → pre as = true → mu as < n + 1 → ∃ fuel d drops, Bx (E n) fuel fn body ds = some d ∧ Wk drops d (out as)) : Yr P f (entry ts pre out) := by
  have key : ∀ n, Yr P f (Aip ts pre out mu n) := by
    intro n
    induction n with
    | zero =>
      intro args ha
      simp only [Aip, entry] at ha
      split at ha
      · simp only [Atd, Av] at ha; omega
      · cases ha
    | succ n ih =>
      refine Vf (he n ih) hf hb fun as ds hd hp => ?_
      simp only [Atd, Av] at hp
      exact h n as ds hd hp.1 hp.2
  intro args ha
  simp only [entry] at ha
  cases hd : Mu ts args with
  | none => rw [hd] at ha; cases ha
  | some as =>
    rw [hd] at ha
    have := key (mu as + 1) args (by simp only [Aip, entry, hd, Atd, Av]; exact ⟨ha, Nat.lt_succ_self _⟩)
    simp only [Aip, entry] at this ⊢
    exact this
theorem Ll {P : Program} (w : World) {t : TypeId} {ti : TI} (hf : B8 P t ti) (ha : ti.agg = false) {xs : Array Value} {i : Nat} {v : Value} (hv : xs[i]? = some v) : (part t xs i).run P w = .ok v w := by
  simp [part, hf.S8 w, ha, hv]
theorem Wq {z : Bool} {l m : List DV} (h : sameShape (.bool z :: l) m = true) : ∃ b m', m = .bool b :: m' ∧ sameShape l m' = true := by
  cases m with
  | nil => simp [sameShape] at h
  | cons d m' => cases d <;> simp [sameShape] at h; exact ⟨_, _, rfl, h⟩
theorem I8 {k : IntKind} {z : Int} {l m : List DV} (h : sameShape (.int k z :: l) m = true) : ∃ b m', m = .int k b :: m' ∧ sameShape l m' = true := by
  cases m with
  | nil => simp [sameShape] at h
  | cons d m' => cases d <;> simp [sameShape] at h; obtain ⟨rfl, h⟩ := h; exact ⟨_, _, rfl, h⟩
theorem Qv {m : List DV} (h : sameShape [] m = true) : m = [] := by
  cases m with
  | nil => rfl
  | cons d m' => cases d <;> simp [sameShape] at h
theorem Aro {P : Program} {g : FuncId} {e : Entry} (h : A3 P g e) {vals : Array Value} {w : World} {args : List DV} {I : Nat → Prop} (hI : ∀ b, I b → b < w.heap.size) (ha : A8 (J2 I) w args vals.toList)
    (hp : e.pre args = true) (ho : e.out args = .bool true) : Calls P g vals w fun e w' => e = .returned (.bool true) ∧ Below w.heap.size w w' := by
  refine (h.meets args hp w vals I hI ha).mono ?_
  rintro e w' ⟨v, own, he, hb, _, hv⟩
  rw [ho] at hv
  simp only [Ao] at hv
  subst hv
  exact ⟨he, hb⟩
end Go.Den
namespace Go.Den
open Go.RowKit (Below)
def Ap4 (x : Int) : Int := IntKind.wrap .u64 ((BitVec.ofInt (IntKind.bits .u64) (if IntKind.signed .u64 then -1 else IntKind.max .u64) ^^^ BitVec.ofInt (IntKind.bits .u64) x).toNat : Int)
end Go.Den
namespace Go.Den
def Arr (ts : List AT) (e1 e2 : Entry) : Entry where
  pre := fun args => match Mu ts args with
    | some _ => e1.pre args
    | none => e2.pre args
  out := fun args => match Mu ts args with
    | some _ => e1.out args
    | none => e2.out args
theorem A3.alt {P : Program} {g : FuncId} {ts : List AT} {e1 e2 : Entry} (h1 : A3 P g e1) (h2 : A3 P g e2) : A3 P g (Arr ts e1 e2) := by
  refine ⟨fun args ha => ?_, h1.call⟩
  simp only [Arr] at ha ⊢
  cases hd : Mu ts args with
  | none => rw [hd] at ha; exact h2.meets args ha
  | some x => rw [hd] at ha; exact h1.meets args ha
theorem A3.Akd {P : Program} {g : FuncId} {ts : List AT} {pre pre' : List Atom → Bool} {out out' : List Atom → DV} (h : A3 P g (entry ts pre out)) (drops : List Nat)
    (hw : ∀ ats, pre' ats = true → pre ats = true ∧ Wk drops (out ats) (out' ats)) : A3 P g (entry ts pre' out') := by
  refine ⟨fun args ha => ?_, h.call⟩
  simp only [entry] at ha ⊢
  cases hd : Mu ts args with
  | none => rw [hd] at ha; cases ha
  | some x =>
    rw [hd] at ha
    have := h.meets args (by simp only [entry, hd]; exact (hw x ha).1)
    simp only [entry, hd] at this
    exact this.Akd (hw x ha).2
end Go.Den
namespace Go.Den
def No : Nat → List AT → (List Atom → List DV → Prop) → Prop
  | 0, _, _ => False
  | _ + 1, [], K => K [] []
  | n + 1, .b :: ts, K => ∀ x : Bool, No n ts fun as ds => K (.b x :: as) (.bool x :: ds)
  | n + 1, .i k :: ts, K => ∀ x : Int, No n ts fun as ds => K (.i x :: as) (.int k x :: ds)
  | n + 1, .s k :: ts, K => ∀ x : List Int, No n ts fun as ds => K (.l x :: as) (.ints .arg k x :: ds)
  | n + 1, .fl :: ts, K => ∀ x : Nat, No n ts fun as ds => K (.f x :: as) (.fl x :: ds)
  | n + 1, .nb :: ts, K => ∀ x : Nat, No n ts fun as ds => K (.f x :: as) (.nb x :: ds)
  | n + 1, .st l :: ts, K => No n l fun as cs => No n ts fun bs ds => K (as ++ bs) (.agg cs :: ds)
  | n + 1, .fn g l :: ts, K => No n l fun as cs => No n ts fun bs ds => K (as ++ bs) (.fn g [] cs :: ds)
  | n + 1, .fm g l :: ts, K => No n l fun as cs => No n ts fun bs ds => K (as ++ bs) (.fn g cs [] :: ds)
  | n + 1, .cp l :: ts, K => No n l fun as cs => No n ts fun bs ds => K (as ++ bs) (.cellp cs :: ds)
theorem No.go : ∀ (n : Nat) {ts : List AT} {as : List Atom} {ds : List DV} {K : List Atom → List DV → Prop}, No n ts K → Gb ts as ds → K as ds := by
  intro n
  induction n with
  | zero => intro ts as ds K h _; exact h.elim
  | succ n ih =>
    intro ts as ds K h e
    cases e with
    | nil => exact h
    | b x e => exact ih (K := fun as ds => K (.b x :: as) (.bool x :: ds)) (h x) e
    | i k x e => exact ih (K := fun as ds => K (.i x :: as) (.int k x :: ds)) (h x) e
    | s k x e => exact ih (K := fun as ds => K (.l x :: as) (.ints .arg k x :: ds)) (h x) e
    | fl x e => exact ih (K := fun as ds => K (.f x :: as) (.fl x :: ds)) (h x) e
    | nb x e => exact ih (K := fun as ds => K (.f x :: as) (.nb x :: ds)) (h x) e
    | @st _ _ a c _ _ e1 e2 => exact ih (K := fun bs ds => K (a ++ bs) (.agg c :: ds)) (ih (K := fun as cs => No n _ fun bs ds => K (as ++ bs) (.agg cs :: ds)) h e1) e2
    | @fn g _ _ a c _ _ e1 e2 => exact ih (K := fun bs ds => K (a ++ bs) (.fn g [] c :: ds)) (ih (K := fun as cs => No n _ fun bs ds => K (as ++ bs) (.fn g [] cs :: ds)) h e1) e2
    | @fm g _ _ a c _ _ e1 e2 => exact ih (K := fun bs ds => K (a ++ bs) (.fn g c [] :: ds)) (ih (K := fun as cs => No n _ fun bs ds => K (as ++ bs) (.fn g cs [] :: ds)) h e1) e2
    | @cp _ _ a c _ _ e1 e2 => exact ih (K := fun bs ds => K (a ++ bs) (.cellp c :: ds)) (ih (K := fun as cs => No n _ fun bs ds => K (as ++ bs) (.cellp cs :: ds)) h e1) e2
abbrev Bc (E : Env) (fn : Func) (ds : List DV) (out : DV) : Prop := ∃ N dv drops, Bx E N fn (An fn) ds = some dv ∧ Wk drops dv out
theorem Ak {P : Program} {E : Env} (he : J6 P E) {f : FuncId} {fn : Func} (hf : P.funcs[f]? = some fn) (hb : fn.body = some (An fn)) (hn : (fn.name == "runtime.NumGoroutine") = false) {ts : List AT} {pre : List Atom → Bool} {out : List Atom → DV}
    (h : No 40 ts fun as ds => pre as = true → Bc E fn ds (out as)) : A3 P f (entry ts pre out) :=
  ⟨Vf he hf hb fun _ _ e hp => No.go 40 h e hp, Sj hf hn hb⟩
end Go.Den
namespace Go.Den
theorem Am {x : Int} (h1 : -9223372036854775808 ≤ x) (h2 : x ≤ 9223372036854775807) : Ab x = x := Go.IntWalk.i64_in x ⟨h1, h2⟩
theorem Nq (x : Int) : Bh x = x % 18446744073709551616 := by unfold Bh IntKind.wrap; simp [IntKind.bits, IntKind.signed]
theorem Ake (x : Int) : Jl x = x % 4294967296 := by unfold Jl IntKind.wrap; simp [IntKind.bits, IntKind.signed]
theorem Dc {x : Int} (h1 : 0 ≤ x) (h2 : x < 18446744073709551616) : Bh x = x := by rw [Nq]; omega
theorem Ks {x : Int} (h1 : 0 ≤ x) (h2 : x < 4294967296) : Jl x = x := by rw [Ake]; omega
theorem Apv (k : IntKind) (x y : Int) : C8 k x y = x / 2 ^ (min y.toNat k.bits) := by
  unfold C8
  exact Int.fdiv_eq_ediv_of_nonneg _ (Int.le_of_lt (Int.pow_pos (by decide)))
theorem Hb (k : IntKind) (n s : Nat) (h : s ≤ k.bits) : C8 k n s = ((n / 2 ^ s : Nat) : Int) := by
  rw [Apv, As4, Nat.min_eq_left h]
  push_cast
  rfl
theorem E0 (n s : Nat) (h : s ≤ 64) : B2 .u64 n s = ((n * 2 ^ s % 2 ^ 64 : Nat) : Int) := by
  unfold B2
  rw [As4, show IntKind.u64.bits = 64 from rfl, Nat.min_eq_left h]
  show Bh _ = _
  rw [Nq]
  show _ = ((n * 2 ^ s % 18446744073709551616 : Nat) : Int)
  rw [Int.natCast_emod, Atn, Int.natCast_pow]
  rfl
theorem Ie (b n : Nat) : (BitVec.ofInt b n).toNat = n % 2 ^ b := by
  rw [BitVec.toNat_ofInt]
  rw [show ((n : Int) % (2 ^ b : Nat)) = ((n % 2 ^ b : Nat) : Int) by push_cast; rfl, As4]
theorem Ss {n : Nat} (h : n < 2 ^ 64) : IntKind.u64.wrap n = n := by
  show Bh _ = _
  rw [Nq]
  omega
theorem Aep {a b : Nat} (ha : a < 2 ^ 64) (hb : b < 2 ^ 64) : Eg .u64 a b = ((a &&& b : Nat) : Int) := by
  unfold Eg
  rw [BitVec.toNat_and, Ie, Ie, show IntKind.u64.bits = 64 from rfl, Atf ha, Atf hb]
  exact Ss (Nat.lt_of_le_of_lt Nat.and_le_left ha)
theorem T7 {a b : Nat} (ha : a < 2 ^ 64) (hb : b < 2 ^ 64) : Hn .u64 a b = ((a ||| b : Nat) : Int) := by
  unfold Hn
  rw [BitVec.toNat_or, Ie, Ie, show IntKind.u64.bits = 64 from rfl, Atf ha, Atf hb]
  exact Ss (Nat.or_lt_two_pow ha hb)
theorem Ani {a b : Nat} (ha : a < 2 ^ 64) (hb : b < 2 ^ 64) : Apu .u64 a b = ((a ^^^ b : Nat) : Int) := by
  unfold Apu
  rw [BitVec.toNat_xor, Ie, Ie, show IntKind.u64.bits = 64 from rfl, Atf ha, Atf hb]
  exact Ss (Nat.xor_lt_two_pow ha hb)
theorem Ii {a : Nat} (k : Nat) (ha : a < 2 ^ 64) (hk : k ≤ 64) : Eg .u64 a ((2 ^ k - 1 : Nat) : Int) = ((a % 2 ^ k : Nat) : Int) := by
  rw [Aep ha (by have := Ath (n := 2) (by decide) hk; have := Nat.pow_pos (a := 2) (n := k) (by decide); omega), Nat.and_two_pow_sub_one_eq_mod]
theorem Mf {a b k : Nat} (hb : b < 2 ^ k) : b ||| (a * 2 ^ k) = a * 2 ^ k + b := by
  rw [Nat.or_comm, Nat.mul_comm, Nat.two_pow_add_eq_or_of_lt hb]
theorem Aj3 {a b k : Nat} (hb : b < 2 ^ k) (h : a * 2 ^ k + b < 2 ^ 64) : Hn .u64 b ((a * 2 ^ k : Nat) : Int) = ((a * 2 ^ k + b : Nat) : Int) := by
  rw [T7 (by omega) (by omega), Mf hb]
theorem Ml {a b k : Nat} (hb : b < 2 ^ k) (h : a * 2 ^ k + b < 2 ^ 64) : Hn .u64 ((a * 2 ^ k : Nat) : Int) b = ((a * 2 ^ k + b : Nat) : Int) := by
  rw [T7 (by omega) (by omega), Nat.or_comm, Mf hb]
theorem Wg {r : Nat} (hr : r < 2 ^ 63) : (2 ^ 63 + r) ^^^ 2 ^ 63 = r ∧ r ^^^ 2 ^ 63 = 2 ^ 63 + r := by
  have e2 := Nat.two_pow_add_eq_or_of_lt hr 1
  rw [Nat.mul_one] at e2
  have a1 : r ^^^ 2 ^ 63 = 2 ^ 63 + r := by
    rw [e2]
    apply Nat.eq_of_testBit_eq
    intro i
    rw [Nat.testBit_xor, Nat.testBit_or, Nat.testBit_two_pow]
    by_cases hi : 63 = i
    · subst hi
      rw [Nat.testBit_lt_two_pow hr]; simp
    · simp [hi]
  refine ⟨?_, a1⟩
  rw [← a1, Nat.xor_assoc, Nat.xor_self, Nat.xor_zero]
theorem Anx {a : Nat} (ha : a < 2 ^ 64) : a ^^^ 2 ^ 63 = if 2 ^ 63 ≤ a then a - 2 ^ 63 else a + 2 ^ 63 := by
  by_cases h : 2 ^ 63 ≤ a
  · rw [if_pos h]
    obtain ⟨r, rfl⟩ : ∃ r, a = 2 ^ 63 + r := ⟨a - 2 ^ 63, by omega⟩
    rw [(Wg (by omega)).1]; omega
  · rw [if_neg h, (Wg (by omega)).2]; omega
def Ag (x : Int) : Bool := C3 (0 ≤ x ∧ x < 18446744073709551616)
theorem Bj {x : Int} (h : Ag x = true) : ∃ n : Nat, x = n ∧ n < 2 ^ 64 := by
  unfold Ag at h
  rw [Av] at h
  exact ⟨x.toNat, by omega, by omega⟩
theorem B7 {n : Nat} (h : n < 2 ^ 64) : Ag n = true := by
  unfold Ag
  rw [Av]
  omega
inductive WkL (drops : List Nat) : List DV → List DV → Prop
  | nil : WkL drops [] []
  | cons {d d' l l'} : Wk drops d d' → WkL drops l l' → WkL drops (d :: l) (d' :: l')
theorem WkL.length {drops : List Nat} {l l' : List DV} (h : WkL drops l l') : l.length = l'.length := by
  induction h with
  | nil => rfl
  | cons _ _ ih => simp [ih]
theorem WkL.get {drops : List Nat} {l l' : List DV} (h : WkL drops l l') : ∀ (j : Nat) d d', l[j]? = some d → l'[j]? = some d' → Wk drops d d' := by
  induction h with
  | nil => intro j d d' h; cases h
  | cons h1 _ ih =>
    intro j d d' h2 h3
    cases j with
    | zero => cases h2; cases h3; exact h1
    | succ j => exact ih j d d' h2 h3
theorem Wk.G3 {drops : List Nat} {l l' : List DV} (h : WkL drops l l') : Wk drops (.agg l) (.agg l') := .agg h.length h.get
theorem Wk.Gm {drops : List Nat} {l l' : List DV} (h : WkL drops l l') : Wk drops (.tup l) (.tup l') := .tup h.length h.get
theorem Wk.bool {drops : List Nat} {b : Bool} : Wk drops (.bool b) (.bool b) := .refl rfl (by intros; simp) (by intros; simp)
theorem Wk.int {drops : List Nat} {k : IntKind} {x : Int} : Wk drops (.int k x) (.int k x) := .refl rfl (by intros; simp) (by intros; simp)
theorem Wk.fl {drops : List Nat} {x : Nat} : Wk drops (.fl x) (.fl x) := .refl rfl (by intros; simp) (by intros; simp)
theorem Wk.nb {drops : List Nat} {x : Nat} : Wk drops (.nb x) (.nb x) := .refl rfl (by intros; simp) (by intros; simp)
theorem Wk.Vw {drops : List Nat} {k : IntKind} {l : List Int} : Wk drops (.ints .arg k l) (.ints .arg k l) := .refl rfl (by intros; simp) (by intros; simp)
theorem Wk.P5 {drops : List Nat} {k : IntKind} {l : List Int} : Wk drops (.ints .fresh k l) (.ints .fresh k l) := .refl rfl (by intros; simp) (by intros; simp)
theorem Gb.Abj {as : List Atom} {ds : List DV} (h : Gb [] as ds) : as = [] ∧ ds = [] := by cases h; exact ⟨rfl, rfl⟩
theorem Gb.Asz {ts : List AT} {as : List Atom} {ds : List DV} (h : Gb (.b :: ts) as ds) : ∃ x as' ds', as = .b x :: as' ∧ ds = .bool x :: ds' ∧ Gb ts as' ds' := by
  cases h with | b x h => exact ⟨x, _, _, rfl, rfl, h⟩
theorem Gb.Aml {k : IntKind} {ts : List AT} {as : List Atom} {ds : List DV} (h : Gb (.i k :: ts) as ds) : ∃ x as' ds', as = .i x :: as' ∧ ds = .int k x :: ds' ∧ Gb ts as' ds' := by
  cases h with | i k x h => exact ⟨x, _, _, rfl, rfl, h⟩
theorem Gb.Aq7 {ts : List AT} {as : List Atom} {ds : List DV} (h : Gb (.nb :: ts) as ds) : ∃ x as' ds', as = .f x :: as' ∧ ds = .nb x :: ds' ∧ Gb ts as' ds' := by
  cases h with | nb x h => exact ⟨x, _, _, rfl, rfl, h⟩
end Go.Den
end
