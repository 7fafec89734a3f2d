/- DenC of the verified evaluator and its use for this seat (of my texts Den21, Den22, Den23, Den24, Den25, Den26, Den27, Den28, Den29, Den30, Den31, Den32, Den33, Den34, Den35, Den36). -/
import Derived.Test.YtnnoocnokacpmaaGreatDenB
import Derived.Orders
import Derived.LoopN
import Derived.Scope
import Derived.KernelRfl
import Derived.Laws.StructEq
import Derived.Laws.Externs

/- One operation that writes nothing that there was, in its region. -/
namespace Go.Den
open Go.RowKit (Below)

/-- An operation's step in its region: what holds behind it, wherever it is awaited. -/
def StepsTo (P : Program) (ops : Array Oper) (o : Oper) (a : Act) (w : World) (Q : Exit → Act → World → Prop) (G : Value → World → Prop) : Prop :=
  ∀ K : Act → World → Prop, (∀ v w', G v w' → K (a.put o.dst v) w') →
    if Region.wanted o (yielded ops a.tmps) then o.wp P a w K Q else K (a.put o.dst undef) w

theorem StepsTo.mono {P : Program} {ops : Array Oper} {o : Oper} {a : Act} {w : World} {Q : Exit → Act → World → Prop} {G G' : Value → World → Prop} (h : StepsTo P ops o a w Q G) (hg : ∀ v w', G v w' → G' v w') : StepsTo P ops o a w Q G' :=
  fun K hK => h K fun v w' hh => hK v w' (hg v w' hh)

theorem OpRun.wp {P : Program} {o : Oper} {a : Act} {w : World} {K : Act → World → Prop} {Q : Exit → Act → World → Prop} {K' : Value → World → Prop} (h : OpRun P (execOp a.eval o) w K') (hK : ∀ v w', K' v w' → K (a.put o.dst v) w') : o.wp P a w K Q := by
  unfold OpRun at h
  unfold Oper.wp
  split at h
  · rename_i v w' hr
    rw [hr, Oper.upon_value]; exact hK _ _ h
  · rename_i f args w' hr
    rw [hr, Oper.upon_enter]
    refine Calls.mono h fun e w'' ⟨v, he, hk⟩ => ?_
    subst he; exact hK _ _ hk
  · exact h.elim

section
variable {P : Program} {E : Env} {I0 : Nat → Prop} {B : Nat} {A : Nat → Option Place} {h : Heap} {w : World}

theorem strip_rel {c : Ctx} {g : Bool} {d : DV} {v : Value} (hv : VRel c w d v) (hg : g = true) (hs : (stripG g d).2 = true) : VRel c w (stripG g d).1 v := by
  subst hg
  cases d <;> try exact hv
  rename_i c' d'
  simp only [stripG, Bool.not_true, Bool.false_or] at hs ⊢
  simp only [VRel] at hv
  exact hv.1 hs

/-- The guard's word, as data and in the machine. -/
theorem cond_ok {c : Ctx} {ops : Array Oper} {l : List DV} {o : Oper} {a : Act} (hsz : a.tmps.size = l.length)
    (hrd : ∀ t ∈ o.looksAt ops, VRel c w (l.getD t .undef) (a.tmps.getD t undef)) {g? : Option Bool} (hc : condD ops l o = some g?) :
    (g? = none ∧ o.guard = none) ∨ ∃ b, g? = some b ∧ Region.wanted o (yielded ops a.tmps) = b := by
  unfold condD at hc
  split at hc
  · rename_i hg
    cases hc; exact .inl ⟨rfl, hg⟩
  · rename_i j want hg
    cases hd : (ops[j]?).bind (·.dst) with
    | none => simp [hd] at hc
    | some d =>
      simp only [hd] at hc
      have hv := hrd d (by unfold Oper.looksAt; simp [hg, hd])
      have hlt : ∀ {x : DV}, l.getD d .undef = x → x ≠ .undef → d < a.tmps.size := fun {x} hx hne => by
        rw [hsz]
        refine Nat.lt_of_not_le fun hle => hne ?_
        rw [← hx, List.getD_eq_getElem?_getD, List.getElem?_eq_none hle]; rfl
      have hy : ∀ {u : Value}, d < a.tmps.size → a.tmps.getD d undef = u → yielded ops a.tmps j = match u with | .bool b => some b | _ => none := fun {u} hl hu => by
        unfold yielded
        rw [hd, Option.bind_some]
        have : a.tmps[d]? = some u := by
          rw [Array.getElem?_eq_getElem hl]
          rw [Array.getD_eq_getD_getElem?, Array.getElem?_eq_getElem hl] at hu
          exact congrArg some hu
        rw [this]
        cases u <;> rfl
      split at hc
      · rename_i b hb
        cases hc
        rw [hb] at hv; simp only [VRel] at hv
        refine .inr ⟨_, rfl, ?_⟩
        unfold Region.wanted; rw [hg]; simp only
        rw [hy (hlt hb (by simp)) hv]
        cases b <;> cases want <;> rfl
      · rename_i c' b hb
        cases hc
        rw [hb] at hv; simp only [VRel] at hv
        refine .inr ⟨_, rfl, ?_⟩
        unfold Region.wanted; rw [hg]; simp only
        cases c' with
        | true =>
          rw [hy (hlt hb (by simp)) (hv.1 rfl)]
          cases b <;> cases want <;> rfl
        | false =>
          rw [hy (hlt hb (by simp)) (hv.2 rfl)]
          cases want <;> rfl
      · cases hc

def wrapG (g? : Option Bool) (v : DV) : DV := match g? with | some c => .gd c v | none => v

theorem wrap_rel {c : Ctx} {g? : Option Bool} {d : DV} {v : Value} (hg : g?.getD true = true) (hv : VRel c w d v) : VRel c w (wrapG g? d) v := by
  cases g? with
  | none => exact hv
  | some b =>
    simp only [Option.getD_some] at hg; subst hg
    simp only [wrapG, VRel]
    exact ⟨fun _ => hv, fun e => by cases e⟩

theorem quiet_wp (he : EnvOk P E) (hm : Mem I0 B A h w) {ops : Array Oper} {l : List DV} {o : Oper} {a : Act}
    (hops : ∀ x ∈ o.op.operands.toList, VRel (ctxOf I0 B A w) w (opdD l x) (a.eval x))
    {g? : Option Bool} (hg : (g? = none ∧ o.guard = none) ∨ ∃ b, g? = some b ∧ Region.wanted o (yielded ops a.tmps) = b)
    {nm : Nat} {r : R2} (hq : quietD E h nm (fun x => (stripG (g?.getD true) (opdD l x)).1) o.op = some r)
    (hreq : (!(g?.getD true) || (reqAll (g?.getD true) (opdD l) o.op.operands.toList && r.req)) = true)
    (hobj : r.objs = [] ∨ g? = none) (hfrz : r.frz = [] ∨ g? = none)
    (hnew : ∀ n ob, (n, ob) ∈ r.objs → A n = none) (hnd : (r.objs.map (·.1)).Nodup) {Q : Exit → Act → World → Prop} :
    StepsTo P ops o a w Q fun v w' => ∃ A', Grow I0 B A w r.objs r.frz A' w' ∧ VRel (ctxOf I0 B A' w') w' (wrapG g? r.v) v := by
  intro K hK
  have hwant : Region.wanted o (yielded ops a.tmps) = g?.getD true := by
    rcases hg with ⟨rfl, hg⟩ | ⟨b, rfl, hg⟩
    · simp [Region.wanted, hg]
    · simpa using hg
  rw [hwant]
  by_cases hgt : g?.getD true = true
  · rw [if_pos hgt]
    rw [hgt] at hreq hq
    simp only [Bool.not_true, Bool.false_or, Bool.and_eq_true] at hreq
    have hops' : Ops (ctxOf I0 B A w) w (fun x => (stripG true (opdD l x)).1) a.eval o.op := fun x hx => by
      refine strip_rel (hops x hx) rfl ?_
      have := hreq.1
      unfold reqAll at this
      rw [List.all_eq_true] at this
      exact this x hx
    exact OpRun.wp (K' := fun v w' => ∃ A', Grow I0 B A w r.objs r.frz A' w' ∧ VRel (ctxOf I0 B A' w') w' (wrapG g? r.v) v)
      (quietD_ok he hm hops' hq hreq.2 hnew hnd fun v w' A' h1 h2 => ⟨A', h1, wrap_rel hgt h2⟩) hK
  · rw [if_neg hgt]
    have hgf : g? = some false := by
      cases g? with
      | none => simp at hgt
      | some b => simp only [Option.getD_some, Bool.not_eq_true] at hgt; rw [hgt]
    subst hgf
    have h1 : r.objs = [] := hobj.resolve_right (by simp)
    have h2 : r.frz = [] := hfrz.resolve_right (by simp)
    refine hK undef w ⟨A, by rw [h1, h2]; exact Grow.refl (.inl rfl), ?_⟩
    simp only [wrapG, VRel]
    exact ⟨fun e => (by cases e), fun _ => trivial⟩

theorem pick_wp {ops : Array Oper} {l : List DV} {dst : Option Tmp} {c x y : Operand} {ty : TypeId} {pos : String} {after : Array Edge} {guard : Option (Nat × Bool)} {a : Act} {cx : Ctx}
    (hc : VRel cx w (opdD l c) (a.eval c)) (hx : VRel cx w (opdD l x) (a.eval x)) (hy : VRel cx w (opdD l y) (a.eval y))
    {g? : Option Bool} (hg : (g? = none ∧ guard = none) ∨ ∃ b, g? = some b ∧ Region.wanted ⟨dst, .pick c x y, ty, pos, after, guard⟩ (yielded ops a.tmps) = b)
    {c' r : Bool} {v : DV} (hsc : (stripG (g?.getD true) (opdD l c)).1 = .bool c') (hp : pickD c' (opdD l x) (opdD l y) = some (r, v))
    (hreq : (!(g?.getD true) || ((stripG (g?.getD true) (opdD l c)).2 && r)) = true) {Q : Exit → Act → World → Prop} :
    StepsTo P ops ⟨dst, .pick c x y, ty, pos, after, guard⟩ a w Q fun u w' => w' = w ∧ VRel cx w (wrapG g? v) u := by
  intro K hK
  have hwant : Region.wanted ⟨dst, .pick c x y, ty, pos, after, guard⟩ (yielded ops a.tmps) = g?.getD true := by
    rcases hg with ⟨rfl, hg⟩ | ⟨b, rfl, hg⟩
    · simp [Region.wanted, hg]
    · simpa using hg
  rw [hwant]
  by_cases hgt : g?.getD true = true
  · rw [if_pos hgt]
    rw [hgt] at hreq hsc
    simp only [Bool.not_true, Bool.false_or, Bool.and_eq_true] at hreq
    have hcv := strip_rel hc rfl hreq.1
    rw [hsc] at hcv; simp only [VRel] at hcv
    refine OpRun.wp (K' := fun u w' => w' = w ∧ VRel cx w (wrapG g? v) u) (OpRun.value (v := if c' then a.eval x else a.eval y) (w' := w) ?_ ⟨rfl, wrap_rel hgt ?_⟩) hK
    · simp [execOp, hcv, asBool]
    · have h2 := hreq.2
      unfold pickD at hp
      cases c' with
      | true =>
        simp only [if_true]
        split at hp
        · rename_i p q e1 e2
          simp only [Option.some.injEq, Prod.mk.injEq] at hp
          obtain ⟨rfl, rfl⟩ := hp
          simp only [Bool.and_eq_true] at h2
          have := strip_rel hx rfl h2.1
          rw [e1] at this; exact this
        · rename_i k p k' q e1 e2
          by_cases hk : k = k'
          · simp only [hk, decide_true, cond_true, Option.some.injEq, Prod.mk.injEq] at hp
            obtain ⟨rfl, rfl⟩ := hp
            simp only [Bool.and_eq_true] at h2
            have := strip_rel hx rfl h2.1
            rw [e1] at this; subst hk; exact this
          · simp [hk] at hp
        · cases hp
      | false =>
        simp only [Bool.false_eq_true, if_false]
        split at hp
        · rename_i p q e1 e2
          simp only [Option.some.injEq, Prod.mk.injEq] at hp
          obtain ⟨rfl, rfl⟩ := hp
          simp only [Bool.and_eq_true] at h2
          have := strip_rel hy rfl h2.2
          rw [show (!false) = true from rfl] at e2
          rw [e2] at this; exact this
        · rename_i k p k' q e1 e2
          by_cases hk : k = k'
          · simp only [hk, decide_true, cond_true, Option.some.injEq, Prod.mk.injEq] at hp
            obtain ⟨rfl, rfl⟩ := hp
            simp only [Bool.and_eq_true] at h2
            have := strip_rel hy rfl h2.2
            rw [show (!false) = true from rfl] at e2
            rw [e2] at this; exact this
          · simp [hk] at hp
        · cases hp
  · rw [if_neg hgt]
    have hgf : g? = some false := by
      cases g? with
      | none => simp at hgt
      | some b => simp only [Option.getD_some, Bool.not_eq_true] at hgt; rw [hgt]
    subst hgf
    refine hK undef w ⟨rfl, ?_⟩
    simp only [wrapG, VRel]
    exact ⟨fun e => (by cases e), fun _ => trivial⟩

theorem looks_op {ops : Array Oper} {o : Oper} {t : Tmp} (h : Operand.tmp t ∈ o.op.operands.toList) : t ∈ o.looksAt ops := by
  unfold Oper.looksAt
  exact List.mem_append.2 (.inl (List.mem_filterMap.2 ⟨_, h, rfl⟩))

theorem const_rel {c : Ctx} (v : Value) : VRel c w (constD v) v := by
  unfold constD
  split <;> simp only [VRel]
  exact ⟨_, rfl, .inl rfl⟩

theorem opd_rel {c : Ctx} {ops : Array Oper} {l : List DV} {o : Oper} {a : Act}
    (hrd : ∀ t ∈ o.looksAt ops, VRel c w (l.getD t .undef) (a.tmps.getD t undef)) : ∀ x ∈ o.op.operands.toList, VRel c w (opdD l x) (a.eval x) := by
  intro x hx
  cases x with
  | tmp t => exact hrd t (looks_op hx)
  | const v => exact const_rel v
  | global g => simp only [opdD, VRel]
  | func f => simp [opdD, VRel, Act.eval, LRel]

/-- What a step of an operation that writes nothing that there was comes to. -/
theorem stepQ (he : EnvOk P E) {ops : Array Oper} {draw : Bool} {st st' : St} {o : Oper} (hs : stepD E ops draw st o = some (true, st')) (hmut : isMut o.op = false)
    (hsp : ∀ g?, condD ops st.tmps o = some g? → (bif draw then none else spoilArg E (opdD st.tmps) g? o.op) = none) :
    ∃ d objs frz, st'.tmps = setO st.tmps o.dst d ∧ st'.heap = objs.map (fun (x : Nat × OB) => (x.1, false, x.2)) ++ freezeAll st.heap frz ∧
      (∀ n ob, (n, ob) ∈ objs → look st.heap n = none) ∧ (objs.map (·.1)).Nodup ∧ (touchD E ops st o = frz ∧ ∀ n ∈ frz, look st.heap n ≠ none) ∧
      ∀ {I0 : Nat → Prop} {B : Nat} {A : Nat → Option Place} {w : World} {a : Act} {Q : Exit → Act → World → Prop}, Mem I0 B A st.heap w → a.tmps.size = st.tmps.length →
        (∀ t ∈ o.looksAt ops, VRel (ctxOf I0 B A w) w (st.tmps.getD t .undef) (a.tmps.getD t undef)) → (∀ n ob, (n, ob) ∈ objs → A n = none) →
        StepsTo P ops o a w Q fun v w' => ∃ A', Grow I0 B A w objs frz A' w' ∧ VRel (ctxOf I0 B A' w') w' d v := by
  obtain ⟨dst, op, ty, pos, after, guard⟩ := o
  unfold stepD at hs
  cases hc : condD ops st.tmps ⟨dst, op, ty, pos, after, guard⟩ with
  | none => simp [hc] at hs
  | some g? =>
  simp only [hc, Option.bind_some] at hs
  dsimp only at hmut
  replace hsp := hsp g? hc
  dsimp only at hsp
  have quiet : ∀ (hs : ((quietD E st.heap (dst.getD 0) (fun x => (stripG (g?.getD true) (opdD st.tmps x)).1) op).bind fun r =>
      bif (r.objs.all fun (n, _) => (look st.heap n).isNone) && nodupB (r.objs.map (·.1)) && (r.objs.isEmpty || (g?.isNone && dst.isSome)) && (r.frz.isEmpty || (g?.isNone && r.frz.all fun n => (look st.heap n).isSome)) then
        some (!(g?.getD true) || (reqAll (g?.getD true) (opdD st.tmps) op.operands.toList && r.req),
          ({ tmps := setO st.tmps dst (wrapG g? r.v), heap := (r.objs.map fun (n, ob) => (n, false, ob)) ++ freezeAll st.heap r.frz } : St))
      else none) = some (true, st')), ∃ d objs frz, st'.tmps = setO st.tmps dst d ∧ st'.heap = objs.map (fun (x : Nat × OB) => (x.1, false, x.2)) ++ freezeAll st.heap frz ∧
      (∀ n ob, (n, ob) ∈ objs → look st.heap n = none) ∧ (objs.map (·.1)).Nodup ∧ (touchD E ops st ⟨dst, op, ty, pos, after, guard⟩ = frz ∧ ∀ n ∈ frz, look st.heap n ≠ none) ∧
      ∀ {I0 : Nat → Prop} {B : Nat} {A : Nat → Option Place} {w : World} {a : Act} {Q : Exit → Act → World → Prop}, Mem I0 B A st.heap w → a.tmps.size = st.tmps.length →
        (∀ t ∈ Oper.looksAt ops ⟨dst, op, ty, pos, after, guard⟩, VRel (ctxOf I0 B A w) w (st.tmps.getD t .undef) (a.tmps.getD t undef)) → (∀ n ob, (n, ob) ∈ objs → A n = none) →
        StepsTo P ops ⟨dst, op, ty, pos, after, guard⟩ a w Q fun v w' => ∃ A', Grow I0 B A w objs frz A' w' ∧ VRel (ctxOf I0 B A' w') w' d v := by
    intro hs
    cases hq : quietD E st.heap (dst.getD 0) (fun x => (stripG (g?.getD true) (opdD st.tmps x)).1) op with
    | none => simp [hq] at hs
    | some r =>
      simp only [hq, Option.bind_some] at hs
      by_cases hcc : ((r.objs.all fun (n, _) => (look st.heap n).isNone) && nodupB (r.objs.map (·.1)) && (r.objs.isEmpty || (g?.isNone && dst.isSome)) && (r.frz.isEmpty || (g?.isNone && r.frz.all fun n => (look st.heap n).isSome))) = true
      · rw [hcc, cond_true, Option.some.injEq, Prod.mk.injEq] at hs
        obtain ⟨hreq, rfl⟩ := hs
        simp only [Bool.and_eq_true, Bool.or_eq_true, List.isEmpty_iff, Option.isNone_iff_eq_none, List.all_eq_true] at hcc
        obtain ⟨⟨⟨h1, h2⟩, h3⟩, h4⟩ := hcc
        refine ⟨wrapG g? r.v, r.objs, r.frz, rfl, rfl, fun n ob hn => h1 (n, ob) hn, nodupB_spec h2, ⟨by unfold touchD; dsimp only; rw [hmut, hc]; simp only [cond_false, hq], fun n hn e => ?_⟩, ?_⟩
        · rcases h4 with h4 | h4
          · rw [h4] at hn; cases hn
          · have := h4.2 n hn; rw [e] at this; cases this
        intro I0 B A w a Q hm hsz hrd hnew
        exact quiet_wp he hm (opd_rel hrd) (cond_ok hsz hrd hc) hq hreq (h3.imp id And.left) (h4.imp id And.left) hnew (nodupB_spec h2)
      · simp only [Bool.not_eq_true] at hcc; rw [hcc] at hs; cases hs
  cases op
  case pick c x y =>
    simp only at hs
    split at hs
    · rename_i c' hsc
      cases hp : pickD c' (opdD st.tmps x) (opdD st.tmps y) with
      | none => simp [hp] at hs
      | some rv =>
        obtain ⟨r, v⟩ := rv
        simp only [hp, Option.bind_some, Option.some.injEq, Prod.mk.injEq] at hs
        obtain ⟨hreq, rfl⟩ := hs
        refine ⟨wrapG g? v, [], [], rfl, rfl, fun n ob hn => (by cases hn), List.nodup_nil, ⟨by unfold touchD; dsimp only [isMut]; rw [hc]; rfl, fun n hn => (by cases hn)⟩, ?_⟩
        intro I0 B A w a Q hm hsz hrd hnew
        have hr := opd_rel (w := w) hrd
        refine StepsTo.mono (pick_wp (hr c (by simp [Op.operands])) (hr x (by simp [Op.operands])) (hr y (by simp [Op.operands])) (cond_ok hsz hrd hc) hsc hp hreq) ?_
        rintro u w' ⟨rfl, hu⟩
        exact ⟨A, Grow.refl (.inl rfl), hu⟩
    · cases hs
  case store => simp [isMut] at hmut
  case call c =>
    obtain ⟨callee, args, ts⟩ := c
    cases callee
    case builtin b =>
      cases b
      case append => simp [isMut] at hmut
      all_goals (dsimp only at hs; rw [hsp] at hs; exact quiet hs)
    all_goals (dsimp only at hs; rw [hsp] at hs; exact quiet hs)
  all_goals (dsimp only at hs; rw [hsp] at hs; exact quiet hs)
end
end Go.Den

/- One operation of a region, whatever it is. -/
namespace Go.Den
open Go.RowKit (Below)

theorem look_append (a b : Heap) (n : Nat) : look (a ++ b) n = match look a n with | some x => some x | none => look b n := by
  induction a with
  | nil => rfl
  | cons x a ih =>
    obtain ⟨m, y⟩ := x
    simp only [List.cons_append, look]
    cases m == n <;> simp [ih]

theorem look_freeze1 (h : Heap) (m n : Nat) : look (match look h m with | some (_, o) => upd h m (true, o) | none => h) n = (look h n).map fun x => (x.1 || decide (n = m), x.2) := by
  cases hm : look h m with
  | none =>
    simp only
    cases hn : look h n with
    | none => rfl
    | some x =>
      have : n ≠ m := fun e => by rw [e, hm] at hn; cases hn
      simp [this]
  | some x =>
    obtain ⟨f, o⟩ := x
    simp only
    rw [look_upd hm]
    by_cases e : n = m
    · subst e; simp [hm]
    · rw [if_neg e]
      cases look h n with
      | none => rfl
      | some x => simp [e]

theorem look_freezeAll : ∀ (ns : List Nat) (h : Heap) (n : Nat), look (freezeAll h ns) n = (look h n).map fun x => (x.1 || decide (n ∈ ns), x.2)
  | [], h, n => by
    unfold freezeAll
    simp
  | m :: ns, h, n => by
    have e : freezeAll h (m :: ns) = freezeAll (match look h m with | some (_, o) => upd h m (true, o) | none => h) ns := rfl
    rw [e, look_freezeAll ns, look_freeze1]
    cases look h n with
    | none => rfl
    | some x => simp [Bool.or_assoc]

theorem look_objs {objs : List (Nat × OB)} : ∀ {n : Nat} {x : Bool × OB}, look (objs.map (fun (x : Nat × OB) => (x.1, false, x.2))) n = some x → ∃ ob, (n, ob) ∈ objs ∧ x = (false, ob) := by
  induction objs with
  | nil => intro n x h; cases h
  | cons y l ih =>
    intro n x h
    simp only [List.map_cons, look] at h
    by_cases e : y.1 = n
    · rw [show (y.1 == n) = true by simpa using e] at h
      simp only [cond_true, Option.some.injEq] at h
      exact ⟨y.2, by rw [← e]; exact List.mem_cons_self, h.symm⟩
    · rw [show (y.1 == n) = false by simpa using e] at h
      obtain ⟨ob, h1, h2⟩ := ih h
      exact ⟨ob, List.mem_cons_of_mem _ h1, h2⟩

theorem look_objs_none {objs : List (Nat × OB)} {n : Nat} (h : look (objs.map (fun (x : Nat × OB) => (x.1, false, x.2))) n = none) : ∀ ob, (n, ob) ∉ objs := by
  induction objs with
  | nil => intro ob h; cases h
  | cons y l ih =>
    intro ob hm
    simp only [List.map_cons, look] at h
    by_cases e : y.1 = n
    · rw [show (y.1 == n) = true by simpa using e] at h; simp at h
    · rw [show (y.1 == n) = false by simpa using e] at h
      rcases List.mem_cons.1 hm with rfl | hm
      · exact e rfl
      · exact ih h ob hm

theorem nodup_fst {α : Type} {l : List (Nat × α)} (h : (l.map (·.1)).Nodup) {n : Nat} {x y : α} (h1 : (n, x) ∈ l) (h2 : (n, y) ∈ l) : x = y := by
  have e1 := lk_of_mem h h1
  have e2 := lk_of_mem h h2
  rw [e1] at e2; exact Option.some.inj e2

/-- What a step does. -/
structure StepOk (P : Program) (E : Env) (ops : Array Oper) (draw : Bool) (st : St) (o : Oper) (st' : St) (d : DV) : Prop where
  tmps : st'.tmps = setO st.tmps o.dst d
  there : draw = true → ∀ n, n ∈ touchD E ops st o → look st.heap n ≠ none
  stays : ∀ n, look st.heap n ≠ none → look st'.heap n ≠ none
  same : draw = true → ∀ n, n ∉ touchD E ops st o → look st.heap n ≠ none → look st'.heap n = look st.heap n
  run : ∀ {I0 : Nat → Prop} {B : Nat} {A : Nat → Option Place} {w : World} {a : Act} {Q : Exit → Act → World → Prop}, Mem I0 B A st.heap w → a.tmps.size = st.tmps.length →
    (∀ t ∈ o.looksAt ops, VRel (ctxOf I0 B A w) w (st.tmps.getD t .undef) (a.tmps.getD t undef)) → (∀ n, look st.heap n = none → look st'.heap n ≠ none → A n = none) →
    StepsTo P ops o a w Q fun v w' => ∃ A', Mem I0 B A' st'.heap w' ∧ Moved A w A' w' ∧ Below B w w' ∧ VRel (ctxOf I0 B A' w') w' d v ∧
      (∀ n p, A' n = some p → A n = none → look st.heap n = none ∧ look st'.heap n ≠ none) ∧
      (draw = true → KeptBut (touchD E ops st o) A w w' ∧ ∀ m q, m ∉ touchD E ops st o → A m = some q → A' m = some q)

section
variable {P : Program} {E : Env}

theorem stepD_quiet (he : EnvOk P E) {ops : Array Oper} {draw : Bool} {st st' : St} {o : Oper} (hs : stepD E ops draw st o = some (true, st')) (hmut : isMut o.op = false)
    (hsp : ∀ g?, condD ops st.tmps o = some g? → (bif draw then none else spoilArg E (opdD st.tmps) g? o.op) = none) :
    ∃ d, StepOk P E ops draw st o st' d := by
  obtain ⟨d, objs, frz, h1, h2, h3, h4, h5, h6⟩ := stepQ he hs hmut hsp
  obtain ⟨hm0, h5'⟩ := h5
  have hlk : ∀ n, look st'.heap n = match look (objs.map (fun (x : Nat × OB) => (x.1, false, x.2))) n with | some x => some x | none => (look st.heap n).map fun x => (x.1 || decide (n ∈ frz), x.2) := by
    intro n; rw [h2, look_append, look_freezeAll]
  have hold : ∀ n, look st.heap n ≠ none → look st'.heap n = (look st.heap n).map fun x => (x.1 || decide (n ∈ frz), x.2) := by
    intro n hn
    rw [hlk]
    cases hq : look (objs.map (fun (x : Nat × OB) => (x.1, false, x.2))) n with
    | none => rfl
    | some x =>
      obtain ⟨ob, hob, _⟩ := look_objs hq
      exact absurd (h3 n ob hob) hn
  have hobj : ∀ n ob, (n, ob) ∈ objs → look st'.heap n = some (false, ob) := by
    intro n ob hob
    rw [hlk]
    cases hq : look (objs.map (fun (x : Nat × OB) => (x.1, false, x.2))) n with
    | none => exact absurd hob (look_objs_none hq ob)
    | some x =>
      obtain ⟨ob', hob', rfl⟩ := look_objs hq
      rw [nodup_fst h4 hob hob']
  refine ⟨d, h1, fun _ n hn => h5' n (hm0 ▸ hn), fun n hn => ?_, fun hd n hf hn => ?_, ?_⟩
  · rw [hold n hn]
    cases hq : look st.heap n with
    | none => exact absurd hq hn
    | some x => simp
  · rw [hm0] at hf
    rw [hold n hn]
    cases look st.heap n with
    | none => rfl
    | some x => simp [hf]
  · intro I0 B A w a Q hm hsz hrd hnew
    have hnew' : ∀ n ob, (n, ob) ∈ objs → A n = none := fun n ob hob => hnew n (h3 n ob hob) (by rw [hobj n ob hob]; simp)
    refine (h6 hm hsz hrd hnew').mono ?_
    rintro v w' ⟨A', hg, hv⟩
    have hmem : Mem I0 B A' st'.heap w' := by
      refine hg.mem hm (fun n p fo' hp hl => ?_) (fun n ob fo' hob hn hl => ?_)
      · rw [hlk] at hl
        cases hq : look (objs.map (fun (x : Nat × OB) => (x.1, false, x.2))) n with
        | some x =>
          obtain ⟨ob, hob, _⟩ := look_objs hq
          rw [hnew' n ob hob] at hp; cases hp
        | none =>
          rw [hq] at hl
          cases hf : look st.heap n with
          | none => rw [hf] at hl; cases hl
          | some fo => rw [hf] at hl; cases hl; exact ⟨fo, rfl, rfl⟩
      · rw [hobj n ob hob] at hl; cases hl; rfl
    refine ⟨A', hmem, hg.moved, hg.below.mono hm.hB, hv, fun n p hp hn => ?_, fun hd => ⟨fun m q b _ hq hqd hqb => hg.below.block b (hm.blkB m q b hq hqd hqb).2, fun m q hmf hq => ?_⟩⟩
    · obtain ⟨_, _, ob, hob, _⟩ := hg.new n p hn hp
      exact ⟨h3 n ob hob, by rw [hobj n ob hob]; simp⟩
    · have := hg.old m q hq
      rw [this]
      rw [hm0] at hmf
      cases q
      simp [fzP, hmf]
end
end Go.Den

/- Stores and appends in their region; all operations together. -/
namespace Go.Den
open Go.RowKit (Below)
section
variable {P : Program} {E : Env}

theorem wanted_none {o : Oper} {y : Nat → Option Bool} (h : o.guard = none) : Region.wanted o y = true := by
  unfold Region.wanted; rw [h]

theorem condD_none {ops : Array Oper} {l : List DV} {o : Oper} (h : condD ops l o = some none) : o.guard = none := by
  unfold condD at h
  split at h
  · assumption
  · split at h
    · split at h <;> cases h
    · cases h

/-- What a heap operation leaves of the names. -/
structure HeapTurn (ns : List Nat) (nm : Option Nat) (h h' : Heap) : Prop where
  there : ∀ m, m ∈ ns → look h m ≠ none
  stays : ∀ m, look h m ≠ none → look h' m ≠ none
  same : ∀ m, m ∉ ns → some m ≠ nm → look h' m = look h m

theorem turn_upd {h : Heap} {n : Nat} {x y : Bool × OB} (hl : look h n = some x) : HeapTurn [n] none h (upd h n y) where
  there := fun m hm => by rw [List.mem_singleton.1 hm, hl]; simp
  stays := fun m hm => by rw [look_upd hl]; split <;> simp_all
  same := fun m hm _ => by rw [look_upd hl, if_neg (fun e => hm (by rw [e]; exact List.mem_singleton.2 rfl))]

theorem turn_push {h : Heap} {nm : Nat} {x : Bool × OB} : HeapTurn [] (some nm) h ((nm, x) :: h) where
  there := fun m hm => by cases hm
  stays := fun m hm => by simp only [look]; cases nm == m <;> simp [hm]
  same := fun m _ hne => by
    simp only [look]
    rw [show (nm == m) = false by simpa using fun e : nm = m => hne (by rw [e])]; rfl

theorem turn_both {h : Heap} {n nm : Nat} {x y z : Bool × OB} (hl : look h n = some x) : HeapTurn [n] (some nm) h ((nm, z) :: upd h n y) where
  there := (turn_upd (y := y) hl).there
  stays := fun m hm => turn_push.stays m ((turn_upd (y := y) hl).stays m hm)
  same := fun m hm hne => by rw [turn_push.same m (by simp) hne, (turn_upd (y := y) hl).same m hm (by simp)]

theorem storeD_heap {h h' : Heap} {t : TypeId} {a v : DV} {r : Bool} (hs : storeD E h t a v = some (r, h')) : HeapTurn (mutA a) none h h' := by
  unfold storeD at hs
  cases hT : E.ty t with
  | none => simp [hT] at hs
  | some ti =>
  simp only [hT, Option.bind_some] at hs
  cases hc : (wholeB v && (cells v).length == ti.size && (cells v).all flatB) with
  | false => rw [hc] at hs; simp at hs
  | true =>
  rw [hc, cond_true] at hs
  split at hs
  · rename_i n i j
    split at hs
    · rename_i cs hlk
      cases hq : (i == 0 && decide (j + ti.size ≤ cs.length)) with
      | false => rw [hq] at hs; simp at hs
      | true =>
        rw [hq, cond_true, Option.some.injEq, Prod.mk.injEq] at hs
        obtain ⟨_, rfl⟩ := hs
        exact turn_upd hlk
    · rename_i e k l hlk
      split at hs
      · rename_i k' x
        cases hq : (j == 0 && decide (k = k')) with
        | false => rw [hq] at hs; simp at hs
        | true =>
          rw [hq, cond_true, Option.some.injEq, Prod.mk.injEq] at hs
          obtain ⟨_, rfl⟩ := hs
          exact turn_upd hlk
      · cases hs
    · rename_i e sz l hlk
      cases hlow : lowerAll h (cells v) with
      | none => simp [hlow] at hs
      | some q =>
      obtain ⟨vs, ns⟩ := q
      simp only [hlow, Option.bind_some] at hs
      cases hq : (decide (j + ti.size ≤ sz) && ns.isEmpty) with
      | false => rw [hq] at hs; simp at hs
      | true =>
        rw [hq, cond_true, Option.some.injEq, Prod.mk.injEq] at hs
        obtain ⟨_, rfl⟩ := hs
        exact turn_upd hlk
    · cases hs
  · cases hs

theorem appendD_heap {h h' : Heap} {nm : Nat} {t : TypeId} {s x v : DV} {r : Bool} (ha : appendD E h nm t s x = some (r, v, h')) : HeapTurn (mutS s) (some nm) h h' ∧ look h nm = none := by
  unfold appendD at ha
  split at ha
  · rename_i e _ hT
    cases hE : E.ty e with
    | none => simp [hE] at ha
    | some ei =>
    simp only [hE, Option.bind_some] at ha
    cases hq : (decide (ei.bytes ≤ 128) && decide (0 < ei.size) && (look h nm).isNone) with
    | false => rw [hq] at ha; simp at ha
    | true =>
    rw [hq, cond_true] at ha
    simp only [Bool.and_eq_true, decide_eq_true_eq, Option.isNone_iff_eq_none] at hq
    refine ⟨?_, hq.2⟩
    split at ha
    · split at ha
      · rename_i k hk
        cases hs1 : (ei.size == 1) with
        | false => rw [hs1] at ha; simp at ha
        | true =>
        rw [hs1, cond_true] at ha
        cases hel : elemsI h k x with
        | none => simp [hel] at ha
        | some l =>
          simp only [hel, Option.bind_some, Option.some.injEq, Prod.mk.injEq] at ha
          obtain ⟨_, _, rfl⟩ := ha
          exact turn_push
      · cases hel : elemsR h ei.size x with
        | none => simp [hel] at ha
        | some l =>
          simp only [hel, Option.bind_some, Option.some.injEq, Prod.mk.injEq] at ha
          obtain ⟨_, _, rfl⟩ := ha
          exact turn_push
    · rename_i n
      split at ha
      · rename_i e' k l' hlo
        cases hel : elemsI h k x with
        | none => simp [hel] at ha
        | some l =>
          simp only [hel, Option.bind_some] at ha
          cases hc : (e == e' && ei.size == 1) with
          | false => rw [hc] at ha; simp at ha
          | true =>
            rw [hc, cond_true] at ha
            simp only [Option.some.injEq, Prod.mk.injEq] at ha
            obtain ⟨_, _, rfl⟩ := ha
            exact turn_both hlo
      · rename_i e' sz l' hlo
        cases hel : elemsR h sz x with
        | none => simp [hel] at ha
        | some l =>
          simp only [hel, Option.bind_some] at ha
          cases hc : (e == e' && sz == ei.size) with
          | false => rw [hc] at ha; simp at ha
          | true =>
            rw [hc, cond_true] at ha
            simp only [Option.some.injEq, Prod.mk.injEq] at ha
            obtain ⟨_, _, rfl⟩ := ha
            exact turn_both hlo
      · cases ha
    · cases ha
  · cases ha

theorem appendD_new {h h' : Heap} {nm : Nat} {t : TypeId} {s x v : DV} {r : Bool} (ha : appendD E h nm t s x = some (r, v, h')) : (look h' nm).isSome = true := by
  have push : ∀ {y : Bool × OB} {k : Heap}, (look ((nm, y) :: k) nm).isSome = true := by intro y k; simp [look]
  unfold appendD at ha
  split at ha
  · rename_i e _ hT
    cases hE : E.ty e with
    | none => simp [hE] at ha
    | some ei =>
    simp only [hE, Option.bind_some] at ha
    cases hq : (decide (ei.bytes ≤ 128) && decide (0 < ei.size) && (look h nm).isNone) with
    | false => rw [hq] at ha; simp at ha
    | true =>
    rw [hq, cond_true] at ha
    split at ha
    · split at ha
      · rename_i k hk
        cases hs1 : (ei.size == 1) with
        | false => rw [hs1] at ha; simp at ha
        | true =>
        rw [hs1, cond_true] at ha
        cases hel : elemsI h k x with
        | none => simp [hel] at ha
        | some l =>
          simp only [hel, Option.bind_some, Option.some.injEq, Prod.mk.injEq] at ha
          obtain ⟨_, _, rfl⟩ := ha
          exact push
      · cases hel : elemsR h ei.size x with
        | none => simp [hel] at ha
        | some l =>
          simp only [hel, Option.bind_some, Option.some.injEq, Prod.mk.injEq] at ha
          obtain ⟨_, _, rfl⟩ := ha
          exact push
    · rename_i n
      split at ha
      · rename_i e' k l' hlo
        cases hel : elemsI h k x with
        | none => simp [hel] at ha
        | some l =>
          simp only [hel, Option.bind_some] at ha
          cases hc : (e == e' && ei.size == 1) with
          | false => rw [hc] at ha; simp at ha
          | true =>
            rw [hc, cond_true] at ha
            simp only [Option.some.injEq, Prod.mk.injEq] at ha
            obtain ⟨_, _, rfl⟩ := ha
            exact push
      · rename_i e' sz l' hlo
        cases hel : elemsR h sz x with
        | none => simp [hel] at ha
        | some l =>
          simp only [hel, Option.bind_some] at ha
          cases hc : (e == e' && sz == ei.size) with
          | false => rw [hc] at ha; simp at ha
          | true =>
            rw [hc, cond_true] at ha
            simp only [Option.some.injEq, Prod.mk.injEq] at ha
            obtain ⟨_, _, rfl⟩ := ha
            exact push
      · cases ha
    · cases ha
  · cases ha

theorem stepD_store (he : EnvOk P E) {ops : Array Oper} {draw : Bool} {st st' : St} {dst : Option Tmp} {t : TypeId} {x y : Operand} {ty : TypeId} {pos : String} {after : Array Edge} {guard : Option (Nat × Bool)}
    (hs : stepD E ops draw st ⟨dst, .store t x y, ty, pos, after, guard⟩ = some (true, st')) : ∃ d, StepOk P E ops draw st ⟨dst, .store t x y, ty, pos, after, guard⟩ st' d := by
  unfold stepD at hs
  cases hc : condD ops st.tmps ⟨dst, .store t x y, ty, pos, after, guard⟩ with
  | none => simp [hc] at hs
  | some g? =>
  cases g? with
  | some b => simp [hc] at hs
  | none =>
  have hg := condD_none hc
  dsimp only at hg
  simp only [hc, Option.bind_some] at hs
  cases hst : storeD E st.heap t (opdD st.tmps x) (opdD st.tmps y) with
  | none => simp [hst] at hs
  | some rh =>
  obtain ⟨r, h'⟩ := rh
  simp only [hst, Option.bind_some, Option.some.injEq, Prod.mk.injEq] at hs
  obtain ⟨rfl, rfl⟩ := hs
  have ht := storeD_heap hst
  refine ⟨.undef, rfl, fun _ => ht.there, ht.stays, fun _ n hn _ => ht.same n hn (by simp), ?_⟩
  intro I0 B A w a Q hm hsz hrd hnew
  have hr := opd_rel (w := w) hrd
  obtain ⟨w', hrun, h1, h2, h3, h4, h5, h6, h7⟩ := storeD_ok he.ty hm (hr x (by simp [Op.operands])) (hr y (by simp [Op.operands])) hst rfl
  intro K hK
  rw [if_pos (wanted_none hg)]
  unfold Oper.wp execOp
  simp only [Sem.run_bind, Sem.run_pure, Result.andThen_ok, hrun]
  rw [Oper.upon_skip]
  refine hK undef w' ⟨A, h1, h2, h3, by simp [VRel], fun n p hp hn => (by rw [hn] at hp; cases hp), fun _ => ⟨h5, fun m q _ hq => hq⟩⟩

theorem stepD_append (he : EnvOk P E) {ops : Array Oper} {draw : Bool} {st st' : St} {dst : Option Tmp} {args : Array Operand} {ts : Array TypeId} {ty : TypeId} {pos : String} {after : Array Edge} {guard : Option (Nat × Bool)}
    (hs : stepD E ops draw st ⟨dst, .call ⟨.builtin .append, args, ts⟩, ty, pos, after, guard⟩ = some (true, st')) : ∃ d, StepOk P E ops draw st ⟨dst, .call ⟨.builtin .append, args, ts⟩, ty, pos, after, guard⟩ st' d := by
  unfold stepD at hs
  cases hc : condD ops st.tmps ⟨dst, .call ⟨.builtin .append, args, ts⟩, ty, pos, after, guard⟩ with
  | none => simp [hc] at hs
  | some g? =>
  simp only [hc, Option.bind_some] at hs
  split at hs
  · rename_i s x t t' hargs hts
    have hg := condD_none hc
    dsimp only at hg
    cases hq : (t == t' && dst.isSome) with
    | false => rw [hq] at hs; simp at hs
    | true =>
    rw [hq, cond_true] at hs
    simp only [Bool.and_eq_true, beq_iff_eq] at hq
    obtain ⟨rfl, hdst⟩ := hq
    cases hap : appendD E st.heap (dst.getD 0) t (opdD st.tmps s) (opdD st.tmps x) with
    | none => simp [hap] at hs
    | some rh =>
    obtain ⟨r, v, h'⟩ := rh
    simp only [hap, Option.bind_some, Option.some.injEq, Prod.mk.injEq] at hs
    obtain ⟨rfl, rfl⟩ := hs
    obtain ⟨ht, hnone⟩ := appendD_heap hap
    have hmut : touchD E ops st ⟨dst, .call ⟨.builtin .append, args, ts⟩, ty, pos, after, guard⟩ = mutS (opdD st.tmps s) := by
      unfold touchD mutD; simp only [hargs, isMut, cond_true]
    obtain rfl : args = #[s, x] := by
      cases args with | mk l => simp only at hargs; rw [hargs]
    obtain rfl : ts = #[t, t] := by
      cases ts with | mk l => simp only at hts; rw [hts]
    refine ⟨v, rfl, fun _ n hn => ht.there n (hmut ▸ hn), ht.stays, fun _ n hn hl => ht.same n (hmut ▸ hn) (fun e => hl ?_), ?_⟩
    · cases dst with
      | none => cases hdst
      | some d => simp only [Option.getD_some] at e hnone; cases e; exact hnone
    · intro I0 B A w a Q hm hsz hrd hnew
      have hr := opd_rel (w := w) hrd
      have hnm : A (dst.getD 0) = none := hnew _ hnone (by
        have := appendD_new hap
        exact fun e => by rw [e] at this; cases this)
      obtain ⟨v', w', A', hrun, h1, h2, h3, h4, h5, h6, h7, h8, _⟩ := appendD_ok (ty := ty) he.ty hm hnm (hr s (by simp [Op.operands, Call.operands])) (hr x (by simp [Op.operands, Call.operands])) hap rfl
      intro K hK
      rw [if_pos (wanted_none hg)]
      unfold Oper.wp execOp
      simp only [resolve, invoke, builtin, Sem.run_bind, Sem.run_pure, Result.andThen_ok, List.map_toArray, List.map_cons, List.map_nil, hrun]
      rw [Oper.upon_value]
      refine hK v' w' ⟨A', h1, h2, h3, h4, fun n p hp hn => ?_, fun _ => ⟨hmut ▸ h7, fun m q hmn hq => h8 m q (hmut ▸ hmn) hq⟩⟩
      have := h5 n p hp hn
      subst this
      exact ⟨hnone, fun e => by have := appendD_new hap; rw [e] at this; cases this⟩
  · cases hs

theorem objRel_turn {c c' : Ctx} {w w' : World} (h : Later c w c' w') {p : Place} (hb : p.st ≠ .dead → ∀ b, p.blk = some b → w'.heap[b]? = w.heap[b]?) {fo : Bool × OB} (hr : ObjRel c w p fo) : ObjRel c' w' p fo := by
  by_cases hd : p.st = .dead
  · obtain ⟨fz, ob⟩ := fo
    cases ob with
    | dead => exact hd
    | box cs => exact absurd hd (notDead hr.1)
    | ints e k l => exact absurd hd (notDead hr.1)
    | recs e sz l => exact absurd hd (notDead hr.1)
  · exact ObjRel.later h rfl rfl (hb hd) fo hr

theorem spoilArg_inv {ρ : Operand → DV} {g? : Option Bool} {op : Op} {n : Nat} {e : TypeId} (h : spoilArg E ρ g? op = some (n, e)) :
    g? = none ∧ ∃ f args ts g x r c, op = .call ⟨.value f, args, ts⟩ ∧ args.toList = [x] ∧ ρ f = .fn g [] [] ∧ E.spoil g = some e ∧ ρ x = .agg [.int .i64 r, .int .i64 c, .oref n] := by
  unfold spoilArg at h
  split at h
  · rename_i f args ts
    split at h
    · rename_i g x hf ha
      split at h
      · rename_i e' r c m he hx
        simp only [Option.some.injEq, Prod.mk.injEq] at h
        obtain ⟨rfl, rfl⟩ := h
        exact ⟨rfl, f, args, ts, g, x, r, c, rfl, ha, hf, he, hx⟩
      · cases h
    · cases h
  · cases h

theorem stepD_spoil (he : EnvOk P E) {ops : Array Oper} {draw : Bool} {st st' : St} {o : Oper} (hs : stepD E ops draw st o = some (true, st'))
    (hsp : ¬ ∀ g?, condD ops st.tmps o = some g? → (bif draw then none else spoilArg E (opdD st.tmps) g? o.op) = none) : ∃ d, StepOk P E ops draw st o st' d := by
  obtain ⟨dst, op, ty, pos, after, guard⟩ := o
  rw [Classical.not_forall] at hsp
  obtain ⟨g?, hsp⟩ := hsp
  rw [Classical.not_imp] at hsp
  obtain ⟨hc, hsp⟩ := hsp
  cases draw with
  | true => exact absurd rfl hsp
  | false =>
  dsimp only at hsp
  rw [cond_false] at hsp
  cases hsa : spoilArg E (opdD st.tmps) g? op with
  | none => exact absurd hsa hsp
  | some ne =>
  obtain ⟨n, e⟩ := ne
  obtain ⟨rfl, f, args, ts, g, x, r, c, rfl, hargs, hf, hE, hx⟩ := spoilArg_inv hsa
  unfold stepD at hs
  simp only [hc, Option.bind_some, cond_false, hsa] at hs
  have hg := condD_none hc
  dsimp only at hg
  split at hs
  · rename_i e' l hlk
    cases hee : (e == e') with
    | false => rw [hee] at hs; simp at hs
    | true =>
    rw [hee, cond_true, Option.some.injEq, Prod.mk.injEq] at hs
    obtain ⟨_, rfl⟩ := hs
    obtain rfl : e = e' := by simpa using hee
    have ht := turn_upd (y := (false, OB.dead)) hlk
    refine ⟨.undef, rfl, fun h => (by cases h), ht.stays, fun h => (by cases h), ?_⟩
    intro I0 B A w a Q hm hsz hrd hnew
    have hr := opd_rel (w := w) hrd
    have hf' := hr f (by simp [Op.operands, Call.operands])
    have hx' := hr x (by simp [Op.operands, Call.operands]; exact .inr (by rw [← Array.mem_toList_iff, hargs]; simp))
    rw [hf] at hf'
    rw [hx] at hx'
    simp only [VRel] at hf' hx'
    obtain ⟨fs, cs, hfv, hfs, hcs⟩ := hf'
    obtain ⟨vs, hxv, hvs⟩ := hx'
    have e1 : fs = #[] := by
      have := hfs.length; simp at this; exact Array.eq_empty_of_size_eq_zero this.symm
    have e2 : cs = #[] := by
      have := hcs.length; simp at this; exact Array.eq_empty_of_size_eq_zero this.symm
    subst e1; subst e2
    simp only [LRel, VRel] at hvs
    obtain ⟨u1, us1, h1, rfl, u2, us2, rfl, rfl, v, us3, rfl, ⟨hcell, p, hp, hpd⟩, rfl⟩ := hvs
    have hp : A n = some p := hp
    have hvs' : vs = #[.int .i64 r, .int .i64 c, v] := Array.toList_inj.1 (by simpa using h1)
    subst hvs'
    obtain ⟨hlive, sv, hkind, hown⟩ := own_ints hm hp hlk
    simp only [Bool.false_eq_true, if_false] at hlive
    have hsv : v = sv := by
      rcases hpd with hpd | ⟨size, hk⟩
      · rw [hlive] at hpd; cases hpd
      · rw [hkind] at hk; cases hk; rfl
    subst hsv
    have hblk : p.blk = v.ownBlock := by unfold Place.blk; rw [hkind]
    have hrun := (he.spoil g e hE).run w r c v l (ownsRow_le hown (Nat.zero_le _))
    let A' : Nat → Option Place := fun m => if m = n then some ⟨.dead, p.kind⟩ else A m
    have hA' : ∀ {m : Nat} {q : Place}, A' m = some q → q.st ≠ .dead → m ≠ n ∧ A m = some q := by
      intro m q hq hqd
      by_cases hmn : m = n
      · have hq : (if m = n then some ⟨.dead, p.kind⟩ else A m) = some q := hq
        rw [if_pos hmn] at hq; cases hq; exact absurd rfl hqd
      · have hq : (if m = n then some ⟨.dead, p.kind⟩ else A m) = some q := hq
        rw [if_neg hmn] at hq; exact ⟨hmn, hq⟩
    intro K hK
    rw [if_pos (wanted_none hg)]
    obtain rfl : args = #[x] := by
      cases args with | mk l => simp only at hargs; rw [hargs]
    refine OpRun.wp (K' := fun _ w' => Below 0 w w' ∧ ∀ b, b < w.heap.size → v.ownBlock ≠ some b → w'.heap[b]? = w.heap[b]?) ?_ ?_
    · unfold OpRun
      have hexec : (execOp a.eval ⟨dst, .call ⟨.value f, #[x], ts⟩, ty, pos, after, guard⟩).run P w = .ok (.enter g #[.agg #[.int .i64 r, .int .i64 c, v]]) w := by
        simp only [execOp, resolve, hfv, Deferred.ofValue, Sem.run_bind, Sem.run_pure, Result.andThen_ok, invoke]
        have : (#[] ++ Array.map a.eval #[x] ++ #[] : Array Value) = #[.agg #[.int .i64 r, .int .i64 c, v]] := by simp [hxv]
        rw [this]
        exact (he.spoil g e hE).call _ _
      rw [hexec]
      exact hrun.mono fun en w' ⟨⟨u, hu⟩, hb, hk⟩ => ⟨u, hu, hb, hk⟩
    · rintro u w' ⟨hb, hk⟩
      have hmv : Moved A w A' w' := by
        refine ⟨hb.size, fun m q hq => ?_, fun m q b hq hql hqb _ => ?_, fun b hlt hno => hk b hlt (fun h => hno n p hp hlive (by rw [hblk]; exact h))⟩
        · by_cases hmn : m = n
          · subst hmn
            exact ⟨⟨.dead, p.kind⟩, if_pos rfl, .inl rfl⟩
          · refine ⟨q, (if_neg hmn).trans hq, ?_⟩
            by_cases hd : q.st = .dead
            · exact .inl hd
            · exact .inr ⟨hd, rfl⟩
        · obtain ⟨_, hq⟩ := hA' hq (by rw [hql]; simp)
          exact ⟨m, q, hq, hql, hqb⟩
      refine hK u w' ⟨A', ⟨Nat.le_trans hm.hB hb.size, hm.I0lt, fun m q fo hq hlo => ?_, fun m q b hq hqd hqb => ?_, fun m m' q q' b hq hq' hqd hqd' hqb hqb' => ?_⟩, hmv, ⟨hb.os, hb.tape, hb.output, hb.size, fun b hlt => hk b (Nat.lt_of_lt_of_le hlt hm.hB) fun h => ?_⟩, by simp [VRel], fun m q hq hn => ?_, fun h => (by cases h)⟩
      · rw [look_upd hlk] at hlo
        by_cases hmn : m = n
        · rw [if_pos hmn] at hlo; cases hlo
          have hq : (if m = n then some ⟨.dead, p.kind⟩ else A m) = some q := hq
          rw [if_pos hmn] at hq; cases hq
          rfl
        · rw [if_neg hmn] at hlo
          have hq : (if m = n then some ⟨.dead, p.kind⟩ else A m) = some q := hq
          rw [if_neg hmn] at hq
          refine objRel_turn hmv.later (fun hd b hb' => hk b (hm.blkB m q b hq hd hb').2 fun h => hmn (hm.inj m n q p b hq hp hd (by rw [hlive]; simp) hb' (by rw [hblk]; exact h))) (hm.obj m q fo hq hlo)
      · obtain ⟨_, hq⟩ := hA' hq hqd
        have := hm.blkB m q b hq hqd hqb
        exact ⟨this.1, Nat.lt_of_lt_of_le this.2 hb.size⟩
      · obtain ⟨_, hq⟩ := hA' hq hqd
        obtain ⟨_, hq'⟩ := hA' hq' hqd'
        exact hm.inj m m' q q' b hq hq' hqd hqd' hqb hqb'
      · have := (hm.blkB n p b hp (by rw [hlive]; simp) (by rw [hblk]; exact h)).1
        omega
      · by_cases hmn : m = n
        · subst hmn; rw [hp] at hn; cases hn
        · have hq : (if m = n then some ⟨.dead, p.kind⟩ else A m) = some q := hq
          rw [if_neg hmn, hn] at hq; cases hq
  · cases hs

/-- Any operation. -/
theorem stepD_ok (he : EnvOk P E) {ops : Array Oper} {draw : Bool} {st st' : St} {o : Oper} (hs : stepD E ops draw st o = some (true, st')) : ∃ d, StepOk P E ops draw st o st' d := by
  cases hmut : isMut o.op with
  | false =>
    by_cases hsp : ∀ g?, condD ops st.tmps o = some g? → (bif draw then none else spoilArg E (opdD st.tmps) g? o.op) = none
    · exact stepD_quiet he hs hmut hsp
    · exact stepD_spoil he hs hsp
  | true =>
    obtain ⟨dst, op, ty, pos, after, guard⟩ := o
    dsimp only at hmut
    unfold isMut at hmut
    split at hmut
    · exact stepD_store he hs
    · exact stepD_append he hs
    · cases hmut
end
end Go.Den

/- One step of a region, seen from whatever order. -/
namespace Go.Den
open Go.RowKit (Below)

/-- A frame's state: 'f' tells the objects, 'g' the temporaries. -/
structure HoldsA (S I0 : Nat → Prop) (B : Nat) (w0 : World) (A : Nat → Option Place) (f : Nat → Option (Bool × OB)) (g : Nat → DV) (len : Nat) (a : Act) (w : World) : Prop where
  defers : a.defers = []
  size : a.tmps.size = len
  below : Below B w0 w
  hB : B ≤ w.heap.size
  I0lt : ∀ b, I0 b → b < B
  obj : ∀ n p, A n = some p → ∃ fo, f n = some fo ∧ ObjRel (ctxOf I0 B A w) w p fo
  blkB : ∀ n p b, A n = some p → p.st ≠ .dead → p.blk = some b → B ≤ b ∧ b < w.heap.size
  inj : ∀ n m p q b, A n = some p → A m = some q → p.st ≠ .dead → q.st ≠ .dead → p.blk = some b → q.blk = some b → n = m
  tmps : ∀ t, VRel (ctxOf I0 B A w) w (g t) (a.tmps.getD t undef)
  kept : ∀ b, S b → b < w.heap.size ∧ w.heap[b]? = w0.heap[b]? ∧ ∀ n p, A n = some p → p.st = .live → p.blk ≠ some b

theorem kept_step {S : Nat → Prop} {A A' : Nat → Option Place} {w0 w w' : World} (h : ∀ b, S b → b < w.heap.size ∧ w.heap[b]? = w0.heap[b]? ∧ ∀ n p, A n = some p → p.st = .live → p.blk ≠ some b) (hm : Moved A w A' w') :
    ∀ b, S b → b < w'.heap.size ∧ w'.heap[b]? = w0.heap[b]? ∧ ∀ n p, A' n = some p → p.st = .live → p.blk ≠ some b := fun b hb => by
  obtain ⟨k1, k2, k3⟩ := h b hb
  refine ⟨Nat.lt_of_lt_of_le k1 hm.size, (hm.kept b k1 k3).trans k2, fun n p hp hl hbk => ?_⟩
  obtain ⟨m, q, hq, hql, hqb⟩ := hm.live n p b hp hl hbk k1
  exact k3 m q hq hql hqb

section
variable {P : Program} {E : Env} {S I0 : Nat → Prop} {B : Nat} {w0 : World} {A : Nat → Option Place} {f f' : Nat → Option (Bool × OB)} {g g' : Nat → DV} {len : Nat} {a : Act} {w : World}

theorem HoldsA.mem (h : HoldsA S I0 B w0 A f g len a w) {hp : Heap} (hf : ∀ n p fo, A n = some p → look hp n = some fo → f n = some fo) : Mem I0 B A hp w :=
  ⟨h.hB, h.I0lt, fun n p fo hn hl => by
    obtain ⟨fo', h1, h2⟩ := h.obj n p hn
    rw [hf n p fo hn hl] at h1; cases h1; exact h2, h.blkB, h.inj⟩

theorem getD_put {dst : Option Tmp} {v : Value} {t : Nat} : (a.put dst v).tmps.getD t undef = if dst = some t ∧ t < a.tmps.size then v else a.tmps.getD t undef := by
  cases dst with
  | none => simp [Act.put]
  | some d =>
    simp only [Act.put, Option.some.injEq, Array.getD_eq_getD_getElem?]
    by_cases h : d = t
    · subst h
      by_cases h2 : d < a.tmps.size
      · simp [h2]
      · simp [h2]
    · rw [Array.getElem?_setIfInBounds_ne h, if_neg (fun e => h e.1)]

theorem getD_setO {l : List DV} {dst : Option Nat} {d : DV} {t : Nat} : (setO l dst d).getD t .undef = if dst = some t ∧ t < l.length then d else l.getD t .undef := by
  cases dst with
  | none => simp [setO]
  | some e =>
    simp only [setO, Option.some.injEq, List.getD_eq_getElem?_getD]
    by_cases h : e = t
    · subst h
      by_cases h2 : e < l.length
      · simp [h2]
      · simp [h2]
    · rw [List.getElem?_set_ne h, if_neg (fun e => h e.1)]

theorem put_size {dst : Option Tmp} {v : Value} : (a.put dst v).tmps.size = a.tmps.size := by cases dst <;> simp [Act.put]
theorem put_defers {dst : Option Tmp} {v : Value} : (a.put dst v).defers = a.defers := by cases dst <;> rfl
theorem setO_length {l : List DV} {dst : Option Nat} {d : DV} : (setO l dst d).length = l.length := by cases dst <;> simp [setO]

/-- A step in whatever order: 'st' is the state that the evaluator saw, with what others may write hidden. -/
theorem HoldsA.step {ops : Array Oper} {st st' : St} {o : Oper} {d : DV} (h : HoldsA S I0 B w0 A f g len a w) (hk : StepOk P E ops true st o st' d)
    (h1 : ∀ n, A n ≠ none → look st.heap n ≠ none → look st.heap n = f n)
    (h2 : ∀ t ∈ o.looksAt ops, st.tmps.getD t .undef = g t) (h3 : st.tmps.length = len)
    (h4 : ∀ n, look st.heap n = none → look st'.heap n ≠ none → f n = none)
    (h5 : ∀ n, look st'.heap n ≠ none → (n ∈ touchD E ops st o ∨ look st.heap n = none) → f' n = look st'.heap n)
    (h6 : ∀ n, n ∉ touchD E ops st o → ¬(look st.heap n = none ∧ look st'.heap n ≠ none) → f' n = f n)
    (h7 : ∀ t, g' t = if o.dst = some t ∧ t < len then d else g t) {Q : Exit → Act → World → Prop} :
    StepsTo P ops o a w Q fun v w' => ∃ A', HoldsA S I0 B w0 A' f' g' len (a.put o.dst v) w' := by
  have hm : Mem I0 B A st.heap w := h.mem fun n p fo hn hl => by
    rw [← h1 n (by rw [hn]; simp) (by rw [hl]; simp)]; exact hl
  refine (hk.run hm (h.size.trans h3.symm) (fun t ht => by rw [h2 t ht]; exact h.tmps t) (fun n hn hn' => ?_)).mono ?_
  · cases hA : A n with
    | none => rfl
    | some p =>
      obtain ⟨fo, hfo, _⟩ := h.obj n p hA
      rw [h4 n hn hn'] at hfo; cases hfo
  · rintro v w' ⟨A', hm', hmv, hb, hv, hnew, hdr⟩
    obtain ⟨hkept, hsame⟩ := hdr rfl
    have hlater := hmv.later (I0 := I0) (B := B)
    refine ⟨A', put_defers.trans h.defers, put_size.trans h.size, h.below.trans hb, hm'.hB, hm'.I0lt, fun n p hp => ?_, hm'.blkB, hm'.inj, fun t => ?_, kept_step h.kept hmv⟩
    · have touched : look st'.heap n ≠ none → (n ∈ touchD E ops st o ∨ look st.heap n = none) → ∃ fo, f' n = some fo ∧ ObjRel (ctxOf I0 B A' w') w' p fo := by
        intro hl ht
        cases hq : look st'.heap n with
        | none => exact absurd hq hl
        | some fo => exact ⟨fo, by rw [h5 n hl ht, hq], hm'.obj n p fo hp hq⟩
      cases hA : A n with
      | none =>
        obtain ⟨e1, e2⟩ := hnew n p hp hA
        exact touched e2 (.inr e1)
      | some q =>
        obtain ⟨fo, hfo, hr⟩ := h.obj n q hA
        by_cases hmu : n ∈ touchD E ops st o
        · exact touched (hk.stays n (hk.there rfl n hmu)) (.inl hmu)
        · have hs := hsame n q hmu hA
          rw [hp] at hs; cases hs
          refine ⟨fo, ?_, objRel_turn hlater (fun hd b hb => hkept n _ b hmu hA hd hb) hr⟩
          rw [h6 n hmu (fun e => by rw [h4 n e.1 e.2] at hfo; cases hfo)]; exact hfo
    · rw [getD_put, h7, h.size]
      split
      · exact hv
      · exact VRel.later hlater _ _ (h.tmps t)

/-- What is asked of a frame at a point of its code. -/
def Holds (S I0 : Nat → Prop) (B : Nat) (w0 : World) (st : St) (a : Act) (w : World) : Prop := ∃ A, HoldsA S I0 B w0 A (look st.heap) (fun t => st.tmps.getD t .undef) st.tmps.length a w

/-- A step in the order of the text. -/
theorem Holds.step {ops : Array Oper} {draw : Bool} {st st' : St} {o : Oper} {d : DV} (h : Holds S I0 B w0 st a w) (hk : StepOk P E ops draw st o st' d) {Q : Exit → Act → World → Prop} :
    StepsTo P ops o a w Q fun v w' => Holds S I0 B w0 st' (a.put o.dst v) w' := by
  obtain ⟨A, h⟩ := h
  have hm : Mem I0 B A st.heap w := h.mem fun n p fo hn hl => hl
  refine (hk.run hm h.size (fun t _ => h.tmps t) (fun n hn _ => ?_)).mono ?_
  · cases hA : A n with
    | none => rfl
    | some p =>
      obtain ⟨fo, hfo, _⟩ := h.obj n p hA
      rw [hn] at hfo; cases hfo
  · rintro v w' ⟨A', hm', hmv, hb, hv, hnew, _⟩
    have hlater := hmv.later (I0 := I0) (B := B)
    refine ⟨A', put_defers.trans h.defers, put_size.trans (h.size.trans (by rw [hk.tmps, setO_length])), h.below.trans hb, hm'.hB, hm'.I0lt, fun n p hp => ?_, hm'.blkB, hm'.inj, fun t => ?_, kept_step h.kept hmv⟩
    · have hl : look st'.heap n ≠ none := by
        cases hA : A n with
        | none => exact (hnew n p hp hA).2
        | some q =>
          obtain ⟨fo, hfo, _⟩ := h.obj n q hA
          exact hk.stays n (by rw [hfo]; simp)
      cases hq : look st'.heap n with
      | none => exact absurd hq hl
      | some fo => exact ⟨fo, rfl, hm'.obj n p fo hp hq⟩
    · rw [getD_put, hk.tmps, getD_setO, h.size]
      split
      · exact hv
      · exact VRel.later hlater _ _ (h.tmps t)
end
end Go.Den

/- The steps of a drawn region as they were looked at. -/
namespace Go.Den
open Go.RowKit (Below)

theorem memB_iff {n : Nat} : ∀ {l : List Nat}, memB n l = true ↔ n ∈ l
  | [] => by simp [memB]
  | m :: l => by
    simp only [memB, List.mem_cons]
    by_cases h : n = m
    · subst h; simp
    · rw [show Nat.beq n m = false from by cases hb : Nat.beq n m with | false => rfl | true => exact absurd (Nat.eq_of_beq_eq_true hb) h]
      simp only [cond_false, memB_iff, h, false_or]

theorem memB_false {n : Nat} {l : List Nat} : memB n l = false ↔ n ∉ l := by rw [← memB_iff]; simp

/-! ### What stands in a place after some of the steps -/

section
variable {α : Type} {val : Nat → α} {touch S S' : Nat → Prop}

open Classical in
noncomputable def after (val : Nat → α) (touch S : Nat → Prop) : Nat → α
  | 0 => val 0
  | k + 1 => if S k ∧ touch k then val (k + 1) else after val touch S k

theorem after_congr {N : Nat} (h : ∀ j, j < N → touch j → (S j ↔ S' j)) : after val touch S N = after val touch S' N := by
  induction N with
  | zero => rfl
  | succ k ih =>
    simp only [after]
    by_cases ht : touch k
    · rw [ih fun j hj => h j (by omega)]
      by_cases hs : S k
      · rw [if_pos ⟨hs, ht⟩, if_pos ⟨(h k (by omega) ht).1 hs, ht⟩]
      · rw [if_neg (fun e => hs e.1), if_neg (fun e => hs ((h k (by omega) ht).2 e.1))]
    · rw [if_neg (fun e => ht e.2), if_neg (fun e => ht e.2)]
      exact ih fun j hj => h j (by omega)

theorem after_pre : ∀ {k : Nat}, (∀ j, j < k → ¬ touch j → val (j + 1) = val j) → (∀ j, j < k → touch j → S j) → after val touch S k = val k
  | 0, _, _ => rfl
  | k + 1, hv, h => by
    simp only [after]
    by_cases ht : touch k
    · rw [if_pos ⟨h k (by omega) ht, ht⟩]
    · rw [if_neg (fun e => ht e.2), after_pre (fun j hj => hv j (by omega)) (fun j hj => h j (by omega)), hv k (by omega) ht]

theorem after_upto {k : Nat} : ∀ {N : Nat}, k ≤ N → (∀ j, k ≤ j → j < N → touch j → ¬ S j) → after val touch S N = after val touch S k
  | 0, hk, _ => by obtain rfl : k = 0 := by omega
                   rfl
  | N + 1, hk, h => by
    by_cases e : k = N + 1
    · rw [e]
    · simp only [after]
      rw [if_neg (fun e' => h N (by omega) (by omega) e'.2 e'.1)]
      exact after_upto (by omega) fun j h1 h2 => h j h1 (by omega)

/-- If just the steps ahead of k are done, as far as they touch the place, it holds what it held ahead of k. -/
theorem after_at {k N : Nat} (hv : ∀ j, j < N → ¬ touch j → val (j + 1) = val j) (hk : k ≤ N) (h : ∀ j, j < N → touch j → (S j ↔ j < k)) : after val touch S N = val k := by
  rw [after_upto hk fun j h1 h2 h3 h4 => by have := (h j h2 h3).1 h4; omega]
  exact after_pre (fun j hj => hv j (by omega)) fun j h1 h2 => (h j (by omega) h2).2 h1

theorem after_last {k N : Nat} (hk : k < N) (ht : touch k) (hs : S k) (h : ∀ j, k < j → j < N → touch j → ¬ S j) : after val touch S N = val (k + 1) := by
  rw [after_upto (k := k + 1) (by omega) fun j h1 h2 => h j (by omega) h2]
  simp only [after]
  rw [if_pos ⟨hs, ht⟩]
end

/-! ### The trace -/

theorem look_filter {p : Nat → Bool} : ∀ {h : Heap} {n : Nat}, look (h.filter fun x => p x.1) n = bif p n then look h n else none
  | [], n => by simp [look]
  | (m, x) :: h, n => by
    simp only [List.filter_cons, look]
    by_cases e : m = n
    · subst e
      cases hp : p m <;> simp [look, look_filter, hp]
    · rw [show (m == n) = false by simpa using e]
      cases hp : p m
      · simpa using look_filter
      · simp only [if_true, look, cond_false, show (m == n) = false by simpa using e]
        exact look_filter

theorem look_mask {ms : List Nat} {h : Heap} {n : Nat} : look (maskH ms h) n = if n ∈ ms then none else look h n := by
  unfold maskH
  rw [look_filter (p := fun m => !(memB m ms))]
  by_cases hn : n ∈ ms
  · rw [memB_iff.2 hn, if_pos hn]; rfl
  · rw [memB_false.2 hn, if_neg hn]; rfl

theorem look_hid {ms : List Nat} {h : Heap} {n : Nat} : look (hidH ms h) n = if n ∈ ms then look h n else none := by
  unfold hidH
  rw [look_filter (p := fun m => memB m ms)]
  by_cases hn : n ∈ ms
  · rw [memB_iff.2 hn, if_pos hn]; rfl
  · rw [memB_false.2 hn, if_neg hn]; rfl

theorem look_mem {h : Heap} {n : Nat} {x : Bool × OB} (hl : look h n = some x) : (n, x) ∈ h := by
  induction h with
  | nil => cases hl
  | cons y h ih =>
    obtain ⟨m, z⟩ := y
    simp only [look] at hl
    by_cases e : m = n
    · subst e; simp at hl; subst hl; exact List.mem_cons_self
    · rw [show (m == n) = false by simpa using e] at hl
      exact List.mem_cons_of_mem _ (ih hl)

/-- What one look at an operation tells. -/
structure Saw (P : Program) (E : Env) (ops : Array Oper) (ms : List Nat) (st : St) (o : Oper) (st' : St) (mk mk' : St) (d : DV) : Prop where
  ok : StepOk P E ops true mk o mk' d
  seen : mk = maskSt ms st
  tmps : mk.tmps = st.tmps
  tmps' : st'.tmps = mk'.tmps
  mask : ∀ n, look mk.heap n = if n ∈ ms then none else look st.heap n
  out : ∀ n, look mk'.heap n ≠ none → n ∉ ms
  heap : ∀ n, look st'.heap n = if n ∈ ms then look st.heap n else look mk'.heap n

theorem stepM_ok {P : Program} {E : Env} (he : EnvOk P E) {ops : Array Oper} {ms : List Nat} {st st' : St} {o : Oper} (h : stepM E ops ms st o = some (true, st')) : ∃ mk mk' d, Saw P E ops ms st o st' mk mk' d := by
  cases ms with
  | nil =>
    simp only [stepM] at h
    obtain ⟨d, hd⟩ := stepD_ok he h
    exact ⟨st, st', d, hd, rfl, rfl, rfl, fun n => by simp, fun n _ => by simp, fun n => by simp⟩
  | cons m ms =>
    simp only [stepM] at h
    cases hs : stepD E ops true ⟨st.tmps, maskH (m :: ms) st.heap⟩ o with
    | none => rw [hs] at h; cases h
    | some r =>
      obtain ⟨r, mk'⟩ := r
      rw [hs] at h
      simp only at h
      cases hc : (mk'.heap.all fun x => !(memB x.1 (m :: ms))) with
      | false => rw [hc] at h; cases h
      | true =>
        rw [hc, cond_true, Option.some.injEq, Prod.mk.injEq] at h
        obtain ⟨rfl, rfl⟩ := h
        obtain ⟨d, hd⟩ := stepD_ok he hs
        have hout : ∀ n, look mk'.heap n ≠ none → n ∉ m :: ms := by
          intro n hn
          cases hq : look mk'.heap n with
          | none => exact absurd hq hn
          | some x =>
            have := List.all_eq_true.1 hc _ (look_mem hq)
            rw [Bool.not_eq_true'] at this
            exact memB_false.1 this
        refine ⟨_, mk', d, hd, rfl, rfl, rfl, fun n => look_mask, hout, fun n => ?_⟩
        show look (mk'.heap ++ hidH (m :: ms) st.heap) n = _
        rw [look_append, look_hid]
        by_cases hn : n ∈ m :: ms
        · rw [if_pos hn]
          cases hq : look mk'.heap n with
          | none => simp [hn]
          | some x => exact absurd hn (hout n (by rw [hq]; simp))
        · rw [if_neg hn, if_neg hn]
          cases look mk'.heap n <;> rfl

section
variable {P : Program} {E : Env} {ops : Array Oper} {ms : List Nat} {st st' mk mk' : St} {o : Oper} {d : DV} (h : Saw P E ops ms st o st' mk mk' d)
include h

theorem Saw.muts {n : Nat} (hn : n ∈ touchD E ops (maskSt ms st) o) : look st.heap n ≠ none ∧ n ∉ ms := by
  have h1 := h.ok.there rfl n (by rw [h.seen]; exact hn)
  rw [h.mask] at h1
  by_cases hm : n ∈ ms
  · rw [if_pos hm] at h1; exact absurd rfl h1
  · rw [if_neg hm] at h1; exact ⟨h1, hm⟩

theorem Saw.stays {n : Nat} (hn : look st.heap n ≠ none) : look st'.heap n ≠ none := by
  rw [h.heap]
  by_cases hm : n ∈ ms
  · rw [if_pos hm]; exact hn
  · rw [if_neg hm]
    exact h.ok.stays n (by rw [h.mask, if_neg hm]; exact hn)

theorem Saw.same {n : Nat} (hn : n ∉ touchD E ops (maskSt ms st) o) (hc : ¬(look st.heap n = none ∧ look st'.heap n ≠ none)) : look st'.heap n = look st.heap n := by
  cases hq : look st.heap n with
  | none =>
    cases hq' : look st'.heap n with
    | none => rfl
    | some x => exact absurd ⟨hq, by rw [hq']; simp⟩ hc
  | some x =>
    rw [h.heap]
    by_cases hm : n ∈ ms
    · rw [if_pos hm, hq]
    · rw [if_neg hm]
      have h1 : look mk.heap n = some x := by rw [h.mask, if_neg hm, hq]
      rw [h.ok.same rfl n (by rw [h.seen]; exact hn) (by rw [h1]; simp), h1]

theorem Saw.made {n : Nat} (h1 : look st.heap n = none) (h2 : look st'.heap n ≠ none) : n ∉ ms := by
  intro hm
  rw [h.heap, if_pos hm] at h2
  exact h2 h1

theorem Saw.getD {t : Nat} : st'.tmps.getD t .undef = if o.dst = some t ∧ t < st.tmps.length then d else st.tmps.getD t .undef := by
  rw [h.tmps', h.ok.tmps, h.tmps, getD_setO]

theorem Saw.length : st'.tmps.length = st.tmps.length := by rw [h.tmps', h.ok.tmps, setO_length, h.tmps]
end

/-- All steps of a drawn region. -/
structure Trace (P : Program) (E : Env) (ops : Array Oper) (D : List (List Nat)) (M : List (Nat × List Nat)) (tr : Nat → St) : Prop where
  saw : ∀ k o, ops[k]? = some o → ∃ mk mk' d, Saw P E ops (maskOf D k M) (tr k) o (tr (k + 1)) mk mk' d
  muts : ∀ k o, ops[k]? = some o → looseB D k = true → ∀ n, n ∈ touchD E ops (maskSt (maskOf D k M) (tr k)) o → n ∈ namesOf k M

theorem passM_trace {β : Type} {P : Program} {E : Env} (he : EnvOk P E) {ops : Array Oper} {D : List (List Nat)} {M : List (Nat × List Nat)} {K : St → Option β} {b : β} :
    ∀ (l : List Oper) (k : Nat) (st : St), (∀ j, l[j]? = ops[k + j]?) → passM E ops D M k l st K = some b →
    ∃ tr : Nat → St, tr 0 = st ∧ K (tr l.length) = some b ∧ ∀ j o, l[j]? = some o → (∃ mk mk' d, Saw P E ops (maskOf D (k + j) M) (tr j) o (tr (j + 1)) mk mk' d) ∧ (looseB D (k + j) = true → ∀ n, n ∈ touchD E ops (maskSt (maskOf D (k + j) M) (tr j)) o → n ∈ namesOf (k + j) M)
  | [], k, st, _, h => ⟨fun _ => st, rfl, h, fun j o hj => (by cases hj)⟩
  | o :: l, k, st, hl, h => by
    simp only [passM] at h
    cases hs : stepM E ops (maskOf D k M) st o with
    | none => rw [hs] at h; cases h
    | some r =>
      obtain ⟨r, st'⟩ := r
      rw [hs] at h
      simp only at h
      cases hc : (r && (!(looseB D k) || (touchD E ops (maskSt (maskOf D k M) st) o).all fun n => memB n (namesOf k M))) with
      | false => rw [hc] at h; cases h
      | true =>
        rw [hc, cond_true] at h
        simp only [Bool.and_eq_true, Bool.or_eq_true, Bool.not_eq_true', List.all_eq_true] at hc
        obtain ⟨rfl, hc⟩ := hc
        obtain ⟨tr, h1, h2, h3⟩ := passM_trace he l (k + 1) st' (fun j => by have := hl (j + 1); simpa [Nat.add_assoc, Nat.add_comm 1 j] using this) h
        refine ⟨fun j => match j with | 0 => st | j + 1 => tr j, rfl, h2, fun j p hj => ?_⟩
        cases j with
        | zero =>
          simp only [List.getElem?_cons_zero, Option.some.injEq] at hj
          subst hj
          refine ⟨by show ∃ mk mk' d, Saw P E ops (maskOf D k M) st o (tr 0) mk mk' d; rw [h1]; exact stepM_ok he hs, fun hlo n hn => ?_⟩
          rcases hc with hc | hc
          · have hlo' : looseB D k = true := hlo
            rw [hc] at hlo'; cases hlo'
          · exact memB_iff.1 (hc n hn)
        | succ j =>
          rw [List.getElem?_cons_succ] at hj
          have := h3 j p hj
          rw [show k + (j + 1) = k + 1 + j by omega]
          exact this

end Go.Den

/- Whatever order is drawn: the same data. -/
namespace Go.Den
open Go.RowKit (Below)

theorem getD_map_dirs {ops : Array Oper} {k : Nat} {o : Oper} (h : ops[k]? = some o) : (ops.toList.map dirs).getD k [] = dirs o := by
  have : ops.toList[k]? = some o := by simpa using h
  simp [List.getD_eq_getElem?_getD, this]

theorem getD_map_dirs_mem {ops : Array Oper} {k i : Nat} (h : i ∈ (ops.toList.map dirs).getD k []) : ∃ o, ops[k]? = some o ∧ i ∈ dirs o := by
  cases hk : ops[k]? with
  | none =>
    have : ops.toList[k]? = none := by simpa using hk
    simp [List.getD_eq_getElem?_getD, this] at h
  | some o => rw [getD_map_dirs hk] at h; exact ⟨o, rfl, h⟩

theorem mem_dirs {o : Oper} {i : Nat} : i ∈ dirs o ↔ ∃ e ∈ o.after, Region.binds .any e = true ∧ e.on = i := by
  unfold dirs
  simp only [List.mem_filterMap, Array.mem_toList_iff]
  constructor
  · rintro ⟨e, he, h⟩
    cases hb : Region.binds .any e with
    | false => rw [hb] at h; simp at h
    | true => rw [hb] at h; simp at h; exact ⟨e, he, hb, h⟩
  · rintro ⟨e, he, hb, rfl⟩
    exact ⟨e, he, by rw [hb]; rfl⟩

structure DrawOk (ops : Array Oper) : Prop where
  lt : ∀ (k : Nat) o, ops[k]? = some o → ∀ i ∈ dirs o, i < k
  once : ∀ (k j : Nat) o p t, ops[k]? = some o → ops[j]? = some p → p.dst = some t → o.dst = some t → j = k
  told : ∀ (k j : Nat) o p t, ops[k]? = some o → ops[j]? = some p → p.dst = some t → t ∈ o.looksAt ops → befB (ops.toList.map dirs) j k = true ∨ befB (ops.toList.map dirs) k j = true

theorem lt_size {ops : Array Oper} {k : Nat} {o : Oper} (h : ops[k]? = some o) : k < ops.size := by
  rcases Nat.lt_or_ge k ops.size with h' | h'
  · exact h'
  · rw [Array.getElem?_eq_none h'] at h; cases h

theorem drawOk_spec {ops : Array Oper} (h : drawOk ops (ops.toList.map dirs) = true) : DrawOk ops := by
  unfold drawOk at h
  simp only [List.all_eq_true, List.mem_range, List.length_map, Array.length_toList] at h
  refine ⟨fun k o hk i hi => ?_, fun k j o p t hk hj hp ho => ?_, fun k j o p t hk hj hp ht => ?_⟩
  · have h1 := h k (lt_size hk)
    rw [Bool.and_eq_true, List.all_eq_true] at h1
    have := h1.1 i (by rw [getD_map_dirs hk]; exact hi)
    simpa [Nat.blt_eq] using this
  · have h1 := h k (lt_size hk)
    rw [Bool.and_eq_true, hk] at h1
    have h2 := h1.2
    simp only [List.all_eq_true, List.mem_range] at h2
    have h3 := h2 j (lt_size hj)
    rw [hj] at h3
    simp only [hp, Bool.and_eq_true, Bool.or_eq_true] at h3
    rcases h3.1 with h4 | h4
    · exact Nat.eq_of_beq_eq_true h4
    · rw [ho] at h4; simp at h4
  · have h1 := h k (lt_size hk)
    rw [Bool.and_eq_true, hk] at h1
    have h2 := h1.2
    simp only [List.all_eq_true, List.mem_range] at h2
    have h3 := h2 j (lt_size hj)
    rw [hj] at h3
    simp only [hp, Bool.and_eq_true, Bool.or_eq_true] at h3
    rcases h3.2 with h4 | h4
    · rw [memB_iff.2 ht] at h4; simp at h4
    · exact h4

theorem befB_spec {D : List (List Nat)} {i j : Nat} (h : befB D i j = true) : i ∈ D.getD j [] ∨ ∃ m ∈ D.getD j [], i ∈ D.getD m [] := by
  unfold befB at h
  simp only [Bool.or_eq_true, List.any_eq_true] at h
  exact h.imp memB_iff.1 fun ⟨m, h1, h2⟩ => ⟨m, h1, memB_iff.1 h2⟩

section
variable {ops : Array Oper} (hd : DrawOk ops)
include hd

theorem DrawOk.bef_lt {i j : Nat} (h : befB (ops.toList.map dirs) i j = true) : i < j := by
  rcases befB_spec h with h | ⟨m, h1, h2⟩
  · obtain ⟨o, ho, hi⟩ := getD_map_dirs_mem h
    exact hd.lt j o ho i hi
  · obtain ⟨o, ho, hi⟩ := getD_map_dirs_mem h1
    obtain ⟨p, hp, hj⟩ := getD_map_dirs_mem h2
    have := hd.lt j o ho m hi
    have := hd.lt m p hp i hj
    omega
end

def Closed (ops : Array Oper) (S : Nat → Prop) : Prop := ∀ k o, ops[k]? = some o → S k → ∀ i ∈ dirs o, S i

theorem Closed.bef {ops : Array Oper} {S : Nat → Prop} (hc : Closed ops S) {k : Nat} (hk : ∀ o, ops[k]? = some o → ∀ i ∈ dirs o, S i) {i : Nat} (h : befB (ops.toList.map dirs) i k = true) : S i := by
  rcases befB_spec h with h | ⟨m, h1, h2⟩
  · obtain ⟨o, ho, hi⟩ := getD_map_dirs_mem h
    exact hk o ho i hi
  · obtain ⟨o, ho, hi⟩ := getD_map_dirs_mem h1
    obtain ⟨p, hp, hj⟩ := getD_map_dirs_mem h2
    exact hc m p hp (hk o ho m hi) i hj

theorem apartB_of {D : List (List Nat)} {i j : Nat} (h1 : i ≠ j) (h2 : befB D i j ≠ true) (h3 : befB D j i ≠ true) : apartB D i j = true := by
  unfold apartB
  have e1 : Nat.beq i j = false := by
    cases hb : Nat.beq i j with
    | false => rfl
    | true => exact absurd (Nat.eq_of_beq_eq_true hb) h1
  rw [e1, Bool.not_eq_true _ |>.mp h2, Bool.not_eq_true _ |>.mp h3]; rfl

theorem mem_maskOf {D : List (List Nat)} {s k n : Nat} (ha : apartB D s k = true) : ∀ {M : List (Nat × List Nat)}, n ∈ namesOf s M → n ∈ maskOf D k M
  | [], h => by simp [namesOf] at h
  | (s', ns) :: M, h => by
    simp only [namesOf] at h
    simp only [maskOf]
    cases hb : Nat.beq s' s with
    | true =>
      have := Nat.eq_of_beq_eq_true hb
      subst this
      rw [hb] at h
      rw [ha]
      simp only [cond_true, List.mem_append] at h ⊢
      exact h.imp id (mem_maskOf ha)
    | false =>
      rw [hb] at h
      simp only [cond_false] at h
      have := mem_maskOf ha h
      cases apartB D s' k
      · exact this
      · exact List.mem_append.2 (.inr this)

theorem looseB_of {D : List (List Nat)} {s k : Nat} (ha : apartB D s k = true) (hk : k < D.length) : looseB D s = true := by
  unfold looseB
  exact List.any_eq_true.2 ⟨k, List.mem_range.2 hk, ha⟩

/-- A step touches an object: it writes into it, takes it in, or makes it. -/
def touchH (E : Env) (ops : Array Oper) (M : List (Nat × List Nat)) (tr : Nat → St) (n : Nat) (k : Nat) : Prop :=
  ∃ o, ops[k]? = some o ∧ (n ∈ touchD E ops (maskSt (maskOf (ops.toList.map dirs) k M) (tr k)) o ∨ (look (tr k).heap n = none ∧ look (tr (k + 1)).heap n ≠ none))
def touchT (ops : Array Oper) (len : Nat) (t : Nat) (k : Nat) : Prop := t < len ∧ ∃ o, ops[k]? = some o ∧ o.dst = some t

noncomputable def heapAt (E : Env) (ops : Array Oper) (M : List (Nat × List Nat)) (tr : Nat → St) (S : Nat → Prop) (n : Nat) : Option (Bool × OB) := after (fun k => look (tr k).heap n) (touchH E ops M tr n) S ops.size
noncomputable def tmpAt (ops : Array Oper) (tr : Nat → St) (S : Nat → Prop) (t : Nat) : DV := after (fun k => (tr k).tmps.getD t .undef) (touchT ops (tr 0).tmps.length t) S ops.size

section
variable {P : Program} {E : Env} {ops : Array Oper} {M : List (Nat × List Nat)} {tr : Nat → St} (hd : DrawOk ops) (T : Trace P E ops (ops.toList.map dirs) M tr)
include T

theorem Trace.len {k : Nat} (h : k ≤ ops.size) : (tr k).tmps.length = (tr 0).tmps.length := by
  induction k with
  | zero => rfl
  | succ k ih =>
    obtain ⟨mk, mk', d, hs⟩ := T.saw k ops[k] (Array.getElem?_eq_getElem (by omega))
    rw [hs.length, ih (by omega)]

theorem Trace.stays {n j k : Nat} (hj : look (tr j).heap n ≠ none) (hjk : j ≤ k) (hk : k ≤ ops.size) : look (tr k).heap n ≠ none := by
  induction k with
  | zero => obtain rfl : j = 0 := by omega
            exact hj
  | succ k ih =>
    by_cases e : j = k + 1
    · rw [← e]; exact hj
    · obtain ⟨mk, mk', d, hs⟩ := T.saw k ops[k] (Array.getElem?_eq_getElem (by omega))
      exact hs.stays (ih (by omega) (by omega))

theorem Trace.valH {n j : Nat} (hj : j < ops.size) (ht : ¬ touchH E ops M tr n j) : look (tr (j + 1)).heap n = look (tr j).heap n := by
  obtain ⟨mk, mk', d, hs⟩ := T.saw j ops[j] (Array.getElem?_eq_getElem hj)
  exact hs.same (fun h => ht ⟨_, Array.getElem?_eq_getElem hj, .inl h⟩) (fun h => ht ⟨_, Array.getElem?_eq_getElem hj, .inr h⟩)

theorem Trace.valT {t j : Nat} (hj : j < ops.size) (ht : ¬ touchT ops (tr 0).tmps.length t j) : (tr (j + 1)).tmps.getD t .undef = (tr j).tmps.getD t .undef := by
  obtain ⟨mk, mk', d, hs⟩ := T.saw j ops[j] (Array.getElem?_eq_getElem hj)
  rw [hs.getD, T.len (by omega), if_neg (fun e => ht ⟨e.2, _, Array.getElem?_eq_getElem hj, e.1⟩)]

/-- What an operation touches is there ahead of it, or is not there ahead of it and is behind it. -/
theorem Trace.touched {n j : Nat} {o : Oper} (ho : ops[j]? = some o) (ht : touchH E ops M tr n j) : (n ∈ touchD E ops (maskSt (maskOf (ops.toList.map dirs) j M) (tr j)) o ∧ look (tr j).heap n ≠ none) ∨ (look (tr j).heap n = none ∧ look (tr (j + 1)).heap n ≠ none) := by
  obtain ⟨o', ho', h⟩ := ht
  rw [ho] at ho'; cases ho'
  rcases h with h | h
  · obtain ⟨mk, mk', d, hs⟩ := T.saw j o ho
    exact .inl ⟨h, (hs.muts h).1⟩
  · exact .inr h

theorem Trace.hide {s k n : Nat} {o : Oper} (hs : ops[s]? = some o) (hk : k < ops.size) (ha : apartB (ops.toList.map dirs) s k = true) (hn : n ∈ touchD E ops (maskSt (maskOf (ops.toList.map dirs) s M) (tr s)) o) : n ∈ maskOf (ops.toList.map dirs) k M :=
  mem_maskOf ha (T.muts s o hs (looseB_of ha (by simpa using hk)) n hn)

omit T in
theorem apart_after {S : Nat → Prop} (hd : DrawOk ops) (hc : Closed ops S) {k : Nat} (hk : ¬ S k) {j : Nat} (hj : S j) (hlt : k < j) : apartB (ops.toList.map dirs) j k = true := by
  refine apartB_of (by omega) (fun e => ?_) (fun e => ?_)
  · have := hd.bef_lt e; omega
  · exact hk (hc.bef (fun p hp => hc j p hp hj) e)

omit T in
theorem apart_before {S : Nat → Prop} (hd : DrawOk ops) (hc : Closed ops S) {k : Nat} {o : Oper} (ho : ops[k]? = some o) (hr : ∀ i ∈ dirs o, S i) {j : Nat} (hj : ¬ S j) (hlt : j < k) : apartB (ops.toList.map dirs) j k = true := by
  refine apartB_of (by omega) (fun e => ?_) (fun e => ?_)
  · exact hj (hc.bef (fun p hp => by rw [ho] at hp; cases hp; exact hr) e)
  · have := hd.bef_lt e; omega

include hd
variable {S : Nat → Prop} (hc : Closed ops S) {k : Nat} {o : Oper} (ho : ops[k]? = some o) (hk : ¬ S k) (hr : ∀ i ∈ dirs o, S i)
include hc ho hk hr

theorem Trace.look_at {n : Nat} (hm : n ∉ maskOf (ops.toList.map dirs) k M) (h1 : look (tr k).heap n ≠ none) (h2 : heapAt E ops M tr S n ≠ none) : heapAt E ops M tr S n = look (tr k).heap n := by
  have hkN := lt_size ho
  refine after_at (val := fun k => look (tr k).heap n) (fun j hj ht => T.valH hj ht) (by omega) fun j hj ht => ?_
  have hoj : ops[j]? = some ops[j] := Array.getElem?_eq_getElem hj
  constructor
  · intro hS
    rcases Nat.lt_or_ge j k with h | h
    · exact h
    · have hne : j ≠ k := fun e => hk (e ▸ hS)
      have ha := apart_after hd hc hk hS (by omega)
      rcases T.touched hoj ht with ⟨h3, _⟩ | ⟨h3, _⟩
      · exact absurd (T.hide hoj hkN ha h3) hm
      · exact absurd h3 (T.stays h1 (by omega) (by omega))
  · intro hlt
    refine Classical.byContradiction fun hS => ?_
    have ha := apart_before hd hc ho hr hS hlt
    rcases T.touched hoj ht with ⟨h3, _⟩ | ⟨h3, h4⟩
    · exact hm (T.hide hoj hkN ha h3)
    · -- made at j, which is not done: nobody who touches it is
      refine h2 ?_
      have : heapAt E ops M tr S n = look (tr 0).heap n := by
        refine after_at (k := 0) (val := fun k => look (tr k).heap n) (fun j hj ht => T.valH hj ht) (by omega) fun i hi hti => ⟨fun hSi => ?_, fun h => by omega⟩
        exfalso
        have hoi : ops[i]? = some ops[i] := Array.getElem?_eq_getElem hi
        have hij : i ≠ j := fun e => hS (e ▸ hSi)
        have hji : j < i := by
          rcases T.touched hoi hti with ⟨_, h5⟩ | ⟨h5, h6⟩
          · rcases Nat.lt_or_ge j i with h | h
            · exact h
            · exact absurd h3 (T.stays h5 h (by omega))
          · rcases Nat.lt_or_ge j i with h | h
            · exact h
            · exact absurd h3 (T.stays h6 (by omega) (by omega))
        have hap : apartB (ops.toList.map dirs) i j = true := by
          refine apartB_of hij (fun e => ?_) (fun e => ?_)
          · have := hd.bef_lt e; omega
          · exact hS (hc.bef (fun p hp => hc i p hp hSi) e)
        rcases T.touched hoi hti with ⟨h5, _⟩ | ⟨h5, _⟩
        · obtain ⟨mk, mk', d, hsj⟩ := T.saw j _ hoj
          exact hsj.made h3 h4 (T.hide hoi hj hap h5)
        · exact absurd h5 (T.stays h4 (by omega) (by omega))
      rw [this]
      cases hq : look (tr 0).heap n with
      | none => rfl
      | some x => exact absurd h3 (T.stays (j := 0) (by rw [hq]; simp) (by omega) (by omega))

theorem Trace.tmp_at {t : Nat} (ht : t ∈ o.looksAt ops) : tmpAt ops tr S t = (tr k).tmps.getD t .undef := by
  have hkN := lt_size ho
  refine after_at (val := fun k => (tr k).tmps.getD t .undef) (fun j hj h => T.valT hj h) (by omega) fun j hj hj' => ?_
  obtain ⟨_, p, hp, hdst⟩ := hj'
  rcases hd.told k j o p t ho hp hdst ht with h | h
  · have := hd.bef_lt h
    exact ⟨fun _ => this, fun _ => hc.bef (fun p hp => by rw [ho] at hp; cases hp; exact hr) h⟩
  · have := hd.bef_lt h
    exact ⟨fun hS => absurd (hc.bef (fun p hp => hc j p hp hS) h) hk, fun h => by omega⟩

theorem Trace.step {S0 I0 : Nat → Prop} {B : Nat} {w0 : World} {A : Nat → Option Place} {a : Act} {w : World} (h : HoldsA S0 I0 B w0 A (heapAt E ops M tr S) (tmpAt ops tr S) (tr 0).tmps.length a w) {Q : Exit → Act → World → Prop} :
    StepsTo P ops o a w Q fun v w' => ∃ A', HoldsA S0 I0 B w0 A' (heapAt E ops M tr fun j => S j ∨ j = k) (tmpAt ops tr fun j => S j ∨ j = k) (tr 0).tmps.length (a.put o.dst v) w' := by
  have hkN := lt_size ho
  obtain ⟨mk, mk', d, hs⟩ := T.saw k o ho
  have hout : ∀ {n}, look mk'.heap n ≠ none → look mk'.heap n = look (tr (k + 1)).heap n := by
    intro n hn
    rw [hs.heap, if_neg (hs.out n hn)]
  refine h.step hs.ok (fun n hA hl => ?_) (fun t ht => ?_) (by rw [hs.tmps, T.len (by omega)]) (fun n h1 h2 => ?_) (fun n h1 h2 => ?_) (fun n h1 h2 => ?_) (fun t => ?_)
  · have hm : n ∉ maskOf (ops.toList.map dirs) k M := fun e => hl (by rw [hs.mask, if_pos e])
    rw [hs.mask, if_neg hm] at hl ⊢
    refine (T.look_at hd hc ho hk hr hm hl ?_).symm
    cases hA' : A n with
    | none => exact absurd hA' hA
    | some p =>
      obtain ⟨fo, hfo, _⟩ := h.obj n p hA'
      rw [hfo]; simp
  · rw [hs.tmps]; exact (T.tmp_at hd hc ho hk hr ht).symm
  · -- made here: not there yet
    have hm := hs.out n h2
    rw [hs.mask, if_neg hm] at h1
    rw [hout h2] at h2
    have : heapAt E ops M tr S n = look (tr 0).heap n := by
      refine after_at (k := 0) (val := fun k => look (tr k).heap n) (fun j hj ht => T.valH hj ht) (by omega) fun i hi hti => ⟨fun hSi => ?_, fun h => by omega⟩
      exfalso
      have hoi : ops[i]? = some ops[i] := Array.getElem?_eq_getElem hi
      have hik : i ≠ k := fun e => hk (e ▸ hSi)
      rcases T.touched hoi hti with ⟨h5, h6⟩ | ⟨h5, h6⟩
      · rcases Nat.lt_or_ge i k with hlt | hge
        · exact absurd h1 (T.stays h6 (by omega) (by omega))
        · exact hm (T.hide hoi hkN (apart_after hd hc hk hSi (by omega)) h5)
      · rcases Nat.lt_or_ge i k with hlt | hge
        · exact absurd h1 (T.stays h6 (by omega) (by omega))
        · exact absurd h5 (T.stays h2 (by omega) (by omega))
    rw [this]
    cases hq : look (tr 0).heap n with
    | none => rfl
    | some x => exact absurd h1 (T.stays (j := 0) (by rw [hq]; simp) (by omega) (by omega))
  · have hm := hs.out n h1
    rw [hs.mask, if_neg hm, hs.seen] at h2
    have e1 := hout h1
    rw [e1] at h1 ⊢
    have ht : touchH E ops M tr n k := ⟨o, ho, h2.imp id fun e => ⟨e, h1⟩⟩
    refine after_last (val := fun k => look (tr k).heap n) hkN ht (.inr rfl) fun i hlt hi hti hSi => ?_
    have hSi := hSi.resolve_right (by omega)
    have hoi : ops[i]? = some ops[i] := Array.getElem?_eq_getElem hi
    rcases T.touched hoi hti with ⟨h5, _⟩ | ⟨h5, _⟩
    · exact hm (T.hide hoi hkN (apart_after hd hc hk hSi hlt) h5)
    · exact absurd h5 (T.stays h1 (by omega) (by omega))
  · rw [hs.seen] at h1
    refine after_congr fun j hj ht => ⟨fun h => h.resolve_right fun e => ?_, .inl⟩
    subst e
    obtain ⟨o', ho', h3⟩ := ht
    rw [ho] at ho'; cases ho'
    rcases h3 with h3 | ⟨h3, h4⟩
    · exact h1 h3
    · have hm := hs.made h3 h4
      refine h2 ⟨by rw [hs.mask, if_neg hm]; exact h3, ?_⟩
      rw [hs.heap, if_neg hm] at h4; exact h4
  · split
    · rename_i ht
      have h1 : tmpAt ops tr (fun j => S j ∨ j = k) t = (tr (k + 1)).tmps.getD t .undef := by
        refine after_last (val := fun k => (tr k).tmps.getD t .undef) hkN ⟨ht.2, o, ho, ht.1⟩ (.inr rfl) fun i hlt hi hti hSi => ?_
        obtain ⟨_, p, hp, hdst⟩ := hti
        have := hd.once i k p o t hp ho ht.1 hdst
        omega
      rw [h1, hs.getD, if_pos ⟨ht.1, by rw [T.len (by omega)]; exact ht.2⟩]
    · rename_i ht
      refine after_congr fun j hj hj' => ⟨fun h => h.resolve_right fun e => ?_, .inl⟩
      subst e
      obtain ⟨h1, p, hp, hdst⟩ := hj'
      rw [ho] at hp; cases hp
      exact ht ⟨hdst, h1⟩
end
end Go.Den

/- Regions, whole. -/
namespace Go.Den
open Go.RowKit (Below)

section
variable {P : Program} {E : Env} {S I0 : Nat → Prop} {B : Nat} {w0 : World}

/-- The region's operations in the order of the text. -/
theorem opsD_ok {β : Type} (he : EnvOk P E) {ops : Array Oper} {draw : Bool} {Q : Exit → Act → World → Prop} {K : St → Option β} {r : β} :
    ∀ (l : List Oper) (k : Nat) (st : St), (∀ j, l[j]? = ops[k + j]?) → opsD E ops draw l st K = some r → ∀ a w, Holds S I0 B w0 st a w →
    (∀ st a w, K st = some r → Holds S I0 B w0 st a w → Q .normal a w) → wpOps P ops Q (List.range' k l.length) a w
  | [], k, st, _, h, a, w, hh, hQ => hQ st a w h hh
  | o :: l, k, st, hl, h, a, w, hh, hQ => by
    simp only [opsD] at h
    cases hs : stepD E ops draw st o with
    | none => rw [hs] at h; cases h
    | some x =>
      obtain ⟨b, st'⟩ := x
      rw [hs] at h
      simp only at h
      cases b with
      | false => cases h
      | true =>
        simp only [cond_true] at h
        obtain ⟨d, hd⟩ := stepD_ok he hs
        have ho : ops[k]? = some o := by simpa using (hl 0).symm
        rw [List.length_cons, List.range'_succ]
        simp only [wpOps, ho]
        have := hh.step hd (Q := Q) (wpOps P ops Q (List.range' (k + 1) l.length)) (fun v w' hv => opsD_ok he l (k + 1) st' (fun j => by have := hl (j + 1); simpa [Nat.add_assoc, Nat.add_comm 1 j] using this) h _ _ hv hQ)
        split
        · rename_i hw; rw [if_pos hw] at this; exact .inl this
        · rename_i hw; rw [if_neg hw] at this; exact this

theorem HoldsA.congr {A : Nat → Option Place} {f f' : Nat → Option (Bool × OB)} {g g' : Nat → DV} {len len' : Nat} {a : Act} {w : World} (h : HoldsA S I0 B w0 A f g len a w) (hf : ∀ n, f n = f' n) (hg : ∀ t, g t = g' t) (hl : len = len') : HoldsA S I0 B w0 A f' g' len' a w := by
  obtain rfl : f = f' := funext hf
  obtain rfl : g = g' := funext hg
  subst hl; exact h

def doneS (listed : Array Bool) (j : Nat) : Prop := listed.getD j false = true

theorem getD_false_true {l : Array Bool} {j : Nat} (h : l.getD j true = false) : j < l.size ∧ l.getD j false = false := by
  rcases Nat.lt_or_ge j l.size with h' | h'
  · refine ⟨h', ?_⟩
    simp only [Array.getD_eq_getD_getElem?, Array.getElem?_eq_getElem h', Option.getD_some] at h ⊢; exact h
  · simp [Array.getD_eq_getD_getElem?, Array.getElem?_eq_none h'] at h

theorem doneS_set {listed : Array Bool} {k : Nat} (hk : k < listed.size) (j : Nat) : doneS (listed.setIfInBounds k true) j ↔ doneS listed j ∨ j = k := by
  unfold doneS
  simp only [Array.getD_eq_getD_getElem?]
  by_cases e : k = j
  · subst e; simp [hk]
  · rw [Array.getElem?_setIfInBounds_ne e]
    exact ⟨.inl, fun h => h.resolve_right (fun h => e h.symm)⟩

theorem count_set {listed : Array Bool} {k : Nat} (h : listed.getD k true = false) : (listed.setIfInBounds k true).toList.count false + 1 = listed.toList.count false := by
  obtain ⟨hk, h2⟩ := getD_false_true h
  have hk' : k < listed.toList.length := by simpa using hk
  have hv : listed.toList[k] = false := by
    simpa [Array.getD_eq_getD_getElem?, Array.getElem?_eq_getElem hk] using h2
  have hp : 0 < List.count false listed.toList := List.count_pos_iff.2 (hv ▸ List.getElem_mem hk')
  rw [Array.toList_setIfInBounds, List.count_set hk', hv, if_pos (beq_self_eq_true _), if_neg (by simp)]
  omega

/-- Whatever order is picked from here on. -/
theorem any_ok {ops : Array Oper} {M : List (Nat × List Nat)} {tr : Nat → St} (hd : DrawOk ops) (T : Trace P E ops (ops.toList.map dirs) M tr) {Q : Exit → Act → World → Prop}
    (hQ : ∀ a w, Holds S I0 B w0 (tr ops.size) a w → Q .normal a w) : ∀ (fuel : Nat) (listed : Array Bool) (a : Act) (w : World), listed.size = ops.size → Closed ops (doneS listed) → listed.toList.count false = fuel →
    (∃ A, HoldsA S I0 B w0 A (heapAt E ops M tr (doneS listed)) (tmpAt ops tr (doneS listed)) (tr 0).tmps.length a w) → wpAny P .any ops Q fuel listed a w := by
  have last : ∀ (listed : Array Bool) (a : Act) (w : World), listed.size = ops.size → Region.ready .any ops listed = [] → (∃ A, HoldsA S I0 B w0 A (heapAt E ops M tr (doneS listed)) (tmpAt ops tr (doneS listed)) (tr 0).tmps.length a w) → Q .normal a w := by
    rintro listed a w hsz hr ⟨A, h⟩
    have all : ∀ k, k < ops.size → doneS listed k := by
      intro k
      induction k using Nat.strongRecOn with
      | _ k ih =>
        intro hk
        refine Classical.byContradiction fun hn => ?_
        have : k ∈ Region.ready .any ops listed := mem_ready.2 ⟨?_, ops[k], Array.getElem?_eq_getElem hk, fun e he hb => ?_⟩
        · rw [hr] at this; cases this
        · unfold doneS at hn
          have hk' : k < listed.size := by omega
          simp only [Array.getD_eq_getD_getElem?, Array.getElem?_eq_getElem hk', Option.getD_some, Bool.not_eq_true] at hn ⊢
          exact hn
        · have hlt := hd.lt k ops[k] (Array.getElem?_eq_getElem hk) e.on (mem_dirs.2 ⟨e, he, hb, rfl⟩)
          exact ih e.on hlt (by omega)
    refine hQ a w ⟨A, h.congr (fun n => ?_) (fun t => ?_) (T.len (Nat.le_refl _)).symm⟩
    · exact after_at (val := fun k => look (tr k).heap n) (fun j hj ht => T.valH hj ht) (Nat.le_refl _) fun j hj _ => ⟨fun _ => hj, fun _ => all j hj⟩
    · exact after_at (val := fun k => (tr k).tmps.getD t .undef) (fun j hj ht => T.valT hj ht) (Nat.le_refl _) fun j hj _ => ⟨fun _ => hj, fun _ => all j hj⟩
  intro fuel
  induction fuel with
  | zero =>
    intro listed a w hsz hc hf h
    have hr : Region.ready .any ops listed = [] := by
      refine List.eq_nil_iff_forall_not_mem.2 fun k hk => ?_
      have h1 := count_set (mem_ready.1 hk).1
      omega
    exact ⟨hr, last listed a w hsz hr h⟩
  | succ fuel ih =>
    intro listed a w hsz hc hf h
    refine ⟨fun hr => last listed a w hsz hr h, fun k hk => ?_⟩
    obtain ⟨hun, o, ho, hall⟩ := mem_ready.1 hk
    obtain ⟨hks, hkf⟩ := getD_false_true hun
    have hkS : ¬ doneS listed k := by unfold doneS; rw [hkf]; simp
    have hrS : ∀ i ∈ dirs o, doneS listed i := fun i hi => by
      obtain ⟨e, he, hb, rfl⟩ := mem_dirs.1 hi
      exact hall e he hb
    obtain ⟨A, h⟩ := h
    have hstep := T.step hd hc ho hkS hrS h (Q := Q) (wpAny P .any ops Q fuel (listed.setIfInBounds k true)) (fun v w' hv => by
      obtain ⟨A', hv⟩ := hv
      refine ih _ _ _ (by simp [hsz]) ?_ ?_ ⟨A', hv.congr (fun n => ?_) (fun t => ?_) rfl⟩
      · intro j p hp hj i hi
        rw [doneS_set hks] at hj ⊢
        rcases hj with hj | rfl
        · exact .inl (hc j p hp hj i hi)
        · rw [ho] at hp; cases hp
          exact .inl (hrS i hi)
      · have := count_set hun; omega
      · exact after_congr fun j _ _ => (doneS_set hks j).symm
      · exact after_congr fun j _ _ => (doneS_set hks j).symm)
    unfold wpOp
    rw [ho]
    simp only
    split
    · rename_i hw; rw [if_pos hw] at hstep; exact .inl hstep
    · rename_i hw; rw [if_neg hw] at hstep; exact hstep

theorem Holds.drew {st : St} {a : Act} {w : World} (h : Holds S I0 B w0 st a w) : Holds S I0 B w0 st a { w with drawn := w.drawn + 1 } := by
  obtain ⟨A, h⟩ := h
  have hmv : Moved A w A { w with drawn := w.drawn + 1 } := ⟨Nat.le_refl _, (Moved.refl A w).names, (Moved.refl A w).live, fun _ _ _ => rfl⟩
  have hl := hmv.later (I0 := I0) (B := B)
  exact ⟨A, h.defers, h.size, h.below.trans ⟨rfl, rfl, rfl, Nat.le_refl _, fun _ _ => rfl⟩, h.hB, h.I0lt, fun n p hp => by
    obtain ⟨fo, h1, h2⟩ := h.obj n p hp
    exact ⟨fo, h1, objRel_turn hl (fun _ _ _ => rfl) h2⟩, h.blkB, h.inj, fun t => VRel.later hl _ _ (h.tmps t), h.kept⟩

theorem drawD_ok {β : Type} (he : EnvOk P E) {id : Nat} {ops : Array Oper} {Q : Exit → Act → World → Prop} {K : St → Option β} {r : β} {st : St} (h : drawD E ops st K = some r) {a : Act} {w : World} (hh : Holds S I0 B w0 st a w)
    (hQ : ∀ st a w, K st = some r → Holds S I0 B w0 st a w → Q .normal a w) : (Code.region id ops true).wp P Q a w := by
  unfold drawD at h
  cases hc : drawOk ops (ops.toList.map dirs) with
  | false => rw [hc] at h; cases h
  | true =>
    rw [hc, cond_true] at h
    have hd := drawOk_spec hc
    generalize (bif looseM ops (ops.toList.map dirs) 0 ops.toList then guessM E ops 0 ops.toList st else []) = M at h
    obtain ⟨tr, h0, h1, h2⟩ := passM_trace he ops.toList 0 st (fun j => by simp) h
    have T : Trace P E ops (ops.toList.map dirs) M tr := ⟨fun k o ho => by
      have := (h2 k o (by simpa using ho)).1
      rw [Nat.zero_add] at this; exact this, fun k o ho hlo => by
      have := (h2 k o (by simpa using ho)).2
      rw [Nat.zero_add] at this; exact this hlo⟩
    refine wp_region_any he.mixed (any_ok hd T (fun a w hw => hQ _ a w (by simpa using h1) hw) _ _ _ _ (by simp) ?_ (by simp) ?_)
    · intro k o _ hk
      unfold doneS at hk
      simp only [Array.getD_eq_getD_getElem?, Array.getElem?_replicate] at hk
      split at hk <;> cases hk
    · obtain ⟨A, hA⟩ := hh.drew
      subst h0
      refine ⟨A, hA.congr (fun n => ?_) (fun t => ?_) rfl⟩
      · refine (after_at (k := 0) (val := fun k => look (tr k).heap n) (fun j hj ht => T.valH hj ht) (by omega) fun j hj _ => ⟨fun hk => ?_, fun h => by omega⟩).symm
        unfold doneS at hk
        simp only [Array.getD_eq_getD_getElem?, Array.getElem?_replicate] at hk
        split at hk <;> cases hk
      · refine (after_at (k := 0) (val := fun k => (tr k).tmps.getD t .undef) (fun j hj ht => T.valT hj ht) (by omega) fun j hj _ => ⟨fun hk => ?_, fun h => by omega⟩).symm
        unfold doneS at hk
        simp only [Array.getD_eq_getD_getElem?, Array.getElem?_replicate] at hk
        split at hk <;> cases hk
end
end Go.Den

/- The state at a loop's head. -/
namespace Go.Den
open Go.RowKit (Below)

/-- A context that knows only some of the names. -/
def Ctx.only (c : Ctx) (ns : List Nat) : Ctx := { c with at_ := fun n => if n ∈ ns then c.at_ n else none }

theorem contains_mem {n : Nat} {l : List Nat} (h : l.contains n = true) : n ∈ l := by simpa using h

theorem only_ok {c : Ctx} {w : World} (ns : List Nat) : ∀ (f : Nat) (d : DV) (v : Value), refsOk f ns d = true → VRel c w d v → VRel (c.only ns) w d v := by
  intro f
  induction f with
  | zero => intro d v h; simp [refsOk] at h
  | succ f ih =>
    have all : ∀ (l : List DV) (vs : List Value), l.all (refsOk f ns) = true → LRel c w l vs → LRel (c.only ns) w l vs := by
      intro l
      induction l with
      | nil => intro vs _ h; rw [LRel.nil_iff] at h ⊢; exact h
      | cons d l ihl =>
        intro vs h hv
        simp only [List.all_cons, Bool.and_eq_true] at h
        rw [LRel.cons_iff] at hv ⊢
        obtain ⟨u, us, e, h1, h2⟩ := hv
        exact ⟨u, us, e, ih d u h.1 h1, ihl us h.2 h2⟩
    intro d v h hv
    cases d with
    | agg l =>
      simp only [refsOk] at h
      simp only [VRel] at hv ⊢
      obtain ⟨vs, e, hl⟩ := hv
      exact ⟨vs, e, all l _ h hl⟩
    | tup l =>
      simp only [refsOk] at h
      simp only [VRel] at hv ⊢
      obtain ⟨vs, e, hl⟩ := hv
      exact ⟨vs, e, all l _ h hl⟩
    | fn g a b =>
      simp only [refsOk, Bool.and_eq_true] at h
      simp only [VRel] at hv ⊢
      obtain ⟨fs, cs, e, h1, h2⟩ := hv
      exact ⟨fs, cs, e, all a _ h.1 h1, all b _ h.2 h2⟩
    | gd g d =>
      simp only [refsOk] at h
      simp only [VRel] at hv ⊢
      exact ⟨fun e => ih d v h (hv.1 e), hv.2⟩
    | oref n =>
      simp only [refsOk] at h
      simp only [VRel] at hv ⊢
      obtain ⟨h1, p, hp, hd⟩ := hv
      exact ⟨h1, p, by simp only [Ctx.only, contains_mem h, if_true]; exact hp, hd⟩
    | sref n o m =>
      simp only [refsOk] at h
      simp only [VRel] at hv ⊢
      obtain ⟨h1, p, hp, hd⟩ := hv
      exact ⟨h1, p, by simp only [Ctx.only, contains_mem h, if_true]; exact hp, hd⟩
    | ptr n i j =>
      simp only [refsOk] at h
      simp only [VRel] at hv ⊢
      obtain ⟨h1, p, hp, hd⟩ := hv
      exact ⟨h1, p, by simp only [Ctx.only, contains_mem h, if_true]; exact hp, hd⟩
    | ints g k l => cases g <;> (simp only [VRel] at hv ⊢; exact hv)
    | recs g k l => cases g <;> (simp only [VRel] at hv ⊢; exact hv)
    | undef => simp only [VRel]
    | _ => simp only [VRel] at hv ⊢; exact hv

def findE (n : Nat) : List (Nat × Nat × Nat × OB) → Option (Nat × Nat × Nat × OB)
  | [] => none
  | x :: xs => if x.2.2.1 = n then some x else findE n xs

theorem findE_mem {n : Nat} : ∀ {l : List (Nat × Nat × Nat × OB)} {x}, findE n l = some x → x ∈ l ∧ x.2.2.1 = n
  | [], x, h => by cases h
  | y :: l, x, h => by
    simp only [findE] at h
    split at h
    · cases h; exact ⟨List.mem_cons_self, ‹_›⟩
    · exact ⟨List.mem_cons_of_mem _ (findE_mem h).1, (findE_mem h).2⟩

theorem findE_of_mem : ∀ {l : List (Nat × Nat × Nat × OB)} {x}, (l.map (·.2.2.1)).Nodup → x ∈ l → findE x.2.2.1 l = some x
  | [], x, _, h => by cases h
  | y :: l, x, hn, h => by
    simp only [List.map_cons, List.nodup_cons] at hn
    simp only [findE]
    rcases List.mem_cons.1 h with rfl | h
    · rw [if_pos rfl]
    · rw [if_neg (fun e => hn.1 (by rw [e]; exact List.mem_map.2 ⟨x, h, rfl⟩))]
      exact findE_of_mem hn.2 h

theorem nameAt_mem {b j nm : Nat} : ∀ {l : List (Nat × Nat × Nat × OB)}, nameAt b j l = some nm → ∃ ob, (b, j, nm, ob) ∈ l
  | [], h => by cases h
  | (b', j', nm', ob) :: l, h => by
    simp only [nameAt] at h
    cases hb : (Nat.beq b b' && Nat.beq j j') with
    | true =>
      rw [hb] at h
      simp only [cond_true, Option.some.injEq] at h
      simp only [Bool.and_eq_true] at hb
      have e1 := Nat.eq_of_beq_eq_true hb.1
      have e2 := Nat.eq_of_beq_eq_true hb.2
      subst e1 e2 h
      exact ⟨ob, List.mem_cons_self⟩
    | false =>
      rw [hb] at h
      obtain ⟨ob', h'⟩ := nameAt_mem h
      exact ⟨ob', List.mem_cons_of_mem _ h'⟩

theorem objsD_spec {st : St} : ∀ {l : List (Nat × Nat × Nat × OB)} {h : Heap} {ns : List Nat}, objsD st l = some (h, ns) → (l.map (·.2.2.1)).Nodup → ns.Nodup →
    (∀ x ∈ l, ∃ s ob, objD st x = some (s, ob) ∧ look h x.2.2.1 = some (false, ob) ∧ ∀ n, s = some n → n ∈ ns) ∧
    (∀ n fo, look h n = some fo → ∃ x ∈ l, x.2.2.1 = n) ∧
    (∀ x ∈ l, ∀ y ∈ l, ∀ n ob ob', objD st x = some (some n, ob) → objD st y = some (some n, ob') → x = y)
  | [], h, ns, hs, _, _ => by
    simp only [objsD, Option.some.injEq, Prod.mk.injEq] at hs
    obtain ⟨rfl, rfl⟩ := hs
    exact ⟨fun x hx => (by cases hx), fun n fo hl => (by cases hl), fun x hx => (by cases hx)⟩
  | x :: l, h, ns, hs, hn, hns => by
    simp only [objsD] at hs
    cases ho : objD st x with
    | none => simp [ho] at hs
    | some r =>
      obtain ⟨s, ob⟩ := r
      cases hl : objsD st l with
      | none => simp [ho, hl] at hs
      | some r =>
        obtain ⟨h', ns'⟩ := r
        simp only [ho, hl, Option.some.injEq, Prod.mk.injEq] at hs
        obtain ⟨rfl, rfl⟩ := hs
        simp only [List.map_cons, List.nodup_cons] at hn
        rw [List.nodup_append] at hns
        obtain ⟨i1, i2, i3⟩ := objsD_spec hl hn.2 hns.2.1
        have hx : ∀ y ∈ l, x.2.2.1 ≠ y.2.2.1 := fun y hy e => hn.1 (by rw [e]; exact List.mem_map.2 ⟨y, hy, rfl⟩)
        have cross : ∀ y ∈ l, ∀ n ob ob', objD st x = some (some n, ob) → objD st y = some (some n, ob') → False := by
          intro y hy n o1 o2 h1 h2
          rw [ho] at h1; cases h1
          obtain ⟨s', ob', h3, _, h4⟩ := i1 y hy
          rw [h2] at h3; cases h3
          exact hns.2.2 n (by simp) n (h4 n rfl) rfl
        refine ⟨fun y hy => ?_, fun n fo hl' => ?_, fun y hy z hz n o1 o2 h1 h2 => ?_⟩
        · rcases List.mem_cons.1 hy with rfl | hy
          · exact ⟨s, ob, ho, by simp [look], fun n e => by rw [e]; simp⟩
          · obtain ⟨s', ob', h1, h2, h3⟩ := i1 y hy
            refine ⟨s', ob', h1, ?_, fun n e => List.mem_append.2 (.inr (h3 n e))⟩
            simp only [look, show (x.2.2.1 == y.2.2.1) = false by simpa using hx y hy, cond_false]
            exact h2
        · simp only [look] at hl'
          by_cases e : x.2.2.1 = n
          · exact ⟨x, List.mem_cons_self, e⟩
          · rw [show (x.2.2.1 == n) = false by simpa using e] at hl'
            obtain ⟨y, hy, hyn⟩ := i2 n fo hl'
            exact ⟨y, List.mem_cons_of_mem _ hy, hyn⟩
        · rcases List.mem_cons.1 hy with e1 | hy2
          · rcases List.mem_cons.1 hz with e2 | hz2
            · rw [e1, e2]
            · exact (cross z hz2 n o1 o2 (e1 ▸ h1) h2).elim
          · rcases List.mem_cons.1 hz with e2 | hz2
            · exact (cross y hy2 n o2 o1 (e2 ▸ h2) h1).elim
            · exact i3 y hy2 z hz2 n o1 o2 h1 h2

theorem boxesD_spec {st : St} {H : LoopHint} : ∀ {bs : List Nat} {h : Heap}, boxesD st H bs = some h → bs.Nodup →
    (∀ b ∈ bs, ∃ f cs, look st.heap b = some (f, .box cs) ∧ okCells H.objs H.boxes (b + 1) 0 cs = true ∧ look h b = some (f, .box (cellsC H.objs (b + 1) 0 cs))) ∧ (∀ n fo, look h n = some fo → n ∈ bs)
  | [], h, hs, _ => by
    simp only [boxesD, Option.some.injEq] at hs
    subst hs
    exact ⟨fun x hx => (by cases hx), fun n fo hl => (by cases hl)⟩
  | b :: bs, h, hs, hn => by
    simp only [boxesD] at hs
    split at hs
    · rename_i f cs hl
      cases hc : okCells H.objs H.boxes (b + 1) 0 cs with
      | false => rw [hc] at hs; cases hs
      | true =>
        rw [hc, cond_true] at hs
        cases hb : boxesD st H bs with
        | none => rw [hb] at hs; cases hs
        | some h' =>
          rw [hb] at hs
          simp only [Option.some.injEq] at hs
          subst hs
          simp only [List.nodup_cons] at hn
          obtain ⟨i1, i2⟩ := boxesD_spec hb hn.2
          refine ⟨fun c hc' => ?_, fun n fo hl' => ?_⟩
          · rcases List.mem_cons.1 hc' with rfl | hc'
            · exact ⟨f, cs, hl, hc, by simp [look]⟩
            · obtain ⟨f', cs', h1, h2, h3⟩ := i1 c hc'
              refine ⟨f', cs', h1, h2, ?_⟩
              have : b ≠ c := fun e => hn.1 (e ▸ hc')
              simp only [look, show (b == c) = false by simpa using this, cond_false]
              exact h3
          · simp only [look] at hl'
            by_cases e : b = n
            · rw [e]; exact List.mem_cons_self
            · rw [show (b == n) = false by simpa using e] at hl'
              exact List.mem_cons_of_mem _ (i2 n fo hl')
    · cases hs

theorem tmpsC_get {H : LoopHint} : ∀ (l : List DV) (k i : Nat), i < l.length → (tmpsC H k l).getD i .undef = (match nameAt 0 (k + i) H.objs with | some nm => .oref nm | none => bif memB (k + i) H.keep then l.getD i .undef else .undef)
  | [], k, i, h => by simp at h
  | d :: l, k, i, h => by
    cases i with
    | zero =>
      simp only [tmpsC, List.getD_cons_zero, Nat.add_zero]
      cases nameAt 0 k H.objs <;> rfl
    | succ i =>
      have := tmpsC_get (H := H) l (k + 1) i (by simpa using h)
      simp only [tmpsC, List.getD_cons_succ, this]
      rw [show k + 1 + i = k + (i + 1) by omega]

theorem tmpsC_length {H : LoopHint} : ∀ (l : List DV) (k : Nat), (tmpsC H k l).length = l.length
  | [], k => rfl
  | d :: l, k => by simp [tmpsC, tmpsC_length l]

theorem okTmps_get {H : LoopHint} : ∀ {l : List DV} {k i : Nat}, okTmps H k l = true → i < l.length → nameAt 0 (k + i) H.objs = none → memB (k + i) H.keep = true → refsOk 8 H.boxes (l.getD i .undef) = true
  | [], k, i, _, h, _, _ => by simp at h
  | d :: l, k, i, h, hi, h1, h2 => by
    simp only [okTmps, Bool.and_eq_true, Bool.or_eq_true, Bool.not_eq_true'] at h
    cases i with
    | zero =>
      rcases h.1 with h | h | h
      · rw [Nat.add_zero] at h1; rw [h1] at h; cases h
      · rw [Nat.add_zero] at h2; rw [h2] at h; cases h
      · exact h
    | succ i =>
      rw [List.getD_cons_succ]
      exact okTmps_get (k := k + 1) h.2 (by simpa using hi) (by rw [show k + 1 + i = k + (i + 1) by omega]; exact h1) (by rw [show k + 1 + i = k + (i + 1) by omega]; exact h2)

/-- Cells of a box, seen anew. -/
theorem cellsC_rel {c c' : Ctx} {w : World} {objs : List (Nat × Nat × Nat × OB)} {boxes : List Nat} {b : Nat} :
    ∀ (l : List DV) (vs : List Value) (k : Nat), okCells objs boxes b k l = true → LRel c w l vs →
    (∀ d v, refsOk 8 boxes d = true → VRel c w d v → VRel c' w d v) → (∀ i nm d v, l[i]? = some d → nameAt b (k + i) objs = some nm → VRel c w d v → VRel c' w (.oref nm) v) → LRel c' w (cellsC objs b k l) vs
  | [], vs, k, _, h, _, _ => by rw [LRel.nil_iff] at h; subst h; simp [cellsC, LRel]
  | d :: l, vs, k, hok, h, h1, h2 => by
    simp only [okCells, Bool.and_eq_true, Bool.or_eq_true] at hok
    rw [LRel.cons_iff] at h
    obtain ⟨u, us, rfl, hu, hus⟩ := h
    simp only [cellsC]
    rw [LRel.cons_iff]
    refine ⟨u, us, rfl, ?_, cellsC_rel l us (k + 1) hok.2 hus h1 fun i nm e v hi hn => h2 (i + 1) nm e v hi (by rw [show k + (i + 1) = k + 1 + i by omega]; exact hn)⟩
    cases hn : nameAt b k objs with
    | some nm => exact h2 0 nm d u rfl hn hu
    | none =>
      rw [hn] at hok
      exact h1 d u (hok.1.resolve_left (by simp)) hu

end Go.Den

/- The state at a loop's head: the frame holds it, too. -/
namespace Go.Den
open Go.RowKit (Below)

def obSize : OB → Nat
  | .recs _ sz _ => sz
  | _ => 1

def nilPlace (ob : OB) : Place := ⟨.live, .row (.slice none 0 0) (obSize ob)⟩

open Classical in
/-- What the names stand for at the loop's head. -/
noncomputable def headA (st : St) (H : LoopHint) (A : Nat → Option Place) (n : Nat) : Option Place :=
  if n ∈ H.boxes then A n else
  match findE n H.objs with
  | some x => match srcD st x with
    | .nil => some (nilPlace x.2.2.2)
    | .oref m => A m
    | _ => none
  | none => none

theorem headA_inv {st : St} {H : LoopHint} {A : Nat → Option Place} {n : Nat} {p : Place} (h : headA st H A n = some p) :
    (n ∈ H.boxes ∧ A n = some p) ∨ (n ∉ H.boxes ∧ ∃ x ∈ H.objs, x.2.2.1 = n ∧ ((srcD st x = .nil ∧ p = nilPlace x.2.2.2) ∨ ∃ m, srcD st x = .oref m ∧ A m = some p)) := by
  unfold headA at h
  by_cases hb : n ∈ H.boxes
  · rw [if_pos hb] at h; exact .inl ⟨hb, h⟩
  · rw [if_neg hb] at h
    refine .inr ⟨hb, ?_⟩
    cases hf : findE n H.objs with
    | none => rw [hf] at h; cases h
    | some x =>
      rw [hf] at h
      obtain ⟨hx, hn⟩ := findE_mem hf
      refine ⟨x, hx, hn, ?_⟩
      simp only at h
      split at h
      · rename_i e; cases h; exact .inl ⟨e, rfl⟩
      · rename_i m e; exact .inr ⟨m, e, h⟩
      · cases h

theorem objD_inv {st : St} {x : Nat × Nat × Nat × OB} {s : Option Nat} {ob : OB} (h : objD st x = some (s, ob)) :
    (srcD st x = .nil ∧ s = none ∧ ob = x.2.2.2 ∧ ((∃ e k, ob = .ints e k []) ∨ ∃ e sz, 0 < sz ∧ ob = .recs e sz [])) ∨
    (∃ m, srcD st x = .oref m ∧ s = some m ∧ look st.heap m = some (false, ob) ∧ ((∃ e k l, ob = .ints e k l) ∨ ∃ e sz l, ob = .recs e sz l)) := by
  unfold objD at h
  split at h
  · rename_i hs
    left
    split at h
    · rename_i e k hx
      simp only [Option.some.injEq, Prod.mk.injEq] at h
      exact ⟨hs, h.1.symm, by rw [hx]; exact h.2.symm, .inl ⟨e, k, h.2.symm⟩⟩
    · rename_i e sz hx
      cases hb : Nat.blt 0 sz with
      | false => rw [hb] at h; cases h
      | true =>
        rw [hb] at h
        simp only [cond_true, Option.some.injEq, Prod.mk.injEq] at h
        exact ⟨hs, h.1.symm, by rw [hx]; exact h.2.symm, .inr ⟨e, sz, by simpa [Nat.blt_eq] using hb, h.2.symm⟩⟩
    · cases h
  · rename_i m hs
    right
    split at h
    · rename_i e k l hl
      simp only [Option.some.injEq, Prod.mk.injEq] at h
      exact ⟨m, hs, h.1.symm, by rw [hl, h.2], .inl ⟨e, k, l, h.2.symm⟩⟩
    · rename_i e sz l hl
      simp only [Option.some.injEq, Prod.mk.injEq] at h
      exact ⟨m, hs, h.1.symm, by rw [hl, h.2], .inr ⟨e, sz, l, h.2.symm⟩⟩
    · cases h
  · cases h

section
variable {S I0 : Nat → Prop} {B : Nat} {w0 : World}

theorem canon_ok {H : LoopHint} {st st1 : St} (h : canon (some H) st = some st1) {a : Act} {w : World} (hh : Holds S I0 B w0 st a w) : Holds S I0 B w0 st1 a w := by
  obtain ⟨A, hA⟩ := hh
  simp only [canon] at h
  cases hbd : boxesD st H H.boxes with
  | none => rw [hbd] at h; cases h
  | some hb =>
  cases hod : objsD st H.objs with
  | none => rw [hbd, hod] at h; cases h
  | some r =>
  obtain ⟨ho, ns⟩ := r
  rw [hbd, hod] at h
  simp only at h
  cases hc : (nodupB (H.boxes ++ H.objs.map (·.2.2.1)) && nodupB ns && okTmps H 0 st.tmps) with
  | false => rw [hc] at h; cases h
  | true =>
  rw [hc, cond_true, Option.some.injEq] at h
  subst h
  simp only [Bool.and_eq_true] at hc
  obtain ⟨⟨hn, hns⟩, hok⟩ := hc
  have hnd := nodupB_spec hn
  rw [List.nodup_append] at hnd
  obtain ⟨hnb, hno, hdis⟩ := hnd
  obtain ⟨o1, o2, o3⟩ := objsD_spec hod hno (nodupB_spec hns)
  obtain ⟨b1, b2⟩ := boxesD_spec hbd hnb
  have hnin : ∀ x ∈ H.objs, x.2.2.1 ∉ H.boxes := fun x hx e => hdis _ e _ (List.mem_map.2 ⟨x, hx, rfl⟩) rfl
  have hat : ∀ x ∈ H.objs, headA st H A x.2.2.1 = match srcD st x with | .nil => some (nilPlace x.2.2.2) | .oref m => A m | _ => none := by
    intro x hx
    unfold headA
    rw [if_neg (hnin x hx), findE_of_mem hno hx]
  have hokc : ∀ b, (ctxOf I0 B A w).ok b → (ctxOf I0 B (headA st H A) w).ok b := by
    rintro b ⟨h1, h2, h3⟩
    refine ⟨h1, h2, fun n p hp hl => ?_⟩
    rcases headA_inv hp with ⟨_, hp⟩ | ⟨_, x, _, _, ⟨_, rfl⟩ | ⟨m, _, hp⟩⟩
    · exact h3 n p hp hl
    · simp [nilPlace, Place.blk, Value.ownBlock]
    · exact h3 m p hp hl
  have hrefs : ∀ d v, refsOk 8 H.boxes d = true → VRel (ctxOf I0 B A w) w d v → VRel (ctxOf I0 B (headA st H A) w) w d v := by
    intro d v hd hv
    have hl : Later ((ctxOf I0 B A w).only H.boxes) w (ctxOf I0 B (headA st H A) w) w := by
     refine ⟨hokc, rfl, rfl, fun _ _ h => (by cases h), fun n p hp => ?_, fun _ _ _ => rfl, fun _ _ h => (by cases h)⟩
     simp only [Ctx.only] at hp
     split at hp
     · rename_i hnb'
       refine ⟨p, ?_, ?_⟩
       · show headA st H A n = some p
         unfold headA
         rw [if_pos hnb']; exact hp
       · by_cases hpd : p.st = .dead
         · exact .inl hpd
         · exact .inr ⟨hpd, rfl⟩
     · cases hp
    exact VRel.later hl d v (only_ok H.boxes 8 d v hd hv)
  have hbare : ∀ l rows, RRel (ctxOf I0 B A w).bare w l rows → RRel (ctxOf I0 B (headA st H A) w).bare w l rows := fun l rows =>
    RRel.later (c := (ctxOf I0 B A w).bare) (c' := (ctxOf I0 B (headA st H A) w).bare) (w := w) (w' := w) ⟨hokc, rfl, rfl, fun _ _ h => (by cases h), fun _ _ h => (by cases h), fun _ _ _ => rfl, fun _ _ h => (by cases h)⟩ l rows
  have hnamed : ∀ x ∈ H.objs, ∀ v, VRel (ctxOf I0 B A w) w (srcD st x) v → VRel (ctxOf I0 B (headA st H A) w) w (.oref x.2.2.1) v := by
    intro x hx v hv
    obtain ⟨s, ob, h1, _, _⟩ := o1 x hx
    have hax := hat x hx
    rcases objD_inv h1 with ⟨e, _⟩ | ⟨m, e, _⟩
    · rw [e] at hv hax
      simp only [VRel] at hv ⊢
      subst hv
      exact ⟨rfl, _, hax, .inr ⟨_, rfl⟩⟩
    · rw [e] at hv hax
      simp only [VRel] at hv ⊢
      obtain ⟨h1, p, hp, hd⟩ := hv
      exact ⟨h1, p, hax.trans hp, hd⟩
  refine ⟨headA st H A, hA.defers, hA.size.trans (tmpsC_length _ _).symm, hA.below, hA.hB, hA.I0lt, fun n p hp => ?_, fun n p b hp hd hpb => ?_, fun n m p q b hp hq hpd hqd hpb hqb => ?_, fun t => ?_, fun b hb => ⟨(hA.kept b hb).1, (hA.kept b hb).2.1, fun n p hp hl hbk => by
    rcases headA_inv hp with ⟨_, hp⟩ | ⟨_, x, _, _, ⟨_, rfl⟩ | ⟨m, _, hp⟩⟩
    · exact (hA.kept b hb).2.2 n p hp hl hbk
    · simp [nilPlace, Place.blk, Value.ownBlock] at hbk
    · exact (hA.kept b hb).2.2 m p hp hl hbk⟩⟩
  · rcases headA_inv hp with ⟨hnb', hp⟩ | ⟨hnb', x, hx, rfl, hsrc⟩
    · obtain ⟨f, cs, h1, h2, h3⟩ := b1 n hnb'
      obtain ⟨fo, h4, h5⟩ := hA.obj n p hp
      rw [h1] at h4; cases h4
      refine ⟨(f, .box (cellsC H.objs (n + 1) 0 cs)), by rw [look_append, h3], ?_⟩
      obtain ⟨hst, b, e, cells, hk, hh, hl⟩ := h5
      refine ⟨hst, b, e, cells, hk, hh, cellsC_rel cs _ 0 h2 hl hrefs fun i nm d v hi hnm hv => ?_⟩
      obtain ⟨ob, hx⟩ := nameAt_mem hnm
      refine hnamed _ hx v ?_
      have : srcD st (n + 1, 0 + i, nm, ob) = d := by
        simp [srcD, h1, List.getD_eq_getElem?_getD, hi]
      rw [this]; exact hv
    · obtain ⟨s, ob, h1, h2, _⟩ := o1 x hx
      have hl : look (hb ++ ho) x.2.2.1 = some (false, ob) := by
        rw [look_append]
        cases hq : look hb x.2.2.1 with
        | none => exact h2
        | some fo => exact absurd (b2 _ _ hq) hnb'
      refine ⟨_, hl, ?_⟩
      rcases objD_inv h1 with ⟨e, _, e2, hob⟩ | ⟨m, e, _, hlm, hob⟩
      · rcases hsrc with ⟨_, rfl⟩ | ⟨m, e', _⟩
        · rw [← e2]
          rcases hob with ⟨e, k, rfl⟩ | ⟨e, sz, hsz, rfl⟩
          · exact ⟨rfl, _, rfl, World.ownsRow_nil w B e 1⟩
          · exact ⟨rfl, hsz, _, [], rfl, by simp [RRel], fun r hr => (by cases hr), World.ownsRow_nil w B e sz⟩
        · rw [e] at e'; cases e'
      · rcases hsrc with ⟨e', _⟩ | ⟨m', e', hp'⟩
        · rw [e] at e'; cases e'
        · rw [e] at e'; cases e'
          obtain ⟨fo, h4, h5⟩ := hA.obj m p hp'
          rw [hlm] at h4; cases h4
          rcases hob with ⟨e, k, l, rfl⟩ | ⟨e, sz, l, rfl⟩
          · exact h5
          · obtain ⟨i1, i2, sv, rows, i3, i4, i5, i6⟩ := h5
            exact ⟨i1, i2, sv, rows, i3, hbare _ _ i4, i5, i6⟩
  · rcases headA_inv hp with ⟨_, hp⟩ | ⟨_, x, hx, rfl, ⟨_, rfl⟩ | ⟨m, _, hp⟩⟩
    · exact hA.blkB n p b hp hd hpb
    · simp [nilPlace, Place.blk, Value.ownBlock] at hpb
    · exact hA.blkB m p b hp hd hpb
  · have isBox : ∀ n p, n ∈ H.boxes → A n = some p → ∃ b, p.kind = .box b := by
      intro n p hnb' hp
      obtain ⟨f, cs, h1, _, _⟩ := b1 n hnb'
      obtain ⟨fo, h4, h5⟩ := hA.obj n p hp
      rw [h1] at h4; cases h4
      obtain ⟨_, b, _, _, hk, _⟩ := h5
      exact ⟨b, hk⟩
    have isRow : ∀ x ∈ H.objs, ∀ m p, srcD st x = .oref m → A m = some p → ∃ sv sz, p.kind = .row sv sz := by
      intro x hx m p e hp
      obtain ⟨s, ob, h1, _, _⟩ := o1 x hx
      rcases objD_inv h1 with ⟨e', _⟩ | ⟨m', e', _, hlm, hob⟩
      · rw [e] at e'; cases e'
      · rw [e] at e'; cases e'
        obtain ⟨fo, h4, h5⟩ := hA.obj m p hp
        rw [hlm] at h4; cases h4
        rcases hob with ⟨e, k, l, rfl⟩ | ⟨e, sz, l, rfl⟩
        · obtain ⟨_, sv, hk, _⟩ := h5; exact ⟨sv, 1, hk⟩
        · obtain ⟨_, _, sv, _, hk, _⟩ := h5; exact ⟨sv, sz, hk⟩
    have same : ∀ m m' : Nat, ∀ p q : Place, A m = some p → A m' = some q → p.st ≠ .dead → q.st ≠ .dead → p.blk = some b → q.blk = some b → m = m' := fun m m' p q h1 h2 h3 h4 h5 h6 => hA.inj m m' p q b h1 h2 h3 h4 h5 h6
    rcases headA_inv hp with ⟨hnb', hp⟩ | ⟨_, x, hx, rfl, ⟨_, rfl⟩ | ⟨i, hi, hp⟩⟩
    · rcases headA_inv hq with ⟨_, hq⟩ | ⟨_, y, hy, rfl, ⟨_, rfl⟩ | ⟨j, hj, hq⟩⟩
      · exact same n m p q hp hq hpd hqd hpb hqb
      · simp [nilPlace, Place.blk, Value.ownBlock] at hqb
      · have e := same n j p q hp hq hpd hqd hpb hqb
        subst e
        rw [hp] at hq; cases hq
        obtain ⟨b', hk⟩ := isBox n p hnb' hp
        obtain ⟨sv, sz, hk'⟩ := isRow y hy n p hj hp
        rw [hk] at hk'; cases hk'
    · simp [nilPlace, Place.blk, Value.ownBlock] at hpb
    · rcases headA_inv hq with ⟨hmb, hq⟩ | ⟨_, y, hy, rfl, ⟨_, rfl⟩ | ⟨j, hj, hq⟩⟩
      · have e := same i m p q hp hq hpd hqd hpb hqb
        subst e
        rw [hp] at hq; cases hq
        obtain ⟨b', hk⟩ := isBox i p hmb hp
        obtain ⟨sv, sz, hk'⟩ := isRow x hx i p hi hp
        rw [hk] at hk'; cases hk'
      · simp [nilPlace, Place.blk, Value.ownBlock] at hqb
      · have e := same i j p q hp hq hpd hqd hpb hqb
        subst e
        obtain ⟨s, ob, h1, _, _⟩ := o1 x hx
        obtain ⟨s', ob', h1', _, _⟩ := o1 y hy
        have hs : s = some i := by
          rcases objD_inv h1 with ⟨e', _⟩ | ⟨m', e', e2, _⟩
          · rw [hi] at e'; cases e'
          · rw [hi] at e'; cases e'; exact e2
        have hs' : s' = some i := by
          rcases objD_inv h1' with ⟨e', _⟩ | ⟨m', e', e2, _⟩
          · rw [hj] at e'; cases e'
          · rw [hj] at e'; cases e'; exact e2
        subst hs hs'
        rw [o3 x hx y hy i ob ob' h1 h1']
  · rcases Nat.lt_or_ge t st.tmps.length with hlt | hge
    · rw [tmpsC_get st.tmps 0 t hlt]
      cases hnm : nameAt 0 (0 + t) H.objs with
      | some nm =>
        obtain ⟨ob, hx⟩ := nameAt_mem hnm
        refine hnamed _ hx _ ?_
        have : srcD st (0, 0 + t, nm, ob) = st.tmps.getD t .undef := by simp [srcD]
        rw [this]; exact hA.tmps t
      | none =>
        simp only
        cases hk : memB (0 + t) H.keep with
        | true => exact hrefs _ _ (okTmps_get hok hlt hnm hk) (hA.tmps t)
        | false => simp only [cond_false, VRel]
    · rw [List.getD_eq_getElem?_getD, List.getElem?_eq_none (by rw [tmpsC_length]; exact hge)]
      simp only [Option.getD_none, VRel]
end
end Go.Den

/- Code, whole. -/
namespace Go.Den
open Go.RowKit (Below)

section
variable {P : Program} {E : Env} {S I0 : Nat → Prop} {B : Nat} {w0 : World}

theorem forget_get {keep : Option (List Nat)} {st : St} (t : Nat) : (forget keep st).tmps.getD t .undef = st.tmps.getD t .undef ∨ (forget keep st).tmps.getD t .undef = .undef := by
  cases keep with
  | none => exact .inl rfl
  | some ks =>
    simp only [forget, List.getD_eq_getElem?_getD, List.getElem?_map, List.getElem?_zipIdx]
    cases st.tmps[t]? with
    | none => exact .inl rfl
    | some d =>
      simp only [Option.map_some, Option.getD_some]
      cases ks.contains (0 + t)
      · exact .inr rfl
      · exact .inl rfl

theorem forget_length {keep : Option (List Nat)} {st : St} : (forget keep st).tmps.length = st.tmps.length := by
  cases keep <;> simp [forget]

theorem forget_heap {keep : Option (List Nat)} {st : St} : (forget keep st).heap = st.heap := by
  cases keep <;> rfl

theorem Holds.forget {keep : Option (List Nat)} {st : St} {a : Act} {w : World} (h : Holds S I0 B w0 st a w) : Holds S I0 B w0 (forget keep st) a w := by
  obtain ⟨A, h⟩ := h
  refine ⟨A, h.defers, h.size.trans forget_length.symm, h.below, h.hB, h.I0lt, by rw [forget_heap]; exact h.obj, h.blkB, h.inj, fun t => ?_, h.kept⟩
  rcases forget_get (keep := keep) (st := st) t with e | e
  · rw [e]; exact h.tmps t
  · rw [e]; simp only [VRel]

/-- What is shown of a piece of code at every state. -/
def Shows {β : Type} (P : Program) (S I0 : Nat → Prop) (B : Nat) (w0 : World) (r : β) (c : Code) (body : St → (St → Option β) → (Nat → St → Option β) → (St → Option β) → Option β) : Prop :=
  ∀ (st : St) (Kn : St → Option β) (Kx : Nat → St → Option β) (Kr : St → Option β), body st Kn Kx Kr = some r → ∀ (a : Act) (w : World), Holds S I0 B w0 st a w → ∀ Q : Exit → Act → World → Prop,
    (∀ st a w, Kn st = some r → Holds S I0 B w0 st a w → Q .normal a w) → (∀ id st a w, Kx id st = some r → Holds S I0 B w0 st a w → Q (.exit id) a w) →
    (∀ st a w, Kr st = some r → Holds S I0 B w0 st a w → Q .ret a w) → c.wp P Q a w

theorem canon_any {H : Option LoopHint} {st st1 : St} (hc : canon H st = some st1) {a : Act} {w : World} (hh : Holds S I0 B w0 st a w) : Holds S I0 B w0 st1 a w := by
  cases H with
  | none => simp only [canon, Option.some.injEq] at hc; subst hc; exact hh
  | some H => exact canon_ok hc hh

theorem iterG_ok {β : Type} {r : β} {c : Code} {body : St → (St → Option β) → (Nat → St → Option β) → (St → Option β) → Option β} (hb : Shows P S I0 B w0 r c body) {H : Option LoopHint} {Kx : Nat → St → Option β} {Kr : St → Option β}
    {Q : Exit → Act → World → Prop} (hx : ∀ id st a w, Kx id st = some r → Holds S I0 B w0 st a w → Q (.exit id) a w) (hr : ∀ st a w, Kr st = some r → Holds S I0 B w0 st a w → Q .ret a w) :
    ∀ (n : Nat) (st : St), iterG H body n st Kx Kr = some r → ∀ a w, Holds S I0 B w0 st a w → Code.rounds P c Q n a w
  | 0, st, h, _, _, _ => by simp [iterG] at h
  | n + 1, st, h, a, w, hh => by
    simp only [iterG] at h
    rw [rounds_succ]
    refine hb st _ Kx Kr h a w hh _ (fun st2 a2 w2 hk hh2 => ?_) (fun id st2 a2 w2 hk hh2 => hx id st2 a2 w2 hk hh2) (fun st2 a2 w2 hk hh2 => hr st2 a2 w2 hk hh2)
    cases hc : canon H st2 with
    | none => rw [hc] at hk; cases hk
    | some st3 =>
      rw [hc] at hk
      exact iterG_ok hb hx hr n st3 hk a2 w2 (canon_any hc hh2)

theorem iter_ok {β : Type} {r : β} {c : Code} {body : St → (St → Option β) → (Nat → St → Option β) → (St → Option β) → Option β} (hb : Shows P S I0 B w0 r c body) {H : Option LoopHint} {Kx : Nat → St → Option β} {Kr : St → Option β}
    {Q : Exit → Act → World → Prop} (hx : ∀ id st a w, Kx id st = some r → Holds S I0 B w0 st a w → Q (.exit id) a w) (hr : ∀ st a w, Kr st = some r → Holds S I0 B w0 st a w → Q .ret a w)
    (n : Nat) (st : St) (h : iter H body n st Kx Kr = some r) (a : Act) (w : World) (hh : Holds S I0 B w0 st a w) : Code.rounds P c Q n a w := by
  unfold iter at h
  cases hc : canon H st with
  | none => rw [hc] at h; cases h
  | some st1 =>
    rw [hc] at h
    exact iterG_ok hb hx hr n st1 h a w (canon_any hc hh)

theorem den_ok {β : Type} (he : EnvOk P E) (fuel : Nat) (r : β) : ∀ (c : Code) (b : Nat), Shows P S I0 B w0 r c (den E fuel b c)
  | .skip, b => fun st Kn Kx Kr h a w hh Q hn hx hr => by
    simp only [den] at h
    exact wp_skip (hn st a w h hh)
  | .label l, b => fun st Kn Kx Kr h a w hh Q hn hx hr => by
    simp only [den] at h
    exact wp_label (hn st a w h hh)
  | .region id ops draw, b => fun st Kn Kx Kr h a w hh Q hn hx hr => by
    simp only [den] at h
    have reg : ∀ st, regD E ops draw Kn st = some r → Holds S I0 B w0 st a w → (Code.region id ops draw).wp P Q a w := by
      intro st h hh
      cases draw with
      | true => exact drawD_ok he h hh hn
      | false =>
        simp only [regD, cond_false] at h
        have := opsD_ok he ops.toList 0 _ (fun j => by simp) h a w hh hn
        rw [Array.length_toList, ← List.range_eq_range'] at this
        exact wp_region this
    cases hl : E.live id with
    | none => rw [hl] at h; exact reg st h hh
    | some ks =>
      rw [hl] at h
      simp only [stopAt_eq] at h
      exact reg _ h hh.forget
  | .seq x y, b => fun st Kn Kx Kr h a w hh Q hn hx hr => by
    simp only [den] at h
    refine wp_seq (den_ok he fuel r x b st _ Kx Kr h a w hh _ (fun st' a' w' hk hh' => ?_) (fun id st' a' w' hk hh' => hx id st' a' w' hk hh') (fun st' a' w' hk hh' => hr st' a' w' hk hh'))
    exact den_ok he fuel r y b st' Kn Kx Kr hk a' w' hh' Q hn hx hr
  | .cond c x y, b => fun st Kn Kx Kr h a w hh Q hn hx hr => by
    simp only [den] at h
    cases hv : opdD st.tmps c with
    | bool t =>
      rw [hv] at h
      simp only at h
      have hev : a.eval c = .bool t := by
        obtain ⟨A, hA⟩ := hh
        have : VRel (ctxOf I0 B A w) w (opdD st.tmps c) (a.eval c) := by
          cases c with
          | tmp t => exact hA.tmps t
          | const v => exact const_rel v
          | global g => simp only [opdD, VRel]
          | func f => simp [opdD] at hv
        rw [hv] at this
        simpa only [VRel] using this
      refine wp_cond hev ?_
      cases t with
      | true => exact den_ok he fuel r x b st Kn Kx Kr h a w hh Q hn hx hr
      | false => exact den_ok he fuel r y b st Kn Kx Kr h a w hh Q hn hx hr
    | _ => rw [hv] at h; cases h
  | .block id c, b => fun st Kn Kx Kr h a w hh Q hn hx hr => by
    simp only [den] at h
    refine wp_block (den_ok he fuel r c id st Kn _ Kr h a w hh _ (fun st' a' w' hk hh' => hn st' a' w' hk hh') (fun id' st' a' w' hk hh' => ?_) (fun st' a' w' hk hh' => hr st' a' w' hk hh'))
    simp only [Exit.inBlock]
    by_cases e : id' = id
    · rw [if_pos e]
      rw [show (id' == id) = true by simpa using e] at hk
      exact hn st' a' w' hk hh'
    · rw [if_neg e]
      rw [show (id' == id) = false by simpa using e] at hk
      exact hx id' st' a' w' hk hh'
  | .loop c, b => fun st Kn Kx Kr h a w hh Q hn hx hr => by
    simp only [den] at h
    exact wp_loop_rounds fuel (iter_ok (den_ok he fuel r c b) hx hr fuel st h a w hh)
  | .scope c, b => fun st Kn Kx Kr h a w hh Q hn hx hr => by
    simp only [den] at h
    exact wp_scope_straight (den_ok he fuel r c b st Kn Kx Kr h a w hh _ (fun st' a' w' hk hh' => hn st' a' w' hk hh') (fun id st' a' w' hk hh' => hx id st' a' w' hk hh') (fun st' a' w' hk hh' => hr st' a' w' hk hh'))
  | .exit id, b => fun st Kn Kx Kr h a w hh Q hn hx hr => by
    simp only [den] at h
    exact wp_exit (hx id st a w h hh)
  | .ret, b => fun st Kn Kx Kr h a w hh Q hn hx hr => by
    simp only [den] at h
    exact wp_ret (hr st a w h hh)
  | .rangeFunc .., b => fun st Kn Kx Kr h => by simp [den] at h
  | .goto l, b => fun st Kn Kx Kr h => by simp [den] at h
  | .refuse s, b => fun st Kn Kx Kr h => by simp [den] at h
end
end Go.Den

/- What a function returns; the evaluator's word on a function. -/
namespace Go.Den
open Go.RowKit (Below)

def oneV : List Value → Value
  | [v] => v
  | vs => .tuple vs.toArray

def resRun (tmps : Array Value) : ResultVar → Sem Value
  | .tmp t => pure (tmps.getD t undef)
  | .cell a t => do loadVar t (← asAddr (tmps.getD a undef))

section
variable {P : Program} {E : Env} {S I0 : Nat → Prop} {B : Nat} {w0 : World} {A : Nat → Option Place}

theorem run_asAddr {t : TypeId} {va v : Value} {w : World} (h : (Instr.loadAt t va).run P w = .ok v w) : (do loadVar t (← asAddr va) : Sem Value).run P w = .ok v w := by
  unfold Instr.loadAt at h
  cases va with
  | pointer a =>
    cases a with
    | none => simp [Instr.sureAddr] at h
    | some a =>
      simp only [Instr.sureAddr, asAddr] at h ⊢
      exact h
  | _ => simp [Instr.sureAddr] at h

theorem resOne_ok (hty : ∀ t ti, E.ty t = some ti → TyFact P t ti) {st : St} {a : Act} {w : World} (hA : HoldsA S I0 B w0 A (look st.heap) (fun t => st.tmps.getD t .undef) st.tmps.length a w)
    {r : ResultVar} {d : DV} (h1 : resOne E st r = some d) : ∃ v, VRel (ctxOf I0 B A w) w d v ∧ (resRun a.tmps r).run P w = .ok v w := by
  cases r with
  | tmp t =>
    simp only [resOne, Option.some.injEq] at h1
    subst h1
    exact ⟨_, hA.tmps t, by simp [resRun]⟩
  | cell x t =>
    simp only [resOne] at h1
    cases hT : E.ty t with
    | none => simp [hT] at h1
    | some ti =>
      rw [hT, Option.bind_some] at h1
      cases hl : loadD st.heap ti (st.tmps.getD x .undef) with
      | none => rw [hl] at h1; cases h1
      | some q =>
        rw [hl, Option.bind_some] at h1
        cases hq : q.req with
        | false => rw [hq] at h1; cases h1
        | true =>
          rw [hq, cond_true, Option.some.injEq] at h1
          subst h1
          have hm : Mem I0 B A st.heap w := hA.mem fun n p fo _ hl => hl
          obtain ⟨v, hr, hv⟩ := loadD_ok hm (hty _ _ hT) (hA.tmps x) hl hq
          exact ⟨v, hv, run_asAddr hr⟩

theorem resAll_ok (hty : ∀ t ti, E.ty t = some ti → TyFact P t ti) {st : St} {a : Act} {w : World} (hA : HoldsA S I0 B w0 A (look st.heap) (fun t => st.tmps.getD t .undef) st.tmps.length a w) :
    ∀ (rs : List ResultVar) (ds : List DV), resAll E st rs = some ds → ∃ vs : List Value, LRel (ctxOf I0 B A w) w ds vs ∧ (rs.mapM (resRun a.tmps)).run P w = .ok vs w
  | [], ds, h => by
    simp only [resAll, Option.some.injEq] at h; subst h
    exact ⟨[], by simp [LRel], rfl⟩
  | r :: rs, ds, h => by
    simp only [resAll] at h
    cases h1 : resOne E st r with
    | none => simp [h1] at h
    | some d =>
      cases h2 : resAll E st rs with
      | none => simp [h1, h2] at h
      | some ds' =>
        simp only [h1, h2, Option.bind_some, Option.some.injEq] at h
        subst h
        obtain ⟨vs, i1, i2⟩ := resAll_ok hty hA rs ds' h2
        obtain ⟨v, hv, hr⟩ := resOne_ok hty hA h1
        refine ⟨v :: vs, by rw [LRel.cons_iff]; exact ⟨v, vs, rfl, hv, i1⟩, ?_⟩
        simp only [List.mapM_cons, Sem.run_bind, hr, Result.andThen_ok, i2, Sem.run_pure]

theorem run_results {fn : Func} {tmps : Array Value} {w : World} {vs : List Value} (h : (fn.results.toList.mapM (resRun tmps)).run P w = .ok vs w) :
    (results fn tmps).run P w = .ok (oneV vs) w := by
  have h' : (fn.results.mapM (resRun tmps)).run P w = .ok vs.toArray w := by
    rw [Array.mapM_eq_mapM_toList]
    simp only [Sem.run_map, h, Result.andThen_ok]
  have e : results fn tmps = (do let vs ← fn.results.mapM (resRun tmps); pure (if h : vs.size = 1 then vs[0] else .tuple vs)) := by
    unfold results
    congr 2
  rw [e]
  simp only [Sem.run_bind, h', Result.andThen_ok, Sem.run_pure]
  congr 1
  match vs with
  | [] => rfl
  | [v] => rfl
  | v :: u :: us => simp [oneV]

def raiseL (h : Heap) (f : Nat) (l : List DV) : Option (List DV × List Nat × List Nat) :=
  l.foldr (fun d acc => (raiseD h f d).bind fun (x, ns, os) => acc.bind fun (xs, ms, ps) => some (x :: xs, ns ++ ms, os ++ ps)) (some ([], [], []))

theorem raiseL_cons_some {h : Heap} {f : Nat} {d : DV} {l : List DV} {r : List DV × List Nat × List Nat} (hh : raiseL h f (d :: l) = some r) :
    ∃ x ns os xs ms ps, raiseD h f d = some (x, ns, os) ∧ raiseL h f l = some (xs, ms, ps) ∧ r = (x :: xs, ns ++ ms, os ++ ps) := by
  have e : raiseL h f (d :: l) = (raiseD h f d).bind fun (x, ns, os) => (raiseL h f l).bind fun (xs, ms, ps) => some (x :: xs, ns ++ ms, os ++ ps) := rfl
  rw [e] at hh
  cases h1 : raiseD h f d with
  | none => simp [h1] at hh
  | some a =>
    obtain ⟨x, ns, os⟩ := a
    cases h2 : raiseL h f l with
    | none => simp [h1, h2] at hh
    | some b =>
      obtain ⟨xs, ms, ps⟩ := b
      simp only [h1, h2, Option.bind_some, Option.some.injEq] at hh
      exact ⟨x, ns, os, xs, ms, ps, rfl, rfl, hh.symm⟩

/-- The blocks of the objects that a result owns. -/
def ownOf (A : Nat → Option Place) (OS : List Nat) (i : Nat) : Option Nat :=
  if i ∈ OS then match A i with
    | some p => if p.st = .live then p.blk else none
    | none => none
  else none

theorem ownOf_inv {OS : List Nat} {i b : Nat} (h : ownOf A OS i = some b) : i ∈ OS ∧ ∃ p, A i = some p ∧ p.st = .live ∧ p.blk = some b := by
  unfold ownOf at h
  split at h
  · cases hA : A i with
    | none => rw [hA] at h; cases h
    | some p =>
      rw [hA] at h
      simp only at h
      split at h
      · exact ⟨‹_›, p, rfl, ‹_›, h⟩
      · cases h
  · cases h

theorem ownOf_of {OS : List Nat} {i b : Nat} {p : Place} (h : i ∈ OS) (hp : A i = some p) (hl : p.st = .live) (hb : p.blk = some b) : ownOf A OS i = some b := by
  unfold ownOf
  rw [if_pos h, hp]
  simp only [hl, if_true, hb]

theorem raise_ok {h : Heap} {w w' : World} (hm : Mem I0 w.heap.size A h w') {NS OS : List Nat} (hdis : ∀ n ∈ NS, n ∉ OS) :
    ∀ (f : Nat) (d : DV) (v : Value) d' ns os, raiseD h f d = some (d', ns, os) → (∀ n ∈ ns, n ∈ NS) → (∀ n ∈ os, n ∈ OS) → VRel (ctxOf I0 w.heap.size A w') w' d v → VRel (resCtx I0 (ownOf A OS) w w') w' d' v := by
  have hok : ∀ b, (ctxOf I0 w.heap.size A w').ok b → (resCtx I0 (ownOf A OS) w w').ok b := by
    rintro b ⟨h1, h2, h3⟩
    refine ⟨h1, h2, fun i hi => ?_⟩
    obtain ⟨_, p, hp, hl, hb⟩ := ownOf_inv hi
    exact h3 i p hp hl hb
  have hbare : ∀ l rows, RRel (ctxOf I0 w.heap.size A w').bare w' l rows → RRel (resCtx I0 (ownOf A OS) w w').bare w' l rows := fun l rows =>
    RRel.later (c := (ctxOf I0 w.heap.size A w').bare) (c' := (resCtx I0 (ownOf A OS) w w').bare) (w := w') (w' := w') ⟨hok, rfl, rfl, fun _ _ h => (by cases h), fun _ _ h => (by cases h), fun _ _ _ => rfl, fun _ _ h => (by cases h)⟩ l rows
  have hleaf : ∀ d v, refsOk 1 [] d = true → VRel (ctxOf I0 w.heap.size A w') w' d v → VRel (resCtx I0 (ownOf A OS) w w') w' d v := by
    intro d v hd hv
    have hl : Later ((ctxOf I0 w.heap.size A w').only []) w' (resCtx I0 (ownOf A OS) w w') w' :=
      ⟨hok, rfl, rfl, fun _ _ h => (by cases h), fun n p hp => (by simp [Ctx.only] at hp), fun _ _ _ => rfl, fun _ _ h => (by cases h)⟩
    exact VRel.later hl d v (only_ok [] 1 d v hd hv)
  have frozenBlk : ∀ n p, A n = some p → p.st ≠ .dead → (p.st ≠ .live ∨ n ∉ OS) → ∀ b, p.blk = some b → (resCtx I0 (ownOf A OS) w w').blk .fresh b := by
    intro n p hp hd hc b hb
    obtain ⟨h1, h2⟩ := hm.blkB n p b hp hd hb
    refine ⟨⟨h2, .inr h1, fun i hi => ?_⟩, rfl, h1⟩
    obtain ⟨hio, q, hq, hl, hqb⟩ := ownOf_inv hi
    have e := hm.inj n i p q b hp hq hd (by rw [hl]; simp) hb hqb
    subst e
    rw [hp] at hq; cases hq
    rcases hc with hc | hc
    · exact hc hl
    · exact hc hio
  intro f
  induction f with
  | zero => intro d v d' ns os h; simp [raiseD] at h
  | succ f ih =>
    have all : ∀ (l : List DV) (vs : List Value) l' ns os, raiseL h f l = some (l', ns, os) → (∀ n ∈ ns, n ∈ NS) → (∀ n ∈ os, n ∈ OS) → LRel (ctxOf I0 w.heap.size A w') w' l vs → LRel (resCtx I0 (ownOf A OS) w w') w' l' vs := by
      intro l
      induction l with
      | nil =>
        intro vs l' ns os hr _ _ hv
        simp only [raiseL, List.foldr_nil, Option.some.injEq, Prod.mk.injEq] at hr
        obtain ⟨rfl, _, _⟩ := hr
        rw [LRel.nil_iff] at hv ⊢; exact hv
      | cons d l ihl =>
        intro vs l' ns os hr h1 h2 hv
        obtain ⟨x, n1, o1, xs, ms, ps, e1, e2, e⟩ := raiseL_cons_some hr
        cases e
        rw [LRel.cons_iff] at hv ⊢
        obtain ⟨u, us, e, hu, hus⟩ := hv
        exact ⟨u, us, e, ih d u x n1 o1 e1 (fun n hn => h1 n (List.mem_append.2 (.inl hn))) (fun n hn => h2 n (List.mem_append.2 (.inl hn))) hu,
          ihl us xs ms ps e2 (fun n hn => h1 n (List.mem_append.2 (.inr hn))) (fun n hn => h2 n (List.mem_append.2 (.inr hn))) hus⟩
    intro d v d' ns os hr hns hos hv
    cases d with
    | agg l =>
      have hr : (raiseL h f l).bind (fun (l, ns, os) => some (DV.agg l, ns, os)) = some (d', ns, os) := hr
      cases hl : raiseL h f l with
      | none => rw [hl] at hr; cases hr
      | some r =>
        obtain ⟨l', ns', os'⟩ := r
        rw [hl] at hr
        simp only [Option.bind_some, Option.some.injEq, Prod.mk.injEq] at hr
        obtain ⟨rfl, rfl, rfl⟩ := hr
        simp only [VRel] at hv ⊢
        obtain ⟨vs, e, h1⟩ := hv
        exact ⟨vs, e, all l _ l' _ _ hl hns hos h1⟩
    | tup l =>
      have hr : (raiseL h f l).bind (fun (l, ns, os) => some (DV.tup l, ns, os)) = some (d', ns, os) := hr
      cases hl : raiseL h f l with
      | none => rw [hl] at hr; cases hr
      | some r =>
        obtain ⟨l', ns', os'⟩ := r
        rw [hl] at hr
        simp only [Option.bind_some, Option.some.injEq, Prod.mk.injEq] at hr
        obtain ⟨rfl, rfl, rfl⟩ := hr
        simp only [VRel] at hv ⊢
        obtain ⟨vs, e, h1⟩ := hv
        exact ⟨vs, e, all l _ l' _ _ hl hns hos h1⟩
    | oref n =>
      simp only [VRel] at hv
      obtain ⟨hone, p, hp, hd⟩ := hv
      simp only [raiseD] at hr
      split at hr
      · rename_i e k l hl
        simp only [Option.some.injEq, Prod.mk.injEq] at hr
        obtain ⟨rfl, rfl, rfl⟩ := hr
        obtain ⟨hst, sv, hk, ho⟩ := own_ints hm hp hl
        obtain ⟨size, hk'⟩ := hd.resolve_left (notDead hst)
        rw [hk] at hk'; cases hk'
        simp only [VRel]
        exact ⟨ho, fun b hb => ownOf_of (hos n (by simp)) hp hst (by unfold Place.blk; rw [hk]; exact hb)⟩
      · rename_i e sz l hl
        simp only [Option.some.injEq, Prod.mk.injEq] at hr
        obtain ⟨rfl, rfl, rfl⟩ := hr
        obtain ⟨hst, hsz, sv, rows, hk, hrr, hlen, ho⟩ := own_recs hm hp hl
        obtain ⟨size, hk'⟩ := hd.resolve_left (notDead hst)
        rw [hk] at hk'; cases hk'
        simp only [VRel]
        exact ⟨rows, hbare _ _ hrr, hlen, ho, fun b hb => ownOf_of (hos n (by simp)) hp hst (by unfold Place.blk; rw [hk]; exact hb)⟩
      · rename_i e k l hl
        simp only [Option.some.injEq, Prod.mk.injEq] at hr
        obtain ⟨rfl, rfl, rfl⟩ := hr
        obtain ⟨hst, sv, hk, ho⟩ := own_ints hm hp hl
        obtain ⟨size, hk'⟩ := hd.resolve_left (notDead hst)
        rw [hk] at hk'; cases hk'
        have hst' : p.st = .frozen := hst
        have := read_ints hk ho (subOf_whole ho) (ok := (resCtx I0 (ownOf A OS) w w').blk .fresh) (frozenBlk n p hp (notDead hst) (.inl (by rw [hst']; simp)))
        simp only [List.drop_zero, List.take_length] at this
        simp only [VRel]
        exact this
      · rename_i e sz l hl
        simp only [Option.some.injEq, Prod.mk.injEq] at hr
        obtain ⟨rfl, rfl, rfl⟩ := hr
        obtain ⟨hst, hsz, sv, rows, hk, hrr, hlen, ho⟩ := own_recs hm hp hl
        obtain ⟨size, hk'⟩ := hd.resolve_left (notDead hst)
        rw [hk] at hk'; cases hk'
        have hst' : p.st = .frozen := hst
        have := read_recs hk (hbare _ _ hrr) hlen ho (subOf_whole ho) (ok := (resCtx I0 (ownOf A OS) w w').blk .fresh) (frozenBlk n p hp (notDead hst) (.inl (by rw [hst']; simp)))
        simp only [List.drop_zero, List.take_length] at this
        simp only [VRel]
        exact this
      · cases hr
    | sref n off len =>
      simp only [VRel] at hv
      obtain ⟨hone, p, hp, hd⟩ := hv
      simp only [raiseD] at hr
      split at hr
      · rename_i fz e k l hl
        simp only [Option.some.injEq, Prod.mk.injEq] at hr
        obtain ⟨rfl, rfl, rfl⟩ := hr
        obtain ⟨hst, sv, hk, ho⟩ := own_ints hm hp hl
        obtain ⟨sv', size, hk', hs⟩ := hd.resolve_left (notDead hst)
        rw [hk] at hk'; cases hk'
        have := read_ints hk ho hs (ok := (resCtx I0 (ownOf A OS) w w').blk .fresh) (frozenBlk n p hp (notDead hst) (.inr (hdis n (hns n (by simp)))))
        simp only [VRel]
        exact this
      · rename_i fz e sz l hl
        simp only [Option.some.injEq, Prod.mk.injEq] at hr
        obtain ⟨rfl, rfl, rfl⟩ := hr
        obtain ⟨hst, hsz, sv, rows, hk, hrr, hlen, ho⟩ := own_recs hm hp hl
        obtain ⟨sv', size, hk', hs⟩ := hd.resolve_left (notDead hst)
        rw [hk] at hk'; cases hk'
        have := read_recs hk (hbare _ _ hrr) hlen ho hs (ok := (resCtx I0 (ownOf A OS) w w').blk .fresh) (frozenBlk n p hp (notDead hst) (.inr (hdis n (hns n (by simp)))))
        simp only [VRel]
        exact this
      · cases hr
    | ptr n i j => simp [raiseD] at hr
    | fn g a b => simp [raiseD] at hr
    | gd g d => simp [raiseD] at hr
    | undef => simp [raiseD] at hr
    | cellp cs => simp [raiseD] at hr
    | nil => simp only [raiseD, Option.some.injEq, Prod.mk.injEq] at hr; obtain ⟨rfl, _, _⟩ := hr; exact hleaf _ _ rfl hv
    | bool b => simp only [raiseD, Option.some.injEq, Prod.mk.injEq] at hr; obtain ⟨rfl, _, _⟩ := hr; exact hleaf _ _ rfl hv
    | int k n => simp only [raiseD, Option.some.injEq, Prod.mk.injEq] at hr; obtain ⟨rfl, _, _⟩ := hr; exact hleaf _ _ rfl hv
    | fl n => simp only [raiseD, Option.some.injEq, Prod.mk.injEq] at hr; obtain ⟨rfl, _, _⟩ := hr; exact hleaf _ _ rfl hv
    | nb n => simp only [raiseD, Option.some.injEq, Prod.mk.injEq] at hr; obtain ⟨rfl, _, _⟩ := hr; exact hleaf _ _ rfl hv
    | ints g k l => simp only [raiseD, Option.some.injEq, Prod.mk.injEq] at hr; obtain ⟨rfl, _, _⟩ := hr; exact hleaf _ _ rfl hv
    | recs g k l => simp only [raiseD, Option.some.injEq, Prod.mk.injEq] at hr; obtain ⟨rfl, _, _⟩ := hr; exact hleaf _ _ rfl hv

end
end Go.Den

/- The evaluator's word on a function holds. -/
namespace Go.Den
open Go.RowKit (Below)

theorem resD_ok {S : Nat → Prop} {P : Program} {E : Env} (hty : ∀ t ti, E.ty t = some ti → TyFact P t ti) {I : Nat → Prop} {fn : Func} {st : St} {out : DV} (h : resD E fn st = some out) {w w' : World} {a : Act} (hh : Holds S I w.heap.size w st a w') :
    ∃ v own, (results fn a.tmps).run P w' = .ok v w' ∧ Below w.heap.size w w' ∧ OwnOk own w w' ∧ VRel (resCtx I own w w') w' out v := by
  obtain ⟨A, hA⟩ := hh
  unfold resD at h
  cases hds : resAll E st fn.results.toList with
  | none => simp [hds] at h
  | some ds =>
    rw [hds, Option.bind_some] at h
    obtain ⟨vs, hv, hr⟩ := resAll_ok hty hA _ ds hds
    have hm : Mem I w.heap.size A st.heap w' := hA.mem fun n p fo _ hl => hl
    have hone : VRel (ctxOf I w.heap.size A w') w' (oneD ds) (oneV vs) := by
      match ds, vs, hv with
      | [], vs, hv =>
        rw [LRel.nil_iff] at hv; subst hv
        simp only [VRel, oneD, oneV]
        exact ⟨#[], rfl, by simp [LRel]⟩
      | [d], vs, hv =>
        rw [LRel.cons_iff] at hv
        obtain ⟨u, us, rfl, h1, h2⟩ := hv
        rw [LRel.nil_iff] at h2; subst h2
        exact h1
      | d :: d' :: ds, vs, hv =>
        have hv' := hv
        rw [LRel.cons_iff] at hv
        obtain ⟨u, us, rfl, h1, h2⟩ := hv
        rw [LRel.cons_iff] at h2
        obtain ⟨u', us', rfl, h3, h4⟩ := h2
        simp only [VRel, oneD, oneV]
        exact ⟨_, rfl, by simpa using hv'⟩
    cases hrs : raiseD st.heap 6 (oneD ds) with
    | none => rw [hrs] at h; cases h
    | some r =>
      obtain ⟨d, ns, os⟩ := r
      rw [hrs, Option.bind_some] at h
      simp only at h
      cases hc : (ns.all fun n => !(os.contains n)) with
      | false => rw [hc] at h; cases h
      | true =>
        rw [hc, cond_true, Option.some.injEq] at h
        subst h
        have hdis : ∀ n ∈ ns, n ∉ os := fun n hn hno => by
          have := List.all_eq_true.1 hc n hn
          simp [hno] at this
        refine ⟨_, ownOf A os, run_results hr, hA.below, ⟨fun i b hb => ?_, fun i j b hi hj => ?_⟩, raise_ok hm hdis 6 _ _ _ ns os hrs (fun _ h => h) (fun _ h => h) hone⟩
        · obtain ⟨_, p, hp, hl, hpb⟩ := ownOf_inv hb
          exact hm.blkB i p b hp (by rw [hl]; simp) hpb
        · obtain ⟨_, p, hp, hl, hpb⟩ := ownOf_inv hi
          obtain ⟨_, q, hq, hl', hqb⟩ := ownOf_inv hj
          exact hm.inj i j p q b hp hq (by rw [hl]; simp) (by rw [hl']; simp) hpb hqb

/-- **What the evaluator says of a function is so.** -/
theorem fun_ok {P : Program} {E : Env} (he : EnvOk P E) {fuel : Nat} {f : FuncId} {fn : Func} {body : Code} (hf : P.funcs[f]? = some fn) (hb : fn.body = some body) {args : List DV} {out : DV} (h : funD E fuel fn body args = some out) : CallsV P f args out := by
  intro w vals I hI hv
  refine calls_of_wp hf hb ?_
  unfold funD at h
  have hlen : args.length = vals.size := by have := hv.length; simpa using this
  have hh : Holds (fun _ => False) I w.heap.size w ⟨args ++ List.replicate (fn.ntmps - args.length) .undef, []⟩ ⟨vals ++ Array.replicate (fn.ntmps - vals.size) undef, []⟩ w := by
    refine ⟨fun _ => none, rfl, by simp only [Array.size_append, Array.size_replicate, List.length_append, List.length_replicate]; omega, Below.refl _ _, Nat.le_refl _, hI, fun n p h => (by cases h), fun n p b h => (by cases h), fun n m p q b h => (by cases h), fun t => ?_, fun b h => h.elim⟩
    have hw : Wider (argCtx I) (ctxOf I w.heap.size (fun _ => none) w) := ⟨fun b hb => ⟨hI b hb, .inl hb, fun n p h => (by cases h)⟩, rfl, fun _ => rfl, fun _ => rfl⟩
    have hl := LRel.wider hw _ _ hv
    rcases Nat.lt_or_ge t args.length with hlt | hge
    · obtain ⟨v, h1, h2⟩ := hl.getD t hlt
      simp only [List.getD_eq_getElem?_getD, List.getElem?_append_left hlt] at h2 ⊢
      have hlt' : t < vals.size := by omega
      have e : (vals ++ Array.replicate (fn.ntmps - vals.size) undef).getD t undef = v := by
        rw [Array.getD_eq_getD_getElem?, Array.getElem?_append_left hlt']
        rw [Array.getElem?_toList] at h1
        rw [h1]; rfl
      rw [e]; exact h2
    · rw [List.getD_eq_getElem?_getD, List.getElem?_append_right hge, List.getElem?_replicate]
      split <;> simp only [Option.getD_some, Option.getD_none, VRel]
  refine den_ok he fuel out body 0 _ _ _ _ h _ _ hh _ (fun st a w' hk hh' => ?_) (fun id st a w' hk => by cases hk) (fun st a w' hk hh' => ?_)
  · obtain ⟨v, own, h1, h2, h3, h4⟩ := resD_ok he.ty hk hh'
    have hd : a.defers = [] := by obtain ⟨A, hA⟩ := hh'; exact hA.defers
    exact ⟨hd, v, h1, v, own, rfl, h2, h3, h4⟩
  · obtain ⟨v, own, h1, h2, h3, h4⟩ := resD_ok he.ty hk hh'
    have hd : a.defers = [] := by obtain ⟨A, hA⟩ := hh'; exact hA.defers
    exact ⟨hd, v, h1, v, own, rfl, h2, h3, h4⟩

theorem meets_of {P : Program} {E : Env} (he : EnvOk P E) {fuel : List DV → Nat} {f : FuncId} {fn : Func} {body : Code} (hf : P.funcs[f]? = some fn) (hb : fn.body = some body) {e : Entry}
    (h : ∀ args, e.pre args = true → funD E (fuel args) fn body args = some (e.out args)) : Meets P f e := fun args ha => fun_ok he hf hb (h args ha)

/-- A function that calls itself: with a measure. -/
theorem meets_rec {P : Program} {f : FuncId} {e : Entry} (μ : List DV → Nat) (h : ∀ n, Meets P f ⟨fun args => e.pre args && decide (μ args < n), e.out⟩ → Meets P f ⟨fun args => e.pre args && decide (μ args < n + 1), e.out⟩) : Meets P f e := by
  have key : ∀ n, Meets P f ⟨fun args => e.pre args && decide (μ args < n), e.out⟩ := by
    intro n
    induction n with
    | zero => intro args ha; simp at ha
    | succ n ih => exact h n ih
  intro args ha
  exact key (μ args + 1) args (by simp [ha])

end Go.Den

/- Functions of numbers, bools and slices of numbers: what is asked of them, in plain data. -/
namespace Go.Den
open Go.RowKit (Below)

/-- The kinds of data that stand in one cell, and structs of them, function values with what they captured, pointers to cells. -/
inductive AT where
  | b
  | i (k : IntKind)
  | s (k : IntKind)
  | fl
  | nb
  | st (l : List AT)
  | fn (g : FuncId) (l : List AT)
  | fm (g : FuncId) (l : List AT)
  | cp (l : List AT)

inductive Atom where
  | b (x : Bool)
  | i (x : Int)
  | l (x : List Int)
  | f (x : Nat)

def dec1 : AT → DV → Option Atom
  | .b, .bool x => some (.b x)
  | .i k, .int k' x => bif decide (k = k') then some (.i x) else none
  | .s _, .nil => some (.l [])
  | .s k, .ints .arg k' l => bif decide (k = k') then some (.l l) else none
  | .fl, .fl n => some (.f n)
  | .nb, .nb n => some (.f n)
  | _, _ => none

def decC : List AT → List DV → Option (List Atom)
  | [], [] => some []
  | t :: ts, d :: ds => match dec1 t d with
    | some a => match decC ts ds with
      | some as => some (a :: as)
      | none => none
    | none => none
  | _, _ => none

def decM : List AT → List DV → Option (List Atom)
  | [], [] => some []
  | .cp l :: ts, .cellp cs :: ds => match decC l cs with
    | some as => match decM ts ds with
      | some bs => some (as ++ bs)
      | none => none
    | none => none
  | .st l :: ts, .agg cs :: ds => match decC l cs with
    | some as => match decM ts ds with
      | some bs => some (as ++ bs)
      | none => none
    | none => none
  | t :: ts, d :: ds => match dec1 t d with
    | some a => match decM ts ds with
      | some bs => some (a :: bs)
      | none => none
    | none => none
  | _, _ => none

def decL : List AT → List DV → Option (List Atom)
  | [], [] => some []
  | .fm g l :: ts, .fn g' fs [] :: ds => bif Nat.beq g g' then
      match decM l fs with
      | some as => match decL ts ds with
        | some bs => some (as ++ bs)
        | none => none
      | none => none
    else none
  | .fn g l :: ts, .fn g' [] cs :: ds => bif Nat.beq g g' then
      match decM l cs with
      | some as => match decL ts ds with
        | some bs => some (as ++ bs)
        | none => none
      | none => none
    else none
  | .cp l :: ts, .cellp cs :: ds => match decM l cs with
    | some as => match decL ts ds with
      | some bs => some (as ++ bs)
      | none => none
    | none => none
  | .st l :: ts, .agg cs :: ds => match decM l cs with
    | some as => match decL ts ds with
      | some bs => some (as ++ bs)
      | none => none
    | none => none
  | t :: ts, d :: ds => match dec1 t d with
    | some a => match decL ts ds with
      | some bs => some (a :: bs)
      | none => none
    | none => none
  | _, _ => none

def enc1 : AT → Atom → DV
  | .i k, .i x => .int k x
  | .s k, .l x => .ints .arg k x
  | .nb, .f x => .nb x
  | _, .b x => .bool x
  | _, .f x => .fl x
  | _, _ => .undef

/-- Data of these kinds: what each atom says. -/
inductive Encs : List AT → List Atom → List DV → Prop
  | nil : Encs [] [] []
  | b {ts as ds} (x : Bool) : Encs ts as ds → Encs (.b :: ts) (.b x :: as) (.bool x :: ds)
  | i {ts as ds} (k : IntKind) (x : Int) : Encs ts as ds → Encs (.i k :: ts) (.i x :: as) (.int k x :: ds)
  | s {ts as ds} (k : IntKind) (x : List Int) : Encs ts as ds → Encs (.s k :: ts) (.l x :: as) (.ints .arg k x :: ds)
  | fl {ts as ds} (x : Nat) : Encs ts as ds → Encs (.fl :: ts) (.f x :: as) (.fl x :: ds)
  | nb {ts as ds} (x : Nat) : Encs ts as ds → Encs (.nb :: ts) (.f x :: as) (.nb x :: ds)
  | st {l ts as cs bs ds} : Encs l as cs → Encs ts bs ds → Encs (.st l :: ts) (as ++ bs) (.agg cs :: ds)
  | fn {g l ts as cs bs ds} : Encs l as cs → Encs ts bs ds → Encs (.fn g l :: ts) (as ++ bs) (.fn g [] cs :: ds)
  | fm {g l ts as cs bs ds} : Encs l as cs → Encs ts bs ds → Encs (.fm g l :: ts) (as ++ bs) (.fn g cs [] :: ds)
  | cp {l ts as cs bs ds} : Encs l as cs → Encs ts bs ds → Encs (.cp l :: ts) (as ++ bs) (.cellp cs :: ds)

theorem nil_ints {c : Ctx} {w : World} {k : IntKind} {v : Value} (h : VRel c w .nil v) : VRel c w (.ints .arg k []) v := by
  simp only [VRel] at h ⊢
  subst h
  exact ⟨none, 0, rfl, Nat.le_refl _, .inl trivial⟩

theorem dec1_ok {t : AT} {d : DV} {a : Atom} (h : dec1 t d = some a) : ∃ d', (∀ ts as ds, Encs ts as ds → Encs (t :: ts) (a :: as) (d' :: ds)) ∧ ∀ c w v, VRel c w d v → VRel c w d' v := by
  unfold dec1 at h
  split at h
  · simp only [Option.some.injEq] at h; subst h
    exact ⟨_, fun _ _ _ he => .b _ he, fun _ _ _ h => h⟩
  · rename_i k k' x
    by_cases e : k = k'
    · subst e
      simp only [decide_true, cond_true, Option.some.injEq] at h; subst h
      exact ⟨_, fun _ _ _ he => .i _ _ he, fun _ _ _ h => h⟩
    · simp [e] at h
  · rename_i k
    simp only [Option.some.injEq] at h; subst h
    exact ⟨_, fun _ _ _ he => .s k _ he, fun _ _ _ h => nil_ints h⟩
  · rename_i k k' x
    by_cases e : k = k'
    · subst e
      simp only [decide_true, cond_true, Option.some.injEq] at h; subst h
      exact ⟨_, fun _ _ _ he => .s _ _ he, fun _ _ _ h => h⟩
    · simp [e] at h
  · simp only [Option.some.injEq] at h; subst h
    exact ⟨_, fun _ _ _ he => .fl _ he, fun _ _ _ h => h⟩
  · simp only [Option.some.injEq] at h; subst h
    exact ⟨_, fun _ _ _ he => .nb _ he, fun _ _ _ h => h⟩
  · cases h

theorem decC_ok : ∀ {ts : List AT} {ds : List DV} {as : List Atom}, decC ts ds = some as → ∃ ds', Encs ts as ds' ∧ ∀ c w vs, LRel c w ds vs → LRel c w ds' vs
  | [], [], as, h => by
    simp only [decC, Option.some.injEq] at h; subst h
    exact ⟨[], .nil, fun _ _ _ h => h⟩
  | t :: ts, d :: ds, as, h => by
    simp only [decC] at h
    cases h1 : dec1 t d with
    | none => rw [h1] at h; cases h
    | some a =>
      cases h2 : decC ts ds with
      | none => rw [h1, h2] at h; cases h
      | some bs =>
        rw [h1, h2] at h
        simp only [Option.some.injEq] at h; subst h
        obtain ⟨d', i1, i2⟩ := dec1_ok h1
        obtain ⟨ds', j1, j2⟩ := decC_ok h2
        refine ⟨d' :: ds', i1 _ _ _ j1, fun c w vs hv => ?_⟩
        rw [LRel.cons_iff] at hv ⊢
        obtain ⟨u, us, e, hu, hus⟩ := hv
        exact ⟨u, us, e, i2 _ _ _ hu, j2 _ _ _ hus⟩
  | [], _ :: _, as, h => by simp [decC] at h
  | _ :: _, [], as, h => by simp [decC] at h

theorem decM_ok : ∀ {ts : List AT} {ds : List DV} {as : List Atom}, decM ts ds = some as → ∃ ds', Encs ts as ds' ∧ ∀ c w vs, LRel c w ds vs → LRel c w ds' vs
  | ts, ds, as, h => by
    unfold decM at h
    split at h
    · simp only [Option.some.injEq] at h; subst h
      exact ⟨[], .nil, fun _ _ _ h => h⟩
    · rename_i l ts cs ds
      cases h1 : decC l cs with
      | none => rw [h1] at h; cases h
      | some a =>
        cases h2 : decM ts ds with
        | none => rw [h1, h2] at h; cases h
        | some bs =>
          rw [h1, h2] at h
          simp only [Option.some.injEq] at h; subst h
          obtain ⟨cs', i1, i2⟩ := decC_ok h1
          obtain ⟨ds', j1, j2⟩ := decM_ok h2
          refine ⟨.cellp cs' :: ds', .cp i1 j1, fun c w vs hv => ?_⟩
          rw [LRel.cons_iff] at hv ⊢
          obtain ⟨u, us, e, hu, hus⟩ := hv
          refine ⟨u, us, e, ?_, j2 _ _ _ hus⟩
          simp only [VRel] at hu ⊢
          obtain ⟨b, o, vs, e, hb, hh, hc⟩ := hu
          exact ⟨b, o, vs, e, hb, i2 _ _ _ hh, hc⟩
    · rename_i l ts cs ds
      cases h1 : decC l cs with
      | none => rw [h1] at h; cases h
      | some a =>
        cases h2 : decM ts ds with
        | none => rw [h1, h2] at h; cases h
        | some bs =>
          rw [h1, h2] at h
          simp only [Option.some.injEq] at h; subst h
          obtain ⟨cs', i1, i2⟩ := decC_ok h1
          obtain ⟨ds', j1, j2⟩ := decM_ok h2
          refine ⟨.agg cs' :: ds', .st i1 j1, fun c w vs hv => ?_⟩
          rw [LRel.cons_iff] at hv ⊢
          obtain ⟨u, us, e, hu, hus⟩ := hv
          refine ⟨u, us, e, ?_, j2 _ _ _ hus⟩
          simp only [VRel] at hu ⊢
          obtain ⟨vs, e, hh⟩ := hu
          exact ⟨vs, e, i2 _ _ _ hh⟩
    · rename_i t ts d ds _ _
      cases h1 : dec1 t d with
      | none => rw [h1] at h; cases h
      | some a =>
        cases h2 : decM ts ds with
        | none => rw [h1, h2] at h; cases h
        | some bs =>
          rw [h1, h2] at h
          simp only [Option.some.injEq] at h; subst h
          obtain ⟨d', i1, i2⟩ := dec1_ok h1
          obtain ⟨ds', j1, j2⟩ := decM_ok h2
          refine ⟨d' :: ds', i1 _ _ _ j1, fun c w vs hv => ?_⟩
          rw [LRel.cons_iff] at hv ⊢
          obtain ⟨u, us, e, hu, hus⟩ := hv
          exact ⟨u, us, e, i2 _ _ _ hu, j2 _ _ _ hus⟩
    · cases h

theorem decL_ok : ∀ {ts : List AT} {ds : List DV} {as : List Atom}, decL ts ds = some as → ∃ ds', Encs ts as ds' ∧ ∀ c w vs, LRel c w ds vs → LRel c w ds' vs
  | ts, ds, as, h => by
    unfold decL at h
    split at h
    · simp only [Option.some.injEq] at h; subst h
      exact ⟨[], .nil, fun _ _ _ h => h⟩
    · rename_i g l ts g' cs ds
      cases hg : Nat.beq g g' with
      | false => rw [hg] at h; cases h
      | true =>
      rw [hg, cond_true] at h
      obtain rfl := Nat.eq_of_beq_eq_true hg
      cases h1 : decM l cs with
      | none => rw [h1] at h; cases h
      | some a =>
        cases h2 : decL ts ds with
        | none => rw [h1, h2] at h; cases h
        | some bs =>
          rw [h1, h2] at h
          simp only [Option.some.injEq] at h; subst h
          obtain ⟨cs', i1, i2⟩ := decM_ok h1
          obtain ⟨ds', j1, j2⟩ := decL_ok h2
          refine ⟨.fn g cs' [] :: ds', .fm i1 j1, fun c w vs hv => ?_⟩
          rw [LRel.cons_iff] at hv ⊢
          obtain ⟨u, us, e, hu, hus⟩ := hv
          refine ⟨u, us, e, ?_, j2 _ _ _ hus⟩
          simp only [VRel] at hu ⊢
          obtain ⟨fs', vs, e, hf, hh⟩ := hu
          exact ⟨fs', vs, e, i2 _ _ _ hf, hh⟩
    · rename_i g l ts g' cs ds
      cases hg : Nat.beq g g' with
      | false => rw [hg] at h; cases h
      | true =>
      rw [hg, cond_true] at h
      obtain rfl := Nat.eq_of_beq_eq_true hg
      cases h1 : decM l cs with
      | none => rw [h1] at h; cases h
      | some a =>
        cases h2 : decL ts ds with
        | none => rw [h1, h2] at h; cases h
        | some bs =>
          rw [h1, h2] at h
          simp only [Option.some.injEq] at h; subst h
          obtain ⟨cs', i1, i2⟩ := decM_ok h1
          obtain ⟨ds', j1, j2⟩ := decL_ok h2
          refine ⟨.fn g [] cs' :: ds', .fn i1 j1, fun c w vs hv => ?_⟩
          rw [LRel.cons_iff] at hv ⊢
          obtain ⟨u, us, e, hu, hus⟩ := hv
          refine ⟨u, us, e, ?_, j2 _ _ _ hus⟩
          simp only [VRel] at hu ⊢
          obtain ⟨fs', vs, e, hf, hh⟩ := hu
          exact ⟨fs', vs, e, hf, i2 _ _ _ hh⟩
    · rename_i l ts cs ds
      cases h1 : decM l cs with
      | none => rw [h1] at h; cases h
      | some a =>
        cases h2 : decL ts ds with
        | none => rw [h1, h2] at h; cases h
        | some bs =>
          rw [h1, h2] at h
          simp only [Option.some.injEq] at h; subst h
          obtain ⟨cs', i1, i2⟩ := decM_ok h1
          obtain ⟨ds', j1, j2⟩ := decL_ok h2
          refine ⟨.cellp cs' :: ds', .cp i1 j1, fun c w vs hv => ?_⟩
          rw [LRel.cons_iff] at hv ⊢
          obtain ⟨u, us, e, hu, hus⟩ := hv
          refine ⟨u, us, e, ?_, j2 _ _ _ hus⟩
          simp only [VRel] at hu ⊢
          obtain ⟨b, o, vs, e, hb, hh, hc⟩ := hu
          exact ⟨b, o, vs, e, hb, i2 _ _ _ hh, hc⟩
    · rename_i l ts cs ds
      cases h1 : decM l cs with
      | none => rw [h1] at h; cases h
      | some a =>
        cases h2 : decL ts ds with
        | none => rw [h1, h2] at h; cases h
        | some bs =>
          rw [h1, h2] at h
          simp only [Option.some.injEq] at h; subst h
          obtain ⟨cs', i1, i2⟩ := decM_ok h1
          obtain ⟨ds', j1, j2⟩ := decL_ok h2
          refine ⟨.agg cs' :: ds', .st i1 j1, fun c w vs hv => ?_⟩
          rw [LRel.cons_iff] at hv ⊢
          obtain ⟨u, us, e, hu, hus⟩ := hv
          refine ⟨u, us, e, ?_, j2 _ _ _ hus⟩
          simp only [VRel] at hu ⊢
          obtain ⟨vs, e, hh⟩ := hu
          exact ⟨vs, e, i2 _ _ _ hh⟩
    · rename_i t ts d ds _ _ _ _
      cases h1 : dec1 t d with
      | none => rw [h1] at h; cases h
      | some a =>
        cases h2 : decL ts ds with
        | none => rw [h1, h2] at h; cases h
        | some bs =>
          rw [h1, h2] at h
          simp only [Option.some.injEq] at h; subst h
          obtain ⟨d', i1, i2⟩ := dec1_ok h1
          obtain ⟨ds', j1, j2⟩ := decL_ok h2
          refine ⟨d' :: ds', i1 _ _ _ j1, fun c w vs hv => ?_⟩
          rw [LRel.cons_iff] at hv ⊢
          obtain ⟨u, us, e, hu, hus⟩ := hv
          exact ⟨u, us, e, i2 _ _ _ hu, j2 _ _ _ hus⟩
    · cases h

/-- What is asked of a function, and what it answers, in plain data. -/
def entry (ts : List AT) (pre : List Atom → Bool) (out : List Atom → DV) : Entry where
  pre := fun args => match decL ts args with
    | some as => pre as
    | none => false
  out := fun args => match decL ts args with
    | some as => out as
    | none => .undef

/-! ### A result that says less -/

inductive Wk (drops : List Nat) : DV → DV → Prop
  | refl {d : DV} (h : refsOk 1 [] d = true) (ho : ∀ i e k l, d ≠ .ints (.own i e) k l) (hr : ∀ i e k l, d ≠ .recs (.own i e) k l) : Wk drops d d
  | nil (g : Flag) (k : IntKind) : Wk drops .nil (.ints g k [])
  | fresh (k : IntKind) (l : List Int) : Wk drops (.ints .fresh k l) (.ints .arg k l)
  | keep (i : Nat) (e : TypeId) (k : IntKind) (l : List Int) (h : i ∉ drops) : Wk drops (.ints (.own i e) k l) (.ints (.own i e) k l)
  | keepR (i : Nat) (e : TypeId) (sz : Nat) (l : List (List DV)) (h : i ∉ drops) : Wk drops (.recs (.own i e) sz l) (.recs (.own i e) sz l)
  | drop (i : Nat) (e : TypeId) (k : IntKind) (l : List Int) (h : i ∈ drops) : Wk drops (.ints (.own i e) k l) (.ints .fresh k l)
  | dropA (i : Nat) (e : TypeId) (k : IntKind) (l : List Int) (h : i ∈ drops) : Wk drops (.ints (.own i e) k l) (.ints .arg k l)
  | agg {l l' : List DV} (h : l.length = l'.length) (hw : ∀ (j : Nat) d d', l[j]? = some d → l'[j]? = some d' → Wk drops d d') : Wk drops (.agg l) (.agg l')
  | tup {l l' : List DV} (h : l.length = l'.length) (hw : ∀ (j : Nat) d d', l[j]? = some d → l'[j]? = some d' → Wk drops d d') : Wk drops (.tup l) (.tup l')

def dropOwn (drops : List Nat) (own : Nat → Option Nat) (i : Nat) : Option Nat := if i ∈ drops then none else own i

theorem dropOwn_inv {drops : List Nat} {own : Nat → Option Nat} {i b : Nat} (h : dropOwn drops own i = some b) : own i = some b ∧ i ∉ drops := by
  unfold dropOwn at h
  split at h
  · cases h
  · exact ⟨h, ‹_›⟩

theorem own_ints_read {w : World} {base : Nat} {e : TypeId} {k : IntKind} {l : List Int} {v : Value} (ho : w.ownsRow base e 1 v l.length (l.map (Value.int k))) {ok : Nat → Prop} (hok : ∀ b, v.ownBlock = some b → ok b) :
    ∃ a cap, v = .slice a l.length cap ∧ l.length ≤ cap ∧ (l = [] ∨ ∃ b o, a = some ⟨b, o, none⟩ ∧ ok b ∧ ∀ (i : Nat) n, l[i]? = some n → w.cell? ⟨b, o + i, none⟩ = some (.int k n)) := by
  have := read_ints (p := ⟨.live, .row v 1⟩) rfl ho (subOf_whole ho) (ok := ok) hok
  simp only [List.drop_zero, List.take_length] at this
  exact this

theorem Wk.rel {drops : List Nat} {d d' : DV} (h : Wk drops d d') {I : Nat → Prop} {own : Nat → Option Nat} {w w' : World} (ho : OwnOk own w w') : ∀ v, VRel (resCtx I own w w') w' d v → VRel (resCtx I (dropOwn drops own) w w') w' d' v := by
  have hok : ∀ b, (resCtx I own w w').ok b → (resCtx I (dropOwn drops own) w w').ok b := by
    rintro b ⟨h1, h2, h3⟩
    exact ⟨h1, h2, fun i hi => h3 i (dropOwn_inv hi).1⟩
  have hblk : ∀ i b, i ∈ drops → own i = some b → (resCtx I (dropOwn drops own) w w').ok b ∧ w.heap.size ≤ b := by
    intro i b hi hb
    obtain ⟨h1, h2⟩ := ho.lt i b hb
    refine ⟨⟨h2, .inr h1, fun j hj => ?_⟩, h1⟩
    obtain ⟨h3, h4⟩ := dropOwn_inv hj
    rw [ho.inj j i b h3 hb] at h4
    exact h4 hi
  induction h with
  | @refl d h h1 h2 =>
    intro v hv
    have hl : Later (({ resCtx I own w w' with own := fun _ => none } : Ctx).only []) w' (resCtx I (dropOwn drops own) w w') w' :=
      ⟨hok, rfl, rfl, fun _ _ h => (by cases h), fun n p hp => (by simp [Ctx.only] at hp), fun _ _ _ => rfl, fun _ _ h => (by cases h)⟩
    refine VRel.later hl d v (only_ok [] 1 d v h ?_)
    cases d with
    | ints g k l =>
      cases g with
      | own i e => exact absurd rfl (h1 i e k l)
      | _ => simp only [VRel] at hv ⊢; exact hv
    | recs g k l =>
      cases g with
      | own i e => exact absurd rfl (h2 i e k l)
      | _ => simp only [VRel] at hv ⊢; exact hv
    | agg l =>
      cases l with
      | nil => simp only [VRel] at hv ⊢; simpa [LRel] using hv
      | cons a l => simp [refsOk] at h
    | tup l =>
      cases l with
      | nil => simp only [VRel] at hv ⊢; simpa [LRel] using hv
      | cons a l => simp [refsOk] at h
    | fn g a c =>
      cases a with
      | cons _ _ => simp [refsOk] at h
      | nil =>
        cases c with
        | cons _ _ => simp [refsOk] at h
        | nil => simp only [VRel] at hv ⊢; simpa [LRel] using hv
    | gd c d => simp [refsOk] at h
    | oref n => simp [refsOk] at h
    | sref n o m => simp [refsOk] at h
    | ptr n i j => simp [refsOk] at h
    | undef => simp only [VRel]
    | _ => simp only [VRel] at hv ⊢; exact hv
  | nil g k =>
    intro v hv
    simp only [VRel] at hv
    subst hv
    cases g with
    | own i e => simp only [VRel]; exact ⟨World.ownsRow_nil w' _ e 1, fun b hb => by cases hb⟩
    | _ => simp only [VRel]; exact ⟨none, 0, rfl, Nat.le_refl _, .inl trivial⟩
  | fresh k l =>
    intro v hv
    simp only [VRel] at hv ⊢
    obtain ⟨a, cap, e, h1, h2⟩ := hv
    exact ⟨a, cap, e, h1, h2.imp id fun ⟨b, o, h3, h4, h5⟩ => ⟨b, o, h3, hok b h4.1, h5⟩⟩
  | keep i e k l h =>
    intro v hv
    simp only [VRel] at hv ⊢
    exact ⟨hv.1, fun b hb => by show dropOwn drops own i = some b; unfold dropOwn; rw [if_neg h]; exact hv.2 b hb⟩
  | keepR i e sz l h =>
    intro v hv
    simp only [VRel] at hv ⊢
    obtain ⟨rows, h1, h2, h3, h4⟩ := hv
    refine ⟨rows, ?_, h2, h3, fun b hb => by show dropOwn drops own i = some b; unfold dropOwn; rw [if_neg h]; exact h4 b hb⟩
    exact RRel.later (c := (resCtx I own w w').bare) (c' := (resCtx I (dropOwn drops own) w w').bare) ⟨hok, rfl, rfl, fun _ _ h => (by cases h), fun _ _ h => (by cases h), fun _ _ _ => rfl, fun _ _ h => (by cases h)⟩ _ _ h1
  | drop i e k l h =>
    intro v hv
    simp only [VRel] at hv ⊢
    exact own_ints_read hv.1 fun b hb => ⟨(hblk i b h (hv.2 b hb)).1, rfl, (hblk i b h (hv.2 b hb)).2⟩
  | dropA i e k l h =>
    intro v hv
    simp only [VRel] at hv ⊢
    exact own_ints_read hv.1 fun b hb => (hblk i b h (hv.2 b hb)).1
  | @agg l l' h hw ih =>
    intro v hv
    simp only [VRel] at hv ⊢
    obtain ⟨vs, e, hl⟩ := hv
    refine ⟨vs, e, LRel.of_get (by rw [← h]; exact hl.length) fun j d v hd hv => ?_⟩
    have hlt : j < l.length := by rw [h]; exact (List.getElem?_eq_some_iff.1 hd).1
    obtain ⟨u, hu, hr⟩ := hl.get j _ (List.getElem?_eq_getElem hlt)
    rw [hv] at hu; cases hu
    exact ih j _ d (List.getElem?_eq_getElem hlt) hd v hr
  | @tup l l' h hw ih =>
    intro v hv
    simp only [VRel] at hv ⊢
    obtain ⟨vs, e, hl⟩ := hv
    refine ⟨vs, e, LRel.of_get (by rw [← h]; exact hl.length) fun j d v hd hv => ?_⟩
    have hlt : j < l.length := by rw [h]; exact (List.getElem?_eq_some_iff.1 hd).1
    obtain ⟨u, hu, hr⟩ := hl.get j _ (List.getElem?_eq_getElem hlt)
    rw [hv] at hu; cases hu
    exact ih j _ d (List.getElem?_eq_getElem hlt) hd v hr

theorem CallsV.weak {P : Program} {f : FuncId} {args : List DV} {out out' : DV} (h : CallsV P f args out) {drops : List Nat} (hw : Wk drops out out') : CallsV P f args out' := by
  intro w vals I hI hv
  refine (h w vals I hI hv).mono ?_
  rintro e w' ⟨v, own, he, hb, ho, hr⟩
  refine ⟨v, dropOwn drops own, he, hb, ⟨fun i b hi => ho.lt i b (dropOwn_inv hi).1, fun i j b hi hj => ho.inj i j b (dropOwn_inv hi).1 (dropOwn_inv hj).1⟩, hw.rel ho v hr⟩

theorem CallsV.args {P : Program} {f : FuncId} {args args' : List DV} {out : DV} (h : CallsV P f args out) (ha : ∀ c w vs, LRel c w args' vs → LRel c w args vs) : CallsV P f args' out :=
  fun w vals I hI hv => h w vals I hI (ha _ _ _ hv)

/-- A function meets what is said of it, if the evaluator says so, up to saying less. -/
theorem meets_entry {P : Program} {E : Env} (he : EnvOk P E) {f : FuncId} {fn : Func} {body : Code} (hf : P.funcs[f]? = some fn) (hb : fn.body = some body) {ts : List AT} {pre : List Atom → Bool} {out : List Atom → DV}
    (h : ∀ as ds, Encs ts as ds → pre as = true → ∃ fuel d drops, funD E fuel fn body ds = some d ∧ Wk drops d (out as)) : Meets P f (entry ts pre out) := by
  intro args ha
  simp only [entry] at ha ⊢
  cases hd : decL ts args with
  | none => rw [hd] at ha; cases ha
  | some as =>
    rw [hd] at ha
    simp only at ha ⊢
    obtain ⟨ds, h1, h2⟩ := decL_ok hd
    obtain ⟨fuel, d, drops, h3, h4⟩ := h as ds h1 ha
    exact ((fun_ok he hf hb h3).weak h4).args h2

end Go.Den

/- A function from one of its points on. -/
namespace Go.Den

structure Pt (β : Type) where
  b : Nat
  c : Code
  Kn : St → Option β
  Kx : Nat → St → Option β
  Kr : St → Option β

/-- The point of a code that a path leads to: 0, 1 for the parts of a sequence and of a condition, 0 into a block, a scope, a loop's body ('ms': how many rounds the loops on the path have left). -/
noncomputable def descend {β : Type} (E : Env) (n : Nat) : List Nat → List Nat → Nat → Code → (St → Option β) → (Nat → St → Option β) → (St → Option β) → Pt β
  | 0 :: p, ms, b, .seq x y, Kn, Kx, Kr => descend E n p ms b x (fun st' => den E n b y st' Kn Kx Kr) Kx Kr
  | _ :: p, ms, b, .seq _ y, Kn, Kx, Kr => descend E n p ms b y Kn Kx Kr
  | 0 :: p, ms, b, .cond _ x _, Kn, Kx, Kr => descend E n p ms b x Kn Kx Kr
  | _ :: p, ms, b, .cond _ _ y, Kn, Kx, Kr => descend E n p ms b y Kn Kx Kr
  | _ :: p, ms, _, .block id c, Kn, Kx, Kr => descend E n p ms id c Kn (fun id' st' => bif id' == id then Kn st' else Kx id' st') Kr
  | _ :: p, ms, b, .scope c, Kn, Kx, Kr => descend E n p ms b c Kn Kx Kr
  | _ :: p, m :: ms, b, .loop c, _, Kx, Kr => descend E n p ms b c (fun st2 => match canon (E.hint b) st2 with | some st3 => iterG (E.hint b) (den E n b c) m st3 Kx Kr | none => none) Kx Kr
  | _, _, b, c, Kn, Kx, Kr => ⟨b, c, Kn, Kx, Kr⟩

/-- A function's rest, from that point on. -/
noncomputable def restAt (E : Env) (n : Nat) (fn : Func) (body : Code) (p ms : List Nat) (st : St) : Option DV :=
  match descend E n p ms 0 body (fun st => resD E fn st) (fun _ _ => none) (fun st => resD E fn st) with
  | ⟨b, c, Kn, Kx, Kr⟩ => den E n b c st Kn Kx Kr

/-- A function's rest, from one of its stops on. -/
noncomputable def cutAt (E : Env) (n : Nat) (fn : Func) (body : Code) (p ms : List Nat) (st : St) : Option DV :=
  match descend E n p ms 0 body (fun st => resD E fn st) (fun _ _ => none) (fun st => resD E fn st) with
  | ⟨b, .seq (.region _ ops draw) y, Kn, Kx, Kr⟩ => stopAt (regD E ops draw (fun st' => den E n b y st' Kn Kx Kr)) st
  | ⟨_, .region _ ops draw, Kn, _, _⟩ => stopAt (regD E ops draw Kn) st
  | _ => none

noncomputable def cutNow (E : Env) (n : Nat) (fn : Func) (body : Code) (p ms : List Nat) (st : St) : Option DV :=
  match descend E n p ms 0 body (fun st => resD E fn st) (fun _ _ => none) (fun st => resD E fn st) with
  | ⟨b, .seq (.region _ ops draw) y, Kn, Kx, Kr⟩ => regD E ops draw (fun st' => den E n b y st' Kn Kx Kr) st
  | ⟨_, .region _ ops draw, Kn, _, _⟩ => regD E ops draw Kn st
  | _ => none

theorem cutAt_eq (E : Env) (n : Nat) (fn : Func) (body : Code) (p ms : List Nat) (st : St) : cutAt E n fn body p ms st = cutNow E n fn body p ms st := by
  unfold cutAt cutNow
  split <;> simp only [stopAt_eq]

/-- A function's rest, from a loop's head on, the loop having m rounds left. -/
noncomputable def loopAt (E : Env) (n : Nat) (fn : Func) (body : Code) (p ms : List Nat) (m : Nat) (st : St) : Option DV :=
  match descend E n p ms 0 body (fun st => resD E fn st) (fun _ _ => none) (fun st => resD E fn st) with
  | ⟨b, .loop c, _, Kx, Kr⟩ => iterG (E.hint b) (den E n b c) m st Kx Kr
  | _ => none

def atL (i : Nat) : List (Nat × DV) → DV
  | [] => .undef
  | (j, d) :: l => bif Nat.beq i j then d else atL i l

def mkTF (l : List (Nat × DV)) : Nat → Nat → List DV
  | 0, _ => []
  | k + 1, i => atL i l :: mkTF l k (i + 1)

/-- n slots, some of them filled. -/
def mkT (n : Nat) (l : List (Nat × DV)) : List DV := mkTF l n 0

end Go.Den

/- Words for the evaluator's equations; what is known of a program's functions. -/
namespace Go.Den
open Go.RowKit (Below)

def w_i64 (x : Int) : Int := IntKind.i64.wrap x
def w_u64 (x : Int) : Int := IntKind.u64.wrap x
def w_u32 (x : Int) : Int := IntKind.u32.wrap x
def w_u8 (x : Int) : Int := IntKind.u8.wrap x
def bAnd (k : IntKind) (x y : Int) : Int := k.wrap (BitVec.ofInt k.bits x &&& BitVec.ofInt k.bits y).toNat
def bOr (k : IntKind) (x y : Int) : Int := k.wrap (BitVec.ofInt k.bits x ||| BitVec.ofInt k.bits y).toNat
def bXor (k : IntKind) (x y : Int) : Int := k.wrap (BitVec.ofInt k.bits x ^^^ BitVec.ofInt k.bits y).toNat
def bAndNot (k : IntKind) (x y : Int) : Int := k.wrap (BitVec.ofInt k.bits x &&& ~~~(BitVec.ofInt k.bits y)).toNat
def bShl (k : IntKind) (x y : Int) : Int := k.wrap (x * 2 ^ (min y.toNat k.bits))
def bShr (k : IntKind) (x y : Int) : Int := x.fdiv (2 ^ (min y.toNat k.bits))

/-- Decided, but never reckoned out by the kernel. -/
noncomputable def cdec (p : Prop) : Bool := @decide p (Classical.propDecidable p)
theorem cdec_eq {p : Prop} : cdec p = true ↔ p := by unfold cdec; exact @decide_eq_true_iff p (Classical.propDecidable p)

def bodyOf (f : Func) : Code := f.body.getD .skip

def tabOf : List (Nat × Entry) → Nat → Option Entry
  | [], _ => none
  | (m, e) :: l, n => bif Nat.beq m n then some e else tabOf l n

def tyOf : List (Nat × TI) → Nat → Option TI
  | [], _ => none
  | (m, e) :: l, n => bif Nat.beq m n then some e else tyOf l n

theorem ifT {α : Type} {R : Bool} {A A' B : α} (h : R = true) (ha : A = A') : (bif R then A else B) = A' := by rw [h, ha]; rfl
theorem ifTn {α : Type} {R : Bool} {A A' : Option α} (h : R = true) (ha : A = A') : (bif R then A else none) = A' := ifT h ha
theorem ifF {α : Type} {R : Bool} {A B B' : α} (h : R = false) (hb : B = B') : (bif R then A else B) = B' := by rw [h, hb]; rfl
theorem ifS {α : Type} {R S : Bool} {A A' B B' : α} (h : R = S) (ha : A = A') (hb : B = B') : (bif R then A else B) = bif S then A' else B' := by rw [h, ha, hb]
theorem ifE {α : Type} {R : Bool} {A A' B B' : α} (ha : A = A') (hb : B = B') : (bif R then A else B) = bif R then A' else B' := by rw [ha, hb]

/-- A function meets what is said of it, and a call of it enters it. -/
structure Known (P : Program) (g : FuncId) (e : Entry) : Prop where
  meets : Meets P g e
  call : ∀ (args : Array Value) (w : World), (callFunc g args).run P w = .ok (.enter g args) w

inductive Knowns (P : Program) : List (Nat × Entry) → Prop
  | nil : Knowns P []
  | cons {g e l} : Known P g e → Knowns P l → Knowns P ((g, e) :: l)

theorem Knowns.get {P : Program} {l : List (Nat × Entry)} (h : Knowns P l) {g : Nat} {e : Entry} (hg : tabOf l g = some e) : Known P g e := by
  induction h with
  | nil => cases hg
  | @cons g' e' l h1 h2 ih =>
    simp only [tabOf] at hg
    cases hb : Nat.beq g' g with
    | true =>
      rw [hb] at hg
      simp only [cond_true, Option.some.injEq] at hg
      have := Nat.eq_of_beq_eq_true hb
      subst this hg
      exact h1
    | false => rw [hb] at hg; exact ih hg

theorem call_enter {P : Program} {f : FuncId} {fn : Func} {body : Code} (hf : P.funcs[f]? = some fn) (hn : (fn.name == "runtime.NumGoroutine") = false) (hb : fn.body = some body) (args : Array Value) (w : World) :
    (callFunc f args).run P w = .ok (.enter f args) w := by
  have h1 : fn.name ≠ "runtime.NumGoroutine" := by simpa using hn
  simp [callFunc, hf, h1, hb]

theorem tyOf_mem {l : List (Nat × TI)} {t : Nat} {ti : TI} (h : tyOf l t = some ti) : (t, ti) ∈ l := by
  induction l with
  | nil => cases h
  | cons x l ih =>
    obtain ⟨m, e⟩ := x
    simp only [tyOf] at h
    cases hb : Nat.beq m t with
    | true =>
      rw [hb] at h
      simp only [cond_true, Option.some.injEq] at h
      rw [← Nat.eq_of_beq_eq_true hb, ← h]; exact List.mem_cons_self
    | false => rw [hb] at h; exact List.mem_cons_of_mem _ (ih h)

inductive TyFacts (P : Program) : List (Nat × TI) → Prop
  | nil : TyFacts P []
  | cons {t ti l} : TyFact P t ti → TyFacts P l → TyFacts P ((t, ti) :: l)

theorem TyFacts.get {P : Program} {l : List (Nat × TI)} (h : TyFacts P l) {t : Nat} {ti : TI} (hg : tyOf l t = some ti) : TyFact P t ti := by
  induction h with
  | nil => cases hg
  | @cons t' ti' l h1 h2 ih =>
    simp only [tyOf] at hg
    cases hb : Nat.beq t' t with
    | true =>
      rw [hb] at hg
      simp only [cond_true, Option.some.injEq] at hg
      have := Nat.eq_of_beq_eq_true hb
      subst this hg
      exact h1
    | false => rw [hb] at hg; exact ih hg

theorem tyFact_mk {P : Program} {t : TypeId} {ti : TI} {z : Value} (h : (P.info? t).map (fun i => (i.zero, i.size, i.bytes)) = some (some z, ti.size, ti.bytes)) (hz : ZeroRel ti.zero z.cells.toList) (hs : z.cells.size = ti.size)
    (h1 : ∀ u ∈ z.cells.toList, u.oneCell' = true) (hd : descOk P t ti.kind) : TyFact P t ti := by
  cases hi : P.info? t with
  | none => rw [hi] at h; cases h
  | some i =>
    rw [hi] at h
    simp only [Option.map_some, Option.some.injEq, Prod.mk.injEq] at h
    exact ⟨⟨i, z, hi, h.2.1, h.2.2, h.1, hz, hs, h1⟩, hd⟩

/-! ### A function that calls itself -/

noncomputable def recN (ts : List AT) (pre : List Atom → Bool) (out : List Atom → DV) (mu : List Atom → Nat) (n : Nat) : Entry := entry ts (fun as => pre as && cdec (mu as < n)) out

theorem meets_recN {P : Program} {E : Nat → Env} {f : FuncId} {fn : Func} {body : Code} (hf : P.funcs[f]? = some fn) (hb : fn.body = some body) {ts : List AT} {pre : List Atom → Bool} {out : List Atom → DV} (mu : List Atom → Nat)
    (he : ∀ n, Meets P f (recN ts pre out mu n) → EnvOk P (E n))
    (h : ∀ n as ds, Encs ts as ds → pre as = true → mu as < n + 1 → ∃ fuel d drops, funD (E n) fuel fn body ds = some d ∧ Wk drops d (out as)) : Meets P f (entry ts pre out) := by
  have key : ∀ n, Meets P f (recN ts pre out mu n) := by
    intro n
    induction n with
    | zero =>
      intro args ha
      simp only [recN, entry] at ha
      split at ha
      · simp only [Bool.and_eq_true, cdec_eq] at ha; omega
      · cases ha
    | succ n ih =>
      refine meets_entry (he n ih) hf hb fun as ds hd hp => ?_
      simp only [Bool.and_eq_true, cdec_eq] at hp
      exact h n as ds hd hp.1 hp.2
  intro args ha
  simp only [entry] at ha
  cases hd : decL ts args with
  | none => rw [hd] at ha; cases ha
  | some as =>
    rw [hd] at ha
    have := key (mu as + 1) args (by simp only [recN, entry, hd, Bool.and_eq_true, cdec_eq]; exact ⟨ha, Nat.lt_succ_self _⟩)
    simp only [recN, entry] at this ⊢
    exact this

/-! ### Structs that are held against one another -/

theorem run_part_one {P : Program} (w : World) {t : TypeId} {ti : TI} (hf : TyFact P t ti) (ha : ti.agg = false) {xs : Array Value} {i : Nat} {v : Value} (hv : xs[i]? = some v) : (part t xs i).run P w = .ok v w := by
  simp [part, hf.run_agg w, ha, hv]
theorem shape_bool {z : Bool} {l m : List DV} (h : sameShape (.bool z :: l) m = true) : ∃ b m', m = .bool b :: m' ∧ sameShape l m' = true := by
  cases m with
  | nil => simp [sameShape] at h
  | cons d m' => cases d <;> simp [sameShape] at h; exact ⟨_, _, rfl, h⟩
theorem shape_int {k : IntKind} {z : Int} {l m : List DV} (h : sameShape (.int k z :: l) m = true) : ∃ b m', m = .int k b :: m' ∧ sameShape l m' = true := by
  cases m with
  | nil => simp [sameShape] at h
  | cons d m' => cases d <;> simp [sameShape] at h; obtain ⟨rfl, h⟩ := h; exact ⟨_, _, rfl, h⟩
theorem shape_nil {m : List DV} (h : sameShape [] m = true) : m = [] := by
  cases m with
  | nil => rfl
  | cons d m' => cases d <;> simp [sameShape] at h

/-- The end of a walk: a law that returned true. -/
theorem calls_true {P : Program} {g : FuncId} {e : Entry} (h : Known P g e) {vals : Array Value} {w : World} {args : List DV} {I : Nat → Prop} (hI : ∀ b, I b → b < w.heap.size) (ha : LRel (argCtx I) w args vals.toList)
    (hp : e.pre args = true) (ho : e.out args = .bool true) : Calls P g vals w fun e w' => e = .returned (.bool true) ∧ Below w.heap.size w w' := by
  refine (h.meets args hp w vals I hI ha).mono ?_
  rintro e w' ⟨v, own, he, hb, _, hv⟩
  rw [ho] at hv
  simp only [VRel] at hv
  subst hv
  exact ⟨he, hb⟩

end Go.Den

/- A function that writes over the numbers of a slice in a record. -/
namespace Go.Den
open Go.RowKit (Below)

noncomputable def spoilD (E : Env) (fuel : Nat) (fn : Func) (body : Code) (r c : Int) (e : TypeId) (l : List Int) : Option Unit :=
  den E fuel 0 body ⟨[.agg [.int .i64 r, .int .i64 c, .oref 1000]] ++ List.replicate (fn.ntmps - 1) .undef, [(1000, false, .ints e .u64 l)]⟩ (fun _ => some ()) (fun _ _ => none) (fun _ => some ())

/-- A writer's rest, from a loop's head on, the loop having m rounds left. -/
noncomputable def loopAtU (E : Env) (n : Nat) (_fn : Func) (body : Code) (p ms : List Nat) (m : Nat) (st : St) : Option Unit :=
  match descend E n p ms 0 body (fun _ => some ()) (fun _ _ => none) (fun _ => some ()) with
  | ⟨b, .loop c, _, Kx, Kr⟩ => iterG (E.hint b) (den E n b c) m st Kx Kr
  | _ => none

/-- All bits turned. -/
def not64 (x : Int) : Int := IntKind.wrap .u64 ((BitVec.ofInt (IntKind.bits .u64) (if IntKind.signed .u64 then -1 else IntKind.max .u64) ^^^ BitVec.ofInt (IntKind.bits .u64) x).toNat : Int)

theorem spoil_of {P : Program} {E : Env} (he : EnvOk P E) {f : FuncId} {fn : Func} {body : Code} (hf : P.funcs[f]? = some fn) (hb : fn.body = some body) (hres : fn.results.toList = [])
    (hcall : ∀ (args : Array Value) (w : World), (callFunc f args).run P w = .ok (.enter f args) w) {e : TypeId} {fuel : List Int → Nat}
    (h : ∀ r c l, l.length ≤ maxLen → spoilD E (fuel l) fn body r c e l = some ()) : SpoilFact P f e := by
  refine ⟨hcall, fun w r c v l hown => ?_⟩
  refine calls_of_wp hf hb ?_
  have hlen : l.length ≤ maxLen := by
    obtain ⟨a, cap, hv, hlc, hm⟩ : ∃ a cap, v = .slice a l.length cap ∧ l.length ≤ maxLen ∧ True := by
      rcases hown.2 with ⟨hv, hn⟩ | ⟨g, cap, cur, hv, _, _, hnc, hm, _, _⟩
      · exact ⟨none, 0, by rw [hv, hn], by rw [hn]; exact Nat.zero_le _, trivial⟩
      · exact ⟨_, cap, hv, Nat.le_trans hnc hm, trivial⟩
    exact hlc
  have h := h r c l hlen
  unfold spoilD at h
  let A : Nat → Option Place := fun n => if n = 1000 then some ⟨.live, .row v 1⟩ else none
  have hA : ∀ {n p}, A n = some p → n = 1000 ∧ p = ⟨.live, .row v 1⟩ := by
    intro n p hp
    have hp : (if n = 1000 then some (⟨.live, .row v 1⟩ : Place) else none) = some p := hp
    by_cases hn : n = 1000
    · rw [if_pos hn] at hp; cases hp; exact ⟨hn, rfl⟩
    · rw [if_neg hn] at hp; cases hp
  have hone : v.oneCell' = true := by
    rcases hown.2 with ⟨hv, _⟩ | ⟨g, cap, cur, hv, _⟩ <;> rw [hv] <;> rfl
  have hsz : ∀ b, v.ownBlock = some b → b < w.heap.size := by
    intro b hb
    rcases hown.2 with ⟨hv, _⟩ | ⟨g, cap, cur, hv, _, hh, _⟩
    · rw [hv] at hb; cases hb
    · rw [hv] at hb
      have : g = b := by
        have hb : some g = some b := hb
        exact Option.some.inj hb
      subst this
      rcases Nat.lt_or_ge g w.heap.size with hlt | hge
      · exact hlt
      · rw [Array.getElem?_eq_none hge] at hh; cases hh
  have hh : Holds (fun b => b < w.heap.size ∧ v.ownBlock ≠ some b) (fun _ => False) 0 w
      ⟨[.agg [.int .i64 r, .int .i64 c, .oref 1000]] ++ List.replicate (fn.ntmps - 1) .undef, [(1000, false, .ints e .u64 l)]⟩
      ⟨#[.agg #[.int .i64 r, .int .i64 c, v]] ++ Array.replicate (fn.ntmps - 1) undef, []⟩ w := by
    refine ⟨A, rfl, by simp [Nat.add_comm], Below.refl _ _, Nat.zero_le _, fun b h => h.elim, fun n p hp => ?_, fun n p b hp _ hpb => ?_, fun n m p q b hp hq _ _ _ _ => ?_, fun t => ?_, fun b hb => ⟨hb.1, rfl, fun n p hp _ hpb => ?_⟩⟩
    · obtain ⟨rfl, rfl⟩ := hA hp
      exact ⟨_, rfl, rfl, v, rfl, hown⟩
    · obtain ⟨rfl, rfl⟩ := hA hp
      exact ⟨Nat.zero_le _, hsz b hpb⟩
    · exact (hA hp).1.trans (hA hq).1.symm
    · cases t with
      | zero =>
        simp only [List.cons_append, List.nil_append, List.getD_cons_zero]
        have e1 : (#[Value.agg #[.int .i64 r, .int .i64 c, v]] ++ Array.replicate (fn.ntmps - 1) undef).getD 0 undef = Value.agg #[.int .i64 r, .int .i64 c, v] := by
          rw [Array.getD_eq_getD_getElem?, Array.getElem?_append_left (by simp)]; rfl
        rw [e1]
        simp only [VRel]
        refine ⟨_, rfl, ?_⟩
        simp only [LRel, VRel]
        exact ⟨_, _, rfl, rfl, _, _, rfl, rfl, _, _, rfl, ⟨hone, ⟨.live, .row v 1⟩, (if_pos rfl : A 1000 = some _), .inr ⟨1, rfl⟩⟩, rfl⟩
      | succ t =>
        simp only [List.cons_append, List.nil_append, List.getD_cons_succ]
        rw [List.getD_eq_getElem?_getD, List.getElem?_replicate]
        split <;> simp only [Option.getD_some, Option.getD_none, VRel]
    · obtain ⟨rfl, rfl⟩ := hA hp
      exact hb.2 hpb
  have fin : ∀ st a w', Holds (fun b => b < w.heap.size ∧ v.ownBlock ≠ some b) (fun _ => False) 0 w st a w' →
      a.defers = [] ∧ ∃ u, (results fn a.tmps).run P w' = .ok u w' ∧ (∃ u', Ending.returned u = .returned u') ∧ Below 0 w w' ∧ ∀ b, b < w.heap.size → v.ownBlock ≠ some b → w'.heap[b]? = w.heap[b]? := by
    intro st a w' ⟨A', hA'⟩
    obtain ⟨vs, hv, hr⟩ := resAll_ok (st := st) he.ty hA' fn.results.toList [] (by rw [hres]; rfl)
    exact ⟨hA'.defers, _, run_results hr, ⟨_, rfl⟩, hA'.below, fun b h1 h2 => (hA'.kept b ⟨h1, h2⟩).2.1⟩
  refine den_ok he (fuel l) () body 0 _ _ _ _ h _ _ hh _ (fun st a w' _ hh' => ?_) (fun id st a w' hk => by cases hk) (fun st a w' _ hh' => ?_)
  · obtain ⟨h1, u, h2, h3⟩ := fin st a w' hh'
    exact ⟨h1, u, h2, h3⟩
  · obtain ⟨h1, u, h2, h3⟩ := fin st a w' hh'
    exact ⟨h1, u, h2, h3⟩
end Go.Den
