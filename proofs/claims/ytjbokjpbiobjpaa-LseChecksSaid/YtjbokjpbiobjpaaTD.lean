/- A verified evaluator of the program's form and its use for this seat: Den32, Den33, Den34, Den35, Den36, Den37, Den38, Bits. -/
import Derived.Test.YtjbokjpbiobjpaaTC
import Derived.KernelRfl
import Derived.Laws.StructEq
import Derived.Laws.Externs
import Derived.ChangeKeysEq
import Derived.IntWalk
set_option linter.unusedVariables false
set_option linter.unusedSimpArgs false
noncomputable section
namespace Go.Den
open Go.RowKit (Below)
theorem Zn {S:Nat→Prop} {P:Program} {E:Env} (hty:∀ t ti,E.ty t=some ti→Br P t ti) {I:Nat→Prop} {fn:Func} {st:St} {out:DV} (h:Sw E fn st=some out) {w w':World} {a:Act} (hh:D1 S I w.heap.size w st a w') :
    ∃ v own,(results fn a.tmps).run P w'=.ok v w'∧Below w.heap.size w w'∧Ae6 own w w'∧Ah (Ci I own w w') w' out v:=by
  obtain ⟨A,hA⟩:=hh
  unfold Sw at h
  cases hds:Nn E st fn.results.toList with
  | none=>simp [hds] at h
  | some ds =>
    rw [hds,Ahv] at h
    obtain ⟨vs,hv,hr⟩:=Ti hty hA _ ds hds
    have hm:Mem I w.heap.size A st.heap w':=hA.mem fun n p fo _ hl=>hl
    have hone:Ah (A3 I w.heap.size A w') w' (Ade ds) (Adc vs):=by
      match ds,vs,hv with
      | [],vs,hv =>
        rw [At.Ep] at hv; subst hv
        simp only [Ah,Ade,Adc]
        exact ⟨#[],rfl,by simp [At]⟩
      | [d],vs,hv =>
        rw [At.Bp] at hv
        obtain ⟨u,us,rfl,h1,h2⟩:=hv
        rw [At.Ep] at h2; subst h2
        exact h1
      | d::d'::ds,vs,hv =>
        have hv':=hv
        rw [At.Bp] at hv
        obtain ⟨u,us,rfl,h1,h2⟩:=hv
        rw [At.Bp] at h2
        obtain ⟨u',us',rfl,h3,h4⟩:=h2
        simp only [Ah,Ade,Adc]
        exact ⟨_,rfl,by simpa using hv'⟩
    cases hrs:Ej st.heap 6 (Ade ds) with
    | none=>rw [hrs] at h; cases h
    | some r =>
      obtain ⟨d,ns,os⟩:=r
      rw [hrs,Ahv] at h
      simp only at h
      cases hc:(ns.all fun n=>!(os.contains n)) with
      | false=>rw [hc] at h; cases h
      | true =>
        rw [hc,Ahn,Ahq] at h
        subst h
        have hdis:∀ n∈ns,n ∉ os:=fun n hn hno=>by
          have:=List.all_eq_true.1 hc n hn
          simp [hno] at this
        refine ⟨_,H2 A os,Wj hr,hA.below,⟨fun i b hb=>?_,fun i j b hi hj=>?_⟩,Ac5 hm hdis 6 _ _ _ ns os hrs (fun _ h=>h) (fun _ h=>h) hone⟩
        · obtain ⟨_,p,hp,hl,hpb⟩:=Kd hb
          exact hm.blkB i p b hp (by rw [hl]; simp) hpb
        · obtain ⟨_,p,hp,hl,hpb⟩:=Kd hi
          obtain ⟨_,q,hq,hl',hqb⟩:=Kd hj
          exact hm.inj i j p q b hp hq (by rw [hl]; simp) (by rw [hl']; simp) hpb hqb
theorem fun_ok {P:Program} {E:Env} (he:Hb P E) {fuel:Nat} {f:FuncId} {fn:Func} {body:Code} (hf:P.funcs[f]?=some fn) (hb:fn.body=some body) {args:List DV} {out:DV} (h:Bo E fuel fn body args=some out):K8 P f args out:=by
  intro w vals I hI hv
  refine calls_of_wp hf hb ?_
  unfold Bo at h
  have hlen:args.length=vals.size:=by have:=hv.length; simpa using this
  have hh:D1 (fun _=>False) I w.heap.size w ⟨args++List.replicate (fn.ntmps-args.length) .undef,[]⟩ ⟨vals++Array.replicate (fn.ntmps-vals.size) undef,[]⟩ w:=by
    refine ⟨fun _=>none,rfl,by simp only [Array.size_append,Array.size_replicate,List.length_append,List.length_replicate]; omega,Below.refl _ _,Nat.le_refl _,hI,fun n p h=>(by cases h),fun n p b h=>(by cases h),fun n m p q b h=>(by cases h),fun t=>?_,fun b h=>h.elim⟩
    have hw:G9 (G7 I) (A3 I w.heap.size (fun _=>none) w):=⟨fun b hb=>⟨hI b hb,.inl hb,fun n p h=>(by cases h)⟩,rfl,fun _=>rfl,fun _=>rfl⟩
    have hl:=At.Du hw _ _ hv
    rcases Nat.lt_or_ge t args.length with hlt | hge
    · obtain ⟨v,h1,h2⟩:=hl.getD t hlt
      simp only [Ahx,List.getElem?_append_left hlt] at h2 ⊢
      have hlt':t<vals.size:=by omega
      have e:(vals++Array.replicate (fn.ntmps-vals.size) undef).getD t undef=v:=by
        rw [Array.getD_eq_getD_getElem?,Array.getElem?_append_left hlt']
        rw [Array.getElem?_toList] at h1
        rw [h1]; rfl
      rw [e]; exact h2
    · rw [Ahx,List.getElem?_append_right hge,List.getElem?_replicate]
      split<;>simp only [Option.getD_some,Option.getD_none,Ah]
  refine L4 he fuel out body 0 _ _ _ _ h _ _ hh _ (fun st a w' hk hh'=>?_) (fun id st a w' hk=>by cases hk) (fun st a w' hk hh'=>?_)
  · obtain ⟨v,own,h1,h2,h3,h4⟩:=Zn he.ty hk hh'
    have hd:a.defers=[]:=by obtain ⟨A,hA⟩:=hh'; exact hA.defers
    exact ⟨hd,v,h1,v,own,rfl,h2,h3,h4⟩
  · obtain ⟨v,own,h1,h2,h3,h4⟩:=Zn he.ty hk hh'
    have hd:a.defers=[]:=by obtain ⟨A,hA⟩:=hh'; exact hA.defers
    exact ⟨hd,v,h1,v,own,rfl,h2,h3,h4⟩
end Go.Den
namespace Go.Den
open Go.RowKit (Below)
inductive AT where
  | b
  | i (k:IntKind)
  | s (k:IntKind)
  | fl
  | nb
  | st (l:List AT)
  | fn (g:FuncId) (l:List AT)
  | fm (g:FuncId) (l:List AT)
  | cp (l:List AT)
  | rs (sz:Nat) (l:List (List AT))
inductive Atom where
  | b (x:Bool)
  | i (x:Int)
  | l (x:List Int)
  | f (x:Nat)
def Xk:AT→DV→Option Atom
  | .b,.bool x=>some (.b x)
  | .i k,.int k' x=>bif decide (k=k') then some (.i x) else none
  | .s _,.nil=>some (.l [])
  | .s k,.ints .arg k' l=>bif decide (k=k') then some (.l l) else none
  | .fl,.fl n=>some (.f n)
  | .nb,.nb n=>some (.f n)
  | _,_=>none
def P4:List AT→List DV→Option (List Atom)
  | [],[]=>some []
  | t::ts,d::ds=>match Xk t d with
    | some a=>match P4 ts ds with
      | some as=>some (a::as)
      | none=>none
    | none=>none
  | _,_=>none
def M4:List AT→List DV→Option (List Atom)
  | [],[]=>some []
  | .cp l::ts,.cellp cs::ds=>match P4 l cs with
    | some as=>match M4 ts ds with
      | some bs=>some (as++bs)
      | none=>none
    | none=>none
  | .st l::ts,.agg cs::ds=>match P4 l cs with
    | some as=>match M4 ts ds with
      | some bs=>some (as++bs)
      | none=>none
    | none=>none
  | t::ts,d::ds=>match Xk t d with
    | some a=>match M4 ts ds with
      | some bs=>some (a::bs)
      | none=>none
    | none=>none
  | _,_=>none
def Vh:List (List AT)→List (List DV)→Option (List Atom)
  | [],[]=>some []
  | l::ls,cs::rows=>match P4 l cs with
    | some as=>match Vh ls rows with
      | some bs=>some (as++bs)
      | none=>none
    | none=>none
  | _,_=>none
def Jb:List AT→List DV→Option (List Atom)
  | [],[]=>some []
  | .rs sz ls::ts,.recs .arg sz' rows::ds=>bif Nat.beq sz sz' then
      match Vh ls rows with
      | some as=>match Jb ts ds with
        | some bs=>some (as++bs)
        | none=>none
      | none=>none
    else none
  | .fm g l::ts,.fn g' fs []::ds=>bif Nat.beq g g' then
      match M4 l fs with
      | some as=>match Jb ts ds with
        | some bs=>some (as++bs)
        | none=>none
      | none=>none
    else none
  | .fn g l::ts,.fn g' [] cs::ds=>bif Nat.beq g g' then
      match M4 l cs with
      | some as=>match Jb ts ds with
        | some bs=>some (as++bs)
        | none=>none
      | none=>none
    else none
  | .cp l::ts,.cellp cs::ds=>match M4 l cs with
    | some as=>match Jb ts ds with
      | some bs=>some (as++bs)
      | none=>none
    | none=>none
  | .st l::ts,.agg cs::ds=>match M4 l cs with
    | some as=>match Jb ts ds with
      | some bs=>some (as++bs)
      | none=>none
    | none=>none
  | t::ts,d::ds=>match Xk t d with
    | some a=>match Jb ts ds with
      | some bs=>some (a::bs)
      | none=>none
    | none=>none
  | _,_=>none
inductive Er:List AT→List Atom→List DV→Prop
  | nil:Er [] [] []
  | b {ts as ds} (x:Bool):Er ts as ds→Er (.b::ts) (.b x::as) (.bool x::ds)
  | i {ts as ds} (k:IntKind) (x:Int):Er ts as ds→Er (.i k::ts) (.i x::as) (.int k x::ds)
  | s {ts as ds} (k:IntKind) (x:List Int):Er ts as ds→Er (.s k::ts) (.l x::as) (.ints .arg k x::ds)
  | fl {ts as ds} (x:Nat):Er ts as ds→Er (.fl::ts) (.f x::as) (.fl x::ds)
  | nb {ts as ds} (x:Nat):Er ts as ds→Er (.nb::ts) (.f x::as) (.nb x::ds)
  | st {l ts as cs bs ds}:Er l as cs→Er ts bs ds→Er (.st l::ts) (as++bs) (.agg cs::ds)
  | fn {g l ts as cs bs ds}:Er l as cs→Er ts bs ds→Er (.fn g l::ts) (as++bs) (.fn g [] cs::ds)
  | fm {g l ts as cs bs ds}:Er l as cs→Er ts bs ds→Er (.fm g l::ts) (as++bs) (.fn g cs []::ds)
  | cp {l ts as cs bs ds}:Er l as cs→Er ts bs ds→Er (.cp l::ts) (as++bs) (.cellp cs::ds)
  | rs0 {sz ts bs ds}:Er ts bs ds→Er (.rs sz []::ts) bs (.recs .arg sz []::ds)
  | rs1 {sz l ls ts as cs bs rows ds}:Er l as cs→Er (.rs sz ls::ts) bs (.recs .arg sz rows::ds)→Er (.rs sz (l::ls)::ts) (as++bs) (.recs .arg sz (cs::rows)::ds)
theorem Adf {c:Ctx} {w:World} {k:IntKind} {v:Value} (h:Ah c w .nil v):Ah c w (.ints .arg k []) v:=by
  simp only [Ah] at h ⊢
  subst h
  exact ⟨none,0,rfl,Nat.le_refl _,.inl trivial⟩
theorem Vi {t:AT} {d:DV} {a:Atom} (h:Xk t d=some a):∃ d',(∀ ts as ds,Er ts as ds→Er (t::ts) (a::as) (d'::ds))∧∀ c w v,Ah c w d v→Ah c w d' v:=by
  unfold Xk at h
  split at h
  · simp only [Ahq] at h; subst h
    exact ⟨_,fun _ _ _ he=>.b _ he,fun _ _ _ h=>h⟩
  · rename_i k k' x
    by_cases e:k=k'
    · subst e
      simp only [decide_true,Ahn,Ahq] at h; subst h
      exact ⟨_,fun _ _ _ he=>.i _ _ he,fun _ _ _ h=>h⟩
    · simp [e] at h
  · rename_i k
    simp only [Ahq] at h; subst h
    exact ⟨_,fun _ _ _ he=>.s k _ he,fun _ _ _ h=>Adf h⟩
  · rename_i k k' x
    by_cases e:k=k'
    · subst e
      simp only [decide_true,Ahn,Ahq] at h; subst h
      exact ⟨_,fun _ _ _ he=>.s _ _ he,fun _ _ _ h=>h⟩
    · simp [e] at h
  · simp only [Ahq] at h; subst h
    exact ⟨_,fun _ _ _ he=>.fl _ he,fun _ _ _ h=>h⟩
  · simp only [Ahq] at h; subst h
    exact ⟨_,fun _ _ _ he=>.nb _ he,fun _ _ _ h=>h⟩
  · cases h
theorem Q9:∀ {ts:List AT} {ds:List DV} {as:List Atom},P4 ts ds=some as→∃ ds',Er ts as ds'∧∀ c w vs,At c w ds vs→At c w ds' vs
  | [],[],as,h=>by
    simp only [P4,Ahq] at h; subst h
    exact ⟨[],.nil,fun _ _ _ h=>h⟩
  | t::ts,d::ds,as,h=>by
    simp only [P4] at h
    cases h1:Xk t d with
    | none=>rw [h1] at h; cases h
    | some a =>
      cases h2:P4 ts ds with
      | none=>rw [h1,h2] at h; cases h
      | some bs =>
        rw [h1,h2] at h
        simp only [Ahq] at h; subst h
        obtain ⟨d',i1,i2⟩:=Vi h1
        obtain ⟨ds',j1,j2⟩:=Q9 h2
        refine ⟨d'::ds',i1 _ _ _ j1,fun c w vs hv=>?_⟩
        rw [At.Bp] at hv ⊢
        obtain ⟨u,us,e,hu,hus⟩:=hv
        exact ⟨u,us,e,i2 _ _ _ hu,j2 _ _ _ hus⟩
  | [],_::_,as,h=>by simp [P4] at h
  | _::_,[],as,h=>by simp [P4] at h
theorem K1:∀ {ts:List AT} {ds:List DV} {as:List Atom},M4 ts ds=some as→∃ ds',Er ts as ds'∧∀ c w vs,At c w ds vs→At c w ds' vs
  | ts,ds,as,h=>by
    unfold M4 at h
    split at h
    · simp only [Ahq] at h; subst h
      exact ⟨[],.nil,fun _ _ _ h=>h⟩
    · rename_i l ts cs ds
      cases h1:P4 l cs with
      | none=>rw [h1] at h; cases h
      | some a =>
        cases h2:M4 ts ds with
        | none=>rw [h1,h2] at h; cases h
        | some bs =>
          rw [h1,h2] at h
          simp only [Ahq] at h; subst h
          obtain ⟨cs',i1,i2⟩:=Q9 h1
          obtain ⟨ds',j1,j2⟩:=K1 h2
          refine ⟨.cellp cs'::ds',.cp i1 j1,fun c w vs hv=>?_⟩
          rw [At.Bp] at hv ⊢
          obtain ⟨u,us,e,hu,hus⟩:=hv
          refine ⟨u,us,e,?_,j2 _ _ _ hus⟩
          simp only [Ah] at hu ⊢
          obtain ⟨b,o,vs,e,hb,hh,hc⟩:=hu
          exact ⟨b,o,vs,e,hb,i2 _ _ _ hh,hc⟩
    · rename_i l ts cs ds
      cases h1:P4 l cs with
      | none=>rw [h1] at h; cases h
      | some a =>
        cases h2:M4 ts ds with
        | none=>rw [h1,h2] at h; cases h
        | some bs =>
          rw [h1,h2] at h
          simp only [Ahq] at h; subst h
          obtain ⟨cs',i1,i2⟩:=Q9 h1
          obtain ⟨ds',j1,j2⟩:=K1 h2
          refine ⟨.agg cs'::ds',.st i1 j1,fun c w vs hv=>?_⟩
          rw [At.Bp] at hv ⊢
          obtain ⟨u,us,e,hu,hus⟩:=hv
          refine ⟨u,us,e,?_,j2 _ _ _ hus⟩
          simp only [Ah] at hu ⊢
          obtain ⟨vs,e,hh⟩:=hu
          exact ⟨vs,e,i2 _ _ _ hh⟩
    · rename_i t ts d ds _ _
      cases h1:Xk t d with
      | none=>rw [h1] at h; cases h
      | some a =>
        cases h2:M4 ts ds with
        | none=>rw [h1,h2] at h; cases h
        | some bs =>
          rw [h1,h2] at h
          simp only [Ahq] at h; subst h
          obtain ⟨d',i1,i2⟩:=Vi h1
          obtain ⟨ds',j1,j2⟩:=K1 h2
          refine ⟨d'::ds',i1 _ _ _ j1,fun c w vs hv=>?_⟩
          rw [At.Bp] at hv ⊢
          obtain ⟨u,us,e,hu,hus⟩:=hv
          exact ⟨u,us,e,i2 _ _ _ hu,j2 _ _ _ hus⟩
    · cases h
theorem Z6:∀ {ls:List (List AT)} {rows:List (List DV)} {as:List Atom},Vh ls rows=some as →
    ∃ rows',(∀ sz ts bs ds,Er ts bs ds→Er (.rs sz ls::ts) (as++bs) (.recs .arg sz rows'::ds))∧rows'.length=rows.length∧∀ c w vs,B1 c w rows vs→B1 c w rows' vs
  | [],[],as,h=>by
    simp only [Vh,Ahq] at h; subst h
    exact ⟨[],fun _ _ _ _ h=>.rs0 h,rfl,fun _ _ _ h=>h⟩
  | l::ls,cs::rows,as,h=>by
    simp only [Vh] at h
    cases h1:P4 l cs with
    | none=>rw [h1] at h; cases h
    | some a =>
      cases h2:Vh ls rows with
      | none=>rw [h1,h2] at h; cases h
      | some bs =>
        rw [h1,h2] at h
        simp only [Ahq] at h; subst h
        obtain ⟨cs',i1,i2⟩:=Q9 h1
        obtain ⟨rows',j1,j2,j3⟩:=Z6 h2
        refine ⟨cs'::rows',fun sz ts b ds he=>?_,by simp [j2],fun c w vs hv=>?_⟩
        · rw [List.append_assoc]; exact .rs1 i1 (j1 _ _ _ _ he)
        · simp only [B1] at hv ⊢
          obtain ⟨u,us,e,hu,hus⟩:=hv
          exact ⟨u,us,e,i2 _ _ _ hu,j3 _ _ _ hus⟩
  | [],_::_,as,h=>by simp [Vh] at h
  | _::_,[],as,h=>by simp [Vh] at h
theorem Jp:∀ {ts:List AT} {ds:List DV} {as:List Atom},Jb ts ds=some as→∃ ds',Er ts as ds'∧∀ c w vs,At c w ds vs→At c w ds' vs
  | ts,ds,as,h=>by
    unfold Jb at h
    split at h
    · simp only [Ahq] at h; subst h
      exact ⟨[],.nil,fun _ _ _ h=>h⟩
    · rename_i sz ls ts sz' rows ds
      cases hg:Nat.beq sz sz' with
      | false=>rw [hg] at h; cases h
      | true =>
      rw [hg,Ahn] at h
      obtain rfl:=Ah5 hg
      cases h1:Vh ls rows with
      | none=>rw [h1] at h; cases h
      | some a =>
        cases h2:Jb ts ds with
        | none=>rw [h1,h2] at h; cases h
        | some bs =>
          rw [h1,h2] at h
          simp only [Ahq] at h; subst h
          obtain ⟨rows',i1,i3,i2⟩:=Z6 h1
          obtain ⟨ds',j1,j2⟩:=Jp h2
          refine ⟨.recs .arg sz rows'::ds',i1 _ _ _ _ j1,fun c w vs hv=>?_⟩
          rw [At.Bp] at hv ⊢
          obtain ⟨u,us,e,hu,hus⟩:=hv
          refine ⟨u,us,e,?_,j2 _ _ _ hus⟩
          simp only [Ah] at hu ⊢
          obtain ⟨a,cap,e,hc,hh⟩:=hu
          refine ⟨a,cap,by rw [i3]; exact e,by rw [i3]; exact hc,hh.imp (fun h=>?_) fun ⟨b,o,rs,e1,e2,e3,e4,e5⟩=>⟨b,o,rs,e1,e2,i2 _ _ _ e3,e4,e5⟩⟩
          rw [h] at i3
          exact List.eq_nil_of_length_eq_zero i3
    · rename_i g l ts g' cs ds
      cases hg:Nat.beq g g' with
      | false=>rw [hg] at h; cases h
      | true =>
      rw [hg,Ahn] at h
      obtain rfl:=Ah5 hg
      cases h1:M4 l cs with
      | none=>rw [h1] at h; cases h
      | some a =>
        cases h2:Jb ts ds with
        | none=>rw [h1,h2] at h; cases h
        | some bs =>
          rw [h1,h2] at h
          simp only [Ahq] at h; subst h
          obtain ⟨cs',i1,i2⟩:=K1 h1
          obtain ⟨ds',j1,j2⟩:=Jp h2
          refine ⟨.fn g cs' []::ds',.fm i1 j1,fun c w vs hv=>?_⟩
          rw [At.Bp] at hv ⊢
          obtain ⟨u,us,e,hu,hus⟩:=hv
          refine ⟨u,us,e,?_,j2 _ _ _ hus⟩
          simp only [Ah] at hu ⊢
          obtain ⟨fs',vs,e,hf,hh⟩:=hu
          exact ⟨fs',vs,e,i2 _ _ _ hf,hh⟩
    · rename_i g l ts g' cs ds
      cases hg:Nat.beq g g' with
      | false=>rw [hg] at h; cases h
      | true =>
      rw [hg,Ahn] at h
      obtain rfl:=Ah5 hg
      cases h1:M4 l cs with
      | none=>rw [h1] at h; cases h
      | some a =>
        cases h2:Jb ts ds with
        | none=>rw [h1,h2] at h; cases h
        | some bs =>
          rw [h1,h2] at h
          simp only [Ahq] at h; subst h
          obtain ⟨cs',i1,i2⟩:=K1 h1
          obtain ⟨ds',j1,j2⟩:=Jp h2
          refine ⟨.fn g [] cs'::ds',.fn i1 j1,fun c w vs hv=>?_⟩
          rw [At.Bp] at hv ⊢
          obtain ⟨u,us,e,hu,hus⟩:=hv
          refine ⟨u,us,e,?_,j2 _ _ _ hus⟩
          simp only [Ah] at hu ⊢
          obtain ⟨fs',vs,e,hf,hh⟩:=hu
          exact ⟨fs',vs,e,hf,i2 _ _ _ hh⟩
    · rename_i l ts cs ds
      cases h1:M4 l cs with
      | none=>rw [h1] at h; cases h
      | some a =>
        cases h2:Jb ts ds with
        | none=>rw [h1,h2] at h; cases h
        | some bs =>
          rw [h1,h2] at h
          simp only [Ahq] at h; subst h
          obtain ⟨cs',i1,i2⟩:=K1 h1
          obtain ⟨ds',j1,j2⟩:=Jp h2
          refine ⟨.cellp cs'::ds',.cp i1 j1,fun c w vs hv=>?_⟩
          rw [At.Bp] at hv ⊢
          obtain ⟨u,us,e,hu,hus⟩:=hv
          refine ⟨u,us,e,?_,j2 _ _ _ hus⟩
          simp only [Ah] at hu ⊢
          obtain ⟨b,o,vs,e,hb,hh,hc⟩:=hu
          exact ⟨b,o,vs,e,hb,i2 _ _ _ hh,hc⟩
    · rename_i l ts cs ds
      cases h1:M4 l cs with
      | none=>rw [h1] at h; cases h
      | some a =>
        cases h2:Jb ts ds with
        | none=>rw [h1,h2] at h; cases h
        | some bs =>
          rw [h1,h2] at h
          simp only [Ahq] at h; subst h
          obtain ⟨cs',i1,i2⟩:=K1 h1
          obtain ⟨ds',j1,j2⟩:=Jp h2
          refine ⟨.agg cs'::ds',.st i1 j1,fun c w vs hv=>?_⟩
          rw [At.Bp] at hv ⊢
          obtain ⟨u,us,e,hu,hus⟩:=hv
          refine ⟨u,us,e,?_,j2 _ _ _ hus⟩
          simp only [Ah] at hu ⊢
          obtain ⟨vs,e,hh⟩:=hu
          exact ⟨vs,e,i2 _ _ _ hh⟩
    · rename_i t ts d ds _ _ _ _ _
      cases h1:Xk t d with
      | none=>rw [h1] at h; cases h
      | some a =>
        cases h2:Jb ts ds with
        | none=>rw [h1,h2] at h; cases h
        | some bs =>
          rw [h1,h2] at h
          simp only [Ahq] at h; subst h
          obtain ⟨d',i1,i2⟩:=Vi h1
          obtain ⟨ds',j1,j2⟩:=Jp h2
          refine ⟨d'::ds',i1 _ _ _ j1,fun c w vs hv=>?_⟩
          rw [At.Bp] at hv ⊢
          obtain ⟨u,us,e,hu,hus⟩:=hv
          exact ⟨u,us,e,i2 _ _ _ hu,j2 _ _ _ hus⟩
    · cases h
def entry (ts:List AT) (pre:List Atom→Bool) (out:List Atom→DV):Entry where
  pre:=fun args=>match Jb ts args with
    | some as=>pre as
    | none=>false
  out:=fun args=>match Jb ts args with
    | some as=>out as
    | none=>.undef
inductive Wk (drops:List Nat):DV→DV→Prop
  | refl {d:DV} (h:De 1 [] d=true) (ho:∀ i e k l,d≠.ints (.own i e) k l) (hr:∀ i e k l,d≠.recs (.own i e) k l):Wk drops d d
  | nil (g:Xt) (k:IntKind):Wk drops .nil (.ints g k [])
  | fresh (k:IntKind) (l:List Int):Wk drops (.ints .fresh k l) (.ints .arg k l)
  | keep (i:Nat) (e:TypeId) (k:IntKind) (l:List Int) (h:i ∉ drops):Wk drops (.ints (.own i e) k l) (.ints (.own i e) k l)
  | keepR (i:Nat) (e:TypeId) (sz:Nat) (l:List (List DV)) (h:i ∉ drops):Wk drops (.recs (.own i e) sz l) (.recs (.own i e) sz l)
  | nilR (g:Xt) (sz:Nat):Wk drops .nil (.recs g sz [])
  | dropR (i:Nat) (e:TypeId) (sz:Nat) (l:List (List DV)) (h:i∈drops):Wk drops (.recs (.own i e) sz l) (.recs .fresh sz l)
  | drop (i:Nat) (e:TypeId) (k:IntKind) (l:List Int) (h:i∈drops):Wk drops (.ints (.own i e) k l) (.ints .fresh k l)
  | dropA (i:Nat) (e:TypeId) (k:IntKind) (l:List Int) (h:i∈drops):Wk drops (.ints (.own i e) k l) (.ints .arg k l)
  | agg {l l':List DV} (h:l.length=l'.length) (hw:∀ (j:Nat) d d',l[j]?=some d→l'[j]?=some d'→Wk drops d d'):Wk drops (.agg l) (.agg l')
  | tup {l l':List DV} (h:l.length=l'.length) (hw:∀ (j:Nat) d d',l[j]?=some d→l'[j]?=some d'→Wk drops d d'):Wk drops (.tup l) (.tup l')
def Fp (drops:List Nat) (own:Nat→Option Nat) (i:Nat):Option Nat:=if i∈drops then none else own i
theorem H8 {drops:List Nat} {own:Nat→Option Nat} {i b:Nat} (h:Fp drops own i=some b):own i=some b∧i ∉ drops:=by
  unfold Fp at h
  split at h
  · cases h
  · exact ⟨h,‹_›⟩
theorem M8 {w:World} {base:Nat} {e:TypeId} {k:IntKind} {l:List Int} {v:Value} (ho:w.ownsRow base e 1 v l.length (l.map (Value.int k))) {ok:Nat→Prop} (hok:∀ b,v.ownBlock=some b→ok b) :
    ∃ a cap,v=.slice a l.length cap∧l.length≤cap∧(l=[]∨∃ b o,a=some ⟨b,o,none⟩∧ok b∧∀ (i:Nat) n,l[i]?=some n→w.cell? ⟨b,o+i,none⟩=some (.int k n)):=by
  have:=Hi (p:=⟨.live,.row v 1⟩) rfl ho (Eb ho) (ok:=ok) hok
  simp only [List.drop_zero,List.take_length] at this
  exact this
theorem Wk.rel {drops:List Nat} {d d':DV} (h:Wk drops d d') {I:Nat→Prop} {own:Nat→Option Nat} {w w':World} (ho:Ae6 own w w'):∀ v,Ah (Ci I own w w') w' d v→Ah (Ci I (Fp drops own) w w') w' d' v:=by
  have hok:∀ b,(Ci I own w w').ok b→(Ci I (Fp drops own) w w').ok b:=by
    rintro b ⟨h1,h2,h3⟩
    exact ⟨h1,h2,fun i hi=>h3 i (H8 hi).1⟩
  have hblk:∀ i b,i∈drops→own i=some b→(Ci I (Fp drops own) w w').ok b∧w.heap.size≤b:=by
    intro i b hi hb
    obtain ⟨h1,h2⟩:=ho.lt i b hb
    refine ⟨⟨h2,.inr h1,fun j hj=>?_⟩,h1⟩
    obtain ⟨h3,h4⟩:=H8 hj
    rw [ho.inj j i b h3 hb] at h4
    exact h4 hi
  induction h with
  | @refl d h h1 h2 =>
    intro v hv
    have hl:Ib (({ Ci I own w w' with own:=fun _=>none }:Ctx).only []) w' (Ci I (Fp drops own) w w') w' :=
      ⟨hok,rfl,rfl,fun _ _ h=>(by cases h),fun n p hp=>(by simp [Ctx.only] at hp),fun _ _ _=>rfl,fun _ _ h=>(by cases h)⟩
    refine Ah.Cc hl d v (Ur [] 1 d v h ?_)
    cases d with
    | ints g k l =>
      cases g with
      | own i e=>exact absurd rfl (h1 i e k l)
      | _=>simp only [Ah] at hv ⊢; exact hv
    | recs g k l =>
      cases g with
      | own i e=>exact absurd rfl (h2 i e k l)
      | _=>simp only [Ah] at hv ⊢; exact hv
    | agg l =>
      cases l with
      | nil=>simp only [Ah] at hv ⊢; simpa [At] using hv
      | cons a l=>simp [De] at h
    | tup l =>
      cases l with
      | nil=>simp only [Ah] at hv ⊢; simpa [At] using hv
      | cons a l=>simp [De] at h
    | fn g a c =>
      cases a with
      | cons _ _=>simp [De] at h
      | nil =>
        cases c with
        | cons _ _=>simp [De] at h
        | nil=>simp only [Ah] at hv ⊢; simpa [At] using hv
    | gd c d=>simp [De] at h
    | oref n=>simp [De] at h
    | sref n o m=>simp [De] at h
    | ptr n i j=>simp [De] at h
    | undef=>simp only [Ah]
    | _=>simp only [Ah] at hv ⊢; exact hv
  | nil g k =>
    intro v hv
    simp only [Ah] at hv
    subst hv
    cases g with
    | own i e=>simp only [Ah]; exact ⟨World.ownsRow_nil w' _ e 1,fun b hb=>by cases hb⟩
    | _=>simp only [Ah]; exact ⟨none,0,rfl,Nat.le_refl _,.inl trivial⟩
  | nilR g sz =>
    intro v hv
    simp only [Ah] at hv
    subst hv
    cases g with
    | own i e=>simp only [Ah]; exact ⟨[],by simp [B1],by simp,World.ownsRow_nil w' _ e sz,fun b hb=>by cases hb⟩
    | _=>simp only [Ah]; exact ⟨none,0,rfl,Nat.le_refl _,.inl trivial⟩
  | dropR i e sz l h =>
    intro v hv
    simp only [Ah] at hv ⊢
    obtain ⟨rows,h1,h2,h3,h4⟩:=hv
    have hr:=B1.Cc (c:=(Ci I own w w').bare) (c':=(Ci I (Fp drops own) w w').bare) ⟨hok,rfl,rfl,fun _ _ h=>(by cases h),fun _ _ h=>(by cases h),fun _ _ _=>rfl,fun _ _ h=>(by cases h)⟩ _ _ h1
    have:=Hh (p:=⟨.live,.row v sz⟩) rfl hr h2 h3 (by have:=Eb h3; exact this) (ok:=fun b=>(Ci I (Fp drops own) w w').ok b∧w.heap.size≤b) (fun b hb=>hblk i b h (h4 b hb))
    simp only [List.drop_zero,List.take_length] at this
    obtain ⟨a,cap,e1,e2,e3⟩:=this
    exact ⟨a,cap,e1,e2,e3.imp id fun ⟨b,o,rows',e4,e5,e6,e7,e8⟩=>⟨b,o,rows',e4,⟨e5.1,rfl,e5.2⟩,e6,e7,e8⟩⟩
  | fresh k l =>
    intro v hv
    simp only [Ah] at hv ⊢
    obtain ⟨a,cap,e,h1,h2⟩:=hv
    exact ⟨a,cap,e,h1,h2.imp id fun ⟨b,o,h3,h4,h5⟩=>⟨b,o,h3,hok b h4.1,h5⟩⟩
  | keep i e k l h =>
    intro v hv
    simp only [Ah] at hv ⊢
    exact ⟨hv.1,fun b hb=>by show Fp drops own i=some b; unfold Fp; rw [if_neg h]; exact hv.2 b hb⟩
  | keepR i e sz l h =>
    intro v hv
    simp only [Ah] at hv ⊢
    obtain ⟨rows,h1,h2,h3,h4⟩:=hv
    refine ⟨rows,?_,h2,h3,fun b hb=>by show Fp drops own i=some b; unfold Fp; rw [if_neg h]; exact h4 b hb⟩
    exact B1.Cc (c:=(Ci I own w w').bare) (c':=(Ci I (Fp drops own) w w').bare) ⟨hok,rfl,rfl,fun _ _ h=>(by cases h),fun _ _ h=>(by cases h),fun _ _ _=>rfl,fun _ _ h=>(by cases h)⟩ _ _ h1
  | drop i e k l h =>
    intro v hv
    simp only [Ah] at hv ⊢
    exact M8 hv.1 fun b hb=>⟨(hblk i b h (hv.2 b hb)).1,rfl,(hblk i b h (hv.2 b hb)).2⟩
  | dropA i e k l h =>
    intro v hv
    simp only [Ah] at hv ⊢
    exact M8 hv.1 fun b hb=>(hblk i b h (hv.2 b hb)).1
  | @agg l l' h hw ih =>
    intro v hv
    simp only [Ah] at hv ⊢
    obtain ⟨vs,e,hl⟩:=hv
    refine ⟨vs,e,At.Ic (by rw [← h]; exact hl.length) fun j d v hd hv=>?_⟩
    have hlt:j<l.length:=by rw [h]; exact (List.getElem?_eq_some_iff.1 hd).1
    obtain ⟨u,hu,hr⟩:=hl.get j _ (Ah4 hlt)
    rw [hv] at hu; cases hu
    exact ih j _ d (Ah4 hlt) hd v hr
  | @tup l l' h hw ih =>
    intro v hv
    simp only [Ah] at hv ⊢
    obtain ⟨vs,e,hl⟩:=hv
    refine ⟨vs,e,At.Ic (by rw [← h]; exact hl.length) fun j d v hd hv=>?_⟩
    have hlt:j<l.length:=by rw [h]; exact (List.getElem?_eq_some_iff.1 hd).1
    obtain ⟨u,hu,hr⟩:=hl.get j _ (Ah4 hlt)
    rw [hv] at hu; cases hu
    exact ih j _ d (Ah4 hlt) hd v hr
theorem K8.weak {P:Program} {f:FuncId} {args:List DV} {out out':DV} (h:K8 P f args out) {drops:List Nat} (hw:Wk drops out out'):K8 P f args out':=by
  intro w vals I hI hv
  refine (h w vals I hI hv).mono ?_
  rintro e w' ⟨v,own,he,hb,ho,hr⟩
  refine ⟨v,Fp drops own,he,hb,⟨fun i b hi=>ho.lt i b (H8 hi).1,fun i j b hi hj=>ho.inj i j b (H8 hi).1 (H8 hj).1⟩,hw.rel ho v hr⟩
theorem K8.args {P:Program} {f:FuncId} {args args':List DV} {out:DV} (h:K8 P f args out) (ha:∀ c w vs,At c w args' vs→At c w args vs):K8 P f args' out :=
  fun w vals I hI hv=>h w vals I hI (ha _ _ _ hv)
theorem Qj {P:Program} {E:Env} (he:Hb P E) {f:FuncId} {fn:Func} {body:Code} (hf:P.funcs[f]?=some fn) (hb:fn.body=some body) {ts:List AT} {pre:List Atom→Bool} {out:List Atom→DV}
    (h:∀ as ds,Er ts as ds→pre as=true→∃ fuel d drops,Bo E fuel fn body ds=some d∧Wk drops d (out as)):Ss P f (entry ts pre out):=by
  intro args ha
  simp only [entry] at ha ⊢
  cases hd:Jb ts args with
  | none=>rw [hd] at ha; cases ha
  | some as =>
    rw [hd] at ha
    simp only at ha ⊢
    obtain ⟨ds,h1,h2⟩:=Jp hd
    obtain ⟨fuel,d,drops,h3,h4⟩:=h as ds h1 ha
    exact ((fun_ok he hf hb h3).weak h4).args h2
end Go.Den
namespace Go.Den
structure Pt (β:Type) where
  b:Nat
  c:Code
  Kn:St→Option β
  Kx:Nat→St→Option β
  Kr:St→Option β
def descend {β:Type} (E:Env) (n:Nat):List Nat→List Nat→Nat→Code→(St→Option β)→(Nat→St→Option β)→(St→Option β)→Pt β
  | 0::p,ms,b,.seq x y,Kn,Kx,Kr=>descend E n p ms b x (fun st'=>den E n b y st' Kn Kx Kr) Kx Kr
  | _::p,ms,b,.seq _ y,Kn,Kx,Kr=>descend E n p ms b y Kn Kx Kr
  | 0::p,ms,b,.cond _ x _,Kn,Kx,Kr=>descend E n p ms b x Kn Kx Kr
  | _::p,ms,b,.cond _ _ y,Kn,Kx,Kr=>descend E n p ms b y Kn Kx Kr
  | _::p,ms,_,.block id c,Kn,Kx,Kr=>descend E n p ms id c Kn (fun id' st'=>bif id'==id then Kn st' else Kx id' st') Kr
  | _::p,ms,b,.scope c,Kn,Kx,Kr=>descend E n p ms b c Kn Kx Kr
  | _::p,m::ms,b,.loop c,_,Kx,Kr=>descend E n p ms b c (fun st2=>match canon (E.hint b) st2 with | some st3=>Sa (E.hint b) (den E n b c) m st3 Kx Kr | none=>none) Kx Kr
  | _,_,b,c,Kn,Kx,Kr=>⟨b,c,Kn,Kx,Kr⟩
def cutAt (E:Env) (n:Nat) (fn:Func) (body:Code) (p ms:List Nat) (st:St):Option DV :=
  match descend E n p ms 0 body (fun st=>Sw E fn st) (fun _ _=>none) (fun st=>Sw E fn st) with
  | ⟨b,.seq (.region _ ops draw) y,Kn,Kx,Kr⟩=>Ui (Wo E ops draw (fun st'=>den E n b y st' Kn Kx Kr)) st
  | ⟨_,.region _ ops draw,Kn,_,_⟩=>Ui (Wo E ops draw Kn) st
  | _=>none
def Aeo (E:Env) (n:Nat) (fn:Func) (body:Code) (p ms:List Nat) (st:St):Option DV :=
  match descend E n p ms 0 body (fun st=>Sw E fn st) (fun _ _=>none) (fun st=>Sw E fn st) with
  | ⟨b,.seq (.region _ ops draw) y,Kn,Kx,Kr⟩=>Wo E ops draw (fun st'=>den E n b y st' Kn Kx Kr) st
  | ⟨_,.region _ ops draw,Kn,_,_⟩=>Wo E ops draw Kn st
  | _=>none
theorem En (E:Env) (n:Nat) (fn:Func) (body:Code) (p ms:List Nat) (st:St):cutAt E n fn body p ms st=Aeo E n fn body p ms st:=by
  unfold cutAt Aeo
  split<;>simp only [Td]
def B3 (E:Env) (n:Nat) (fn:Func) (body:Code) (p ms:List Nat) (m:Nat) (st:St):Option DV :=
  match descend E n p ms 0 body (fun st=>Sw E fn st) (fun _ _=>none) (fun st=>Sw E fn st) with
  | ⟨b,.loop c,_,Kx,Kr⟩=>Sa (E.hint b) (den E n b c) m st Kx Kr
  | _=>none
def atL (i:Nat):List (Nat × DV)→DV
  | []=>.undef
  | (j,d)::l=>bif Nat.beq i j then d else atL i l
def mkTF (l:List (Nat × DV)):Nat→Nat→List DV
  | 0,_=>[]
  | k+1,i=>atL i l::mkTF l k (i+1)
def Gy (n:Nat) (l:List (Nat × DV)):List DV:=mkTF l n 0
end Go.Den
namespace Go.Den
open Go.RowKit (Below)
def Ab (x:Int):Int:=IntKind.i64.wrap x
def Bx (x:Int):Int:=IntKind.u64.wrap x
def Eo (k:IntKind) (x y:Int):Int:=k.wrap (BitVec.ofInt k.bits x &&& BitVec.ofInt k.bits y).toNat
def Gd (k:IntKind) (x y:Int):Int:=k.wrap (BitVec.ofInt k.bits x ||| BitVec.ofInt k.bits y).toNat
def Ahe (k:IntKind) (x y:Int):Int:=k.wrap (BitVec.ofInt k.bits x ^^^ BitVec.ofInt k.bits y).toNat
def K4 (k:IntKind) (x y:Int):Int:=k.wrap (BitVec.ofInt k.bits x &&& ~~~(BitVec.ofInt k.bits y)).toNat
def Be (k:IntKind) (x y:Int):Int:=k.wrap (x*2^(min y.toNat k.bits))
def Cf (k:IntKind) (x y:Int):Int:=x.fdiv (2^(min y.toNat k.bits))
def Dd (p:Prop):Bool:=@decide p (Classical.propDecidable p)
theorem Ar {p:Prop}:Dd p=true↔p:=by unfold Dd; exact @decide_eq_true_iff p (Classical.propDecidable p)
def An (f:Func):Code:=f.body.getD .skip
def A6:List (Nat × Entry)→Nat→Option Entry
  | [],_=>none
  | (m,e)::l,n=>bif Nat.beq m n then some e else A6 l n
def Acl:List (Nat × TI)→Nat→Option TI
  | [],_=>none
  | (m,e)::l,n=>bif Nat.beq m n then some e else Acl l n
theorem ifT {α:Type} {R:Bool} {A A' B:α} (h:R=true) (ha:A=A'):(bif R then A else B)=A':=by rw [h,ha]; rfl
theorem Am {α:Type} {R:Bool} {A A':Option α} (h:R=true) (ha:A=A'):(bif R then A else none)=A':=ifT h ha
theorem Dp {α:Type} {R S:Bool} {A A' B B':α} (h:R=S) (ha:A=A') (hb:B=B'):(bif R then A else B)=bif S then A' else B':=by rw [h,ha,hb]
theorem Ew {α:Type} {R:Bool} {A A' B B':α} (ha:A=A') (hb:B=B'):(bif R then A else B)=bif R then A' else B':=by rw [ha,hb]
structure A4 (P:Program) (g:FuncId) (e:Entry):Prop where
  meets:Ss P g e
  call:∀ (args:Array Value) (w:World),(callFunc g args).run P w=.ok (.enter g args) w
inductive Av (P:Program):List (Nat × Entry)→Prop
  | nil:Av P []
  | cons {g e l}:A4 P g e→Av P l→Av P ((g,e)::l)
theorem Av.get {P:Program} {l:List (Nat × Entry)} (h:Av P l) {g:Nat} {e:Entry} (hg:A6 l g=some e):A4 P g e:=by
  induction h with
  | nil=>cases hg
  | @cons g' e' l h1 h2 ih =>
    simp only [A6] at hg
    cases hb:Nat.beq g' g with
    | true =>
      rw [hb] at hg
      simp only [Ahn,Ahq] at hg
      have:=Ah5 hb
      subst this hg
      exact h1
    | false=>rw [hb] at hg; exact ih hg
theorem N5 {P:Program} {f:FuncId} {fn:Func} {body:Code} (hf:P.funcs[f]?=some fn) (hn:(fn.name== "runtime.NumGoroutine")=false) (hb:fn.body=some body) (args:Array Value) (w:World) :
    (callFunc f args).run P w=.ok (.enter f args) w:=by
  have h1:fn.name≠ "runtime.NumGoroutine":=by simpa using hn
  simp [callFunc,hf,h1,hb]
inductive Ms (P:Program):List (Nat × TI)→Prop
  | nil:Ms P []
  | cons {t ti l}:Br P t ti→Ms P l→Ms P ((t,ti)::l)
theorem Ms.get {P:Program} {l:List (Nat × TI)} (h:Ms P l) {t:Nat} {ti:TI} (hg:Acl l t=some ti):Br P t ti:=by
  induction h with
  | nil=>cases hg
  | @cons t' ti' l h1 h2 ih =>
    simp only [Acl] at hg
    cases hb:Nat.beq t' t with
    | true =>
      rw [hb] at hg
      simp only [Ahn,Ahq] at hg
      have:=Ah5 hb
      subst this hg
      exact h1
    | false=>rw [hb] at hg; exact ih hg
theorem Co {P:Program} {t:TypeId} {ti:TI} {z:Value} (h:(P.info? t).map (fun i=>(i.zero,i.size,i.bytes))=some (some z,ti.size,ti.bytes)) (hz:Vs ti.zero z.cells.toList) (hs:z.cells.size=ti.size)
    (h1:∀ u∈z.cells.toList,u.oneCell'=true) (hd:B4 P t ti.kind):Br P t ti:=by
  cases hi:P.info? t with
  | none=>rw [hi] at h; cases h
  | some i =>
    rw [hi] at h
    simp only [Option.map_some,Ahq,Ahw] at h
    exact ⟨⟨i,z,hi,h.2.1,h.2.2,h.1,hz,hs,h1⟩,hd⟩
def Aa2 (ts:List AT) (pre:List Atom→Bool) (out:List Atom→DV) (mu:List Atom→Nat) (n:Nat):Entry:=entry ts (fun as=>pre as&&Dd (mu as<n)) out
theorem Ym {P:Program} {E:Nat→Env} {f:FuncId} {fn:Func} {body:Code} (hf:P.funcs[f]?=some fn) (hb:fn.body=some body) {ts:List AT} {pre:List Atom→Bool} {out:List Atom→DV} (mu:List Atom→Nat)
    (he:∀ n,Ss P f (Aa2 ts pre out mu n)→Hb P (E n))
    (h:∀ n as ds,Er ts as ds→pre as=true→mu as<n+1→∃ fuel d drops,Bo (E n) fuel fn body ds=some d∧Wk drops d (out as)):Ss P f (entry ts pre out):=by
  have key:∀ n,Ss P f (Aa2 ts pre out mu n):=by
    intro n
    induction n with
    | zero =>
      intro args ha
      simp only [Aa2,entry] at ha
      split at ha
      · simp only [Ahy,Ar] at ha; omega
      · cases ha
    | succ n ih =>
      refine Qj (he n ih) hf hb fun as ds hd hp=>?_
      simp only [Ahy,Ar] at hp
      exact h n as ds hd hp.1 hp.2
  intro args ha
  simp only [entry] at ha
  cases hd:Jb ts args with
  | none=>rw [hd] at ha; cases ha
  | some as =>
    rw [hd] at ha
    have:=key (mu as+1) args (by simp only [Aa2,entry,hd,Ahy,Ar]; exact ⟨ha,Nat.lt_succ_self _⟩)
    simp only [Aa2,entry] at this ⊢
    exact this
theorem Io {P:Program} (w:World) {t:TypeId} {ti:TI} (hf:Br P t ti) (ha:ti.agg=false) {xs:Array Value} {i:Nat} {v:Value} (hv:xs[i]?=some v):(part t xs i).run P w=.ok v w:=by
  simp [part,hf.Oj w,ha,hv]
theorem Ri {z:Bool} {l m:List DV} (h:sameShape (.bool z::l) m=true):∃ b m',m=.bool b::m'∧sameShape l m'=true:=by
  cases m with
  | nil=>simp [sameShape] at h
  | cons d m'=>cases d<;>simp [sameShape] at h; exact ⟨_,_,rfl,h⟩
theorem Gu {k:IntKind} {z:Int} {l m:List DV} (h:sameShape (.int k z::l) m=true):∃ b m',m=.int k b::m'∧sameShape l m'=true:=by
  cases m with
  | nil=>simp [sameShape] at h
  | cons d m'=>cases d<;>simp [sameShape] at h; obtain ⟨rfl,h⟩:=h; exact ⟨_,_,rfl,h⟩
theorem Mh {m:List DV} (h:sameShape [] m=true):m=[]:=by
  cases m with
  | nil=>rfl
  | cons d m'=>cases d<;>simp [sameShape] at h
theorem calls_true {P:Program} {g:FuncId} {e:Entry} (h:A4 P g e) {vals:Array Value} {w:World} {args:List DV} {I:Nat→Prop} (hI:∀ b,I b→b<w.heap.size) (ha:At (G7 I) w args vals.toList)
    (hp:e.pre args=true) (ho:e.out args=.bool true):Calls P g vals w fun e w'=>e=.returned (.bool true)∧Below w.heap.size w w':=by
  refine (h.meets args hp w vals I hI ha).mono ?_
  rintro e w' ⟨v,own,he,hb,_,hv⟩
  rw [ho] at hv
  simp only [Ah] at hv
  subst hv
  exact ⟨he,hb⟩
end Go.Den
namespace Go.Den
open Go.RowKit (Below)
end Go.Den
namespace Go.Den
def altE (ts:List AT) (e1 e2:Entry):Entry where
  pre:=fun args=>match Jb ts args with
    | some _=>e1.pre args
    | none=>e2.pre args
  out:=fun args=>match Jb ts args with
    | some _=>e1.out args
    | none=>e2.out args
theorem A4.alt {P:Program} {g:FuncId} {ts:List AT} {e1 e2:Entry} (h1:A4 P g e1) (h2:A4 P g e2):A4 P g (altE ts e1 e2):=by
  refine ⟨fun args ha=>?_,h1.call⟩
  simp only [altE] at ha ⊢
  cases hd:Jb ts args with
  | none=>rw [hd] at ha; exact h2.meets args ha
  | some x=>rw [hd] at ha; exact h1.meets args ha
theorem A4.weak {P:Program} {g:FuncId} {ts:List AT} {pre pre':List Atom→Bool} {out out':List Atom→DV} (h:A4 P g (entry ts pre out)) (drops:List Nat)
    (hw:∀ ats,pre' ats=true→pre ats=true∧Wk drops (out ats) (out' ats)):A4 P g (entry ts pre' out'):=by
  refine ⟨fun args ha=>?_,h.call⟩
  simp only [entry] at ha ⊢
  cases hd:Jb ts args with
  | none=>rw [hd] at ha; cases ha
  | some x =>
    rw [hd] at ha
    have:=h.meets args (by simp only [entry,hd]; exact (hw x ha).1)
    simp only [entry,hd] at this
    exact this.weak (hw x ha).2
end Go.Den
namespace Go.Den
def Aeq (K:List (List DV)→List DV→Prop):List DV→Prop
  | .recs .arg _ rows::ds=>K rows ds
  | _=>True
def Ig:Nat→List AT→(List Atom→List DV→Prop)→Prop
  | 0,_,_=>False
  | _+1,[],K=>K [] []
  | n+1,.b::ts,K=>∀ x:Bool,Ig n ts fun as ds=>K (.b x::as) (.bool x::ds)
  | n+1,.i k::ts,K=>∀ x:Int,Ig n ts fun as ds=>K (.i x::as) (.int k x::ds)
  | n+1,.s k::ts,K=>∀ x:List Int,Ig n ts fun as ds=>K (.l x::as) (.ints .arg k x::ds)
  | n+1,.fl::ts,K=>∀ x:Nat,Ig n ts fun as ds=>K (.f x::as) (.fl x::ds)
  | n+1,.nb::ts,K=>∀ x:Nat,Ig n ts fun as ds=>K (.f x::as) (.nb x::ds)
  | n+1,.st l::ts,K=>Ig n l fun as cs=>Ig n ts fun bs ds=>K (as++bs) (.agg cs::ds)
  | n+1,.fn g l::ts,K=>Ig n l fun as cs=>Ig n ts fun bs ds=>K (as++bs) (.fn g [] cs::ds)
  | n+1,.fm g l::ts,K=>Ig n l fun as cs=>Ig n ts fun bs ds=>K (as++bs) (.fn g cs []::ds)
  | n+1,.cp l::ts,K=>Ig n l fun as cs=>Ig n ts fun bs ds=>K (as++bs) (.cellp cs::ds)
  | n+1,.rs sz []::ts,K=>Ig n ts fun as ds=>K as (.recs .arg sz []::ds)
  | n+1,.rs sz (l::ls)::ts,K=>Ig n l fun as cs=>Ig n (.rs sz ls::ts) fun bs ds=>Aeq (fun rows ds=>K (as++bs) (.recs .arg sz (cs::rows)::ds)) ds
theorem Ig.go:∀ (n:Nat) {ts:List AT} {as:List Atom} {ds:List DV} {K:List Atom→List DV→Prop},Ig n ts K→Er ts as ds→K as ds:=by
  intro n
  induction n with
  | zero=>intro ts as ds K h _; exact h.elim
  | succ n ih =>
    intro ts as ds K h e
    cases e with
    | nil=>exact h
    | b x e=>exact ih (K:=fun as ds=>K (.b x::as) (.bool x::ds)) (h x) e
    | i k x e=>exact ih (K:=fun as ds=>K (.i x::as) (.int k x::ds)) (h x) e
    | s k x e=>exact ih (K:=fun as ds=>K (.l x::as) (.ints .arg k x::ds)) (h x) e
    | fl x e=>exact ih (K:=fun as ds=>K (.f x::as) (.fl x::ds)) (h x) e
    | nb x e=>exact ih (K:=fun as ds=>K (.f x::as) (.nb x::ds)) (h x) e
    | @st _ _ a c _ _ e1 e2=>exact ih (K:=fun bs ds=>K (a++bs) (.agg c::ds)) (ih (K:=fun as cs=>Ig n _ fun bs ds=>K (as++bs) (.agg cs::ds)) h e1) e2
    | @fn g _ _ a c _ _ e1 e2=>exact ih (K:=fun bs ds=>K (a++bs) (.fn g [] c::ds)) (ih (K:=fun as cs=>Ig n _ fun bs ds=>K (as++bs) (.fn g [] cs::ds)) h e1) e2
    | @fm g _ _ a c _ _ e1 e2=>exact ih (K:=fun bs ds=>K (a++bs) (.fn g c []::ds)) (ih (K:=fun as cs=>Ig n _ fun bs ds=>K (as++bs) (.fn g cs []::ds)) h e1) e2
    | @cp _ _ a c _ _ e1 e2=>exact ih (K:=fun bs ds=>K (a++bs) (.cellp c::ds)) (ih (K:=fun as cs=>Ig n _ fun bs ds=>K (as++bs) (.cellp cs::ds)) h e1) e2
    | rs0 e=>exact ih (K:=fun as ds=>K as (.recs .arg _ []::ds)) h e
    | @rs1 sz _ _ _ a c _ _ _ e1 e2 =>
      have:=ih (K:=fun bs ds=>Aeq (fun rows ds=>K (a++bs) (.recs .arg sz (c::rows)::ds)) ds) (ih (K:=fun as cs=>Ig n _ fun bs ds=>Aeq (fun rows ds=>K (as++bs) (.recs .arg sz (cs::rows)::ds)) ds) h e1) e2
      exact this
abbrev Bd (E:Env) (fn:Func) (ds:List DV) (out:DV):Prop:=∃ N dv drops,Bo E N fn (An fn) ds=some dv∧Wk drops dv out
theorem Aj {P:Program} {E:Env} (he:Hb P E) {f:FuncId} {fn:Func} (hf:P.funcs[f]?=some fn) (hb:fn.body=some (An fn)) (hn:(fn.name== "runtime.NumGoroutine")=false) {ts:List AT} {pre:List Atom→Bool} {out:List Atom→DV}
    (h:Ig 40 ts fun as ds=>pre as=true→Bd E fn ds (out as)):A4 P f (entry ts pre out) :=
  ⟨Qj he hf hb fun _ _ e hp=>Ig.go 40 h e hp,N5 hf hn hb⟩
end Go.Den
namespace Go.Den
theorem Ak {x:Int} (h1:-9223372036854775808≤x) (h2:x≤9223372036854775807):Ab x=x:=Go.IntWalk.i64_in x ⟨h1,h2⟩
theorem Ob (x:Int):Bx x=x%18446744073709551616:=by unfold Bx IntKind.wrap; simp [IntKind.bits,IntKind.signed]
theorem Gf {x:Int} (h1:0≤x) (h2:x<18446744073709551616):Bx x=x:=by rw [Ob]; omega
theorem Ahf (k:IntKind) (x y:Int):Cf k x y=x / 2^(min y.toNat k.bits):=by
  unfold Cf
  exact Int.fdiv_eq_ediv_of_nonneg _ (Int.le_of_lt (Int.pow_pos (by decide)))
theorem Fi (k:IntKind) (n s:Nat) (h:s≤k.bits):Cf k n s=((n / 2^s:Nat):Int):=by
  rw [Ahf,Ahp,Nat.min_eq_left h]
  push_cast
  rfl
theorem D0 (n s:Nat) (h:s≤64):Be .u64 n s=((n*2^s%2^64:Nat):Int):=by
  unfold Be
  rw [Ahp,show IntKind.u64.bits=64 from rfl,Nat.min_eq_left h]
  show Bx _=_
  rw [Ob]
  show _=((n*2^s%18446744073709551616:Nat):Int)
  rw [Int.natCast_emod,Ah8,Int.natCast_pow]
  rfl
theorem Gv (b n:Nat):(BitVec.ofInt b n).toNat=n%2^b:=by
  rw [BitVec.toNat_ofInt]
  rw [show ((n:Int)%(2^b:Nat))=((n%2^b:Nat):Int) by push_cast; rfl,Ahp]
theorem Qy {n:Nat} (h:n<2^64):IntKind.u64.wrap n=n:=by
  show Bx _=_
  rw [Ob]
  omega
theorem Aex {a b:Nat} (ha:a<2^64) (hb:b<2^64):Eo .u64 a b=((a &&& b:Nat):Int):=by
  unfold Eo
  rw [BitVec.toNat_and,Gv,Gv,show IntKind.u64.bits=64 from rfl,Ah0 ha,Ah0 hb]
  exact Qy (Nat.lt_of_le_of_lt Nat.and_le_left ha)
theorem Vm {a b:Nat} (ha:a<2^64) (hb:b<2^64):Gd .u64 a b=((a ||| b:Nat):Int):=by
  unfold Gd
  rw [BitVec.toNat_or,Gv,Gv,show IntKind.u64.bits=64 from rfl,Ah0 ha,Ah0 hb]
  exact Qy (Nat.or_lt_two_pow ha hb)
theorem Aew {a b:Nat} (ha:a<2^64) (hb:b<2^64):Ahe .u64 a b=((a ^^^ b:Nat):Int):=by
  unfold Ahe
  rw [BitVec.toNat_xor,Gv,Gv,show IntKind.u64.bits=64 from rfl,Ah0 ha,Ah0 hb]
  exact Qy (Nat.xor_lt_two_pow ha hb)
theorem F7 {a:Nat} (k:Nat) (ha:a<2^64) (hk:k≤64):Eo .u64 a ((2^k-1:Nat):Int)=((a%2^k:Nat):Int):=by
  rw [Aex ha (by have:=Ah2 (n:=2) (by decide) hk; have:=Nat.pow_pos (a:=2) (n:=k) (by decide); omega),Nat.and_two_pow_sub_one_eq_mod]
theorem Ov {a b k:Nat} (hb:b<2^k):b ||| (a*2^k)=a*2^k+b:=by
  rw [Nat.or_comm,Nat.mul_comm,Nat.two_pow_add_eq_or_of_lt hb]
theorem Ab4 {a b k:Nat} (hb:b<2^k) (h:a*2^k+b<2^64):Gd .u64 b ((a*2^k:Nat):Int)=((a*2^k+b:Nat):Int):=by
  rw [Vm (by omega) (by omega),Ov hb]
theorem Jd {a b k:Nat} (hb:b<2^k) (h:a*2^k+b<2^64):Gd .u64 ((a*2^k:Nat):Int) b=((a*2^k+b:Nat):Int):=by
  rw [Vm (by omega) (by omega),Nat.or_comm,Ov hb]
theorem Rc {r:Nat} (hr:r<2^63):(2^63+r) ^^^ 2^63=r∧r ^^^ 2^63=2^63+r:=by
  have e2:=Nat.two_pow_add_eq_or_of_lt hr 1
  rw [Nat.mul_one] at e2
  have a1:r ^^^ 2^63=2^63+r:=by
    rw [e2]
    apply Nat.eq_of_testBit_eq
    intro i
    rw [Nat.testBit_xor,Nat.testBit_or,Nat.testBit_two_pow]
    by_cases hi:63=i
    · subst hi
      rw [Nat.testBit_lt_two_pow hr]; simp
    · simp [hi]
  refine ⟨?_,a1⟩
  rw [← a1,Nat.xor_assoc,Nat.xor_self,Nat.xor_zero]
theorem Afc {a:Nat} (ha:a<2^64):a ^^^ 2^63=if 2^63≤a then a-2^63 else a+2^63:=by
  by_cases h:2^63≤a
  · rw [if_pos h]
    obtain ⟨r,rfl⟩:∃ r,a=2^63+r:=⟨a-2^63,by omega⟩
    rw [(Rc (by omega)).1]; omega
  · rw [if_neg h,(Rc (by omega)).2]; omega
def Ag (x:Int):Bool:=Dd (0≤x∧x<18446744073709551616)
theorem Bj {x:Int} (h:Ag x=true):∃ n:Nat,x=n∧n<2^64:=by
  unfold Ag at h
  rw [Ar] at h
  exact ⟨x.toNat,by omega,by omega⟩
theorem Bl {n:Nat} (h:n<2^64):Ag n=true:=by
  unfold Ag
  rw [Ar]
  omega
inductive WkL (drops:List Nat):List DV→List DV→Prop
  | nil:WkL drops [] []
  | cons {d d' l l'}:Wk drops d d'→WkL drops l l'→WkL drops (d::l) (d'::l')
theorem WkL.length {drops:List Nat} {l l':List DV} (h:WkL drops l l'):l.length=l'.length:=by
  induction h with
  | nil=>rfl
  | cons _ _ ih=>simp [ih]
theorem WkL.get {drops:List Nat} {l l':List DV} (h:WkL drops l l'):∀ (j:Nat) d d',l[j]?=some d→l'[j]?=some d'→Wk drops d d':=by
  induction h with
  | nil=>intro j d d' h; cases h
  | cons h1 _ ih =>
    intro j d d' h2 h3
    cases j with
    | zero=>cases h2; cases h3; exact h1
    | succ j=>exact ih j d d' h2 h3
theorem Wk.Hr {drops:List Nat} {l l':List DV} (h:WkL drops l l'):Wk drops (.agg l) (.agg l'):=.agg h.length h.get
theorem Wk.Fl {drops:List Nat} {l l':List DV} (h:WkL drops l l'):Wk drops (.tup l) (.tup l'):=.tup h.length h.get
theorem Wk.bool {drops:List Nat} {b:Bool}:Wk drops (.bool b) (.bool b):=.refl rfl (by intros; simp) (by intros; simp)
theorem Wk.int {drops:List Nat} {k:IntKind} {x:Int}:Wk drops (.int k x) (.int k x):=.refl rfl (by intros; simp) (by intros; simp)
theorem Wk.fl {drops:List Nat} {x:Nat}:Wk drops (.fl x) (.fl x):=.refl rfl (by intros; simp) (by intros; simp)
theorem Wk.nb {drops:List Nat} {x:Nat}:Wk drops (.nb x) (.nb x):=.refl rfl (by intros; simp) (by intros; simp)
theorem Wk.Xn {drops:List Nat} {k:IntKind} {l:List Int}:Wk drops (.ints .arg k l) (.ints .arg k l):=.refl rfl (by intros; simp) (by intros; simp)
theorem Wk.Ly {drops:List Nat} {k:IntKind} {l:List Int}:Wk drops (.ints .fresh k l) (.ints .fresh k l):=.refl rfl (by intros; simp) (by intros; simp)
theorem Er.Zs {as:List Atom} {ds:List DV} (h:Er [] as ds):as=[]∧ds=[]:=by cases h; exact ⟨rfl,rfl⟩
theorem Er.b_inv {ts:List AT} {as:List Atom} {ds:List DV} (h:Er (.b::ts) as ds):∃ x as' ds',as=.b x::as'∧ds=.bool x::ds'∧Er ts as' ds':=by
  cases h with | b x h=>exact ⟨x,_,_,rfl,rfl,h⟩
theorem Er.Ad7 {k:IntKind} {ts:List AT} {as:List Atom} {ds:List DV} (h:Er (.i k::ts) as ds):∃ x as' ds',as=.i x::as'∧ds=.int k x::ds'∧Er ts as' ds':=by
  cases h with | i k x h=>exact ⟨x,_,_,rfl,rfl,h⟩
end Go.Den
end
