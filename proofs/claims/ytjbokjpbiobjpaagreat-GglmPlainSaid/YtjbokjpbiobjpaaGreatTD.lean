/- A verified evaluator of the program's form and its use for this seat: Den32, Den33, Den34, Den35, Den36, Den37, Den38, Bits. -/
import Derived.Test.YtjbokjpbiobjpaaGreatTC
import Derived.KernelRfl
import Derived.Laws.StructEq
import Derived.Laws.Externs
import Derived.ChangeKeysEq
import Derived.IntWalk
set_option linter.unusedVariables false
set_option linter.unusedSimpArgs false
noncomputable section
namespace Go.Den
open Go.RowKit (Below)
theorem Afg {S:Nat→Prop} {P:Program} {E:Env} (hty:∀ t ti,E.ty t=some ti→Bw P t ti) {I:Nat→Prop} {fn:Func} {st:St} {out:DV} (h:W0 E fn st=some out) {w w':World} {a:Act} (hh:Ey S I w.heap.size w st a w') :
    ∃ v own,(results fn a.tmps).run P w'=.ok v w'∧Below w.heap.size w w'∧Amg own w w'∧Aj (Dd I own w w') w' out v:=by
  obtain ⟨A,hA⟩:=hh
  unfold W0 at h
  cases hds:Qh E st fn.results.toList with
  | none=>simp [hds] at h
  | some ds =>
    rw [hds,Aus] at h
    obtain ⟨vs,hv,hr⟩:=Xm hty hA _ ds hds
    have hm:Mem I w.heap.size A st.heap w':=hA.mem fun n p fo _ hl=>hl
    have hone:Aj (Bi I w.heap.size A w') w' (Ajs ds) (Ajr vs):=by
      match ds,vs,hv with
      | [],vs,hv =>
        rw [A3.Fm] at hv; subst hv
        simp only [Aj,Ajs,Ajr]
        exact ⟨#[],rfl,by simp [A3]⟩
      | [d],vs,hv =>
        rw [A3.Ce] at hv
        obtain ⟨u,us,rfl,h1,h2⟩:=hv
        rw [A3.Fm] at h2; subst h2
        exact h1
      | d::d'::ds,vs,hv =>
        have hv':=hv
        rw [A3.Ce] at hv
        obtain ⟨u,us,rfl,h1,h2⟩:=hv
        rw [A3.Ce] at h2
        obtain ⟨u',us',rfl,h3,h4⟩:=h2
        simp only [Aj,Ajs,Ajr]
        exact ⟨_,rfl,by simpa using hv'⟩
    cases hrs:Fg st.heap 6 (Ajs ds) with
    | none=>rw [hrs] at h; cases h
    | some r =>
      obtain ⟨d,ns,os⟩:=r
      rw [hrs,Aus] at h
      simp only at h
      cases hc:(ns.all fun n=>!(os.contains n)) with
      | false=>rw [hc] at h; cases h
      | true =>
        rw [hc,Auk,Aun] at h
        subst h
        have hdis:∀ n∈ns,n ∉ os:=fun n hn hno=>by
          have:=List.all_eq_true.1 hc n hn
          simp [hno] at this
        refine ⟨_,Jo A os,Aba hr,hA.below,⟨fun i b hb=>?_,fun i j b hi hj=>?_⟩,Ajj hm hdis 6 _ _ _ ns os hrs (fun _ h=>h) (fun _ h=>h) hone⟩
        · obtain ⟨_,p,hp,hl,hpb⟩:=Mi hb
          exact hm.blkB i p b hp (by rw [hl]; simp) hpb
        · obtain ⟨_,p,hp,hl,hpb⟩:=Mi hi
          obtain ⟨_,q,hq,hl',hqb⟩:=Mi hj
          exact hm.inj i j p q b hp hq (by rw [hl]; simp) (by rw [hl']; simp) hpb hqb
theorem Arh {P:Program} {E:Env} (he:H7 P E) {fuel:Nat} {f:FuncId} {fn:Func} {body:Code} (hf:P.funcs[f]?=some fn) (hb:fn.body=some body) {args:List DV} {out:DV} (h:B0 E fuel fn body args=some out):Np P f args out:=by
  intro w vals I hI hv
  refine calls_of_wp hf hb ?_
  unfold B0 at h
  have hlen:args.length=vals.size:=by have:=hv.length; simpa using this
  have hh:Ey (fun _=>False) I w.heap.size w ⟨args++List.replicate (fn.ntmps-args.length) .undef,[]⟩ ⟨vals++Array.replicate (fn.ntmps-vals.size) undef,[]⟩ w:=by
    refine ⟨fun _=>none,rfl,by simp only [Array.size_append,Array.size_replicate,List.length_append,List.length_replicate]; omega,Below.refl _ _,Nat.le_refl _,hI,fun n p h=>(by cases h),fun n p b h=>(by cases h),fun n m p q b h=>(by cases h),fun t=>?_,fun b h=>h.elim⟩
    have hw:Iu (Is I) (Bi I w.heap.size (fun _=>none) w):=⟨fun b hb=>⟨hI b hb,.inl hb,fun n p h=>(by cases h)⟩,rfl,fun _=>rfl,fun _=>rfl⟩
    have hl:=A3.Et hw _ _ hv
    rcases Nat.lt_or_ge t args.length with hlt | hge
    · obtain ⟨v,h1,h2⟩:=hl.getD t hlt
      simp only [Auu,List.getElem?_append_left hlt] at h2 ⊢
      have hlt':t<vals.size:=by omega
      have e:(vals++Array.replicate (fn.ntmps-vals.size) undef).getD t undef=v:=by
        rw [Array.getD_eq_getD_getElem?,Array.getElem?_append_left hlt']
        rw [Array.getElem?_toList] at h1
        rw [h1]; rfl
      rw [e]; exact h2
    · rw [Auu,List.getElem?_append_right hge,List.getElem?_replicate]
      split<;>simp only [Option.getD_some,Option.getD_none,Aj]
  refine Oy he fuel out body 0 _ _ _ _ h _ _ hh _ (fun st a w' hk hh'=>?_) (fun id st a w' hk=>by cases hk) (fun st a w' hk hh'=>?_)
  · obtain ⟨v,own,h1,h2,h3,h4⟩:=Afg he.ty hk hh'
    have hd:a.defers=[]:=by obtain ⟨A,hA⟩:=hh'; exact hA.defers
    exact ⟨hd,v,h1,v,own,rfl,h2,h3,h4⟩
  · obtain ⟨v,own,h1,h2,h3,h4⟩:=Afg he.ty hk hh'
    have hd:a.defers=[]:=by obtain ⟨A,hA⟩:=hh'; exact hA.defers
    exact ⟨hd,v,h1,v,own,rfl,h2,h3,h4⟩
end Go.Den
namespace Go.Den
open Go.RowKit (Below)
inductive AT where
  | b
  | i (k:IntKind)
  | s (k:IntKind)
  | fl
  | nb
  | st (l:List AT)
  | fn (g:FuncId) (l:List AT)
  | fm (g:FuncId) (l:List AT)
  | cp (l:List AT)
  | rs (sz:Nat) (l:List (List AT))
inductive Atom where
  | b (x:Bool)
  | i (x:Int)
  | l (x:List Int)
  | f (x:Nat)
def Acq:AT→DV→Option Atom
  | .b,.bool x=>some (.b x)
  | .i k,.int k' x=>bif decide (k=k') then some (.i x) else none
  | .s _,.nil=>some (.l [])
  | .s k,.ints .arg k' l=>bif decide (k=k') then some (.l l) else none
  | .fl,.fl n=>some (.f n)
  | .nb,.nb n=>some (.f n)
  | _,_=>none
def Tb:List AT→List DV→Option (List Atom)
  | [],[]=>some []
  | t::ts,d::ds=>match Acq t d with
    | some a=>match Tb ts ds with
      | some as=>some (a::as)
      | none=>none
    | none=>none
  | _,_=>none
def Py:List AT→List DV→Option (List Atom)
  | [],[]=>some []
  | .cp l::ts,.cellp cs::ds=>match Tb l cs with
    | some as=>match Py ts ds with
      | some bs=>some (as++bs)
      | none=>none
    | none=>none
  | .st l::ts,.agg cs::ds=>match Tb l cs with
    | some as=>match Py ts ds with
      | some bs=>some (as++bs)
      | none=>none
    | none=>none
  | t::ts,d::ds=>match Acq t d with
    | some a=>match Py ts ds with
      | some bs=>some (a::bs)
      | none=>none
    | none=>none
  | _,_=>none
def Z7:List (List AT)→List (List DV)→Option (List Atom)
  | [],[]=>some []
  | l::ls,cs::rows=>match Tb l cs with
    | some as=>match Z7 ls rows with
      | some bs=>some (as++bs)
      | none=>none
    | none=>none
  | _,_=>none
def Lb:List AT→List DV→Option (List Atom)
  | [],[]=>some []
  | .rs sz ls::ts,.recs .arg sz' rows::ds=>bif Nat.beq sz sz' then
      match Z7 ls rows with
      | some as=>match Lb ts ds with
        | some bs=>some (as++bs)
        | none=>none
      | none=>none
    else none
  | .fm g l::ts,.fn g' fs []::ds=>bif Nat.beq g g' then
      match Py l fs with
      | some as=>match Lb ts ds with
        | some bs=>some (as++bs)
        | none=>none
      | none=>none
    else none
  | .fn g l::ts,.fn g' [] cs::ds=>bif Nat.beq g g' then
      match Py l cs with
      | some as=>match Lb ts ds with
        | some bs=>some (as++bs)
        | none=>none
      | none=>none
    else none
  | .cp l::ts,.cellp cs::ds=>match Py l cs with
    | some as=>match Lb ts ds with
      | some bs=>some (as++bs)
      | none=>none
    | none=>none
  | .st l::ts,.agg cs::ds=>match Py l cs with
    | some as=>match Lb ts ds with
      | some bs=>some (as++bs)
      | none=>none
    | none=>none
  | t::ts,d::ds=>match Acq t d with
    | some a=>match Lb ts ds with
      | some bs=>some (a::bs)
      | none=>none
    | none=>none
  | _,_=>none
inductive Ez:List AT→List Atom→List DV→Prop
  | nil:Ez [] [] []
  | b {ts as ds} (x:Bool):Ez ts as ds→Ez (.b::ts) (.b x::as) (.bool x::ds)
  | i {ts as ds} (k:IntKind) (x:Int):Ez ts as ds→Ez (.i k::ts) (.i x::as) (.int k x::ds)
  | s {ts as ds} (k:IntKind) (x:List Int):Ez ts as ds→Ez (.s k::ts) (.l x::as) (.ints .arg k x::ds)
  | fl {ts as ds} (x:Nat):Ez ts as ds→Ez (.fl::ts) (.f x::as) (.fl x::ds)
  | nb {ts as ds} (x:Nat):Ez ts as ds→Ez (.nb::ts) (.f x::as) (.nb x::ds)
  | st {l ts as cs bs ds}:Ez l as cs→Ez ts bs ds→Ez (.st l::ts) (as++bs) (.agg cs::ds)
  | fn {g l ts as cs bs ds}:Ez l as cs→Ez ts bs ds→Ez (.fn g l::ts) (as++bs) (.fn g [] cs::ds)
  | fm {g l ts as cs bs ds}:Ez l as cs→Ez ts bs ds→Ez (.fm g l::ts) (as++bs) (.fn g cs []::ds)
  | cp {l ts as cs bs ds}:Ez l as cs→Ez ts bs ds→Ez (.cp l::ts) (as++bs) (.cellp cs::ds)
  | rs0 {sz ts bs ds}:Ez ts bs ds→Ez (.rs sz []::ts) bs (.recs .arg sz []::ds)
  | rs1 {sz l ls ts as cs bs rows ds}:Ez l as cs→Ez (.rs sz ls::ts) bs (.recs .arg sz rows::ds)→Ez (.rs sz (l::ls)::ts) (as++bs) (.recs .arg sz (cs::rows)::ds)
theorem Ajw {c:Ctx} {w:World} {k:IntKind} {v:Value} (h:Aj c w .nil v):Aj c w (.ints .arg k []) v:=by
  simp only [Aj] at h ⊢
  subst h
  exact ⟨none,0,rfl,Nat.le_refl _,.inl trivial⟩
theorem Z8 {t:AT} {d:DV} {a:Atom} (h:Acq t d=some a):∃ d',(∀ ts as ds,Ez ts as ds→Ez (t::ts) (a::as) (d'::ds))∧∀ c w v,Aj c w d v→Aj c w d' v:=by
  unfold Acq at h
  split at h
  · simp only [Aun] at h; subst h
    exact ⟨_,fun _ _ _ he=>.b _ he,fun _ _ _ h=>h⟩
  · rename_i k k' x
    by_cases e:k=k'
    · subst e
      simp only [decide_true,Auk,Aun] at h; subst h
      exact ⟨_,fun _ _ _ he=>.i _ _ he,fun _ _ _ h=>h⟩
    · simp [e] at h
  · rename_i k
    simp only [Aun] at h; subst h
    exact ⟨_,fun _ _ _ he=>.s k _ he,fun _ _ _ h=>Ajw h⟩
  · rename_i k k' x
    by_cases e:k=k'
    · subst e
      simp only [decide_true,Auk,Aun] at h; subst h
      exact ⟨_,fun _ _ _ he=>.s _ _ he,fun _ _ _ h=>h⟩
    · simp [e] at h
  · simp only [Aun] at h; subst h
    exact ⟨_,fun _ _ _ he=>.fl _ he,fun _ _ _ h=>h⟩
  · simp only [Aun] at h; subst h
    exact ⟨_,fun _ _ _ he=>.nb _ he,fun _ _ _ h=>h⟩
  · cases h
theorem Ut:∀ {ts:List AT} {ds:List DV} {as:List Atom},Tb ts ds=some as→∃ ds',Ez ts as ds'∧∀ c w vs,A3 c w ds vs→A3 c w ds' vs
  | [],[],as,h=>by
    simp only [Tb,Aun] at h; subst h
    exact ⟨[],.nil,fun _ _ _ h=>h⟩
  | t::ts,d::ds,as,h=>by
    simp only [Tb] at h
    cases h1:Acq t d with
    | none=>rw [h1] at h; cases h
    | some a =>
      cases h2:Tb ts ds with
      | none=>rw [h1,h2] at h; cases h
      | some bs =>
        rw [h1,h2] at h
        simp only [Aun] at h; subst h
        obtain ⟨d',i1,i2⟩:=Z8 h1
        obtain ⟨ds',j1,j2⟩:=Ut h2
        refine ⟨d'::ds',i1 _ _ _ j1,fun c w vs hv=>?_⟩
        rw [A3.Ce] at hv ⊢
        obtain ⟨u,us,e,hu,hus⟩:=hv
        exact ⟨u,us,e,i2 _ _ _ hu,j2 _ _ _ hus⟩
  | [],_::_,as,h=>by simp [Tb] at h
  | _::_,[],as,h=>by simp [Tb] at h
theorem Ng:∀ {ts:List AT} {ds:List DV} {as:List Atom},Py ts ds=some as→∃ ds',Ez ts as ds'∧∀ c w vs,A3 c w ds vs→A3 c w ds' vs
  | ts,ds,as,h=>by
    unfold Py at h
    split at h
    · simp only [Aun] at h; subst h
      exact ⟨[],.nil,fun _ _ _ h=>h⟩
    · rename_i l ts cs ds
      cases h1:Tb l cs with
      | none=>rw [h1] at h; cases h
      | some a =>
        cases h2:Py ts ds with
        | none=>rw [h1,h2] at h; cases h
        | some bs =>
          rw [h1,h2] at h
          simp only [Aun] at h; subst h
          obtain ⟨cs',i1,i2⟩:=Ut h1
          obtain ⟨ds',j1,j2⟩:=Ng h2
          refine ⟨.cellp cs'::ds',.cp i1 j1,fun c w vs hv=>?_⟩
          rw [A3.Ce] at hv ⊢
          obtain ⟨u,us,e,hu,hus⟩:=hv
          refine ⟨u,us,e,?_,j2 _ _ _ hus⟩
          simp only [Aj] at hu ⊢
          obtain ⟨b,o,vs,e,hb,hh,hc⟩:=hu
          exact ⟨b,o,vs,e,hb,i2 _ _ _ hh,hc⟩
    · rename_i l ts cs ds
      cases h1:Tb l cs with
      | none=>rw [h1] at h; cases h
      | some a =>
        cases h2:Py ts ds with
        | none=>rw [h1,h2] at h; cases h
        | some bs =>
          rw [h1,h2] at h
          simp only [Aun] at h; subst h
          obtain ⟨cs',i1,i2⟩:=Ut h1
          obtain ⟨ds',j1,j2⟩:=Ng h2
          refine ⟨.agg cs'::ds',.st i1 j1,fun c w vs hv=>?_⟩
          rw [A3.Ce] at hv ⊢
          obtain ⟨u,us,e,hu,hus⟩:=hv
          refine ⟨u,us,e,?_,j2 _ _ _ hus⟩
          simp only [Aj] at hu ⊢
          obtain ⟨vs,e,hh⟩:=hu
          exact ⟨vs,e,i2 _ _ _ hh⟩
    · rename_i t ts d ds _ _
      cases h1:Acq t d with
      | none=>rw [h1] at h; cases h
      | some a =>
        cases h2:Py ts ds with
        | none=>rw [h1,h2] at h; cases h
        | some bs =>
          rw [h1,h2] at h
          simp only [Aun] at h; subst h
          obtain ⟨d',i1,i2⟩:=Z8 h1
          obtain ⟨ds',j1,j2⟩:=Ng h2
          refine ⟨d'::ds',i1 _ _ _ j1,fun c w vs hv=>?_⟩
          rw [A3.Ce] at hv ⊢
          obtain ⟨u,us,e,hu,hus⟩:=hv
          exact ⟨u,us,e,i2 _ _ _ hu,j2 _ _ _ hus⟩
    · cases h
theorem Af3:∀ {ls:List (List AT)} {rows:List (List DV)} {as:List Atom},Z7 ls rows=some as →
    ∃ rows',(∀ sz ts bs ds,Ez ts bs ds→Ez (.rs sz ls::ts) (as++bs) (.recs .arg sz rows'::ds))∧rows'.length=rows.length∧∀ c w vs,Cp c w rows vs→Cp c w rows' vs
  | [],[],as,h=>by
    simp only [Z7,Aun] at h; subst h
    exact ⟨[],fun _ _ _ _ h=>.rs0 h,rfl,fun _ _ _ h=>h⟩
  | l::ls,cs::rows,as,h=>by
    simp only [Z7] at h
    cases h1:Tb l cs with
    | none=>rw [h1] at h; cases h
    | some a =>
      cases h2:Z7 ls rows with
      | none=>rw [h1,h2] at h; cases h
      | some bs =>
        rw [h1,h2] at h
        simp only [Aun] at h; subst h
        obtain ⟨cs',i1,i2⟩:=Ut h1
        obtain ⟨rows',j1,j2,j3⟩:=Af3 h2
        refine ⟨cs'::rows',fun sz ts b ds he=>?_,by simp [j2],fun c w vs hv=>?_⟩
        · rw [List.append_assoc]; exact .rs1 i1 (j1 _ _ _ _ he)
        · simp only [Cp] at hv ⊢
          obtain ⟨u,us,e,hu,hus⟩:=hv
          exact ⟨u,us,e,i2 _ _ _ hu,j3 _ _ _ hus⟩
  | [],_::_,as,h=>by simp [Z7] at h
  | _::_,[],as,h=>by simp [Z7] at h
theorem Lw:∀ {ts:List AT} {ds:List DV} {as:List Atom},Lb ts ds=some as→∃ ds',Ez ts as ds'∧∀ c w vs,A3 c w ds vs→A3 c w ds' vs
  | ts,ds,as,h=>by
    unfold Lb at h
    split at h
    · simp only [Aun] at h; subst h
      exact ⟨[],.nil,fun _ _ _ h=>h⟩
    · rename_i sz ls ts sz' rows ds
      cases hg:Nat.beq sz sz' with
      | false=>rw [hg] at h; cases h
      | true =>
      rw [hg,Auk] at h
      obtain rfl:=Au2 hg
      cases h1:Z7 ls rows with
      | none=>rw [h1] at h; cases h
      | some a =>
        cases h2:Lb ts ds with
        | none=>rw [h1,h2] at h; cases h
        | some bs =>
          rw [h1,h2] at h
          simp only [Aun] at h; subst h
          obtain ⟨rows',i1,i3,i2⟩:=Af3 h1
          obtain ⟨ds',j1,j2⟩:=Lw h2
          refine ⟨.recs .arg sz rows'::ds',i1 _ _ _ _ j1,fun c w vs hv=>?_⟩
          rw [A3.Ce] at hv ⊢
          obtain ⟨u,us,e,hu,hus⟩:=hv
          refine ⟨u,us,e,?_,j2 _ _ _ hus⟩
          simp only [Aj] at hu ⊢
          obtain ⟨a,cap,e,hc,hh⟩:=hu
          refine ⟨a,cap,by rw [i3]; exact e,by rw [i3]; exact hc,hh.imp (fun h=>?_) fun ⟨b,o,rs,e1,e2,e3,e4,e5⟩=>⟨b,o,rs,e1,e2,i2 _ _ _ e3,e4,e5⟩⟩
          rw [h] at i3
          exact List.eq_nil_of_length_eq_zero i3
    · rename_i g l ts g' cs ds
      cases hg:Nat.beq g g' with
      | false=>rw [hg] at h; cases h
      | true =>
      rw [hg,Auk] at h
      obtain rfl:=Au2 hg
      cases h1:Py l cs with
      | none=>rw [h1] at h; cases h
      | some a =>
        cases h2:Lb ts ds with
        | none=>rw [h1,h2] at h; cases h
        | some bs =>
          rw [h1,h2] at h
          simp only [Aun] at h; subst h
          obtain ⟨cs',i1,i2⟩:=Ng h1
          obtain ⟨ds',j1,j2⟩:=Lw h2
          refine ⟨.fn g cs' []::ds',.fm i1 j1,fun c w vs hv=>?_⟩
          rw [A3.Ce] at hv ⊢
          obtain ⟨u,us,e,hu,hus⟩:=hv
          refine ⟨u,us,e,?_,j2 _ _ _ hus⟩
          simp only [Aj] at hu ⊢
          obtain ⟨fs',vs,e,hf,hh⟩:=hu
          exact ⟨fs',vs,e,i2 _ _ _ hf,hh⟩
    · rename_i g l ts g' cs ds
      cases hg:Nat.beq g g' with
      | false=>rw [hg] at h; cases h
      | true =>
      rw [hg,Auk] at h
      obtain rfl:=Au2 hg
      cases h1:Py l cs with
      | none=>rw [h1] at h; cases h
      | some a =>
        cases h2:Lb ts ds with
        | none=>rw [h1,h2] at h; cases h
        | some bs =>
          rw [h1,h2] at h
          simp only [Aun] at h; subst h
          obtain ⟨cs',i1,i2⟩:=Ng h1
          obtain ⟨ds',j1,j2⟩:=Lw h2
          refine ⟨.fn g [] cs'::ds',.fn i1 j1,fun c w vs hv=>?_⟩
          rw [A3.Ce] at hv ⊢
          obtain ⟨u,us,e,hu,hus⟩:=hv
          refine ⟨u,us,e,?_,j2 _ _ _ hus⟩
          simp only [Aj] at hu ⊢
          obtain ⟨fs',vs,e,hf,hh⟩:=hu
          exact ⟨fs',vs,e,hf,i2 _ _ _ hh⟩
    · rename_i l ts cs ds
      cases h1:Py l cs with
      | none=>rw [h1] at h; cases h
      | some a =>
        cases h2:Lb ts ds with
        | none=>rw [h1,h2] at h; cases h
        | some bs =>
          rw [h1,h2] at h
          simp only [Aun] at h; subst h
          obtain ⟨cs',i1,i2⟩:=Ng h1
          obtain ⟨ds',j1,j2⟩:=Lw h2
          refine ⟨.cellp cs'::ds',.cp i1 j1,fun c w vs hv=>?_⟩
          rw [A3.Ce] at hv ⊢
          obtain ⟨u,us,e,hu,hus⟩:=hv
          refine ⟨u,us,e,?_,j2 _ _ _ hus⟩
          simp only [Aj] at hu ⊢
          obtain ⟨b,o,vs,e,hb,hh,hc⟩:=hu
          exact ⟨b,o,vs,e,hb,i2 _ _ _ hh,hc⟩
    · rename_i l ts cs ds
      cases h1:Py l cs with
      | none=>rw [h1] at h; cases h
      | some a =>
        cases h2:Lb ts ds with
        | none=>rw [h1,h2] at h; cases h
        | some bs =>
          rw [h1,h2] at h
          simp only [Aun] at h; subst h
          obtain ⟨cs',i1,i2⟩:=Ng h1
          obtain ⟨ds',j1,j2⟩:=Lw h2
          refine ⟨.agg cs'::ds',.st i1 j1,fun c w vs hv=>?_⟩
          rw [A3.Ce] at hv ⊢
          obtain ⟨u,us,e,hu,hus⟩:=hv
          refine ⟨u,us,e,?_,j2 _ _ _ hus⟩
          simp only [Aj] at hu ⊢
          obtain ⟨vs,e,hh⟩:=hu
          exact ⟨vs,e,i2 _ _ _ hh⟩
    · rename_i t ts d ds _ _ _ _ _
      cases h1:Acq t d with
      | none=>rw [h1] at h; cases h
      | some a =>
        cases h2:Lb ts ds with
        | none=>rw [h1,h2] at h; cases h
        | some bs =>
          rw [h1,h2] at h
          simp only [Aun] at h; subst h
          obtain ⟨d',i1,i2⟩:=Z8 h1
          obtain ⟨ds',j1,j2⟩:=Lw h2
          refine ⟨d'::ds',i1 _ _ _ j1,fun c w vs hv=>?_⟩
          rw [A3.Ce] at hv ⊢
          obtain ⟨u,us,e,hu,hus⟩:=hv
          exact ⟨u,us,e,i2 _ _ _ hu,j2 _ _ _ hus⟩
    · cases h
def entry (ts:List AT) (pre:List Atom→Bool) (out:List Atom→DV):Entry where
  pre:=fun args=>match Lb ts args with
    | some as=>pre as
    | none=>false
  out:=fun args=>match Lb ts args with
    | some as=>out as
    | none=>.undef
inductive Wk (drops:List Nat):DV→DV→Prop
  | refl {d:DV} (h:D8 1 [] d=true) (ho:∀ i e k l,d≠.ints (.own i e) k l) (hr:∀ i e k l,d≠.recs (.own i e) k l):Wk drops d d
  | nil (g:Ac1) (k:IntKind):Wk drops .nil (.ints g k [])
  | fresh (k:IntKind) (l:List Int):Wk drops (.ints .fresh k l) (.ints .arg k l)
  | keep (i:Nat) (e:TypeId) (k:IntKind) (l:List Int) (h:i ∉ drops):Wk drops (.ints (.own i e) k l) (.ints (.own i e) k l)
  | keepR (i:Nat) (e:TypeId) (sz:Nat) (l:List (List DV)) (h:i ∉ drops):Wk drops (.recs (.own i e) sz l) (.recs (.own i e) sz l)
  | nilR (g:Ac1) (sz:Nat):Wk drops .nil (.recs g sz [])
  | dropR (i:Nat) (e:TypeId) (sz:Nat) (l:List (List DV)) (h:i∈drops):Wk drops (.recs (.own i e) sz l) (.recs .fresh sz l)
  | drop (i:Nat) (e:TypeId) (k:IntKind) (l:List Int) (h:i∈drops):Wk drops (.ints (.own i e) k l) (.ints .fresh k l)
  | dropA (i:Nat) (e:TypeId) (k:IntKind) (l:List Int) (h:i∈drops):Wk drops (.ints (.own i e) k l) (.ints .arg k l)
  | agg {l l':List DV} (h:l.length=l'.length) (hw:∀ (j:Nat) d d',l[j]?=some d→l'[j]?=some d'→Wk drops d d'):Wk drops (.agg l) (.agg l')
  | tup {l l':List DV} (h:l.length=l'.length) (hw:∀ (j:Nat) d d',l[j]?=some d→l'[j]?=some d'→Wk drops d d'):Wk drops (.tup l) (.tup l')
def Gs (drops:List Nat) (own:Nat→Option Nat) (i:Nat):Option Nat:=if i∈drops then none else own i
theorem Jv {drops:List Nat} {own:Nat→Option Nat} {i b:Nat} (h:Gs drops own i=some b):own i=some b∧i ∉ drops:=by
  unfold Gs at h
  split at h
  · cases h
  · exact ⟨h,‹_›⟩
theorem P4 {w:World} {base:Nat} {e:TypeId} {k:IntKind} {l:List Int} {v:Value} (ho:w.ownsRow base e 1 v l.length (l.map (Value.int k))) {ok:Nat→Prop} (hok:∀ b,v.ownBlock=some b→ok b) :
    ∃ a cap,v=.slice a l.length cap∧l.length≤cap∧(l=[]∨∃ b o,a=some ⟨b,o,none⟩∧ok b∧∀ (i:Nat) n,l[i]?=some n→w.cell? ⟨b,o+i,none⟩=some (.int k n)):=by
  have:=I5 (p:=⟨.live,.row v 1⟩) rfl ho (E8 ho) (ok:=ok) hok
  simp only [List.drop_zero,List.take_length] at this
  exact this
theorem Wk.rel {drops:List Nat} {d d':DV} (h:Wk drops d d') {I:Nat→Prop} {own:Nat→Option Nat} {w w':World} (ho:Amg own w w'):∀ v,Aj (Dd I own w w') w' d v→Aj (Dd I (Gs drops own) w w') w' d' v:=by
  have hok:∀ b,(Dd I own w w').ok b→(Dd I (Gs drops own) w w').ok b:=by
    rintro b ⟨h1,h2,h3⟩
    exact ⟨h1,h2,fun i hi=>h3 i (Jv hi).1⟩
  have hblk:∀ i b,i∈drops→own i=some b→(Dd I (Gs drops own) w w').ok b∧w.heap.size≤b:=by
    intro i b hi hb
    obtain ⟨h1,h2⟩:=ho.lt i b hb
    refine ⟨⟨h2,.inr h1,fun j hj=>?_⟩,h1⟩
    obtain ⟨h3,h4⟩:=Jv hj
    rw [ho.inj j i b h3 hb] at h4
    exact h4 hi
  induction h with
  | @refl d h h1 h2 =>
    intro v hv
    have hl:Jy (({ Dd I own w w' with own:=fun _=>none }:Ctx).only []) w' (Dd I (Gs drops own) w w') w' :=
      ⟨hok,rfl,rfl,fun _ _ h=>(by cases h),fun n p hp=>(by simp [Ctx.only] at hp),fun _ _ _=>rfl,fun _ _ h=>(by cases h)⟩
    refine Aj.C1 hl d v (Za [] 1 d v h ?_)
    cases d with
    | ints g k l =>
      cases g with
      | own i e=>exact absurd rfl (h1 i e k l)
      | _=>simp only [Aj] at hv ⊢; exact hv
    | recs g k l =>
      cases g with
      | own i e=>exact absurd rfl (h2 i e k l)
      | _=>simp only [Aj] at hv ⊢; exact hv
    | agg l =>
      cases l with
      | nil=>simp only [Aj] at hv ⊢; simpa [A3] using hv
      | cons a l=>simp [D8] at h
    | tup l =>
      cases l with
      | nil=>simp only [Aj] at hv ⊢; simpa [A3] using hv
      | cons a l=>simp [D8] at h
    | fn g a c =>
      cases a with
      | cons _ _=>simp [D8] at h
      | nil =>
        cases c with
        | cons _ _=>simp [D8] at h
        | nil=>simp only [Aj] at hv ⊢; simpa [A3] using hv
    | gd c d=>simp [D8] at h
    | oref n=>simp [D8] at h
    | sref n o m=>simp [D8] at h
    | ptr n i j=>simp [D8] at h
    | undef=>simp only [Aj]
    | _=>simp only [Aj] at hv ⊢; exact hv
  | nil g k =>
    intro v hv
    simp only [Aj] at hv
    subst hv
    cases g with
    | own i e=>simp only [Aj]; exact ⟨World.ownsRow_nil w' _ e 1,fun b hb=>by cases hb⟩
    | _=>simp only [Aj]; exact ⟨none,0,rfl,Nat.le_refl _,.inl trivial⟩
  | nilR g sz =>
    intro v hv
    simp only [Aj] at hv
    subst hv
    cases g with
    | own i e=>simp only [Aj]; exact ⟨[],by simp [Cp],by simp,World.ownsRow_nil w' _ e sz,fun b hb=>by cases hb⟩
    | _=>simp only [Aj]; exact ⟨none,0,rfl,Nat.le_refl _,.inl trivial⟩
  | dropR i e sz l h =>
    intro v hv
    simp only [Aj] at hv ⊢
    obtain ⟨rows,h1,h2,h3,h4⟩:=hv
    have hr:=Cp.C1 (c:=(Dd I own w w').bare) (c':=(Dd I (Gs drops own) w w').bare) ⟨hok,rfl,rfl,fun _ _ h=>(by cases h),fun _ _ h=>(by cases h),fun _ _ _=>rfl,fun _ _ h=>(by cases h)⟩ _ _ h1
    have:=I4 (p:=⟨.live,.row v sz⟩) rfl hr h2 h3 (by have:=E8 h3; exact this) (ok:=fun b=>(Dd I (Gs drops own) w w').ok b∧w.heap.size≤b) (fun b hb=>hblk i b h (h4 b hb))
    simp only [List.drop_zero,List.take_length] at this
    obtain ⟨a,cap,e1,e2,e3⟩:=this
    exact ⟨a,cap,e1,e2,e3.imp id fun ⟨b,o,rows',e4,e5,e6,e7,e8⟩=>⟨b,o,rows',e4,⟨e5.1,rfl,e5.2⟩,e6,e7,e8⟩⟩
  | fresh k l =>
    intro v hv
    simp only [Aj] at hv ⊢
    obtain ⟨a,cap,e,h1,h2⟩:=hv
    exact ⟨a,cap,e,h1,h2.imp id fun ⟨b,o,h3,h4,h5⟩=>⟨b,o,h3,hok b h4.1,h5⟩⟩
  | keep i e k l h =>
    intro v hv
    simp only [Aj] at hv ⊢
    exact ⟨hv.1,fun b hb=>by show Gs drops own i=some b; unfold Gs; rw [if_neg h]; exact hv.2 b hb⟩
  | keepR i e sz l h =>
    intro v hv
    simp only [Aj] at hv ⊢
    obtain ⟨rows,h1,h2,h3,h4⟩:=hv
    refine ⟨rows,?_,h2,h3,fun b hb=>by show Gs drops own i=some b; unfold Gs; rw [if_neg h]; exact h4 b hb⟩
    exact Cp.C1 (c:=(Dd I own w w').bare) (c':=(Dd I (Gs drops own) w w').bare) ⟨hok,rfl,rfl,fun _ _ h=>(by cases h),fun _ _ h=>(by cases h),fun _ _ _=>rfl,fun _ _ h=>(by cases h)⟩ _ _ h1
  | drop i e k l h =>
    intro v hv
    simp only [Aj] at hv ⊢
    exact P4 hv.1 fun b hb=>⟨(hblk i b h (hv.2 b hb)).1,rfl,(hblk i b h (hv.2 b hb)).2⟩
  | dropA i e k l h =>
    intro v hv
    simp only [Aj] at hv ⊢
    exact P4 hv.1 fun b hb=>(hblk i b h (hv.2 b hb)).1
  | @agg l l' h hw ih =>
    intro v hv
    simp only [Aj] at hv ⊢
    obtain ⟨vs,e,hl⟩:=hv
    refine ⟨vs,e,A3.J3 (by rw [← h]; exact hl.length) fun j d v hd hv=>?_⟩
    have hlt:j<l.length:=by rw [h]; exact (List.getElem?_eq_some_iff.1 hd).1
    obtain ⟨u,hu,hr⟩:=hl.get j _ (Au1 hlt)
    rw [hv] at hu; cases hu
    exact ih j _ d (Au1 hlt) hd v hr
  | @tup l l' h hw ih =>
    intro v hv
    simp only [Aj] at hv ⊢
    obtain ⟨vs,e,hl⟩:=hv
    refine ⟨vs,e,A3.J3 (by rw [← h]; exact hl.length) fun j d v hd hv=>?_⟩
    have hlt:j<l.length:=by rw [h]; exact (List.getElem?_eq_some_iff.1 hd).1
    obtain ⟨u,hu,hr⟩:=hl.get j _ (Au1 hlt)
    rw [hv] at hu; cases hu
    exact ih j _ d (Au1 hlt) hd v hr
theorem Np.Apx {P:Program} {f:FuncId} {args:List DV} {out out':DV} (h:Np P f args out) {drops:List Nat} (hw:Wk drops out out'):Np P f args out':=by
  intro w vals I hI hv
  refine (h w vals I hI hv).mono ?_
  rintro e w' ⟨v,own,he,hb,ho,hr⟩
  refine ⟨v,Gs drops own,he,hb,⟨fun i b hi=>ho.lt i b (Jv hi).1,fun i j b hi hj=>ho.inj i j b (Jv hi).1 (Jv hj).1⟩,hw.rel ho v hr⟩
theorem Np.args {P:Program} {f:FuncId} {args args':List DV} {out:DV} (h:Np P f args out) (ha:∀ c w vs,A3 c w args' vs→A3 c w args vs):Np P f args' out :=
  fun w vals I hI hv=>h w vals I hI (ha _ _ _ hv)
theorem Oj {P:Program} {E:Env} (he:H7 P E) {f:FuncId} {fn:Func} {body:Code} (hf:P.funcs[f]?=some fn) (hb:fn.body=some body) {ts:List AT} {pre:List Atom→Bool} {out:List Atom→DV}
    (h:∀ as ds,Ez ts as ds→pre as=true→∃ fuel d drops,B0 E fuel fn body ds=some d∧Wk drops d (out as)):T5 P f (entry ts pre out):=by
  intro args ha
  simp only [entry] at ha ⊢
  cases hd:Lb ts args with
  | none=>rw [hd] at ha; cases ha
  | some as =>
    rw [hd] at ha
    simp only at ha ⊢
    obtain ⟨ds,h1,h2⟩:=Lw hd
    obtain ⟨fuel,d,drops,h3,h4⟩:=h as ds h1 ha
    exact ((Arh he hf hb h3).Apx h4).args h2
end Go.Den
namespace Go.Den
structure Pt (β:Type) where
  b:Nat
  c:Code
  Kn:St→Option β
  Kx:Nat→St→Option β
  Kr:St→Option β
def descend {β:Type} (E:Env) (n:Nat):List Nat→List Nat→Nat→Code→(St→Option β)→(Nat→St→Option β)→(St→Option β)→Pt β
  | 0::p,ms,b,.seq x y,Kn,Kx,Kr=>descend E n p ms b x (fun st'=>den E n b y st' Kn Kx Kr) Kx Kr
  | _::p,ms,b,.seq _ y,Kn,Kx,Kr=>descend E n p ms b y Kn Kx Kr
  | 0::p,ms,b,.cond _ x _,Kn,Kx,Kr=>descend E n p ms b x Kn Kx Kr
  | _::p,ms,b,.cond _ _ y,Kn,Kx,Kr=>descend E n p ms b y Kn Kx Kr
  | _::p,ms,_,.block id c,Kn,Kx,Kr=>descend E n p ms id c Kn (fun id' st'=>bif id'==id then Kn st' else Kx id' st') Kr
  | _::p,ms,b,.scope c,Kn,Kx,Kr=>descend E n p ms b c Kn Kx Kr
  | _::p,m::ms,b,.loop c,_,Kx,Kr=>descend E n p ms b c (fun st2=>match canon (E.hint b) st2 with | some st3=>V7 (E.hint b) (den E n b c) m st3 Kx Kr | none=>none) Kx Kr
  | _,_,b,c,Kn,Kx,Kr=>⟨b,c,Kn,Kx,Kr⟩
def cutAt (E:Env) (n:Nat) (fn:Func) (body:Code) (p ms:List Nat) (st:St):Option DV :=
  match descend E n p ms 0 body (fun st=>W0 E fn st) (fun _ _=>none) (fun st=>W0 E fn st) with
  | ⟨b,.seq (.region _ ops draw) y,Kn,Kx,Kr⟩=>Yv (Abe E ops draw (fun st'=>den E n b y st' Kn Kx Kr)) st
  | ⟨_,.region _ ops draw,Kn,_,_⟩=>Yv (Abe E ops draw Kn) st
  | _=>none
def Alv (E:Env) (n:Nat) (fn:Func) (body:Code) (p ms:List Nat) (st:St):Option DV :=
  match descend E n p ms 0 body (fun st=>W0 E fn st) (fun _ _=>none) (fun st=>W0 E fn st) with
  | ⟨b,.seq (.region _ ops draw) y,Kn,Kx,Kr⟩=>Abe E ops draw (fun st'=>den E n b y st' Kn Kx Kr) st
  | ⟨_,.region _ ops draw,Kn,_,_⟩=>Abe E ops draw Kn st
  | _=>none
theorem D1 (E:Env) (n:Nat) (fn:Func) (body:Code) (p ms:List Nat) (st:St):cutAt E n fn body p ms st=Alv E n fn body p ms st:=by
  unfold cutAt Alv
  split<;>simp only [Xh]
def B7 (E:Env) (n:Nat) (fn:Func) (body:Code) (p ms:List Nat) (m:Nat) (st:St):Option DV :=
  match descend E n p ms 0 body (fun st=>W0 E fn st) (fun _ _=>none) (fun st=>W0 E fn st) with
  | ⟨b,.loop c,_,Kx,Kr⟩=>V7 (E.hint b) (den E n b c) m st Kx Kr
  | _=>none
def atL (i:Nat):List (Nat × DV)→DV
  | []=>.undef
  | (j,d)::l=>bif Nat.beq i j then d else atL i l
def At6 (l:List (Nat × DV)):Nat→Nat→List DV
  | 0,_=>[]
  | k+1,i=>atL i l::At6 l k (i+1)
def Fy (n:Nat) (l:List (Nat × DV)):List DV:=At6 l n 0
end Go.Den
namespace Go.Den
open Go.RowKit (Below)
def Ab (x:Int):Int:=IntKind.i64.wrap x
def A7 (x:Int):Int:=IntKind.u64.wrap x
def Hj (x:Int):Int:=IntKind.u32.wrap x
def Fj (k:IntKind) (x y:Int):Int:=k.wrap (BitVec.ofInt k.bits x &&& BitVec.ofInt k.bits y).toNat
def Hh (k:IntKind) (x y:Int):Int:=k.wrap (BitVec.ofInt k.bits x ||| BitVec.ofInt k.bits y).toNat
def Ao4 (k:IntKind) (x y:Int):Int:=k.wrap (BitVec.ofInt k.bits x ^^^ BitVec.ofInt k.bits y).toNat
def Nk (k:IntKind) (x y:Int):Int:=k.wrap (BitVec.ofInt k.bits x &&& ~~~(BitVec.ofInt k.bits y)).toNat
def Bs (k:IntKind) (x y:Int):Int:=k.wrap (x*2^(min y.toNat k.bits))
def Da (k:IntKind) (x y:Int):Int:=x.fdiv (2^(min y.toNat k.bits))
def Cr (p:Prop):Bool:=@decide p (Classical.propDecidable p)
theorem Ap {p:Prop}:Cr p=true↔p:=by unfold Cr; exact @decide_eq_true_iff p (Classical.propDecidable p)
def Al (f:Func):Code:=f.body.getD .skip
def Ba:List (Nat × Entry)→Nat→Option Entry
  | [],_=>none
  | (m,e)::l,n=>bif Nat.beq m n then some e else Ba l n
def Ais:List (Nat × TI)→Nat→Option TI
  | [],_=>none
  | (m,e)::l,n=>bif Nat.beq m n then some e else Ais l n
theorem ifT {α:Type} {R:Bool} {A A' B:α} (h:R=true) (ha:A=A'):(bif R then A else B)=A':=by rw [h,ha]; rfl
theorem Ar {α:Type} {R:Bool} {A A':Option α} (h:R=true) (ha:A=A'):(bif R then A else none)=A':=ifT h ha
theorem C3 {α:Type} {R S:Bool} {A A' B B':α} (h:R=S) (ha:A=A') (hb:B=B'):(bif R then A else B)=bif S then A' else B':=by rw [h,ha,hb]
theorem Ev {α:Type} {R:Bool} {A A' B B':α} (ha:A=A') (hb:B=B'):(bif R then A else B)=bif R then A' else B':=by rw [ha,hb]
structure A8 (P:Program) (g:FuncId) (e:Entry):Prop where
  meets:T5 P g e
  call:∀ (args:Array Value) (w:World),(callFunc g args).run P w=.ok (.enter g args) w
inductive Az (P:Program):List (Nat × Entry)→Prop
  | nil:Az P []
  | cons {g e l}:A8 P g e→Az P l→Az P ((g,e)::l)
theorem Az.get {P:Program} {l:List (Nat × Entry)} (h:Az P l) {g:Nat} {e:Entry} (hg:Ba l g=some e):A8 P g e:=by
  induction h with
  | nil=>cases hg
  | @cons g' e' l h1 h2 ih =>
    simp only [Ba] at hg
    cases hb:Nat.beq g' g with
    | true =>
      rw [hb] at hg
      simp only [Auk,Aun] at hg
      have:=Au2 hb
      subst this hg
      exact h1
    | false=>rw [hb] at hg; exact ih hg
theorem Ni {P:Program} {f:FuncId} {fn:Func} {body:Code} (hf:P.funcs[f]?=some fn) (hn:(fn.name== "runtime.NumGoroutine")=false) (hb:fn.body=some body) (args:Array Value) (w:World) :
    (callFunc f args).run P w=.ok (.enter f args) w:=by
  have h1:fn.name≠ "runtime.NumGoroutine":=by simpa using hn
  simp [callFunc,hf,h1,hb]
inductive Pv (P:Program):List (Nat × TI)→Prop
  | nil:Pv P []
  | cons {t ti l}:Bw P t ti→Pv P l→Pv P ((t,ti)::l)
theorem Pv.get {P:Program} {l:List (Nat × TI)} (h:Pv P l) {t:Nat} {ti:TI} (hg:Ais l t=some ti):Bw P t ti:=by
  induction h with
  | nil=>cases hg
  | @cons t' ti' l h1 h2 ih =>
    simp only [Ais] at hg
    cases hb:Nat.beq t' t with
    | true =>
      rw [hb] at hg
      simp only [Auk,Aun] at hg
      have:=Au2 hb
      subst this hg
      exact h1
    | false=>rw [hb] at hg; exact ih hg
theorem Bz {P:Program} {t:TypeId} {ti:TI} {z:Value} (h:(P.info? t).map (fun i=>(i.zero,i.size,i.bytes))=some (some z,ti.size,ti.bytes)) (hz:Aai ti.zero z.cells.toList) (hs:z.cells.size=ti.size)
    (h1:∀ u∈z.cells.toList,u.oneCell'=true) (hd:B4 P t ti.kind):Bw P t ti:=by
  cases hi:P.info? t with
  | none=>rw [hi] at h; cases h
  | some i =>
    rw [hi] at h
    simp only [Option.map_some,Aun,Aut] at h
    exact ⟨⟨i,z,hi,h.2.1,h.2.2,h.1,hz,hs,h1⟩,hd⟩
def Agw (ts:List AT) (pre:List Atom→Bool) (out:List Atom→DV) (mu:List Atom→Nat) (n:Nat):Entry:=entry ts (fun as=>pre as&&Cr (mu as<n)) out
theorem Ad8 {P:Program} {E:Nat→Env} {f:FuncId} {fn:Func} {body:Code} (hf:P.funcs[f]?=some fn) (hb:fn.body=some body) {ts:List AT} {pre:List Atom→Bool} {out:List Atom→DV} (mu:List Atom→Nat)
    (he:∀ n,T5 P f (Agw ts pre out mu n)→H7 P (E n))
    (h:∀ n as ds,Ez ts as ds→pre as=true→mu as<n+1→∃ fuel d drops,B0 (E n) fuel fn body ds=some d∧Wk drops d (out as)):T5 P f (entry ts pre out):=by
  have key:∀ n,T5 P f (Agw ts pre out mu n):=by
    intro n
    induction n with
    | zero =>
      intro args ha
      simp only [Agw,entry] at ha
      split at ha
      · simp only [Auv,Ap] at ha; omega
      · cases ha
    | succ n ih =>
      refine Oj (he n ih) hf hb fun as ds hd hp=>?_
      simp only [Auv,Ap] at hp
      exact h n as ds hd hp.1 hp.2
  intro args ha
  simp only [entry] at ha
  cases hd:Lb ts args with
  | none=>rw [hd] at ha; cases ha
  | some as =>
    rw [hd] at ha
    have:=key (mu as+1) args (by simp only [Agw,entry,hd,Auv,Ap]; exact ⟨ha,Nat.lt_succ_self _⟩)
    simp only [Agw,entry] at this ⊢
    exact this
theorem Kh {P:Program} (w:World) {t:TypeId} {ti:TI} (hf:Bw P t ti) (ha:ti.agg=false) {xs:Array Value} {i:Nat} {v:Value} (hv:xs[i]?=some v):(part t xs i).run P w=.ok v w:=by
  simp [part,hf.Ri w,ha,hv]
theorem Vb {z:Bool} {l m:List DV} (h:sameShape (.bool z::l) m=true):∃ b m',m=.bool b::m'∧sameShape l m'=true:=by
  cases m with
  | nil=>simp [sameShape] at h
  | cons d m'=>cases d<;>simp [sameShape] at h; exact ⟨_,_,rfl,h⟩
theorem Hy {k:IntKind} {z:Int} {l m:List DV} (h:sameShape (.int k z::l) m=true):∃ b m',m=.int k b::m'∧sameShape l m'=true:=by
  cases m with
  | nil=>simp [sameShape] at h
  | cons d m'=>cases d<;>simp [sameShape] at h; obtain ⟨rfl,h⟩:=h; exact ⟨_,_,rfl,h⟩
theorem O9 {m:List DV} (h:sameShape [] m=true):m=[]:=by
  cases m with
  | nil=>rfl
  | cons d m'=>cases d<;>simp [sameShape] at h
theorem Art {P:Program} {g:FuncId} {e:Entry} (h:A8 P g e) {vals:Array Value} {w:World} {args:List DV} {I:Nat→Prop} (hI:∀ b,I b→b<w.heap.size) (ha:A3 (Is I) w args vals.toList)
    (hp:e.pre args=true) (ho:e.out args=.bool true):Calls P g vals w fun e w'=>e=.returned (.bool true)∧Below w.heap.size w w':=by
  refine (h.meets args hp w vals I hI ha).mono ?_
  rintro e w' ⟨v,own,he,hb,_,hv⟩
  rw [ho] at hv
  simp only [Aj] at hv
  subst hv
  exact ⟨he,hb⟩
end Go.Den
namespace Go.Den
open Go.RowKit (Below)
end Go.Den
namespace Go.Den
def Arw (ts:List AT) (e1 e2:Entry):Entry where
  pre:=fun args=>match Lb ts args with
    | some _=>e1.pre args
    | none=>e2.pre args
  out:=fun args=>match Lb ts args with
    | some _=>e1.out args
    | none=>e2.out args
theorem A8.alt {P:Program} {g:FuncId} {ts:List AT} {e1 e2:Entry} (h1:A8 P g e1) (h2:A8 P g e2):A8 P g (Arw ts e1 e2):=by
  refine ⟨fun args ha=>?_,h1.call⟩
  simp only [Arw] at ha ⊢
  cases hd:Lb ts args with
  | none=>rw [hd] at ha; exact h2.meets args ha
  | some x=>rw [hd] at ha; exact h1.meets args ha
theorem A8.Apx {P:Program} {g:FuncId} {ts:List AT} {pre pre':List Atom→Bool} {out out':List Atom→DV} (h:A8 P g (entry ts pre out)) (drops:List Nat)
    (hw:∀ ats,pre' ats=true→pre ats=true∧Wk drops (out ats) (out' ats)):A8 P g (entry ts pre' out'):=by
  refine ⟨fun args ha=>?_,h.call⟩
  simp only [entry] at ha ⊢
  cases hd:Lb ts args with
  | none=>rw [hd] at ha; cases ha
  | some x =>
    rw [hd] at ha
    have:=h.meets args (by simp only [entry,hd]; exact (hw x ha).1)
    simp only [entry,hd] at this
    exact this.Apx (hw x ha).2
end Go.Den
namespace Go.Den
def Alx (K:List (List DV)→List DV→Prop):List DV→Prop
  | .recs .arg _ rows::ds=>K rows ds
  | _=>True
def J6:Nat→List AT→(List Atom→List DV→Prop)→Prop
  | 0,_,_=>False
  | _+1,[],K=>K [] []
  | n+1,.b::ts,K=>∀ x:Bool,J6 n ts fun as ds=>K (.b x::as) (.bool x::ds)
  | n+1,.i k::ts,K=>∀ x:Int,J6 n ts fun as ds=>K (.i x::as) (.int k x::ds)
  | n+1,.s k::ts,K=>∀ x:List Int,J6 n ts fun as ds=>K (.l x::as) (.ints .arg k x::ds)
  | n+1,.fl::ts,K=>∀ x:Nat,J6 n ts fun as ds=>K (.f x::as) (.fl x::ds)
  | n+1,.nb::ts,K=>∀ x:Nat,J6 n ts fun as ds=>K (.f x::as) (.nb x::ds)
  | n+1,.st l::ts,K=>J6 n l fun as cs=>J6 n ts fun bs ds=>K (as++bs) (.agg cs::ds)
  | n+1,.fn g l::ts,K=>J6 n l fun as cs=>J6 n ts fun bs ds=>K (as++bs) (.fn g [] cs::ds)
  | n+1,.fm g l::ts,K=>J6 n l fun as cs=>J6 n ts fun bs ds=>K (as++bs) (.fn g cs []::ds)
  | n+1,.cp l::ts,K=>J6 n l fun as cs=>J6 n ts fun bs ds=>K (as++bs) (.cellp cs::ds)
  | n+1,.rs sz []::ts,K=>J6 n ts fun as ds=>K as (.recs .arg sz []::ds)
  | n+1,.rs sz (l::ls)::ts,K=>J6 n l fun as cs=>J6 n (.rs sz ls::ts) fun bs ds=>Alx (fun rows ds=>K (as++bs) (.recs .arg sz (cs::rows)::ds)) ds
theorem J6.go:∀ (n:Nat) {ts:List AT} {as:List Atom} {ds:List DV} {K:List Atom→List DV→Prop},J6 n ts K→Ez ts as ds→K as ds:=by
  intro n
  induction n with
  | zero=>intro ts as ds K h _; exact h.elim
  | succ n ih =>
    intro ts as ds K h e
    cases e with
    | nil=>exact h
    | b x e=>exact ih (K:=fun as ds=>K (.b x::as) (.bool x::ds)) (h x) e
    | i k x e=>exact ih (K:=fun as ds=>K (.i x::as) (.int k x::ds)) (h x) e
    | s k x e=>exact ih (K:=fun as ds=>K (.l x::as) (.ints .arg k x::ds)) (h x) e
    | fl x e=>exact ih (K:=fun as ds=>K (.f x::as) (.fl x::ds)) (h x) e
    | nb x e=>exact ih (K:=fun as ds=>K (.f x::as) (.nb x::ds)) (h x) e
    | @st _ _ a c _ _ e1 e2=>exact ih (K:=fun bs ds=>K (a++bs) (.agg c::ds)) (ih (K:=fun as cs=>J6 n _ fun bs ds=>K (as++bs) (.agg cs::ds)) h e1) e2
    | @fn g _ _ a c _ _ e1 e2=>exact ih (K:=fun bs ds=>K (a++bs) (.fn g [] c::ds)) (ih (K:=fun as cs=>J6 n _ fun bs ds=>K (as++bs) (.fn g [] cs::ds)) h e1) e2
    | @fm g _ _ a c _ _ e1 e2=>exact ih (K:=fun bs ds=>K (a++bs) (.fn g c []::ds)) (ih (K:=fun as cs=>J6 n _ fun bs ds=>K (as++bs) (.fn g cs []::ds)) h e1) e2
    | @cp _ _ a c _ _ e1 e2=>exact ih (K:=fun bs ds=>K (a++bs) (.cellp c::ds)) (ih (K:=fun as cs=>J6 n _ fun bs ds=>K (as++bs) (.cellp cs::ds)) h e1) e2
    | rs0 e=>exact ih (K:=fun as ds=>K as (.recs .arg _ []::ds)) h e
    | @rs1 sz _ _ _ a c _ _ _ e1 e2 =>
      have:=ih (K:=fun bs ds=>Alx (fun rows ds=>K (a++bs) (.recs .arg sz (c::rows)::ds)) ds) (ih (K:=fun as cs=>J6 n _ fun bs ds=>Alx (fun rows ds=>K (as++bs) (.recs .arg sz (cs::rows)::ds)) ds) h e1) e2
      exact this
abbrev Bf (E:Env) (fn:Func) (ds:List DV) (out:DV):Prop:=∃ N dv drops,B0 E N fn (Al fn) ds=some dv∧Wk drops dv out
theorem Ak {P:Program} {E:Env} (he:H7 P E) {f:FuncId} {fn:Func} (hf:P.funcs[f]?=some fn) (hb:fn.body=some (Al fn)) (hn:(fn.name== "runtime.NumGoroutine")=false) {ts:List AT} {pre:List Atom→Bool} {out:List Atom→DV}
    (h:J6 40 ts fun as ds=>pre as=true→Bf E fn ds (out as)):A8 P f (entry ts pre out) :=
  ⟨Oj he hf hb fun _ _ e hp=>J6.go 40 h e hp,Ni hf hn hb⟩
end Go.Den
namespace Go.Den
theorem An {x:Int} (h1:-9223372036854775808≤x) (h2:x≤9223372036854775807):Ab x=x:=Go.IntWalk.i64_in x ⟨h1,h2⟩
theorem Q4 (x:Int):A7 x=x%18446744073709551616:=by unfold A7 IntKind.wrap; simp [IntKind.bits,IntKind.signed]
theorem Aii (x:Int):Hj x=x%4294967296:=by unfold Hj IntKind.wrap; simp [IntKind.bits,IntKind.signed]
theorem Cn {x:Int} (h1:0≤x) (h2:x<18446744073709551616):A7 x=x:=by rw [Q4]; omega
theorem Hi {x:Int} (h1:0≤x) (h2:x<4294967296):Hj x=x:=by rw [Aii]; omega
theorem Ao5 (k:IntKind) (x y:Int):Da k x y=x / 2^(min y.toNat k.bits):=by
  unfold Da
  exact Int.fdiv_eq_ediv_of_nonneg _ (Int.le_of_lt (Int.pow_pos (by decide)))
theorem Gi (k:IntKind) (n s:Nat) (h:s≤k.bits):Da k n s=((n / 2^s:Nat):Int):=by
  rw [Ao5,Aum,Nat.min_eq_left h]
  push_cast
  rfl
theorem Ex (n s:Nat) (h:s≤64):Bs .u64 n s=((n*2^s%2^64:Nat):Int):=by
  unfold Bs
  rw [Aum,show IntKind.u64.bits=64 from rfl,Nat.min_eq_left h]
  show A7 _=_
  rw [Q4]
  show _=((n*2^s%18446744073709551616:Nat):Int)
  rw [Int.natCast_emod,Au5,Int.natCast_pow]
  rfl
theorem H0 (b n:Nat):(BitVec.ofInt b n).toNat=n%2^b:=by
  rw [BitVec.toNat_ofInt]
  rw [show ((n:Int)%(2^b:Nat))=((n%2^b:Nat):Int) by push_cast; rfl,Aum]
theorem Ud {n:Nat} (h:n<2^64):IntKind.u64.wrap n=n:=by
  show A7 _=_
  rw [Q4]
  omega
theorem Al5 {a b:Nat} (ha:a<2^64) (hb:b<2^64):Fj .u64 a b=((a &&& b:Nat):Int):=by
  unfold Fj
  rw [BitVec.toNat_and,H0,H0,show IntKind.u64.bits=64 from rfl,Aux ha,Aux hb]
  exact Ud (Nat.lt_of_le_of_lt Nat.and_le_left ha)
theorem Aac {a b:Nat} (ha:a<2^64) (hb:b<2^64):Hh .u64 a b=((a ||| b:Nat):Int):=by
  unfold Hh
  rw [BitVec.toNat_or,H0,H0,show IntKind.u64.bits=64 from rfl,Aux ha,Aux hb]
  exact Ud (Nat.or_lt_two_pow ha hb)
theorem Al4 {a b:Nat} (ha:a<2^64) (hb:b<2^64):Ao4 .u64 a b=((a ^^^ b:Nat):Int):=by
  unfold Ao4
  rw [BitVec.toNat_xor,H0,H0,show IntKind.u64.bits=64 from rfl,Aux ha,Aux hb]
  exact Ud (Nat.xor_lt_two_pow ha hb)
theorem Hb {a:Nat} (k:Nat) (ha:a<2^64) (hk:k≤64):Fj .u64 a ((2^k-1:Nat):Int)=((a%2^k:Nat):Int):=by
  rw [Al5 ha (by have:=Auz (n:=2) (by decide) hk; have:=Nat.pow_pos (a:=2) (n:=k) (by decide); omega),Nat.and_two_pow_sub_one_eq_mod]
theorem Rr {a b k:Nat} (hb:b<2^k):b ||| (a*2^k)=a*2^k+b:=by
  rw [Nat.or_comm,Nat.mul_comm,Nat.two_pow_add_eq_or_of_lt hb]
theorem Ah6 {a b k:Nat} (hb:b<2^k) (h:a*2^k+b<2^64):Hh .u64 b ((a*2^k:Nat):Int)=((a*2^k+b:Nat):Int):=by
  rw [Aac (by omega) (by omega),Rr hb]
theorem Ld {a b k:Nat} (hb:b<2^k) (h:a*2^k+b<2^64):Hh .u64 ((a*2^k:Nat):Int) b=((a*2^k+b:Nat):Int):=by
  rw [Aac (by omega) (by omega),Nat.or_comm,Rr hb]
theorem Uz {r:Nat} (hr:r<2^63):(2^63+r) ^^^ 2^63=r∧r ^^^ 2^63=2^63+r:=by
  have e2:=Nat.two_pow_add_eq_or_of_lt hr 1
  rw [Nat.mul_one] at e2
  have a1:r ^^^ 2^63=2^63+r:=by
    rw [e2]
    apply Nat.eq_of_testBit_eq
    intro i
    rw [Nat.testBit_xor,Nat.testBit_or,Nat.testBit_two_pow]
    by_cases hi:63=i
    · subst hi
      rw [Nat.testBit_lt_two_pow hr]; simp
    · simp [hi]
  refine ⟨?_,a1⟩
  rw [← a1,Nat.xor_assoc,Nat.xor_self,Nat.xor_zero]
theorem Amk {a:Nat} (ha:a<2^64):a ^^^ 2^63=if 2^63≤a then a-2^63 else a+2^63:=by
  by_cases h:2^63≤a
  · rw [if_pos h]
    obtain ⟨r,rfl⟩:∃ r,a=2^63+r:=⟨a-2^63,by omega⟩
    rw [(Uz (by omega)).1]; omega
  · rw [if_neg h,(Uz (by omega)).2]; omega
def Ai (x:Int):Bool:=Cr (0≤x∧x<18446744073709551616)
theorem Bv {x:Int} (h:Ai x=true):∃ n:Nat,x=n∧n<2^64:=by
  unfold Ai at h
  rw [Ap] at h
  exact ⟨x.toNat,by omega,by omega⟩
theorem B5 {n:Nat} (h:n<2^64):Ai n=true:=by
  unfold Ai
  rw [Ap]
  omega
inductive WkL (drops:List Nat):List DV→List DV→Prop
  | nil:WkL drops [] []
  | cons {d d' l l'}:Wk drops d d'→WkL drops l l'→WkL drops (d::l) (d'::l')
theorem WkL.length {drops:List Nat} {l l':List DV} (h:WkL drops l l'):l.length=l'.length:=by
  induction h with
  | nil=>rfl
  | cons _ _ ih=>simp [ih]
theorem WkL.get {drops:List Nat} {l l':List DV} (h:WkL drops l l'):∀ (j:Nat) d d',l[j]?=some d→l'[j]?=some d'→Wk drops d d':=by
  induction h with
  | nil=>intro j d d' h; cases h
  | cons h1 _ ih =>
    intro j d d' h2 h3
    cases j with
    | zero=>cases h2; cases h3; exact h1
    | succ j=>exact ih j d d' h2 h3
theorem Wk.Ix {drops:List Nat} {l l':List DV} (h:WkL drops l l'):Wk drops (.agg l) (.agg l'):=.agg h.length h.get
theorem Wk.Gm {drops:List Nat} {l l':List DV} (h:WkL drops l l'):Wk drops (.tup l) (.tup l'):=.tup h.length h.get
theorem Wk.bool {drops:List Nat} {b:Bool}:Wk drops (.bool b) (.bool b):=.refl rfl (by intros; simp) (by intros; simp)
theorem Wk.int {drops:List Nat} {k:IntKind} {x:Int}:Wk drops (.int k x) (.int k x):=.refl rfl (by intros; simp) (by intros; simp)
theorem Wk.fl {drops:List Nat} {x:Nat}:Wk drops (.fl x) (.fl x):=.refl rfl (by intros; simp) (by intros; simp)
theorem Wk.nb {drops:List Nat} {x:Nat}:Wk drops (.nb x) (.nb x):=.refl rfl (by intros; simp) (by intros; simp)
theorem Wk.Al6 {drops:List Nat} {k:IntKind} {l:List Int}:Wk drops (.ints .arg k l) (.ints .arg k l):=.refl rfl (by intros; simp) (by intros; simp)
theorem Wk.J5 {drops:List Nat} {k:IntKind} {l:List Int}:Wk drops (.ints .fresh k l) (.ints .fresh k l):=.refl rfl (by intros; simp) (by intros; simp)
theorem Ez.Zi {as:List Atom} {ds:List DV} (h:Ez [] as ds):as=[]∧ds=[]:=by cases h; exact ⟨rfl,rfl⟩
theorem Ez.Aue {ts:List AT} {as:List Atom} {ds:List DV} (h:Ez (.b::ts) as ds):∃ x as' ds',as=.b x::as'∧ds=.bool x::ds'∧Ez ts as' ds':=by
  cases h with | b x h=>exact ⟨x,_,_,rfl,rfl,h⟩
theorem Ez.Aky {k:IntKind} {ts:List AT} {as:List Atom} {ds:List DV} (h:Ez (.i k::ts) as ds):∃ x as' ds',as=.i x::as'∧ds=.int k x::ds'∧Ez ts as' ds':=by
  cases h with | i k x h=>exact ⟨x,_,_,rfl,rfl,h⟩
theorem Ez.Aph {k:IntKind} {ts:List AT} {as:List Atom} {ds:List DV} (h:Ez (.s k::ts) as ds):∃ x as' ds',as=.l x::as'∧ds=.ints .arg k x::ds'∧Ez ts as' ds':=by
  cases h with | s k x h=>exact ⟨x,_,_,rfl,rfl,h⟩
end Go.Den
end
