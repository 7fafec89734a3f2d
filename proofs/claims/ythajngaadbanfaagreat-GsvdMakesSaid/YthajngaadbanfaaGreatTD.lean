/- A verified evaluator of the program's form and its use for this seat: Den32, Den33, Den34, Den35, Den36, Den37, Den38, Bits. -/
import Derived.Test.YthajngaadbanfaaGreatTC
import Derived.KernelRfl
import Derived.Laws.StructEq
import Derived.Laws.Externs
import Derived.ChangeKeysEq
import Derived.IntWalk
set_option linter.unusedVariables false
set_option linter.unusedSimpArgs false
noncomputable section
open Int (toNat)
open List (length getD)
namespace Go.Den
open Go.RowKit (Below)
theorem Al4 {P:Program} {E:Env} {S:Acp E} (hty:∀ t ti,E.ty t=some ti→Ct P t ti) {I:Nat→Prop} {fn:Func} {st:St} {out:DV} (h:Ab9 E fn st=some out) {w w':World} {a:Act} (hh:Gh S I w.heap.size w st a w') :
 ∃ v own,(results fn a.tmps).run P w'=.ok v w'∧Below w.heap.size w w'∧Am6 own w w'∧Au (Er I own w w') w' out v:=by
 obtain ⟨A,hA⟩:=hh
 unfold Ab9 at h
 cases hds:Us E st fn.results.toList with
 | none=>simp [hds] at h
 | some ds =>
   rw [hds,A4o] at h
   obtain ⟨vs,hv,hr⟩:=Xg hty hA _ ds hds
   have hm:Mem I w.heap.size A st.heap w':=hA.mem fun n p fo _ hl=>hl
   have hone:Au (B3 I w.heap.size A w') w' (Arw ds) (Arv vs):=by
    match ds,vs,hv with
    | [],vs,hv =>
      rw [Bj.H0] at hv; subst hv
      simp only [Au,Arw,Arv]
      exact ⟨#[],rfl,by simp [Bj]⟩
    | [d],vs,hv =>
      rw [Bj.Dl] at hv
      obtain ⟨u,us,rfl,h1,h2⟩:=hv
      rw [Bj.H0] at h2; subst h2
      exact h1
    | d::d'::ds,vs,hv =>
      have hv':=hv
      rw [Bj.Dl] at hv
      obtain ⟨u,us,rfl,h1,h2⟩:=hv
      rw [Bj.Dl] at h2
      obtain ⟨u',us',rfl,h3,h4⟩:=h2
      simp only [Au,Arw,Arv]
      exact ⟨_,rfl,by simpa using hv'⟩
   cases hrs:Ho st.heap 6 (Arw ds) with
   | none=>rw [hrs] at h; cases h
   | some r =>
     obtain ⟨d,ns,os⟩:=r
     rw [hrs,A4o] at h
     simp only at h
     cases hc:(ns.all fun n=>!(os.contains n)) with
     | false=>rw [hc] at h; cases h
     | true =>
       rw [hc,A4g,A4j] at h
       subst h
       have hdis:∀ n∈ns,n ∉ os:=fun n hn hno=>by
        have:=List.all_eq_true.1 hc n hn
        simp [hno] at this
       refine ⟨_,Mw A os,Yk hr,hA.below,⟨fun i b hb=>?_,fun i j b hi hj=>?_⟩,Arl hm hdis 6 _ _ _ ns os hrs (fun _ h=>h) (fun _ h=>h) hone⟩
       ·obtain ⟨_,p,hp,hl,hpb⟩:=Qf hb
        exact hm.blkB i p b hp (by rw [hl]; simp) hpb
       ·obtain ⟨_,p,hp,hl,hpb⟩:=Qf hi
        obtain ⟨_,q,hq,hl',hqb⟩:=Qf hj
        exact hm.inj i j p q b hp hq (by rw [hl]; simp) (by rw [hl']; simp) hpb hqb
theorem Ays {P:Program} {E:Env} (he:Kb P E) {fuel:Nat} {f:FuncId} {fn:Func} {body:Code} (hf:P.funcs[f]?=some fn) (hb:fn.body=some body) {args:List DV} {out:DV} (h:B0 E fuel fn body args=some out):P5 P f args out:=by
 intro w vals I hI hv
 refine calls_of_wp hf hb ?_
 unfold B0 at h
 have hlen:args.length=vals.size:=by have:=hv.length; simpa using this
 have hh:Gh (E:=E) ⟨fun _=>False,fun t=>(vals++Array.replicate (fn.ntmps-vals.size) undef).getD t undef⟩ I w.heap.size w ⟨args++List.replicate (fn.ntmps-args.length) .undef,[]⟩ ⟨vals++Array.replicate (fn.ntmps-vals.size) undef,[]⟩ w:=by
  refine ⟨fun _=>none,rfl,by simp only [Array.size_append,Array.size_replicate,A48,List.length_replicate]; omega,Below.refl _ _,A5a _,hI,fun n p h=>(by cases h),fun n p b h=>(by cases h),fun n m p q b h=>(by cases h),fun t=>?_,fun b h=>h.elim,fun t _=>rfl⟩
  have hw:K6 (Kd I) (B3 I w.heap.size (fun _=>none) w):=⟨fun b hb=>⟨hI b hb,.inl hb,fun n p h=>(by cases h)⟩,rfl,fun _=>rfl,fun _=>rfl⟩
  have hl:=Bj.Gr hw _ _ hv
  rcases A5d t args.length with hlt | hge
  ·obtain ⟨v,h1,h2⟩:=hl.getD t hlt
   simp only [A4q,List.getElem?_append_left hlt] at h2 ⊢
   have hlt':t<vals.size:=by omega
   have e:(vals++Array.replicate (fn.ntmps-vals.size) undef).getD t undef=v:=by
    rw [Array.getD_eq_getD_getElem?,Array.getElem?_append_left hlt']
    rw [Array.getElem?_toList] at h1
    rw [h1]; rfl
   rw [e]; exact h2
  ·rw [A4q,A5u hge,List.getElem?_replicate]
   split<;>simp only [A50,Option.getD_none,Au]
 refine Rn he fuel out body 0 _ _ _ _ h _ _ hh _ (fun st a w' hk hh'=>?_) (fun id st a w' hk=>by cases hk) (fun st a w' hk hh'=>?_)
 ·obtain ⟨v,own,h1,h2,h3,h4⟩:=Al4 he.ty hk hh'
  have hd:a.defers=[]:=by obtain ⟨A,hA⟩:=hh'; exact hA.defers
  exact ⟨hd,v,h1,v,own,rfl,h2,h3,h4⟩
 ·obtain ⟨v,own,h1,h2,h3,h4⟩:=Al4 he.ty hk hh'
  have hd:a.defers=[]:=by obtain ⟨A,hA⟩:=hh'; exact hA.defers
  exact ⟨hd,v,h1,v,own,rfl,h2,h3,h4⟩
end Go.Den
namespace Go.Den
open Go.RowKit (Below)
inductive AT where
 | b
 | i (k:IntKind)
 | s (k:IntKind)
 | fl
 | nb
 | st (l:List AT)
 | fn (g:FuncId) (l:List AT)
 | fm (g:FuncId) (l:List AT)
 | cp (l:List AT)
 | rs (sz:Nat) (l:List (List AT))
 | rl (sz:Nat)
inductive Atom where
 | b (x:Bool)
 | i (x:Int)
 | l (x:List Int)
 | f (x:Nat)
 | r (x:List (List DV))
def Aix:AT→DV→Option Atom
 | .b,.bool x=>some (.b x)
 | .i k,.int k' x=>bif decide (k=k') then some (.i x) else none
 | .s _,.nil=>some (.l [])
 | .s k,.ints .arg k' l=>bif decide (k=k') then some (.l l) else none
 | .fl,.fl n=>some (.f n)
 | .nb,.nb n=>some (.f n)
 | .rl _,.nil=>some (.r [])
 | .rl sz,.recs .arg sz' rows=>bif Nat.beq sz sz' then some (.r rows) else none
 | _,_=>none
def X3:List AT→List DV→Option (List Atom)
 | [],[]=>some []
 | t::ts,d::ds=>match Aix t d with
   | some a=>match X3 ts ds with
     | some as=>some (a::as)
     | none=>none
   | none=>none
 | _,_=>none
def T6:List AT→List DV→Option (List Atom)
 | [],[]=>some []
 | .cp l::ts,.cellp cs::ds=>match X3 l cs with
   | some as=>match T6 ts ds with
     | some bs=>some (as++bs)
     | none=>none
   | none=>none
 | .st l::ts,.agg cs::ds=>match X3 l cs with
   | some as=>match T6 ts ds with
     | some bs=>some (as++bs)
     | none=>none
   | none=>none
 | t::ts,d::ds=>match Aix t d with
   | some a=>match T6 ts ds with
     | some bs=>some (a::bs)
     | none=>none
   | none=>none
 | _,_=>none
def Afz:List (List AT)→List (List DV)→Option (List Atom)
 | [],[]=>some []
 | l::ls,cs::rows=>match X3 l cs with
   | some as=>match Afz ls rows with
     | some bs=>some (as++bs)
     | none=>none
   | none=>none
 | _,_=>none
def Md:List AT→List DV→Option (List Atom)
 | [],[]=>some []
 | .rs sz ls::ts,.recs .arg sz' rows::ds=>bif Nat.beq sz sz' then
  match Afz ls rows with
  | some as=>match Md ts ds with
    | some bs=>some (as++bs)
    | none=>none
  | none=>none
   else none
 | .fm g l::ts,.fn g' fs []::ds=>bif Nat.beq g g' then
  match T6 l fs with
  | some as=>match Md ts ds with
    | some bs=>some (as++bs)
    | none=>none
  | none=>none
   else none
 | .fn g l::ts,.fn g' [] cs::ds=>bif Nat.beq g g' then
  match T6 l cs with
  | some as=>match Md ts ds with
    | some bs=>some (as++bs)
    | none=>none
  | none=>none
   else none
 | .cp l::ts,.cellp cs::ds=>match T6 l cs with
   | some as=>match Md ts ds with
     | some bs=>some (as++bs)
     | none=>none
   | none=>none
 | .st l::ts,.agg cs::ds=>match T6 l cs with
   | some as=>match Md ts ds with
     | some bs=>some (as++bs)
     | none=>none
   | none=>none
 | t::ts,d::ds=>match Aix t d with
   | some a=>match Md ts ds with
     | some bs=>some (a::bs)
     | none=>none
   | none=>none
 | _,_=>none
inductive Fo:List AT→List Atom→List DV→Prop
 | nil:Fo [] [] []
 | b {ts as ds} (x:Bool):Fo ts as ds→Fo (.b::ts) (.b x::as) (.bool x::ds)
 | i {ts as ds} (k:IntKind) (x:Int):Fo ts as ds→Fo (.i k::ts) (.i x::as) (.int k x::ds)
 | s {ts as ds} (k:IntKind) (x:List Int):Fo ts as ds→Fo (.s k::ts) (.l x::as) (.ints .arg k x::ds)
 | fl {ts as ds} (x:Nat):Fo ts as ds→Fo (.fl::ts) (.f x::as) (.fl x::ds)
 | nb {ts as ds} (x:Nat):Fo ts as ds→Fo (.nb::ts) (.f x::as) (.nb x::ds)
 | rl {ts as ds} (sz:Nat) (x:List (List DV)):Fo ts as ds→Fo (.rl sz::ts) (.r x::as) (.recs .arg sz x::ds)
 | st {l ts as cs bs ds}:Fo l as cs→Fo ts bs ds→Fo (.st l::ts) (as++bs) (.agg cs::ds)
 | fn {g l ts as cs bs ds}:Fo l as cs→Fo ts bs ds→Fo (.fn g l::ts) (as++bs) (.fn g [] cs::ds)
 | fm {g l ts as cs bs ds}:Fo l as cs→Fo ts bs ds→Fo (.fm g l::ts) (as++bs) (.fn g cs []::ds)
 | cp {l ts as cs bs ds}:Fo l as cs→Fo ts bs ds→Fo (.cp l::ts) (as++bs) (.cellp cs::ds)
 | rs0 {sz ts bs ds}:Fo ts bs ds→Fo (.rs sz []::ts) bs (.recs .arg sz []::ds)
 | rs1 {sz l ls ts as cs bs rows ds}:Fo l as cs→Fo (.rs sz ls::ts) bs (.recs .arg sz rows::ds)→Fo (.rs sz (l::ls)::ts) (as++bs) (.recs .arg sz (cs::rows)::ds)
theorem Ar5 {c:Ctx} {w:World} {k:IntKind} {v:Value} (h:Au c w .nil v):Au c w (.ints .arg k []) v:=by
 simp only [Au] at h ⊢
 subst h
 exact ⟨none,0,rfl,A5a _,.inl trivial⟩
theorem Ar4 {c:Ctx} {w:World} {sz:Nat} {v:Value} (h:Au c w .nil v):Au c w (.recs .arg sz []) v:=by
 simp only [Au] at h ⊢
 subst h
 exact ⟨none,0,rfl,A5a _,.inl trivial⟩
theorem Af0 {t:AT} {d:DV} {a:Atom} (h:Aix t d=some a):∃ d',(∀ ts as ds,Fo ts as ds→Fo (t::ts) (a::as) (d'::ds))∧∀ c w v,Au c w d v→Au c w d' v:=by
 unfold Aix at h
 split at h
 ·simp only [A4j] at h; subst h
  exact ⟨_,fun _ _ _ he=>.b _ he,fun _ _ _ h=>h⟩
 ·rename_i k k' x
  by_cases e:k=k'
  ·subst e
   simp only [decide_true,A4g,A4j] at h; subst h
   exact ⟨_,fun _ _ _ he=>.i _ _ he,fun _ _ _ h=>h⟩
  ·simp [e] at h
 ·rename_i k
  simp only [A4j] at h; subst h
  exact ⟨_,fun _ _ _ he=>.s k _ he,fun _ _ _ h=>Ar5 h⟩
 ·rename_i k k' x
  by_cases e:k=k'
  ·subst e
   simp only [decide_true,A4g,A4j] at h; subst h
   exact ⟨_,fun _ _ _ he=>.s _ _ he,fun _ _ _ h=>h⟩
  ·simp [e] at h
 ·simp only [A4j] at h; subst h
  exact ⟨_,fun _ _ _ he=>.fl _ he,fun _ _ _ h=>h⟩
 ·simp only [A4j] at h; subst h
  exact ⟨_,fun _ _ _ he=>.nb _ he,fun _ _ _ h=>h⟩
 ·rename_i sz
  simp only [A4j] at h; subst h
  exact ⟨_,fun _ _ _ he=>.rl sz _ he,fun _ _ _ h=>Ar4 h⟩
 ·rename_i sz sz' rows
  cases hg:Nat.beq sz sz' with
  | false=>rw [hg] at h; cases h
  | true =>
    rw [hg,A4g] at h
    obtain rfl:=A4y hg
    simp only [A4j] at h; subst h
    exact ⟨_,fun _ _ _ he=>.rl sz _ he,fun _ _ _ h=>h⟩
 ·cases h
theorem Zm:∀ {ts:List AT} {ds:List DV} {as:List Atom},X3 ts ds=some as→∃ ds',Fo ts as ds'∧∀ c w vs,Bj c w ds vs→Bj c w ds' vs
 | [],[],as,h=>by
   simp only [X3,A4j] at h; subst h
   exact ⟨[],.nil,fun _ _ _ h=>h⟩
 | t::ts,d::ds,as,h=>by
   simp only [X3] at h
   cases h1:Aix t d with
   | none=>rw [h1] at h; cases h
   | some a =>
     cases h2:X3 ts ds with
     | none=>rw [h1,h2] at h; cases h
     | some bs =>
       rw [h1,h2] at h
       simp only [A4j] at h; subst h
       obtain ⟨d',i1,i2⟩:=Af0 h1
       obtain ⟨ds',j1,j2⟩:=Zm h2
       refine ⟨d'::ds',i1 _ _ _ j1,fun c w vs hv=>?_⟩
       rw [Bj.Dl] at hv ⊢
       obtain ⟨u,us,e,hu,hus⟩:=hv
       exact ⟨u,us,e,i2 _ _ _ hu,j2 _ _ _ hus⟩
 | [],_::_,as,h=>by simp [X3] at h
 | _::_,[],as,h=>by simp [X3] at h
theorem Ro:∀ {ts:List AT} {ds:List DV} {as:List Atom},T6 ts ds=some as→∃ ds',Fo ts as ds'∧∀ c w vs,Bj c w ds vs→Bj c w ds' vs
 | ts,ds,as,h=>by
   unfold T6 at h
   split at h
   ·simp only [A4j] at h; subst h
    exact ⟨[],.nil,fun _ _ _ h=>h⟩
   ·rename_i l ts cs ds
    cases h1:X3 l cs with
    | none=>rw [h1] at h; cases h
    | some a =>
      cases h2:T6 ts ds with
      | none=>rw [h1,h2] at h; cases h
      | some bs =>
        rw [h1,h2] at h
        simp only [A4j] at h; subst h
        obtain ⟨cs',i1,i2⟩:=Zm h1
        obtain ⟨ds',j1,j2⟩:=Ro h2
        refine ⟨.cellp cs'::ds',.cp i1 j1,fun c w vs hv=>?_⟩
        rw [Bj.Dl] at hv ⊢
        obtain ⟨u,us,e,hu,hus⟩:=hv
        refine ⟨u,us,e,?_,j2 _ _ _ hus⟩
        simp only [Au] at hu ⊢
        obtain ⟨b,o,vs,e,hb,hh,hc⟩:=hu
        exact ⟨b,o,vs,e,hb,i2 _ _ _ hh,hc⟩
   ·rename_i l ts cs ds
    cases h1:X3 l cs with
    | none=>rw [h1] at h; cases h
    | some a =>
      cases h2:T6 ts ds with
      | none=>rw [h1,h2] at h; cases h
      | some bs =>
        rw [h1,h2] at h
        simp only [A4j] at h; subst h
        obtain ⟨cs',i1,i2⟩:=Zm h1
        obtain ⟨ds',j1,j2⟩:=Ro h2
        refine ⟨.agg cs'::ds',.st i1 j1,fun c w vs hv=>?_⟩
        rw [Bj.Dl] at hv ⊢
        obtain ⟨u,us,e,hu,hus⟩:=hv
        refine ⟨u,us,e,?_,j2 _ _ _ hus⟩
        simp only [Au] at hu ⊢
        obtain ⟨vs,e,hh⟩:=hu
        exact ⟨vs,e,i2 _ _ _ hh⟩
   ·rename_i t ts d ds _ _
    cases h1:Aix t d with
    | none=>rw [h1] at h; cases h
    | some a =>
      cases h2:T6 ts ds with
      | none=>rw [h1,h2] at h; cases h
      | some bs =>
        rw [h1,h2] at h
        simp only [A4j] at h; subst h
        obtain ⟨d',i1,i2⟩:=Af0 h1
        obtain ⟨ds',j1,j2⟩:=Ro h2
        refine ⟨d'::ds',i1 _ _ _ j1,fun c w vs hv=>?_⟩
        rw [Bj.Dl] at hv ⊢
        obtain ⟨u,us,e,hu,hus⟩:=hv
        exact ⟨u,us,e,i2 _ _ _ hu,j2 _ _ _ hus⟩
   ·cases h
theorem Amq:∀ {ls:List (List AT)} {rows:List (List DV)} {as:List Atom},Afz ls rows=some as →
 ∃ rows',(∀ sz ts bs ds,Fo ts bs ds→Fo (.rs sz ls::ts) (as++bs) (.recs .arg sz rows'::ds))∧rows'.length=rows.length∧∀ c w vs,D2 c w rows vs→D2 c w rows' vs
 | [],[],as,h=>by
   simp only [Afz,A4j] at h; subst h
   exact ⟨[],fun _ _ _ _ h=>.rs0 h,rfl,fun _ _ _ h=>h⟩
 | l::ls,cs::rows,as,h=>by
   simp only [Afz] at h
   cases h1:X3 l cs with
   | none=>rw [h1] at h; cases h
   | some a =>
     cases h2:Afz ls rows with
     | none=>rw [h1,h2] at h; cases h
     | some bs =>
       rw [h1,h2] at h
       simp only [A4j] at h; subst h
       obtain ⟨cs',i1,i2⟩:=Zm h1
       obtain ⟨rows',j1,j2,j3⟩:=Amq h2
       refine ⟨cs'::rows',fun sz ts b ds he=>?_,by simp [j2],fun c w vs hv=>?_⟩
       ·rw [List.append_assoc]; exact .rs1 i1 (j1 _ _ _ _ he)
       ·simp only [D2] at hv ⊢
        obtain ⟨u,us,e,hu,hus⟩:=hv
        exact ⟨u,us,e,i2 _ _ _ hu,j3 _ _ _ hus⟩
 | [],_::_,as,h=>by simp [Afz] at h
 | _::_,[],as,h=>by simp [Afz] at h
theorem Ml:∀ {ts:List AT} {ds:List DV} {as:List Atom},Md ts ds=some as→∃ ds',Fo ts as ds'∧∀ c w vs,Bj c w ds vs→Bj c w ds' vs
 | ts,ds,as,h=>by
   unfold Md at h
   split at h
   ·simp only [A4j] at h; subst h
    exact ⟨[],.nil,fun _ _ _ h=>h⟩
   ·rename_i sz ls ts sz' rows ds
    cases hg:Nat.beq sz sz' with
    | false=>rw [hg] at h; cases h
    | true =>
    rw [hg,A4g] at h
    obtain rfl:=A4y hg
    cases h1:Afz ls rows with
    | none=>rw [h1] at h; cases h
    | some a =>
      cases h2:Md ts ds with
      | none=>rw [h1,h2] at h; cases h
      | some bs =>
        rw [h1,h2] at h
        simp only [A4j] at h; subst h
        obtain ⟨rows',i1,i3,i2⟩:=Amq h1
        obtain ⟨ds',j1,j2⟩:=Ml h2
        refine ⟨.recs .arg sz rows'::ds',i1 _ _ _ _ j1,fun c w vs hv=>?_⟩
        rw [Bj.Dl] at hv ⊢
        obtain ⟨u,us,e,hu,hus⟩:=hv
        refine ⟨u,us,e,?_,j2 _ _ _ hus⟩
        simp only [Au] at hu ⊢
        obtain ⟨a,cap,e,hc,hh⟩:=hu
        refine ⟨a,cap,by rw [i3]; exact e,by rw [i3]; exact hc,hh.imp (fun h=>?_) fun ⟨b,o,rs,e1,e2,e3,e4,e5⟩=>⟨b,o,rs,e1,e2,i2 _ _ _ e3,e4,e5⟩⟩
        rw [h] at i3
        exact A5h i3
   ·rename_i g l ts g' cs ds
    cases hg:Nat.beq g g' with
    | false=>rw [hg] at h; cases h
    | true =>
    rw [hg,A4g] at h
    obtain rfl:=A4y hg
    cases h1:T6 l cs with
    | none=>rw [h1] at h; cases h
    | some a =>
      cases h2:Md ts ds with
      | none=>rw [h1,h2] at h; cases h
      | some bs =>
        rw [h1,h2] at h
        simp only [A4j] at h; subst h
        obtain ⟨cs',i1,i2⟩:=Ro h1
        obtain ⟨ds',j1,j2⟩:=Ml h2
        refine ⟨.fn g cs' []::ds',.fm i1 j1,fun c w vs hv=>?_⟩
        rw [Bj.Dl] at hv ⊢
        obtain ⟨u,us,e,hu,hus⟩:=hv
        refine ⟨u,us,e,?_,j2 _ _ _ hus⟩
        simp only [Au] at hu ⊢
        obtain ⟨fs',vs,e,hf,hh⟩:=hu
        exact ⟨fs',vs,e,i2 _ _ _ hf,hh⟩
   ·rename_i g l ts g' cs ds
    cases hg:Nat.beq g g' with
    | false=>rw [hg] at h; cases h
    | true =>
    rw [hg,A4g] at h
    obtain rfl:=A4y hg
    cases h1:T6 l cs with
    | none=>rw [h1] at h; cases h
    | some a =>
      cases h2:Md ts ds with
      | none=>rw [h1,h2] at h; cases h
      | some bs =>
        rw [h1,h2] at h
        simp only [A4j] at h; subst h
        obtain ⟨cs',i1,i2⟩:=Ro h1
        obtain ⟨ds',j1,j2⟩:=Ml h2
        refine ⟨.fn g [] cs'::ds',.fn i1 j1,fun c w vs hv=>?_⟩
        rw [Bj.Dl] at hv ⊢
        obtain ⟨u,us,e,hu,hus⟩:=hv
        refine ⟨u,us,e,?_,j2 _ _ _ hus⟩
        simp only [Au] at hu ⊢
        obtain ⟨fs',vs,e,hf,hh⟩:=hu
        exact ⟨fs',vs,e,hf,i2 _ _ _ hh⟩
   ·rename_i l ts cs ds
    cases h1:T6 l cs with
    | none=>rw [h1] at h; cases h
    | some a =>
      cases h2:Md ts ds with
      | none=>rw [h1,h2] at h; cases h
      | some bs =>
        rw [h1,h2] at h
        simp only [A4j] at h; subst h
        obtain ⟨cs',i1,i2⟩:=Ro h1
        obtain ⟨ds',j1,j2⟩:=Ml h2
        refine ⟨.cellp cs'::ds',.cp i1 j1,fun c w vs hv=>?_⟩
        rw [Bj.Dl] at hv ⊢
        obtain ⟨u,us,e,hu,hus⟩:=hv
        refine ⟨u,us,e,?_,j2 _ _ _ hus⟩
        simp only [Au] at hu ⊢
        obtain ⟨b,o,vs,e,hb,hh,hc⟩:=hu
        exact ⟨b,o,vs,e,hb,i2 _ _ _ hh,hc⟩
   ·rename_i l ts cs ds
    cases h1:T6 l cs with
    | none=>rw [h1] at h; cases h
    | some a =>
      cases h2:Md ts ds with
      | none=>rw [h1,h2] at h; cases h
      | some bs =>
        rw [h1,h2] at h
        simp only [A4j] at h; subst h
        obtain ⟨cs',i1,i2⟩:=Ro h1
        obtain ⟨ds',j1,j2⟩:=Ml h2
        refine ⟨.agg cs'::ds',.st i1 j1,fun c w vs hv=>?_⟩
        rw [Bj.Dl] at hv ⊢
        obtain ⟨u,us,e,hu,hus⟩:=hv
        refine ⟨u,us,e,?_,j2 _ _ _ hus⟩
        simp only [Au] at hu ⊢
        obtain ⟨vs,e,hh⟩:=hu
        exact ⟨vs,e,i2 _ _ _ hh⟩
   ·rename_i t ts d ds _ _ _ _ _
    cases h1:Aix t d with
    | none=>rw [h1] at h; cases h
    | some a =>
      cases h2:Md ts ds with
      | none=>rw [h1,h2] at h; cases h
      | some bs =>
        rw [h1,h2] at h
        simp only [A4j] at h; subst h
        obtain ⟨d',i1,i2⟩:=Af0 h1
        obtain ⟨ds',j1,j2⟩:=Ml h2
        refine ⟨d'::ds',i1 _ _ _ j1,fun c w vs hv=>?_⟩
        rw [Bj.Dl] at hv ⊢
        obtain ⟨u,us,e,hu,hus⟩:=hv
        exact ⟨u,us,e,i2 _ _ _ hu,j2 _ _ _ hus⟩
   ·cases h
def entry (ts:List AT) (pre:List Atom→Bool) (out:List Atom→DV):Entry where
 pre:=fun args=>match Md ts args with
  | some as=>pre as
  | none=>false
 out:=fun args=>match Md ts args with
  | some as=>out as
  | none=>.undef
inductive Wk (drops:List Nat):DV→DV→Prop
 | refl {d:DV} (h:Fy 1 [] d=true) (ho:∀ i e k l,d≠.ints (.own i e) k l) (hr:∀ i e k l,d≠.recs (.own i e) k l):Wk drops d d
 | nil (g:W3) (k:IntKind):Wk drops .nil (.ints g k [])
 | fresh (k:IntKind) (l:List Int):Wk drops (.ints .fresh k l) (.ints .arg k l)
 | keep (i:Nat) (e:TypeId) (k:IntKind) (l:List Int) (h:i ∉ drops):Wk drops (.ints (.own i e) k l) (.ints (.own i e) k l)
 | keepR (i:Nat) (e:TypeId) (sz:Nat) (l:List (List DV)) (h:i ∉ drops):Wk drops (.recs (.own i e) sz l) (.recs (.own i e) sz l)
 | nilR (g:W3) (sz:Nat):Wk drops .nil (.recs g sz [])
 | dropR (i:Nat) (e:TypeId) (sz:Nat) (l:List (List DV)) (h:i∈drops):Wk drops (.recs (.own i e) sz l) (.recs .fresh sz l)
 | drop (i:Nat) (e:TypeId) (k:IntKind) (l:List Int) (h:i∈drops):Wk drops (.ints (.own i e) k l) (.ints .fresh k l)
 | dropA (i:Nat) (e:TypeId) (k:IntKind) (l:List Int) (h:i∈drops):Wk drops (.ints (.own i e) k l) (.ints .arg k l)
 | agg {l l':List DV} (h:l.length=l'.length) (hw:∀ (j:Nat) d d',l[j]?=some d→l'[j]?=some d'→Wk drops d d'):Wk drops (.agg l) (.agg l')
 | tup {l l':List DV} (h:l.length=l'.length) (hw:∀ (j:Nat) d d',l[j]?=some d→l'[j]?=some d'→Wk drops d d'):Wk drops (.tup l) (.tup l')
def Ji (drops:List Nat) (own:Nat→Option Nat) (i:Nat):Option Nat:=if i∈drops then none else own i
theorem Nb {drops:List Nat} {own:Nat→Option Nat} {i b:Nat} (h:Ji drops own i=some b):own i=some b∧i ∉ drops:=by
 unfold Ji at h
 split at h
 ·cases h
 ·exact ⟨h,‹_›⟩
theorem Ub {w:World} {base:Nat} {e:TypeId} {k:IntKind} {l:List Int} {v:Value} (ho:w.ownsRow base e 1 v l.length (l.map (Value.int k))) {ok:Nat→Prop} (hok:∀ b,v.ownBlock=some b→ok b) :
 ∃ a cap,v=.slice a l.length cap∧l.length≤cap∧(l=[]∨∃ b o,a=some ⟨b,o,none⟩∧ok b∧∀ (i:Nat) n,l[i]?=some n→w.cell? ⟨b,o+i,none⟩=some (.int k n)):=by
 have:=K2 (p:=⟨.live,.row v 1⟩) rfl ho (F8 ho) (ok:=ok) hok
 simp only [List.drop_zero,List.take_length] at this
 exact this
theorem Wk.rel {drops:List Nat} {d d':DV} (h:Wk drops d d') {I:Nat→Prop} {own:Nat→Option Nat} {w w':World} (ho:Am6 own w w'):∀ v,Au (Er I own w w') w' d v→Au (Er I (Ji drops own) w w') w' d' v:=by
 have hok:∀ b,(Er I own w w').ok b→(Er I (Ji drops own) w w').ok b:=by
  rintro b ⟨h1,h2,h3⟩
  exact ⟨h1,h2,fun i hi=>h3 i (Nb hi).1⟩
 have hblk:∀ i b,i∈drops→own i=some b→(Er I (Ji drops own) w w').ok b∧w.heap.size≤b:=by
  intro i b hi hb
  obtain ⟨h1,h2⟩:=ho.lt i b hb
  refine ⟨⟨h2,.inr h1,fun j hj=>?_⟩,h1⟩
  obtain ⟨h3,h4⟩:=Nb hj
  rw [ho.inj j i b h3 hb] at h4
  exact h4 hi
 induction h with
 | @refl d h h1 h2 =>
   intro v hv
   have hl:Nf (({ Er I own w w' with own:=fun _=>none }:Ctx).only []) w' (Er I (Ji drops own) w w') w' :=
    ⟨hok,rfl,rfl,fun _ _ h=>(by cases h),fun n p hp=>(by simp [Ctx.only] at hp),fun _ _ _=>rfl,fun _ _ h=>(by cases h)⟩
   refine Au.Ec hl d v (Ae7 [] 1 d v h ?_)
   cases d with
   | ints g k l =>
     cases g with
     | own i e=>exact absurd rfl (h1 i e k l)
     | _=>simp only [Au] at hv ⊢; exact hv
   | recs g k l =>
     cases g with
     | own i e=>exact absurd rfl (h2 i e k l)
     | _=>simp only [Au] at hv ⊢; exact hv
   | agg l =>
     cases l with
     | nil=>simp only [Au] at hv ⊢; simpa [Bj] using hv
     | cons a l=>simp [Fy] at h
   | tup l =>
     cases l with
     | nil=>simp only [Au] at hv ⊢; simpa [Bj] using hv
     | cons a l=>simp [Fy] at h
   | fn g a c =>
     cases a with
     | cons _ _=>simp [Fy] at h
     | nil =>
       cases c with
       | cons _ _=>simp [Fy] at h
       | nil=>simp only [Au] at hv ⊢; simpa [Bj] using hv
   | gd c d=>simp [Fy] at h
   | oref n=>simp [Fy] at h
   | sref n o m=>simp [Fy] at h
   | ptr n i j=>simp [Fy] at h
   | undef=>simp only [Au]
   | _=>simp only [Au] at hv ⊢; exact hv
 | nil g k =>
   intro v hv
   simp only [Au] at hv
   subst hv
   cases g with
   | own i e=>simp only [Au]; exact ⟨World.ownsRow_nil w' _ e 1,fun b hb=>by cases hb⟩
   | _=>simp only [Au]; exact ⟨none,0,rfl,A5a _,.inl trivial⟩
 | nilR g sz =>
   intro v hv
   simp only [Au] at hv
   subst hv
   cases g with
   | own i e=>simp only [Au]; exact ⟨[],by simp [D2],by simp,World.ownsRow_nil w' _ e sz,fun b hb=>by cases hb⟩
   | _=>simp only [Au]; exact ⟨none,0,rfl,A5a _,.inl trivial⟩
 | dropR i e sz l h =>
   intro v hv
   simp only [Au] at hv ⊢
   obtain ⟨rows,h1,h2,h3,h4⟩:=hv
   have hr:=D2.Ec (c:=(Er I own w w').bare) (c':=(Er I (Ji drops own) w w').bare) ⟨hok,rfl,rfl,fun _ _ h=>(by cases h),fun _ _ h=>(by cases h),fun _ _ _=>rfl,fun _ _ h=>(by cases h)⟩ _ _ h1
   have:=K1 (p:=⟨.live,.row v sz⟩) rfl hr h2 h3 (by have:=F8 h3; exact this) (ok:=fun b=>(Er I (Ji drops own) w w').ok b∧w.heap.size≤b) (fun b hb=>hblk i b h (h4 b hb))
   simp only [List.drop_zero,List.take_length] at this
   obtain ⟨a,cap,e1,e2,e3⟩:=this
   exact ⟨a,cap,e1,e2,e3.imp id fun ⟨b,o,rows',e4,e5,e6,e7,e8⟩=>⟨b,o,rows',e4,⟨e5.1,rfl,e5.2⟩,e6,e7,e8⟩⟩
 | fresh k l =>
   intro v hv
   simp only [Au] at hv ⊢
   obtain ⟨a,cap,e,h1,h2⟩:=hv
   exact ⟨a,cap,e,h1,h2.imp id fun ⟨b,o,h3,h4,h5⟩=>⟨b,o,h3,hok b h4.1,h5⟩⟩
 | keep i e k l h =>
   intro v hv
   simp only [Au] at hv ⊢
   exact ⟨hv.1,fun b hb=>by show Ji drops own i=some b; unfold Ji; rw [A42 h]; exact hv.2 b hb⟩
 | keepR i e sz l h =>
   intro v hv
   simp only [Au] at hv ⊢
   obtain ⟨rows,h1,h2,h3,h4⟩:=hv
   refine ⟨rows,?_,h2,h3,fun b hb=>by show Ji drops own i=some b; unfold Ji; rw [A42 h]; exact h4 b hb⟩
   exact D2.Ec (c:=(Er I own w w').bare) (c':=(Er I (Ji drops own) w w').bare) ⟨hok,rfl,rfl,fun _ _ h=>(by cases h),fun _ _ h=>(by cases h),fun _ _ _=>rfl,fun _ _ h=>(by cases h)⟩ _ _ h1
 | drop i e k l h =>
   intro v hv
   simp only [Au] at hv ⊢
   exact Ub hv.1 fun b hb=>⟨(hblk i b h (hv.2 b hb)).1,rfl,(hblk i b h (hv.2 b hb)).2⟩
 | dropA i e k l h =>
   intro v hv
   simp only [Au] at hv ⊢
   exact Ub hv.1 fun b hb=>(hblk i b h (hv.2 b hb)).1
 | @agg l l' h hw ih =>
   intro v hv
   simp only [Au] at hv ⊢
   obtain ⟨vs,e,hl⟩:=hv
   refine ⟨vs,e,Bj.Nj (by rw [← h]; exact hl.length) fun j d v hd hv=>?_⟩
   have hlt:j<l.length:=by rw [h]; exact (List.getElem?_eq_some_iff.1 hd).1
   obtain ⟨u,hu,hr⟩:=hl.get j _ (A4x hlt)
   rw [hv] at hu; cases hu
   exact ih j _ d (A4x hlt) hd v hr
 | @tup l l' h hw ih =>
   intro v hv
   simp only [Au] at hv ⊢
   obtain ⟨vs,e,hl⟩:=hv
   refine ⟨vs,e,Bj.Nj (by rw [← h]; exact hl.length) fun j d v hd hv=>?_⟩
   have hlt:j<l.length:=by rw [h]; exact (List.getElem?_eq_some_iff.1 hd).1
   obtain ⟨u,hu,hr⟩:=hl.get j _ (A4x hlt)
   rw [hv] at hu; cases hu
   exact ih j _ d (A4x hlt) hd v hr
theorem P5.Agl {P:Program} {f:FuncId} {args:List DV} {out out':DV} (h:P5 P f args out) {drops:List Nat} (hw:Wk drops out out'):P5 P f args out':=by
 intro w vals I hI hv
 refine (h w vals I hI hv).mono ?_
 rintro e w' ⟨v,own,he,hb,ho,hr⟩
 refine ⟨v,Ji drops own,he,hb,⟨fun i b hi=>ho.lt i b (Nb hi).1,fun i j b hi hj=>ho.inj i j b (Nb hi).1 (Nb hj).1⟩,hw.rel ho v hr⟩
theorem P5.args {P:Program} {f:FuncId} {args args':List DV} {out:DV} (h:P5 P f args out) (ha:∀ c w vs,Bj c w args' vs→Bj c w args vs):P5 P f args' out :=
 fun w vals I hI hv=>h w vals I hI (ha _ _ _ hv)
theorem Yo {P:Program} {E:Env} (he:Kb P E) {f:FuncId} {fn:Func} {body:Code} (hf:P.funcs[f]?=some fn) (hb:fn.body=some body) {ts:List AT} {pre:List Atom→Bool} {out:List Atom→DV}
 (h:∀ as ds,Fo ts as ds→pre as=true→∃ fuel d drops,B0 E fuel fn body ds=some d∧Wk drops d (out as)):Ab5 P f (entry ts pre out):=by
 intro args ha
 simp only [entry] at ha ⊢
 cases hd:Md ts args with
 | none=>rw [hd] at ha; cases ha
 | some as =>
   rw [hd] at ha
   simp only at ha ⊢
   obtain ⟨ds,h1,h2⟩:=Ml hd
   obtain ⟨fuel,d,drops,h3,h4⟩:=h as ds h1 ha
   exact ((Ays he hf hb h3).Agl h4).args h2
end Go.Den
namespace Go.Den
structure Pt (β:Type) where
 b:Nat
 c:Code
 Kn:St→Option β
 Kx:Nat→St→Option β
 Kr:St→Option β
def descend {β:Type} (E:Env) (n:Nat):List Nat→List Nat→Nat→Code→(St→Option β)→(Nat→St→Option β)→(St→Option β)→Pt β
 | 0::p,ms,b,.seq x y,Kn,Kx,Kr=>descend E n p ms b x (fun st'=>den E n b y st' Kn Kx Kr) Kx Kr
 | _::p,ms,b,.seq _ y,Kn,Kx,Kr=>descend E n p ms b y Kn Kx Kr
 | 0::p,ms,b,.cond _ x _,Kn,Kx,Kr=>descend E n p ms b x Kn Kx Kr
 | _::p,ms,b,.cond _ _ y,Kn,Kx,Kr=>descend E n p ms b y Kn Kx Kr
 | _::p,ms,_,.block id c,Kn,Kx,Kr=>descend E n p ms id c Kn (fun id' st'=>bif id'==id then Kn st' else Kx id' st') Kr
 | _::p,ms,b,.scope c,Kn,Kx,Kr=>descend E n p ms b c Kn Kx Kr
 | _::p,m::ms,b,.loop c,_,Kx,Kr=>descend E n p ms b c (fun st2=>match canon (E.hint b) st2 with | some st3=>Wm (E.hint b) (den E n b c) m st3 Kx Kr | none=>none) Kx Kr
 | _,_,b,c,Kn,Kx,Kr=>⟨b,c,Kn,Kx,Kr⟩
def cutAt (E:Env) (n:Nat) (fn:Func) (body:Code) (p ms:List Nat) (st:St):Option DV :=
 match descend E n p ms 0 body (fun st=>Ab9 E fn st) (fun _ _=>none) (fun st=>Ab9 E fn st) with
 | ⟨b,.seq (.region _ ops draw) y,Kn,Kx,Kr⟩=>Aes (Ahg E ops draw (fun st'=>den E n b y st' Kn Kx Kr)) st
 | ⟨_,.region _ ops draw,Kn,_,_⟩=>Aes (Ahg E ops draw Kn) st
 | _=>none
def Atr (E:Env) (n:Nat) (fn:Func) (body:Code) (p ms:List Nat) (st:St):Option DV :=
 match descend E n p ms 0 body (fun st=>Ab9 E fn st) (fun _ _=>none) (fun st=>Ab9 E fn st) with
 | ⟨b,.seq (.region _ ops draw) y,Kn,Kx,Kr⟩=>Ahg E ops draw (fun st'=>den E n b y st' Kn Kx Kr) st
 | ⟨_,.region _ ops draw,Kn,_,_⟩=>Ahg E ops draw Kn st
 | _=>none
theorem Di (E:Env) (n:Nat) (fn:Func) (body:Code) (p ms:List Nat) (st:St):cutAt E n fn body p ms st=Atr E n fn body p ms st:=by
 unfold cutAt Atr
 split<;>simp only [Ac1]
def B8 (E:Env) (n:Nat) (fn:Func) (body:Code) (p ms:List Nat) (m:Nat) (st:St):Option DV :=
 match descend E n p ms 0 body (fun st=>Ab9 E fn st) (fun _ _=>none) (fun st=>Ab9 E fn st) with
 | ⟨b,.loop c,_,Kx,Kr⟩=>Wm (E.hint b) (den E n b c) m st Kx Kr
 | _=>none
def atL (i:Nat):List (Nat × DV)→DV
 | []=>.undef
 | (j,d)::l=>bif Nat.beq i j then d else atL i l
def A1p (l:List (Nat × DV)):Nat→Nat→List DV
 | 0,_=>[]
 | k+1,i=>atL i l::A1p l k (i+1)
def Ff (n:Nat) (l:List (Nat × DV)):List DV:=A1p l n 0
end Go.Den
namespace Go.Den
open Go.RowKit (Below)
def Ab (x:Int):Int:=IntKind.i64.wrap x
def Bq (x:Int):Int:=IntKind.u64.wrap x
def Lc (x:Int):Int:=IntKind.u32.wrap x
def Fx (k:IntKind) (x y:Int):Int:=k.wrap (BitVec.ofInt k.bits x &&& BitVec.ofInt k.bits y).toNat
def Jk (k:IntKind) (x y:Int):Int:=k.wrap (BitVec.ofInt k.bits x ||| BitVec.ofInt k.bits y).toNat
def Awr (k:IntKind) (x y:Int):Int:=k.wrap (BitVec.ofInt k.bits x ^^^ BitVec.ofInt k.bits y).toNat
def Ie (k:IntKind) (x y:Int):Int:=k.wrap (BitVec.ofInt k.bits x &&& ~~~(BitVec.ofInt k.bits y)).toNat
def Ch (k:IntKind) (x y:Int):Int:=k.wrap (x*2^(min y.toNat k.bits))
def Ef (k:IntKind) (x y:Int):Int:=x.fdiv (2^(min y.toNat k.bits))
def B5 (p:Prop):Bool:=@decide p (Classical.propDecidable p)
theorem Aq {p:Prop}:B5 p=true↔p:=by unfold B5; exact @decide_eq_true_iff p (Classical.propDecidable p)
def Ak (f:Func):Code:=f.body.getD .skip
def Be:List (Nat × Entry)→Nat→Option Entry
 | [],_=>none
 | (m,e)::l,n=>bif Nat.beq m n then some e else Be l n
def Anb:List (Nat × TI)→Nat→Option TI
 | [],_=>none
 | (m,e)::l,n=>bif Nat.beq m n then some e else Anb l n
theorem ifT {α:Type} {R:Bool} {A A' B:α} (h:R=true) (ha:A=A'):(bif R then A else B)=A':=by rw [h,ha]; rfl
theorem Ax {α:Type} {R:Bool} {A A':Option α} (h:R=true) (ha:A=A'):(bif R then A else none)=A':=ifT h ha
theorem Cw {α:Type} {R S:Bool} {A A' B B':α} (h:R=S) (ha:A=A') (hb:B=B'):(bif R then A else B)=bif S then A' else B':=by rw [h,ha,hb]
theorem E1 {α:Type} {R:Bool} {A A' B B':α} (ha:A=A') (hb:B=B'):(bif R then A else B)=bif R then A' else B':=by rw [ha,hb]
structure A8 (P:Program) (g:FuncId) (e:Entry):Prop where
 meets:Ab5 P g e
 call:∀ (args:Array Value) (w:World),(callFunc g args).run P w=.ok (.enter g args) w
inductive A2 (P:Program):List (Nat × Entry)→Prop
 | nil:A2 P []
 | cons {g e l}:A8 P g e→A2 P l→A2 P ((g,e)::l)
theorem A2.get {P:Program} {l:List (Nat × Entry)} (h:A2 P l) {g:Nat} {e:Entry} (hg:Be l g=some e):A8 P g e:=by
 induction h with
 | nil=>cases hg
 | @cons g' e' l h1 h2 ih =>
   simp only [Be] at hg
   cases hb:Nat.beq g' g with
   | true =>
     rw [hb] at hg
     simp only [A4g,A4j] at hg
     have:=A4y hb
     subst this hg
     exact h1
   | false=>rw [hb] at hg; exact ih hg
theorem Mf {P:Program} {f:FuncId} {fn:Func} {body:Code} (hf:P.funcs[f]?=some fn) (hn:(fn.name== "runtime.NumGoroutine")=false) (hb:fn.body=some body) (args:Array Value) (w:World) :
 (callFunc f args).run P w=.ok (.enter f args) w:=by
 have h1:fn.name≠ "runtime.NumGoroutine":=by simpa using hn
 simp [callFunc,hf,h1,hb]
inductive T1 (P:Program):List (Nat × TI)→Prop
 | nil:T1 P []
 | cons {t ti l}:Ct P t ti→T1 P l→T1 P ((t,ti)::l)
theorem T1.get {P:Program} {l:List (Nat × TI)} (h:T1 P l) {t:Nat} {ti:TI} (hg:Anb l t=some ti):Ct P t ti:=by
 induction h with
 | nil=>cases hg
 | @cons t' ti' l h1 h2 ih =>
   simp only [Anb] at hg
   cases hb:Nat.beq t' t with
   | true =>
     rw [hb] at hg
     simp only [A4g,A4j] at hg
     have:=A4y hb
     subst this hg
     exact h1
   | false=>rw [hb] at hg; exact ih hg
theorem Dp {P:Program} {t:TypeId} {ti:TI} {z:Value} (h:(P.info? t).map (fun i=>(i.zero,i.size,i.bytes))=some (some z,ti.size,ti.bytes)) (hz:Aga ti.zero z.cells.toList) (hs:z.cells.size=ti.size)
 (h1:∀ u∈z.cells.toList,u.oneCell'=true) (hd:Dd P t ti.kind):Ct P t ti:=by
 cases hi:P.info? t with
 | none=>rw [hi] at h; cases h
 | some i =>
   rw [hi] at h
   simp only [Option.map_some,A4j,A4p] at h
   exact ⟨⟨i,z,hi,h.2.1,h.2.2,h.1,hz,hs,h1⟩,hd⟩
def An7 (ts:List AT) (pre:List Atom→Bool) (out:List Atom→DV) (mu:List Atom→Nat) (n:Nat):Entry:=entry ts (fun as=>pre as&&B5 (mu as<n)) out
theorem Akr {P:Program} {E:Nat→Env} {f:FuncId} {fn:Func} {body:Code} (hf:P.funcs[f]?=some fn) (hb:fn.body=some body) {ts:List AT} {pre:List Atom→Bool} {out:List Atom→DV} (mu:List Atom→Nat)
 (he:∀ n,Ab5 P f (An7 ts pre out mu n)→Kb P (E n))
 (h:∀ n as ds,Fo ts as ds→pre as=true→mu as<n+1→∃ fuel d drops,B0 (E n) fuel fn body ds=some d∧Wk drops d (out as)):Ab5 P f (entry ts pre out):=by
 have key:∀ n,Ab5 P f (An7 ts pre out mu n):=by
  intro n
  induction n with
  | zero =>
    intro args ha
    simp only [An7,entry] at ha
    split at ha
    ·simp only [A4r,Aq] at ha; omega
    ·cases ha
  | succ n ih =>
    refine Yo (he n ih) hf hb fun as ds hd hp=>?_
    simp only [A4r,Aq] at hp
    exact h n as ds hd hp.1 hp.2
 intro args ha
 simp only [entry] at ha
 cases hd:Md ts args with
 | none=>rw [hd] at ha; cases ha
 | some as =>
   rw [hd] at ha
   have:=key (mu as+1) args (by simp only [An7,entry,hd,A4r,Aq]; exact ⟨ha,Nat.lt_succ_self _⟩)
   simp only [An7,entry] at this ⊢
   exact this
theorem Q3 {P:Program} (w:World) {t:TypeId} {ti:TI} (hf:Ct P t ti) (ha:ti.agg=false) {xs:Array Value} {i:Nat} {v:Value} (hv:xs[i]?=some v):(part t xs i).run P w=.ok v w:=by
 simp [part,hf.Vr w,ha,hv]
theorem Z3 {z:Bool} {l m:List DV} (h:sameShape (.bool z::l) m=true):∃ b m',m=.bool b::m'∧sameShape l m'=true:=by
 cases m with
 | nil=>simp [sameShape] at h
 | cons d m'=>cases d<;>simp [sameShape] at h; exact ⟨_,_,rfl,h⟩
theorem Tc {k:IntKind} {z:Int} {l m:List DV} (h:sameShape (.int k z::l) m=true):∃ b m',m=.int k b::m'∧sameShape l m'=true:=by
 cases m with
 | nil=>simp [sameShape] at h
 | cons d m'=>cases d<;>simp [sameShape] at h; obtain ⟨rfl,h⟩:=h; exact ⟨_,_,rfl,h⟩
theorem Ac7 {m:List DV} (h:sameShape [] m=true):m=[]:=by
 cases m with
 | nil=>rfl
 | cons d m'=>cases d<;>simp [sameShape] at h
theorem Ay2 {P:Program} {g:FuncId} {e:Entry} (h:A8 P g e) {vals:Array Value} {w:World} {args:List DV} {I:Nat→Prop} (hI:∀ b,I b→b<w.heap.size) (ha:Bj (Kd I) w args vals.toList)
 (hp:e.pre args=true) (ho:e.out args=.bool true):Calls P g vals w fun e w'=>e=.returned (.bool true)∧Below w.heap.size w w':=by
 refine (h.meets args hp w vals I hI ha).mono ?_
 rintro e w' ⟨v,own,he,hb,_,hv⟩
 rw [ho] at hv
 simp only [Au] at hv
 subst hv
 exact ⟨he,hb⟩
end Go.Den
namespace Go.Den
open Go.RowKit (Below)
def A19 (E:Env) (n:Nat) (_fn:Func) (body:Code) (p ms:List Nat) (m:Nat) (st:St):Option Unit :=
 match descend E n p ms 0 body (fun _=>some ()) (fun _ _=>none) (fun _=>some ()) with
 | ⟨b,.loop c,_,Kx,Kr⟩=>Wm (E.hint b) (den E n b c) m st Kx Kr
 | _=>none
def Acr (e:TypeId) (k:IntKind) (st:St):Option (List Int):=match st.tmps.getD 0 .undef with
 | .oref n=>match look st.heap n with
   | some (false,.ints e' k' l)=>bif e==e'&&decide (k=k') then some l else none
   | _=>none
 | _=>none
def wrD (E:Env) (fuel:Nat) (fn:Func) (body:Code) (e:TypeId) (k:IntKind) (l:List Int) (ds:List DV):Option (List Int) :=
 den E fuel 0 body ⟨(.oref 1000::ds)++List.replicate (fn.ntmps-(ds.length+1)) .undef,[(1000,false,.ints e k l)]⟩ (Acr e k) (fun _ _=>none) (Acr e k)
def We (E:Env) (n:Nat) (_fn:Func) (body:Code) (e:TypeId) (k:IntKind) (p ms:List Nat) (m:Nat) (st:St):Option (List Int) :=
 match descend E n p ms 0 body (Acr e k) (fun _ _=>none) (Acr e k) with
 | ⟨b,.loop c,_,Kx,Kr⟩=>Wm (E.hint b) (den E n b c) m st Kx Kr
 | _=>none
theorem Azj {P:Program} {E:Env} (he:Kb P E) (hnp:0<E.np) {f:FuncId} {fn:Func} {body:Code} (hf:P.funcs[f]?=some fn) (hb:fn.body=some body) (hres:fn.results.toList=[])
 (hcall:∀ (args:Array Value) (w:World),(callFunc f args).run P w=.ok (.enter f args) w) {W:Writer}
 (h:∀ l ds,l.length≤maxLen→W.pre l ds=true→∃ ds' fuel,(∀ c w vs,Bj c w ds vs→Bj c w ds' vs)∧wrD E fuel fn body W.elem W.kind l ds'=some (W.out l ds)):P4 P f W:=by
 refine ⟨hcall,fun w v l ds vals hown hds hpre=>?_⟩
 refine calls_of_wp hf hb ?_
 have hlen:l.length≤maxLen:=by
  rcases hown.2 with ⟨_,hn⟩ | ⟨g,cap,cur,_,_,_,hnc,hm,_,_⟩
  ·rw [hn]; exact Nat.zero_le _
  ·exact A5n hnc hm
 obtain ⟨ds',fuel,hds',h⟩:=h l ds hlen hpre
 have hds:=hds' _ _ _ hds
 generalize W.out l ds=out at h
 unfold wrD at h
 let A:Nat→Option Place:=fun n=>if n=1000 then some ⟨.live,.row v 1⟩ else none
 have hA:∀ {n p},A n=some p→n=1000∧p=⟨.live,.row v 1⟩:=by
  intro n p hp
  have hp:(if n=1000 then some (⟨.live,.row v 1⟩:Place) else none)=some p:=hp
  by_cases hn:n=1000
  ·rw [A43 hn] at hp; cases hp; exact ⟨hn,rfl⟩
  ·rw [A42 hn] at hp; cases hp
 have hone:v.oneCell'=true:=by
  rcases hown.2 with ⟨hv,_⟩ | ⟨g,cap,cur,hv,_⟩<;>rw [hv]<;>rfl
 have hsz:∀ b,v.ownBlock=some b→b<w.heap.size:=fun b hb=>(hown.lt b hb).2
 have hl:ds'.length=vals.length:=hds.length
 have hh:Gh (E:=E) ⟨fun b=>b<w.heap.size∧v.ownBlock≠some b,fun t=>((v::vals).toArray++Array.replicate (fn.ntmps-(v::vals).toArray.size) undef).getD t undef⟩ (fun _=>False) 0 w
  ⟨(.oref 1000::ds')++List.replicate (fn.ntmps-(ds'.length+1)) .undef,[(1000,false,.ints W.elem W.kind l)]⟩
  ⟨(v::vals).toArray++Array.replicate (fn.ntmps-(v::vals).toArray.size) undef,[]⟩ w:=by
  refine ⟨A,rfl,by simp only [Array.size_append,Array.size_replicate,List.size_toArray,A48,List.length_replicate,List.length_cons]; omega,Below.refl _ _,Nat.zero_le _,fun b h=>h.elim,fun n p hp=>?_,fun n p b hp _ hpb=>?_,fun n m p q b hp hq _ _ _ _=>?_,fun t=>?_,fun b hb=>⟨hb.1,rfl,fun n p hp _ hpb=>?_⟩,fun t _=>rfl⟩
  ·obtain ⟨rfl,rfl⟩:=hA hp
   exact ⟨_,rfl,rfl,v,rfl,hown⟩
  ·obtain ⟨rfl,rfl⟩:=hA hp
   exact ⟨Nat.zero_le _,hsz b hpb⟩
  ·exact (hA hp).1.trans (hA hq).1.symm
  ·have hw:K6 (Kd fun b=>b<w.heap.size∧v.ownBlock≠some b) (B3 (fun _=>False) 0 A w):=⟨fun b hb=>⟨hb.1,.inr (Nat.zero_le _),fun n p hp _ hpb=>by
    obtain ⟨rfl,rfl⟩:=hA hp
    exact hb.2 hpb⟩,rfl,fun _=>rfl,fun _=>rfl⟩
   have hall:Bj (B3 (fun _=>False) 0 A w) w (.oref 1000::ds') (v::vals):=by
    rw [Bj.Dl]
    refine ⟨_,_,rfl,?_,Bj.Gr hw _ _ hds⟩
    simp only [Au]
    exact ⟨hone,⟨.live,.row v 1⟩,(A43 rfl:A 1000=some _),.inr ⟨1,rfl⟩⟩
   rcases A5d t (.oref 1000::ds').length with hlt | hge
   ·obtain ⟨u,h1,h2⟩:=hall.getD t hlt
    simp only [A4q,List.getElem?_append_left hlt] at h2 ⊢
    have hlt':t<(v::vals).toArray.size:=by simp only [List.size_toArray,List.length_cons] at hlt ⊢; omega
    have e:((v::vals).toArray++Array.replicate (fn.ntmps-(v::vals).toArray.size) undef).getD t undef=u:=by
     rw [Array.getD_eq_getD_getElem?,Array.getElem?_append_left hlt',List.getElem?_toArray,h1]; rfl
    rw [e]; exact h2
   ·rw [A4q,A5u hge,List.getElem?_replicate]
    split<;>simp only [A50,Option.getD_none,Au]
  ·obtain ⟨rfl,rfl⟩:=hA hp
   exact hb.2 hpb
 have fin:∀ (st:St) (a:Act) (w':World),Acr W.elem W.kind st=some out→Gh (E:=E) ⟨fun b=>b<w.heap.size∧v.ownBlock≠some b,fun t=>((v::vals).toArray++Array.replicate (fn.ntmps-(v::vals).toArray.size) undef).getD t undef⟩ (fun _=>False) 0 w st a w' →
  a.defers=[]∧∃ u,(results fn a.tmps).run P w'=.ok u w'∧(∃ u',Ending.returned u=.returned u')∧w'.ownsRow 0 W.elem 1 v out.length (out.map (Value.int W.kind))∧Below 0 w w'∧∀ b,b<w.heap.size→v.ownBlock≠some b→w'.heap[b]?=w.heap[b]?:=by
  intro st a w' he' ⟨A',hA'⟩
  obtain ⟨vs,hv,hr⟩:=Xg (st:=st) he.ty hA' fn.results.toList [] (by rw [hres]; rfl)
  refine ⟨hA'.defers,_,Yk hr,⟨_,rfl⟩,?_,hA'.below,fun b h1 h2=>(hA'.kept b ⟨h1,h2⟩).2.1⟩
  have h0:=hA'.tmps 0
  have hpin:=hA'.pin 0 hnp
  have hv0:a.tmps.getD 0 undef=v:=by
   rw [hpin]
   show ((v::vals).toArray++Array.replicate (fn.ntmps-(v::vals).toArray.size) undef).getD 0 undef=v
   rw [Array.getD_eq_getD_getElem?,Array.getElem?_append_left (by simp)]; rfl
  rw [hv0] at h0
  unfold Acr at he'
  split at he'
  ·rename_i n hn
   rw [hn] at h0
   simp only [Au] at h0
   obtain ⟨_,p,hp,hpd⟩:=h0
   split at he'
   ·rename_i e' k' l' hlk
    cases hc:(W.elem==e'&&decide (W.kind=k')) with
    | false=>rw [hc] at he'; simp at he'
    | true =>
      rw [hc,A4g,A4j] at he'
      subst he'
      simp only [A4r,beq_iff_eq,A4n] at hc
      obtain ⟨rfl,rfl⟩:=hc
      have hm:Mem (fun _=>False) 0 A' st.heap w':=hA'.mem fun n p fo _ hl=>hl
      obtain ⟨hlive,sv,hkind,hown'⟩:=E0 hm hp hlk
      simp only [Bool.false_eq_true,if_false] at hlive
      rcases hpd with hpd | ⟨size,hk⟩
      ·rw [hlive] at hpd; cases hpd
      ·rw [hkind] at hk; cases hk
       exact hown'
   ·cases he'
  ·cases he'
 refine Rn he fuel out body 0 _ _ _ _ h _ _ hh _ (fun st a w' hk hh'=>?_) (fun id st a w' hk=>by cases hk) (fun st a w' hk hh'=>?_)
 ·obtain ⟨h1,u,h2,h3⟩:=fin st a w' hk hh'
  exact ⟨h1,u,h2,h3⟩
 ·obtain ⟨h1,u,h2,h3⟩:=fin st a w' hk hh'
  exact ⟨h1,u,h2,h3⟩
def Agj (e:TypeId) (k:IntKind) (ts:List AT) (pre:List Atom→Bool) (out:List Atom→List Int):Writer where
 elem:=e
 kind:=k
 pre:=fun l ds=>match Md ts ds with
  | some as=>pre (.l l::as)
  | none=>false
 out:=fun l ds=>match Md ts ds with
  | some as=>out (.l l::as)
  | none=>l
theorem Zq {P:Program} {E:Env} (he:Kb P E) (hnp:0<E.np) {f:FuncId} {fn:Func} {body:Code} (hf:P.funcs[f]?=some fn) (hb:fn.body=some body) (hres:fn.results.toList=[])
 (hcall:∀ (args:Array Value) (w:World),(callFunc f args).run P w=.ok (.enter f args) w) {e:TypeId} {k:IntKind} {ts:List AT} {pre:List Atom→Bool} {out:List Atom→List Int}
 (h:∀ l as ds,Fo ts as ds→pre (.l l::as)=true→∃ fuel,wrD E fuel fn body e k l ds=some (out (.l l::as))):P4 P f (Agj e k ts pre out):=by
 refine Azj he hnp hf hb hres hcall fun l ds _ hp=>?_
 simp only [Agj] at hp ⊢
 cases hd:Md ts ds with
 | none=>rw [hd] at hp; cases hp
 | some as =>
   rw [hd] at hp
   obtain ⟨ds',h1,h2⟩:=Ml hd
   obtain ⟨fuel,h3⟩:=h l as ds' h1 hp
   exact ⟨ds',fuel,h2,h3⟩
end Go.Den
namespace Go.Den
def Ay5 (ts:List AT) (e1 e2:Entry):Entry where
 pre:=fun args=>match Md ts args with
  | some _=>e1.pre args
  | none=>e2.pre args
 out:=fun args=>match Md ts args with
  | some _=>e1.out args
  | none=>e2.out args
theorem A8.alt {P:Program} {g:FuncId} {ts:List AT} {e1 e2:Entry} (h1:A8 P g e1) (h2:A8 P g e2):A8 P g (Ay5 ts e1 e2):=by
 refine ⟨fun args ha=>?_,h1.call⟩
 simp only [Ay5] at ha ⊢
 cases hd:Md ts args with
 | none=>rw [hd] at ha; exact h2.meets args ha
 | some x=>rw [hd] at ha; exact h1.meets args ha
theorem A8.Agl {P:Program} {g:FuncId} {ts:List AT} {pre pre':List Atom→Bool} {out out':List Atom→DV} (h:A8 P g (entry ts pre out)) (drops:List Nat)
 (hw:∀ ats,pre' ats=true→pre ats=true∧Wk drops (out ats) (out' ats)):A8 P g (entry ts pre' out'):=by
 refine ⟨fun args ha=>?_,h.call⟩
 simp only [entry] at ha ⊢
 cases hd:Md ts args with
 | none=>rw [hd] at ha; cases ha
 | some x =>
   rw [hd] at ha
   have:=h.meets args (by simp only [entry,hd]; exact (hw x ha).1)
   simp only [entry,hd] at this
   exact this.Agl (hw x ha).2
end Go.Den
namespace Go.Den
def Atu (K:List (List DV)→List DV→Prop):List DV→Prop
 | .recs .arg _ rows::ds=>K rows ds
 | _=>True
def Mg:Nat→List AT→(List Atom→List DV→Prop)→Prop
 | 0,_,_=>False
 | _+1,[],K=>K [] []
 | n+1,.b::ts,K=>∀ x:Bool,Mg n ts fun as ds=>K (.b x::as) (.bool x::ds)
 | n+1,.i k::ts,K=>∀ x:Int,Mg n ts fun as ds=>K (.i x::as) (.int k x::ds)
 | n+1,.s k::ts,K=>∀ x:List Int,Mg n ts fun as ds=>K (.l x::as) (.ints .arg k x::ds)
 | n+1,.fl::ts,K=>∀ x:Nat,Mg n ts fun as ds=>K (.f x::as) (.fl x::ds)
 | n+1,.nb::ts,K=>∀ x:Nat,Mg n ts fun as ds=>K (.f x::as) (.nb x::ds)
 | n+1,.rl sz::ts,K=>∀ x:List (List DV),Mg n ts fun as ds=>K (.r x::as) (.recs .arg sz x::ds)
 | n+1,.st l::ts,K=>Mg n l fun as cs=>Mg n ts fun bs ds=>K (as++bs) (.agg cs::ds)
 | n+1,.fn g l::ts,K=>Mg n l fun as cs=>Mg n ts fun bs ds=>K (as++bs) (.fn g [] cs::ds)
 | n+1,.fm g l::ts,K=>Mg n l fun as cs=>Mg n ts fun bs ds=>K (as++bs) (.fn g cs []::ds)
 | n+1,.cp l::ts,K=>Mg n l fun as cs=>Mg n ts fun bs ds=>K (as++bs) (.cellp cs::ds)
 | n+1,.rs sz []::ts,K=>Mg n ts fun as ds=>K as (.recs .arg sz []::ds)
 | n+1,.rs sz (l::ls)::ts,K=>Mg n l fun as cs=>Mg n (.rs sz ls::ts) fun bs ds=>Atu (fun rows ds=>K (as++bs) (.recs .arg sz (cs::rows)::ds)) ds
theorem Mg.go:∀ (n:Nat) {ts:List AT} {as:List Atom} {ds:List DV} {K:List Atom→List DV→Prop},Mg n ts K→Fo ts as ds→K as ds:=by
 intro n
 induction n with
 | zero=>intro ts as ds K h _; exact h.elim
 | succ n ih =>
   intro ts as ds K h e
   cases e with
   | nil=>exact h
   | b x e=>exact ih (K:=fun as ds=>K (.b x::as) (.bool x::ds)) (h x) e
   | i k x e=>exact ih (K:=fun as ds=>K (.i x::as) (.int k x::ds)) (h x) e
   | s k x e=>exact ih (K:=fun as ds=>K (.l x::as) (.ints .arg k x::ds)) (h x) e
   | fl x e=>exact ih (K:=fun as ds=>K (.f x::as) (.fl x::ds)) (h x) e
   | nb x e=>exact ih (K:=fun as ds=>K (.f x::as) (.nb x::ds)) (h x) e
   | rl sz x e=>exact ih (K:=fun as ds=>K (.r x::as) (.recs .arg sz x::ds)) (h x) e
   | @st _ _ a c _ _ e1 e2=>exact ih (K:=fun bs ds=>K (a++bs) (.agg c::ds)) (ih (K:=fun as cs=>Mg n _ fun bs ds=>K (as++bs) (.agg cs::ds)) h e1) e2
   | @fn g _ _ a c _ _ e1 e2=>exact ih (K:=fun bs ds=>K (a++bs) (.fn g [] c::ds)) (ih (K:=fun as cs=>Mg n _ fun bs ds=>K (as++bs) (.fn g [] cs::ds)) h e1) e2
   | @fm g _ _ a c _ _ e1 e2=>exact ih (K:=fun bs ds=>K (a++bs) (.fn g c []::ds)) (ih (K:=fun as cs=>Mg n _ fun bs ds=>K (as++bs) (.fn g cs []::ds)) h e1) e2
   | @cp _ _ a c _ _ e1 e2=>exact ih (K:=fun bs ds=>K (a++bs) (.cellp c::ds)) (ih (K:=fun as cs=>Mg n _ fun bs ds=>K (as++bs) (.cellp cs::ds)) h e1) e2
   | rs0 e=>exact ih (K:=fun as ds=>K as (.recs .arg _ []::ds)) h e
   | @rs1 sz _ _ _ a c _ _ _ e1 e2 =>
     have:=ih (K:=fun bs ds=>Atu (fun rows ds=>K (a++bs) (.recs .arg sz (c::rows)::ds)) ds) (ih (K:=fun as cs=>Mg n _ fun bs ds=>Atu (fun rows ds=>K (as++bs) (.recs .arg sz (cs::rows)::ds)) ds) h e1) e2
     exact this
abbrev Axh (E:Env) (fn:Func) (ds:List DV) (out:DV):Prop:=∃ N dv drops,B0 E N fn (Ak fn) ds=some dv∧Wk drops dv out
abbrev Hyp (E:Env) (fn:Func) (ts:List AT) (pre:List Atom→Bool) (out:List Atom→DV):Prop:=Mg 40 ts fun as ds=>pre as=true→Axh E fn ds (out as)
theorem Am {P:Program} {E:Env} (he:Kb P E) {f:FuncId} {fn:Func} (hf:P.funcs[f]?=some fn) (hb:fn.body=some (Ak fn)) (hn:(fn.name== "runtime.NumGoroutine")=false) {ts:List AT} {pre:List Atom→Bool} {out:List Atom→DV}
 (h:Mg 40 ts fun as ds=>pre as=true→Axh E fn ds (out as)):A8 P f (entry ts pre out) :=
 ⟨Yo he hf hb fun _ _ e hp=>Mg.go 40 h e hp,Mf hf hn hb⟩
end Go.Den
namespace Go.Den
theorem An {x:Int} (h1:-9223372036854775808≤x) (h2:x≤9223372036854775807):Ab x=x:=Go.IntWalk.i64_in x ⟨h1,h2⟩
theorem P7 (x:Int):Bq x=x%18446744073709551616:=by unfold Bq IntKind.wrap; simp [IntKind.bits,IntKind.signed]
theorem Ap7 (x:Int):Lc x=x%4294967296:=by unfold Lc IntKind.wrap; simp [IntKind.bits,IntKind.signed]
theorem Eh {x:Int} (h1:0≤x) (h2:x<18446744073709551616):Bq x=x:=by rw [P7]; omega
theorem Mp {x:Int} (h1:0≤x) (h2:x<4294967296):Lc x=x:=by rw [Ap7]; omega
theorem Aws (k:IntKind) (x y:Int):Ef k x y=x / 2^(min y.toNat k.bits):=by
 unfold Ef
 exact Int.fdiv_eq_ediv_of_nonneg _ (Int.le_of_lt (Int.pow_pos (by decide)))
theorem Jc (k:IntKind) (n s:Nat) (h:s≤k.bits):Ef k n s=((n / 2^s:Nat):Int):=by
 rw [Aws,A4i,Nat.min_eq_left h]
 push_cast
 rfl
theorem Gx (n s:Nat) (h:s≤64):Ch .u64 n s=((n*2^s%2^64:Nat):Int):=by
 unfold Ch
 rw [A4i,show IntKind.u64.bits=64 from rfl,Nat.min_eq_left h]
 show Bq _=_
 rw [P7]
 show _=((n*2^s%18446744073709551616:Nat):Int)
 rw [Int.natCast_emod,A41,Int.natCast_pow]
 rfl
theorem J6 (b n:Nat):(BitVec.ofInt b n).toNat=n%2^b:=by
 rw [BitVec.toNat_ofInt]
 rw [show ((n:Int)%(2^b:Nat))=((n%2^b:Nat):Int) by push_cast; rfl,A4i]
theorem Vf {n:Nat} (h:n<2^64):IntKind.u64.wrap n=n:=by
 show Bq _=_
 rw [P7]
 omega
theorem Ai5 {a b:Nat} (ha:a<2^64) (hb:b<2^64):Fx .u64 a b=((a &&& b:Nat):Int):=by
 unfold Fx
 rw [BitVec.toNat_and,J6,J6,show IntKind.u64.bits=64 from rfl,A4t ha,A4t hb]
 exact Vf (A5i Nat.and_le_left ha)
theorem Ww {a b:Nat} (ha:a<2^64) (hb:b<2^64):Jk .u64 a b=((a ||| b:Nat):Int):=by
 unfold Jk
 rw [BitVec.toNat_or,J6,J6,show IntKind.u64.bits=64 from rfl,A4t ha,A4t hb]
 exact Vf (Nat.or_lt_two_pow ha hb)
theorem At6 {a b:Nat} (ha:a<2^64) (hb:b<2^64):Awr .u64 a b=((a ^^^ b:Nat):Int):=by
 unfold Awr
 rw [BitVec.toNat_xor,J6,J6,show IntKind.u64.bits=64 from rfl,A4t ha,A4t hb]
 exact Vf (Nat.xor_lt_two_pow ha hb)
theorem J9 {a:Nat} (k:Nat) (ha:a<2^64) (hk:k≤64):Fx .u64 a ((2^k-1:Nat):Int)=((a%2^k:Nat):Int):=by
 rw [Ai5 ha (by have:=A4v (n:=2) (by decide) hk; have:=Nat.pow_pos (a:=2) (n:=k) (by decide); omega),Nat.and_two_pow_sub_one_eq_mod]
theorem Om {a b k:Nat} (hb:b<2^k):b ||| (a*2^k)=a*2^k+b:=by
 rw [Nat.or_comm,A44,Nat.two_pow_add_eq_or_of_lt hb]
theorem Apx {a b k:Nat} (hb:b<2^k) (h:a*2^k+b<2^64):Jk .u64 b ((a*2^k:Nat):Int)=((a*2^k+b:Nat):Int):=by
 rw [Ww (by omega) (by omega),Om hb]
theorem O0 {a b k:Nat} (hb:b<2^k) (h:a*2^k+b<2^64):Jk .u64 ((a*2^k:Nat):Int) b=((a*2^k+b:Nat):Int):=by
 rw [Ww (by omega) (by omega),Nat.or_comm,Om hb]
theorem Zp {r:Nat} (hr:r<2^63):(2^63+r) ^^^ 2^63=r∧r ^^^ 2^63=2^63+r:=by
 have e2:=Nat.two_pow_add_eq_or_of_lt hr 1
 rw [A5p] at e2
 have a1:r ^^^ 2^63=2^63+r:=by
  rw [e2]
  apply Nat.eq_of_testBit_eq
  intro i
  rw [Nat.testBit_xor,Nat.testBit_or,Nat.testBit_two_pow]
  by_cases hi:63=i
  ·subst hi
   rw [Nat.testBit_lt_two_pow hr]; simp
  ·simp [hi]
 refine ⟨?_,a1⟩
 rw [← a1,Nat.xor_assoc,Nat.xor_self,Nat.xor_zero]
theorem Aum {a:Nat} (ha:a<2^64):a ^^^ 2^63=if 2^63≤a then a-2^63 else a+2^63:=by
 by_cases h:2^63≤a
 ·rw [A43 h]
  obtain ⟨r,rfl⟩:∃ r,a=2^63+r:=⟨a-2^63,by omega⟩
  rw [(Zp (by omega)).1]; omega
 ·rw [A42 h,(Zp (by omega)).2]; omega
def Af (x:Int):Bool:=B5 (0≤x∧x<18446744073709551616)
theorem Bw {x:Int} (h:Af x=true):∃ n:Nat,x=n∧n<2^64:=by
 unfold Af at h
 rw [Aq] at h
 exact ⟨x.toNat,by omega,by omega⟩
theorem Cm {n:Nat} (h:n<2^64):Af n=true:=by
 unfold Af
 rw [Aq]
 omega
inductive WkL (drops:List Nat):List DV→List DV→Prop
 | nil:WkL drops [] []
 | cons {d d' l l'}:Wk drops d d'→WkL drops l l'→WkL drops (d::l) (d'::l')
theorem WkL.length {drops:List Nat} {l l':List DV} (h:WkL drops l l'):l.length=l'.length:=by
 induction h with
 | nil=>rfl
 | cons _ _ ih=>simp [ih]
theorem WkL.get {drops:List Nat} {l l':List DV} (h:WkL drops l l'):∀ (j:Nat) d d',l[j]?=some d→l'[j]?=some d'→Wk drops d d':=by
 induction h with
 | nil=>intro j d d' h; cases h
 | cons h1 _ ih =>
   intro j d d' h2 h3
   cases j with
   | zero=>cases h2; cases h3; exact h1
   | succ j=>exact ih j d d' h2 h3
theorem Wk.F7 {drops:List Nat} {l l':List DV} (h:WkL drops l l'):Wk drops (.agg l) (.agg l'):=.agg h.length h.get
theorem Wk.Hm {drops:List Nat} {l l':List DV} (h:WkL drops l l'):Wk drops (.tup l) (.tup l'):=.tup h.length h.get
theorem Wk.bool {drops:List Nat} {b:Bool}:Wk drops (.bool b) (.bool b):=.refl rfl (by intros; simp) (by intros; simp)
theorem Wk.int {drops:List Nat} {k:IntKind} {x:Int}:Wk drops (.int k x) (.int k x):=.refl rfl (by intros; simp) (by intros; simp)
theorem Wk.fl {drops:List Nat} {x:Nat}:Wk drops (.fl x) (.fl x):=.refl rfl (by intros; simp) (by intros; simp)
theorem Wk.N1 {drops:List Nat} {k:IntKind} {l:List Int}:Wk drops (.ints .arg k l) (.ints .arg k l):=.refl rfl (by intros; simp) (by intros; simp)
theorem Wk.Jh {drops:List Nat} {k:IntKind} {l:List Int}:Wk drops (.ints .fresh k l) (.ints .fresh k l):=.refl rfl (by intros; simp) (by intros; simp)
theorem Fo.Kp {as:List Atom} {ds:List DV} (h:Fo [] as ds):as=[]∧ds=[]:=by cases h; exact ⟨rfl,rfl⟩
theorem Fo.A1y {ts:List AT} {as:List Atom} {ds:List DV} (h:Fo (.b::ts) as ds):∃ x as' ds',as=.b x::as'∧ds=.bool x::ds'∧Fo ts as' ds':=by
 cases h with | b x h=>exact ⟨x,_,_,rfl,rfl,h⟩
theorem Fo.Adu {k:IntKind} {ts:List AT} {as:List Atom} {ds:List DV} (h:Fo (.i k::ts) as ds):∃ x as' ds',as=.i x::as'∧ds=.int k x::ds'∧Fo ts as' ds':=by
 cases h with | i k x h=>exact ⟨x,_,_,rfl,rfl,h⟩
theorem Fo.Aq7 {k:IntKind} {ts:List AT} {as:List Atom} {ds:List DV} (h:Fo (.s k::ts) as ds):∃ x as' ds',as=.l x::as'∧ds=.ints .arg k x::ds'∧Fo ts as' ds':=by
 cases h with | s k x h=>exact ⟨x,_,_,rfl,rfl,h⟩
theorem Fo.Ayk {ts:List AT} {as:List Atom} {ds:List DV} (h:Fo (.nb::ts) as ds):∃ x as' ds',as=.f x::as'∧ds=.nb x::ds'∧Fo ts as' ds':=by
 cases h with | nb x h=>exact ⟨x,_,_,rfl,rfl,h⟩
theorem Fo.Ak0 {g:FuncId} {l ts:List AT} {as:List Atom} {ds:List DV} (h:Fo (.fn g l::ts) as ds):∃ a1 cs a2 ds',as=a1++a2∧ds=.fn g [] cs::ds'∧Fo l a1 cs∧Fo ts a2 ds':=by
 cases h with | fn h1 h2=>exact ⟨_,_,_,_,rfl,rfl,h1,h2⟩
theorem Fo.Ak5 {l ts:List AT} {as:List Atom} {ds:List DV} (h:Fo (.cp l::ts) as ds):∃ a1 cs a2 ds',as=a1++a2∧ds=.cellp cs::ds'∧Fo l a1 cs∧Fo ts a2 ds':=by
 cases h with | cp h1 h2=>exact ⟨_,_,_,_,rfl,rfl,h1,h2⟩
end Go.Den
end
