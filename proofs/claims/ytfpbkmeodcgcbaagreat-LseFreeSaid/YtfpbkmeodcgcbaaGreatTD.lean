/- A verified evaluator of the program's form and its use for this seat: Den32, Den33, Den34, Den35, Den36, Den37, Den38, Bits. -/
import Derived.Test.YtfpbkmeodcgcbaaGreatTC
import Derived.KernelRfl
import Derived.Laws.StructEq
import Derived.Laws.Externs
import Derived.ChangeKeysEq
import Derived.IntWalk
set_option linter.unusedVariables false
set_option linter.unusedSimpArgs false
open Option renaming some->xM,none->xN
open Bool renaming true->wg,false->wy
open Array renaming replicate->wJ
open Nat renaming beq->zj,min_eq_left->ym,or_comm->xq,two_pow_add_eq_or_of_lt->vU
open List renaming drop_zero->zJ,take_length->yo,getElem?_eq_some_iff->xB
open BitVec renaming ofInt->zp
open Classical renaming propDecidable->vT
noncomputable section
namespace Go.Den
open Go.RowKit (Below)
theorem Acx{P:Program}{E:Env}{S:Vx E}(hty:∀t ti,E.ty t=xM ti->CJ P t ti){I:Nat->Prop}{fn:Func}{st:St}{out:DV}(h:Vh E fn st=xM out){w w':World}{a:Act}(hh:Fi S I w.heap.size w st a w'):
 ∃v own,(results fn a.tmps).run P w'=.ok v w'/\Below w.heap.size w w'/\Adx own w w'/\Bz (DL I own w w') w' out v:=by
 obtain⟨A,hA⟩:=hh;unfold Vh at h;cases hds:PE E st fn.results.toList with
 | none=>simp[hds] at h
 | some ds =>
   rw[hds,Aj] at h;obtain⟨vs,hv,hr⟩:=VM hty hA _ ds hds;have hm:Mem I w.heap.size A st.heap w':=hA.mem fun n p fo _ hl=>hl
   have hone:Bz (Cd I w.heap.size A w') w' (AgD ds) (AgB vs):=by
    match ds,vs,hv with
    | [],vs,hv =>rw[BN.FU] at hv; subst hv;simp only[Bz,AgD,AgB];exact⟨#[],rfl,by simp[BN]⟩
    | [d],vs,hv =>rw[BN.CS] at hv;obtain⟨u,us,rfl,h1,h2⟩:=hv;rw[BN.FU] at h2; subst h2;exact h1
    | d::d'::ds,vs,hv =>have hv':=hv;rw[BN.CS] at hv;obtain⟨u,us,rfl,h1,h2⟩:=hv;rw[BN.CS] at h2;obtain⟨u',us',rfl,h3,h4⟩:=h2;simp only[Bz,AgD,AgB];exact⟨_,rfl,by simpa using hv'⟩
   cases hrs:FQ st.heap 6 (AgD ds) with
   | none=>rw[hrs] at h; cases h
   | some r =>
     obtain⟨d,ns,os⟩:=r;rw[hrs,Aj] at h;simp only at h;cases hc:(ns.all fun n=>!(os.contains n)) with
     | false=>rw[hc] at h; cases h
     | true =>
       rw[hc,Aa,Ae] at h;subst h
       have hdis:∀n∈ns,n ∉ os:=fun n hn hno=>by have:=List.all_eq_true.1 hc n hn;simp[hno] at this
       refine⟨_,JK A os,YP hr,hA.below,⟨fun i b hb=>?_,fun i j b hi hj=>?_⟩,Agv hm hdis 6 _ _ _ ns os hrs (fun _ h=>h) (fun _ h=>h) hone⟩
       ·obtain⟨_,p,hp,hl,hpb⟩:=Ms hb;exact hm.GF i p b hp (by rw[hl]; simp) hpb
       ·obtain⟨_,p,hp,hl,hpb⟩:=Ms hi;obtain⟨_,q,hq,hl',hqb⟩:=Ms hj;exact hm.inj i j p q b hp hq (by rw[hl]; simp) (by rw[hl']; simp) hpb hqb
theorem Amb{P:Program}{E:Env}(he:Ix P E){fuel:Nat}{f:FuncId}{fn:Func}{body:Code}(hf:P.funcs[f]?=xM fn)(hb:fn.body=xM body){args:List DV}{out:DV}(h:BX E fuel fn body args=xM out):Mh P f args out:=by
 intro w vals I hI hv;refine calls_of_wp hf hb ?_;unfold BX at h;have hlen:args.length=vals.size:=by have:=hv.length; simpa using this
 have hh:Fi (E:=E) ⟨fun _=>False,fun t=>(vals++wJ (fn.ntmps-vals.size) undef).getD t undef⟩ I w.heap.size w ⟨args++List.replicate (fn.ntmps-args.length) .undef,[]⟩ ⟨vals++wJ (fn.ntmps-vals.size) undef,[]⟩ w:=by
  refine⟨fun _=>xN,rfl,by simp only[Array.size_append,Array.size_replicate,A5,List.length_replicate]; omega,Below.refl _ _,A7 _,hI,fun n p h=>(by cases h),fun n p b h=>(by cases h),fun n m p q b h=>(by cases h),fun t=>?_,fun b h=>h.elim,fun t _=>rfl⟩;have hw:Ji (I5 I) (Cd I w.heap.size (fun _=>xN) w):=⟨fun b hb=>⟨hI b hb,.inl hb,fun n p h=>(by cases h)⟩,rfl,fun _=>rfl,fun _=>rfl⟩
  have hl:=BN.Fa hw _ _ hv;rcases AA t args.length with hlt | hge
  ·obtain⟨v,h1,h2⟩:=hl.getD t hlt;simp only[Al,List.getElem?_append_left hlt] at h2 ⊢;have hlt':t<vals.size:=by omega
   have e:(vals++wJ (fn.ntmps-vals.size) undef).getD t undef=v:=by rw[Array.getD_eq_getD_getElem?,Array.getElem?_append_left hlt'];rw[Array.getElem?_toList] at h1;rw[h1]; rfl
   rw[e]; exact h2
  ·rw[Al,AS hge,List.getElem?_replicate];split<;>simp only[Ba,Option.getD_none,Bz]
 refine Om he fuel out body 0 _ _ _ _ h _ _ hh _ (fun st a w' hk hh'=>?_) (fun id st a w' hk=>by cases hk) (fun st a w' hk hh'=>?_)
 ·obtain⟨v,own,h1,h2,h3,h4⟩:=Acx he.ty hk hh';have hd:a.defers=[]:=by obtain⟨A,hA⟩:=hh'; exact hA.defers
  exact⟨hd,v,h1,v,own,rfl,h2,h3,h4⟩
 ·obtain⟨v,own,h1,h2,h3,h4⟩:=Acx he.ty hk hh';have hd:a.defers=[]:=by obtain⟨A,hA⟩:=hh'; exact hA.defers
  exact⟨hd,v,h1,v,own,rfl,h2,h3,h4⟩
open Go.RowKit (Below)
inductive AT where
 | b
 | i (k:IntKind)
 | s (k:IntKind)
 | fl
 | nb
 | st (l:List AT)
 | fn (g:FuncId) (l:List AT)
 | fm (g:FuncId) (l:List AT)
 | cp (l:List AT)
 | rs (sz:Nat) (l:List (List AT))
 | rl (sz:Nat)
inductive G0 where
 | b (x:Bool)
 | i (x:Int)
 | l (x:Bb)
 | f (x:Nat)
 | r (x:List (List DV))
def ZR:AT->DV->Option G0
 | .b,.bool x=>xM (.b x)
 | .i k,.int k' x=>bif decide (k=k') then xM (.i x) else xN
 | .s _,.nil=>xM (.l [])
 | .s k,.Bh .arg k' l=>bif decide (k=k') then xM (.l l) else xN
 | .fl,.fl n=>xM (.f n)
 | .nb,.nb n=>xM (.f n)
 | .rl _,.nil=>xM (.r [])
 | .rl sz,.C3 .arg sz' rows=>bif zj sz sz' then xM (.r rows) else xN
 | _,_=>xN
def RU:List AT->List DV->Option (List G0)
 | [],[]=>xM []
 | t::ts,d::ds=>match ZR t d with
   | some a=>match RU ts ds with
     | some as=>xM (a::as)
     | none=>xN
   | none=>xN
 | _,_=>xN
def Pm:List AT->List DV->Option (List G0)
 | [],[]=>xM []
 | .cp l::ts,.CQ cs::ds=>match RU l cs with
   | some as=>match Pm ts ds with
     | some bs=>xM (as++bs)
     | none=>xN
   | none=>xN
 | .st l::ts,.agg cs::ds=>match RU l cs with
   | some as=>match Pm ts ds with
     | some bs=>xM (as++bs)
     | none=>xN
   | none=>xN
 | t::ts,d::ds=>match ZR t d with
   | some a=>match Pm ts ds with
     | some bs=>xM (a::bs)
     | none=>xN
   | none=>xN
 | _,_=>xN
def Yc:List (List AT)->List (List DV)->Option (List G0)
 | [],[]=>xM []
 | l::ls,cs::rows=>match RU l cs with
   | some as=>match Yc ls rows with
     | some bs=>xM (as++bs)
     | none=>xN
   | none=>xN
 | _,_=>xN
def KB:List AT->List DV->Option (List G0)
 | [],[]=>xM []
 | .rs sz ls::ts,.C3 .arg sz' rows::ds=>bif zj sz sz' then
  match Yc ls rows with
  | some as=>match KB ts ds with
    | some bs=>xM (as++bs)
    | none=>xN
  | none=>xN
   else xN
 | .fm g l::ts,.fn g' fs []::ds=>bif zj g g' then
  match Pm l fs with
  | some as=>match KB ts ds with
    | some bs=>xM (as++bs)
    | none=>xN
  | none=>xN
   else xN
 | .fn g l::ts,.fn g' [] cs::ds=>bif zj g g' then
  match Pm l cs with
  | some as=>match KB ts ds with
    | some bs=>xM (as++bs)
    | none=>xN
  | none=>xN
   else xN
 | .cp l::ts,.CQ cs::ds=>match Pm l cs with
   | some as=>match KB ts ds with
     | some bs=>xM (as++bs)
     | none=>xN
   | none=>xN
 | .st l::ts,.agg cs::ds=>match Pm l cs with
   | some as=>match KB ts ds with
     | some bs=>xM (as++bs)
     | none=>xN
   | none=>xN
 | t::ts,d::ds=>match ZR t d with
   | some a=>match KB ts ds with
     | some bs=>xM (a::bs)
     | none=>xN
   | none=>xN
 | _,_=>xN
inductive EZ:List AT->List G0->List DV->Prop
 | nil:EZ [] [] []
 | b {ts as ds} (x:Bool):EZ ts as ds->EZ (.b::ts) (.b x::as) (.bool x::ds)
 | i {ts as ds} (k:IntKind) (x:Int):EZ ts as ds->EZ (.i k::ts) (.i x::as) (.int k x::ds)
 | s {ts as ds} (k:IntKind) (x:Bb):EZ ts as ds->EZ (.s k::ts) (.l x::as) (.Bh .arg k x::ds)
 | fl {ts as ds} (x:Nat):EZ ts as ds->EZ (.fl::ts) (.f x::as) (.fl x::ds)
 | nb {ts as ds} (x:Nat):EZ ts as ds->EZ (.nb::ts) (.f x::as) (.nb x::ds)
 | rl {ts as ds} (sz:Nat) (x:List (List DV)):EZ ts as ds->EZ (.rl sz::ts) (.r x::as) (.C3 .arg sz x::ds)
 | st {l ts as cs bs ds}:EZ l as cs->EZ ts bs ds->EZ (.st l::ts) (as++bs) (.agg cs::ds)
 | fn {g l ts as cs bs ds}:EZ l as cs->EZ ts bs ds->EZ (.fn g l::ts) (as++bs) (.fn g [] cs::ds)
 | fm {g l ts as cs bs ds}:EZ l as cs->EZ ts bs ds->EZ (.fm g l::ts) (as++bs) (.fn g cs []::ds)
 | cp {l ts as cs bs ds}:EZ l as cs->EZ ts bs ds->EZ (.cp l::ts) (as++bs) (.CQ cs::ds)
 | rs0 {sz ts bs ds}:EZ ts bs ds->EZ (.rs sz []::ts) bs (.C3 .arg sz []::ds)
 | rs1 {sz l ls ts as cs bs rows ds}:EZ l as cs->EZ (.rs sz ls::ts) bs (.C3 .arg sz rows::ds)->EZ (.rs sz (l::ls)::ts) (as++bs) (.C3 .arg sz (cs::rows)::ds)
theorem AgM{c:Ctx}{w:World}{k:IntKind}{v:Value}(h:Bz c w .nil v):Bz c w (.Bh .arg k []) v:=by simp only[Bz] at h ⊢;subst h;exact⟨xN,0,rfl,A7 _,.inl trivial⟩
theorem AgL{c:Ctx}{w:World}{sz:Nat}{v:Value}(h:Bz c w .nil v):Bz c w (.C3 .arg sz []) v:=by simp only[Bz] at h ⊢;subst h;exact⟨xN,0,rfl,A7 _,.inl trivial⟩
theorem Yd{t:AT}{d:DV}{a:G0}(h:ZR t d=xM a):∃d',(∀ts as ds,EZ ts as ds->EZ (t::ts) (a::as) (d'::ds))/\∀c w v,Bz c w d v->Bz c w d' v:=by
 unfold ZR at h;split at h
 ·simp only[Ae] at h; subst h;exact⟨_,fun _ _ _ he=>.b _ he,fun _ _ _ h=>h⟩
 ·rename_i k k' x;by_cases e:k=k'
  ·subst e;simp only[decide_true,Aa,Ae] at h; subst h;exact⟨_,fun _ _ _ he=>.i _ _ he,fun _ _ _ h=>h⟩
  ·simp[e] at h
 ·rename_i k;simp only[Ae] at h; subst h;exact⟨_,fun _ _ _ he=>.s k _ he,fun _ _ _ h=>AgM h⟩
 ·rename_i k k' x;by_cases e:k=k'
  ·subst e;simp only[decide_true,Aa,Ae] at h; subst h;exact⟨_,fun _ _ _ he=>.s _ _ he,fun _ _ _ h=>h⟩
  ·simp[e] at h
 ·simp only[Ae] at h; subst h;exact⟨_,fun _ _ _ he=>.fl _ he,fun _ _ _ h=>h⟩
 ·simp only[Ae] at h; subst h;exact⟨_,fun _ _ _ he=>.nb _ he,fun _ _ _ h=>h⟩
 ·rename_i sz;simp only[Ae] at h; subst h;exact⟨_,fun _ _ _ he=>.rl sz _ he,fun _ _ _ h=>AgL h⟩
 ·rename_i sz sz' rows;cases hg:zj sz sz' with
  | false=>rw[hg] at h; cases h
  | true =>rw[hg,Aa] at h;obtain rfl:=Au hg;simp only[Ae] at h; subst h;exact⟨_,fun _ _ _ he=>.rl sz _ he,fun _ _ _ h=>h⟩
 ·cases h
theorem Ti:∀{ts:List AT} {ds:List DV} {as:List G0},RU ts ds=xM as->∃ds',EZ ts as ds'/\∀c w vs,BN c w ds vs->BN c w ds' vs
 | [],[],as,h=>by simp only[RU,Ae] at h; subst h;exact⟨[],.nil,fun _ _ _ h=>h⟩
 | t::ts,d::ds,as,h=>by
   simp only[RU] at h;cases h1:ZR t d with
   | none=>rw[h1] at h; cases h
   | some a =>
     cases h2:RU ts ds with
     | none=>rw[h1,h2] at h; cases h
     | some bs =>rw[h1,h2] at h;simp only[Ae] at h; subst h;obtain⟨d',i1,i2⟩:=Yd h1;obtain⟨ds',j1,j2⟩:=Ti h2;refine⟨d'::ds',i1 _ _ _ j1,fun c w vs hv=>?_⟩;rw[BN.CS] at hv ⊢;obtain⟨u,us,e,hu,hus⟩:=hv;exact⟨u,us,e,i2 _ _ _ hu,j2 _ _ _ hus⟩
 | [],_::_,as,h=>by simp[RU] at h
 | _::_,[],as,h=>by simp[RU] at h
theorem Nj:∀{ts:List AT} {ds:List DV} {as:List G0},Pm ts ds=xM as->∃ds',EZ ts as ds'/\∀c w vs,BN c w ds vs->BN c w ds' vs
 | ts,ds,as,h=>by
   unfold Pm at h;split at h
   ·simp only[Ae] at h; subst h;exact⟨[],.nil,fun _ _ _ h=>h⟩
   ·rename_i l ts cs ds;cases h1:RU l cs with
    | none=>rw[h1] at h; cases h
    | some a =>
      cases h2:Pm ts ds with
      | none=>rw[h1,h2] at h; cases h
      | some bs =>rw[h1,h2] at h;simp only[Ae] at h; subst h;obtain⟨cs',i1,i2⟩:=Ti h1;obtain⟨ds',j1,j2⟩:=Nj h2;refine⟨.CQ cs'::ds',.cp i1 j1,fun c w vs hv=>?_⟩;rw[BN.CS] at hv ⊢;obtain⟨u,us,e,hu,hus⟩:=hv;refine⟨u,us,e,?_,j2 _ _ _ hus⟩;simp only[Bz] at hu ⊢;obtain⟨b,o,vs,e,hb,hh,hc⟩:=hu;exact⟨b,o,vs,e,hb,i2 _ _ _ hh,hc⟩
   ·rename_i l ts cs ds;cases h1:RU l cs with
    | none=>rw[h1] at h; cases h
    | some a =>
      cases h2:Pm ts ds with
      | none=>rw[h1,h2] at h; cases h
      | some bs =>rw[h1,h2] at h;simp only[Ae] at h; subst h;obtain⟨cs',i1,i2⟩:=Ti h1;obtain⟨ds',j1,j2⟩:=Nj h2;refine⟨.agg cs'::ds',.st i1 j1,fun c w vs hv=>?_⟩;rw[BN.CS] at hv ⊢;obtain⟨u,us,e,hu,hus⟩:=hv;refine⟨u,us,e,?_,j2 _ _ _ hus⟩;simp only[Bz] at hu ⊢;obtain⟨vs,e,hh⟩:=hu;exact⟨vs,e,i2 _ _ _ hh⟩
   ·rename_i t ts d ds _ _;cases h1:ZR t d with
    | none=>rw[h1] at h; cases h
    | some a =>
      cases h2:Pm ts ds with
      | none=>rw[h1,h2] at h; cases h
      | some bs =>rw[h1,h2] at h;simp only[Ae] at h; subst h;obtain⟨d',i1,i2⟩:=Yd h1;obtain⟨ds',j1,j2⟩:=Nj h2;refine⟨d'::ds',i1 _ _ _ j1,fun c w vs hv=>?_⟩;rw[BN.CS] at hv ⊢;obtain⟨u,us,e,hu,hus⟩:=hv;exact⟨u,us,e,i2 _ _ _ hu,j2 _ _ _ hus⟩
   ·cases h
theorem Adh:∀{ls:List (List AT)} {rows:List (List DV)} {as:List G0},Yc ls rows=xM as ->
 ∃rows',(∀sz ts bs ds,EZ ts bs ds->EZ (.rs sz ls::ts) (as++bs) (.C3 .arg sz rows'::ds))/\rows'.length=rows.length/\∀c w vs,Dp c w rows vs->Dp c w rows' vs
 | [],[],as,h=>by simp only[Yc,Ae] at h; subst h;exact⟨[],fun _ _ _ _ h=>.rs0 h,rfl,fun _ _ _ h=>h⟩
 | l::ls,cs::rows,as,h=>by
   simp only[Yc] at h;cases h1:RU l cs with
   | none=>rw[h1] at h; cases h
   | some a =>
     cases h2:Yc ls rows with
     | none=>rw[h1,h2] at h; cases h
     | some bs =>
       rw[h1,h2] at h;simp only[Ae] at h; subst h;obtain⟨cs',i1,i2⟩:=Ti h1;obtain⟨rows',j1,j2,j3⟩:=Adh h2;refine⟨cs'::rows',fun sz ts b ds he=>?_,by simp[j2],fun c w vs hv=>?_⟩
       ·rw[List.append_assoc]; exact .rs1 i1 (j1 _ _ _ _ he)
       ·simp only[Dp] at hv ⊢;obtain⟨u,us,e,hu,hus⟩:=hv;exact⟨u,us,e,i2 _ _ _ hu,j3 _ _ _ hus⟩
 | [],_::_,as,h=>by simp[Yc] at h
 | _::_,[],as,h=>by simp[Yc] at h
theorem KA:∀{ts:List AT} {ds:List DV} {as:List G0},KB ts ds=xM as->∃ds',EZ ts as ds'/\∀c w vs,BN c w ds vs->BN c w ds' vs
 | ts,ds,as,h=>by
   unfold KB at h;split at h
   ·simp only[Ae] at h; subst h;exact⟨[],.nil,fun _ _ _ h=>h⟩
   ·rename_i sz ls ts sz' rows ds;cases hg:zj sz sz' with
    | false=>rw[hg] at h; cases h
    | true =>
    rw[hg,Aa] at h;obtain rfl:=Au hg;cases h1:Yc ls rows with
    | none=>rw[h1] at h; cases h
    | some a =>
      cases h2:KB ts ds with
      | none=>rw[h1,h2] at h; cases h
      | some bs =>rw[h1,h2] at h;simp only[Ae] at h; subst h;obtain⟨rows',i1,i3,i2⟩:=Adh h1;obtain⟨ds',j1,j2⟩:=KA h2;refine⟨.C3 .arg sz rows'::ds',i1 _ _ _ _ j1,fun c w vs hv=>?_⟩;rw[BN.CS] at hv ⊢;obtain⟨u,us,e,hu,hus⟩:=hv;refine⟨u,us,e,?_,j2 _ _ _ hus⟩;simp only[Bz] at hu ⊢;obtain⟨a,cap,e,hc,hh⟩:=hu;refine⟨a,cap,by rw[i3]; exact e,by rw[i3]; exact hc,hh.imp (fun h=>?_) fun⟨b,o,rs,e1,e2,e3,e4,e5⟩=>⟨b,o,rs,e1,e2,i2 _ _ _ e3,e4,e5⟩⟩;rw[h] at i3;exact AF i3
   ·rename_i g l ts g' cs ds;cases hg:zj g g' with
    | false=>rw[hg] at h; cases h
    | true =>
    rw[hg,Aa] at h;obtain rfl:=Au hg;cases h1:Pm l cs with
    | none=>rw[h1] at h; cases h
    | some a =>
      cases h2:KB ts ds with
      | none=>rw[h1,h2] at h; cases h
      | some bs =>rw[h1,h2] at h;simp only[Ae] at h; subst h;obtain⟨cs',i1,i2⟩:=Nj h1;obtain⟨ds',j1,j2⟩:=KA h2;refine⟨.fn g cs' []::ds',.fm i1 j1,fun c w vs hv=>?_⟩;rw[BN.CS] at hv ⊢;obtain⟨u,us,e,hu,hus⟩:=hv;refine⟨u,us,e,?_,j2 _ _ _ hus⟩;simp only[Bz] at hu ⊢;obtain⟨fs',vs,e,hf,hh⟩:=hu;exact⟨fs',vs,e,i2 _ _ _ hf,hh⟩
   ·rename_i g l ts g' cs ds;cases hg:zj g g' with
    | false=>rw[hg] at h; cases h
    | true =>
    rw[hg,Aa] at h;obtain rfl:=Au hg;cases h1:Pm l cs with
    | none=>rw[h1] at h; cases h
    | some a =>
      cases h2:KB ts ds with
      | none=>rw[h1,h2] at h; cases h
      | some bs =>rw[h1,h2] at h;simp only[Ae] at h; subst h;obtain⟨cs',i1,i2⟩:=Nj h1;obtain⟨ds',j1,j2⟩:=KA h2;refine⟨.fn g [] cs'::ds',.fn i1 j1,fun c w vs hv=>?_⟩;rw[BN.CS] at hv ⊢;obtain⟨u,us,e,hu,hus⟩:=hv;refine⟨u,us,e,?_,j2 _ _ _ hus⟩;simp only[Bz] at hu ⊢;obtain⟨fs',vs,e,hf,hh⟩:=hu;exact⟨fs',vs,e,hf,i2 _ _ _ hh⟩
   ·rename_i l ts cs ds;cases h1:Pm l cs with
    | none=>rw[h1] at h; cases h
    | some a =>
      cases h2:KB ts ds with
      | none=>rw[h1,h2] at h; cases h
      | some bs =>rw[h1,h2] at h;simp only[Ae] at h; subst h;obtain⟨cs',i1,i2⟩:=Nj h1;obtain⟨ds',j1,j2⟩:=KA h2;refine⟨.CQ cs'::ds',.cp i1 j1,fun c w vs hv=>?_⟩;rw[BN.CS] at hv ⊢;obtain⟨u,us,e,hu,hus⟩:=hv;refine⟨u,us,e,?_,j2 _ _ _ hus⟩;simp only[Bz] at hu ⊢;obtain⟨b,o,vs,e,hb,hh,hc⟩:=hu;exact⟨b,o,vs,e,hb,i2 _ _ _ hh,hc⟩
   ·rename_i l ts cs ds;cases h1:Pm l cs with
    | none=>rw[h1] at h; cases h
    | some a =>
      cases h2:KB ts ds with
      | none=>rw[h1,h2] at h; cases h
      | some bs =>rw[h1,h2] at h;simp only[Ae] at h; subst h;obtain⟨cs',i1,i2⟩:=Nj h1;obtain⟨ds',j1,j2⟩:=KA h2;refine⟨.agg cs'::ds',.st i1 j1,fun c w vs hv=>?_⟩;rw[BN.CS] at hv ⊢;obtain⟨u,us,e,hu,hus⟩:=hv;refine⟨u,us,e,?_,j2 _ _ _ hus⟩;simp only[Bz] at hu ⊢;obtain⟨vs,e,hh⟩:=hu;exact⟨vs,e,i2 _ _ _ hh⟩
   ·rename_i t ts d ds _ _ _ _ _;cases h1:ZR t d with
    | none=>rw[h1] at h; cases h
    | some a =>
      cases h2:KB ts ds with
      | none=>rw[h1,h2] at h; cases h
      | some bs =>rw[h1,h2] at h;simp only[Ae] at h; subst h;obtain⟨d',i1,i2⟩:=Yd h1;obtain⟨ds',j1,j2⟩:=KA h2;refine⟨d'::ds',i1 _ _ _ j1,fun c w vs hv=>?_⟩;rw[BN.CS] at hv ⊢;obtain⟨u,us,e,hu,hus⟩:=hv;exact⟨u,us,e,i2 _ _ _ hu,j2 _ _ _ hus⟩
   ·cases h
def B9(ts:List AT)(pre:List G0->Bool)(out:List G0->DV):EC where
 pre:=fun args=>match KB ts args with
  | some as=>pre as
  | none=>wy
 out:=fun args=>match KB ts args with
  | some as=>out as
  | none=>.undef
inductive Wk(drops:List Nat):DV->DV->Prop
 | refl {d:DV} (h:EG 1 [] d=wg) (ho:∀i e k l,d≠.Bh (.own i e) k l) (hr:∀i e k l,d≠.C3 (.own i e) k l):Wk drops d d
 | nil (g:Aai) (k:IntKind):Wk drops .nil (.Bh g k [])
 | BF (k:IntKind) (l:Bb):Wk drops (.Bh .BF k l) (.Bh .arg k l)
 | CH (i:Nat) (e:TypeId) (k:IntKind) (l:Bb) (h:i ∉ drops):Wk drops (.Bh (.own i e) k l) (.Bh (.own i e) k l)
 | An7 (i:Nat) (e:TypeId) (sz:Nat) (l:List (List DV)) (h:i ∉ drops):Wk drops (.C3 (.own i e) sz l) (.C3 (.own i e) sz l)
 | Anz (g:Aai) (sz:Nat):Wk drops .nil (.C3 g sz [])
 | AhW (i:Nat) (e:TypeId) (sz:Nat) (l:List (List DV)) (h:i∈drops):Wk drops (.C3 (.own i e) sz l) (.C3 .BF sz l)
 | drop (i:Nat) (e:TypeId) (k:IntKind) (l:Bb) (h:i∈drops):Wk drops (.Bh (.own i e) k l) (.Bh .BF k l)
 | AhX (i:Nat) (e:TypeId) (k:IntKind) (l:Bb) (h:i∈drops):Wk drops (.Bh (.own i e) k l) (.Bh .arg k l)
 | agg {l l':List DV} (h:l.length=l'.length) (hw:∀(j:Nat) d d',l[j]?=xM d->l'[j]?=xM d'->Wk drops d d'):Wk drops (.agg l) (.agg l')
 | Cw {l l':List DV} (h:l.length=l'.length) (hw:∀(j:Nat) d d',l[j]?=xM d->l'[j]?=xM d'->Wk drops d d'):Wk drops (.Cw l) (.Cw l')
def Hs(drops:List Nat)(own:Nat->Option Nat)(i:Nat):Option Nat:=if i∈drops then xN else own i
theorem JU{drops:List Nat}{own:Nat->Option Nat}{i b:Nat}(h:Hs drops own i=xM b):own i=xM b/\i ∉ drops:=by
 unfold Hs at h;split at h
 ·cases h
 ·exact⟨h,‹_›⟩
theorem Ps{w:World}{base:Nat}{e:TypeId}{k:IntKind}{l:Bb}{v:Value}(ho:w.ownsRow base e 1 v l.length (l.map (Value.int k))){ok:Nat->Prop}(hok:∀b,v.ownBlock=xM b->ok b):
 ∃a cap,v=.slice a l.length cap/\l.length<=cap/\(l=[]\/∃b o,a=xM ⟨b,o,xN⟩/\ok b/\∀(i:Nat) n,l[i]?=xM n->w.cell? ⟨b,o+i,xN⟩=xM (.int k n)):=by
 have:=IG (p:=⟨.live,.row v 1⟩) rfl ho (ER ho) (ok:=ok) hok;simp only[zJ,yo] at this;exact this
theorem Wk.rel{drops:List Nat}{d d':DV}(h:Wk drops d d'){I:Nat->Prop}{own:Nat->Option Nat}{w w':World}(ho:Adx own w w'):∀v,Bz (DL I own w w') w' d v->Bz (DL I (Hs drops own) w w') w' d' v:=by
 have hok:∀b,(DL I own w w').ok b->(DL I (Hs drops own) w w').ok b:=by
  rintro b ⟨h1,h2,h3⟩
  exact⟨h1,h2,fun i hi=>h3 i (JU hi).1⟩
 have hblk:∀i b,i∈drops->own i=xM b->(DL I (Hs drops own) w w').ok b/\w.heap.size<=b:=by intro i b hi hb;obtain⟨h1,h2⟩:=ho.lt i b hb;refine⟨⟨h2,.inr h1,fun j hj=>?_⟩,h1⟩;obtain⟨h3,h4⟩:=JU hj;rw[ho.inj j i b h3 hb] at h4;exact h4 hi
 induction h with
 | @refl d h h1 h2 =>
   intro v hv
   have hl:JZ (({ DL I own w w' with own:=fun _=>xN }:Ctx).only []) w' (DL I (Hs drops own) w w') w' :=⟨hok,rfl,rfl,fun _ _ h=>(by cases h),fun n p hp=>(by simp[Ctx.only] at hp),fun _ _ _=>rfl,fun _ _ h=>(by cases h)⟩
   refine Bz.D4 hl d v (Xx [] 1 d v h ?_);cases d with
   | Bh g k l =>
     cases g with
     | own i e=>exact absurd rfl (h1 i e k l)
     | _=>simp only[Bz] at hv ⊢; exact hv
   | C3 g k l =>
     cases g with
     | own i e=>exact absurd rfl (h2 i e k l)
     | _=>simp only[Bz] at hv ⊢; exact hv
   | agg l =>
     cases l with
     | nil=>simp only[Bz] at hv ⊢; simpa[BN] using hv
     | cons a l=>simp[EG] at h
   | Cw l =>
     cases l with
     | nil=>simp only[Bz] at hv ⊢; simpa[BN] using hv
     | cons a l=>simp[EG] at h
   | fn g a c =>
     cases a with
     | cons _ _=>simp[EG] at h
     | nil =>
       cases c with
       | cons _ _=>simp[EG] at h
       | nil=>simp only[Bz] at hv ⊢; simpa[BN] using hv
   | gd c d=>simp[EG] at h
   | De n=>simp[EG] at h
   | Ky n o m=>simp[EG] at h
   | ptr n i j=>simp[EG] at h
   | undef=>simp only[Bz]
   | _=>simp only[Bz] at hv ⊢; exact hv
 | nil g k =>
   intro v hv;simp only[Bz] at hv;subst hv;cases g with
   | own i e=>simp only[Bz]; exact⟨World.ownsRow_nil w' _ e 1,fun b hb=>by cases hb⟩
   | _=>simp only[Bz]; exact⟨xN,0,rfl,A7 _,.inl trivial⟩
 | Anz g sz =>
   intro v hv;simp only[Bz] at hv;subst hv;cases g with
   | own i e=>simp only[Bz]; exact⟨[],by simp[Dp],by simp,World.ownsRow_nil w' _ e sz,fun b hb=>by cases hb⟩
   | _=>simp only[Bz]; exact⟨xN,0,rfl,A7 _,.inl trivial⟩
 | AhW i e sz l h =>intro v hv;simp only[Bz] at hv ⊢;obtain⟨rows,h1,h2,h3,h4⟩:=hv;have hr:=Dp.D4 (c:=(DL I own w w').bare) (c':=(DL I (Hs drops own) w w').bare) ⟨hok,rfl,rfl,fun _ _ h=>(by cases h),fun _ _ h=>(by cases h),fun _ _ _=>rfl,fun _ _ h=>(by cases h)⟩ _ _ h1;have:=IF (p:=⟨.live,.row v sz⟩) rfl hr h2 h3 (by have:=ER h3; exact this) (ok:=fun b=>(DL I (Hs drops own) w w').ok b/\w.heap.size<=b) (fun b hb=>hblk i b h (h4 b hb));simp only[zJ,yo] at this;obtain⟨a,cap,e1,e2,e3⟩:=this;exact⟨a,cap,e1,e2,e3.imp id fun⟨b,o,rows',e4,e5,e6,e7,e8⟩=>⟨b,o,rows',e4,⟨e5.1,rfl,e5.2⟩,e6,e7,e8⟩⟩
 | BF k l =>intro v hv;simp only[Bz] at hv ⊢;obtain⟨a,cap,e,h1,h2⟩:=hv;exact⟨a,cap,e,h1,h2.imp id fun⟨b,o,h3,h4,h5⟩=>⟨b,o,h3,hok b h4.1,h5⟩⟩
 | CH i e k l h =>intro v hv;simp only[Bz] at hv ⊢;exact⟨hv.1,fun b hb=>by show Hs drops own i=xM b; unfold Hs; rw[Ay h]; exact hv.2 b hb⟩
 | An7 i e sz l h =>intro v hv;simp only[Bz] at hv ⊢;obtain⟨rows,h1,h2,h3,h4⟩:=hv;refine⟨rows,?_,h2,h3,fun b hb=>by show Hs drops own i=xM b; unfold Hs; rw[Ay h]; exact h4 b hb⟩;exact Dp.D4 (c:=(DL I own w w').bare) (c':=(DL I (Hs drops own) w w').bare) ⟨hok,rfl,rfl,fun _ _ h=>(by cases h),fun _ _ h=>(by cases h),fun _ _ _=>rfl,fun _ _ h=>(by cases h)⟩ _ _ h1
 | drop i e k l h =>intro v hv;simp only[Bz] at hv ⊢;exact Ps hv.1 fun b hb=>⟨(hblk i b h (hv.2 b hb)).1,rfl,(hblk i b h (hv.2 b hb)).2⟩
 | AhX i e k l h =>intro v hv;simp only[Bz] at hv ⊢;exact Ps hv.1 fun b hb=>(hblk i b h (hv.2 b hb)).1
 | @agg l l' h hw ih =>
   intro v hv;simp only[Bz] at hv ⊢;obtain⟨vs,e,hl⟩:=hv;refine⟨vs,e,BN.Ke (by rw[<- h]; exact hl.length) fun j d v hd hv=>?_⟩;have hlt:j<l.length:=by rw[h]; exact(xB.1 hd).1
   obtain⟨u,hu,hr⟩:=hl.get j _ (As hlt);rw[hv] at hu; cases hu;exact ih j _ d (As hlt) hd v hr
 | @Cw l l' h hw ih =>
   intro v hv;simp only[Bz] at hv ⊢;obtain⟨vs,e,hl⟩:=hv;refine⟨vs,e,BN.Ke (by rw[<- h]; exact hl.length) fun j d v hd hv=>?_⟩;have hlt:j<l.length:=by rw[h]; exact(xB.1 hd).1
   obtain⟨u,hu,hr⟩:=hl.get j _ (As hlt);rw[hv] at hu; cases hu;exact ih j _ d (As hlt) hd v hr
theorem Mh.SD{P:Program}{f:FuncId}{args:List DV}{out out':DV}(h:Mh P f args out){drops:List Nat}(hw:Wk drops out out'):Mh P f args out':=by
 intro w vals I hI hv;refine(h w vals I hI hv).mono ?_
 rintro e w' ⟨v,own,he,hb,ho,hr⟩
 refine⟨v,Hs drops own,he,hb,⟨fun i b hi=>ho.lt i b (JU hi).1,fun i j b hi hj=>ho.inj i j b (JU hi).1 (JU hj).1⟩,hw.rel ho v hr⟩
theorem Mh.args{P:Program}{f:FuncId}{args args':List DV}{out:DV}(h:Mh P f args out)(ha:∀c w vs,BN c w args' vs->BN c w args vs):Mh P f args' out :=fun w vals I hI hv=>h w vals I hI (ha _ _ _ hv)
theorem NY{P:Program}{E:Env}(he:Ix P E){f:FuncId}{fn:Func}{body:Code}(hf:P.funcs[f]?=xM fn)(hb:fn.body=xM body){ts:List AT}{pre:List G0->Bool}{out:List G0->DV}
 (h:∀as ds,EZ ts as ds->pre as=wg->∃fuel d drops,BX E fuel fn body ds=xM d/\Wk drops d (out as)):SC P f (B9 ts pre out):=by
 intro args ha;simp only[B9] at ha ⊢;cases hd:KB ts args with
 | none=>rw[hd] at ha; cases ha
 | some as =>rw[hd] at ha;simp only at ha ⊢;obtain⟨ds,h1,h2⟩:=KA hd;obtain⟨fuel,d,drops,h3,h4⟩:=h as ds h1 ha;exact((Amb he hf hb h3).SD h4).args h2
structure Pt(β:Type) where
 b:Nat
 c:Code
 Kn:St->Option β
 Kx:Nat->St->Option β
 Kr:St->Option β
def descend{β:Type}(E:Env)(n:Nat):List Nat->List Nat->Nat->Code->(St->Option β)->(Nat->St->Option β)->(St->Option β)->Pt β
 | 0::p,ms,b,.seq x y,Kn,Kx,Kr=>descend E n p ms b x (fun st'=>den E n b y st' Kn Kx Kr) Kx Kr
 | _::p,ms,b,.seq _ y,Kn,Kx,Kr=>descend E n p ms b y Kn Kx Kr
 | 0::p,ms,b,.cond _ x _,Kn,Kx,Kr=>descend E n p ms b x Kn Kx Kr
 | _::p,ms,b,.cond _ _ y,Kn,Kx,Kr=>descend E n p ms b y Kn Kx Kr
 | _::p,ms,_,.block id c,Kn,Kx,Kr=>descend E n p ms id c Kn (fun id' st'=>cond (id'==id) (Kn st') (Kx id' st')) Kr
 | _::p,ms,b,.scope c,Kn,Kx,Kr=>descend E n p ms b c Kn Kx Kr
 | _::p,m::ms,b,.loop c,_,Kx,Kr=>descend E n p ms b c (fun st2=>match canon (E.hint b) st2 with | some st3=>Uz (E.hint b) (den E n b c) m st3 Kx Kr | none=>xN) Kx Kr
 | _,_,b,c,Kn,Kx,Kr=>⟨b,c,Kn,Kx,Kr⟩
def cutAt(E:Env)(n:Nat)(fn:Func)(body:Code)(p ms:List Nat)(st:St):Option DV:=
 match descend E n p ms 0 body (fun st=>Vh E fn st) (fun _ _=>xN) (fun st=>Vh E fn st) with
 | ⟨b,.seq (.region _ ops draw) y,Kn,Kx,Kr⟩=>WT (YU E ops draw (fun st'=>den E n b y st' Kn Kx Kr)) st
 | ⟨_,.region _ ops draw,Kn,_,_⟩=>WT (YU E ops draw Kn) st
 | _=>xN
def Aig(E:Env)(n:Nat)(fn:Func)(body:Code)(p ms:List Nat)(st:St):Option DV:=
 match descend E n p ms 0 body (fun st=>Vh E fn st) (fun _ _=>xN) (fun st=>Vh E fn st) with
 | ⟨b,.seq (.region _ ops draw) y,Kn,Kx,Kr⟩=>YU E ops draw (fun st'=>den E n b y st' Kn Kx Kr) st
 | ⟨_,.region _ ops draw,Kn,_,_⟩=>YU E ops draw Kn st
 | _=>xN
theorem FR(E:Env)(n:Nat)(fn:Func)(body:Code)(p ms:List Nat)(st:St):cutAt E n fn body p ms st=Aig E n fn body p ms st:=by unfold cutAt Aig;split<;>simp only[VD]
def BU(E:Env)(n:Nat)(fn:Func)(body:Code)(p ms:List Nat)(m:Nat)(st:St):Option DV:=
 match descend E n p ms 0 body (fun st=>Vh E fn st) (fun _ _=>xN) (fun st=>Vh E fn st) with
 | ⟨b,.loop c,_,Kx,Kr⟩=>Uz (E.hint b) (den E n b c) m st Kx Kr
 | _=>xN
def atL(i:Nat):List (Nat × DV)->DV
 | []=>.undef
 | (j,d)::l=>bif zj i j then d else atL i l
def An2(l:List (Nat × DV)):Nat->Nat->List DV
 | 0,_=>[]
 | k+1,i=>atL i l::An2 l k (i+1)
def EP(n:Nat)(l:List (Nat × DV)):List DV:=An2 l n 0
def Be(x:Int):Int:=IntKind.i64.wrap x
def BQ(x:Int):Int:=IntKind.u64.wrap x
def Ii(x:Int):Int:=IntKind.u32.wrap x
def ED(k:IntKind)(x y:Int):Int:=k.wrap (zp k.bits x &&& zp k.bits y).toNat
def Ht(k:IntKind)(x y:Int):Int:=k.wrap (zp k.bits x ||| zp k.bits y).toNat
def Ak5(k:IntKind)(x y:Int):Int:=k.wrap (zp k.bits x ^^^ zp k.bits y).toNat
def G3(k:IntKind)(x y:Int):Int:=k.wrap (zp k.bits x &&& ~~~(zp k.bits y)).toNat
def Cr(k:IntKind)(x y:Int):Int:=k.wrap (x*2^(min y.toNat k.bits))
def D7(k:IntKind)(x y:Int):Int:=x.fdiv (2^(min y.toNat k.bits))
def CE(p:Prop):Bool:=@decide p (vT p)
theorem Bt{p:Prop}:CE p=wg↔p:=by unfold CE; exact @decide_eq_true_iff p (vT p)
def Br(f:Func):Code:=f.body.getD .skip
def CC:List (Nat × EC)->Nat->Option EC
 | [],_=>xN
 | (m,e)::l,n=>bif zj m n then xM e else CC l n
def AfD:List (Nat × TI)->Nat->Option TI
 | [],_=>xN
 | (m,e)::l,n=>bif zj m n then xM e else AfD l n
theorem ifT{α:Type}{R:Bool}{A A' B:α}(h:R=wg)(ha:A=A'):(cond R A B)=A':=by rw[h,ha]; rfl
theorem B4{α:Type}{R:Bool}{A A':Option α}(h:R=wg)(ha:A=A'):(cond R A xN)=A':=ifT h ha
theorem C0{α:Type}{R S:Bool}{A A' B B':α}(h:R=S)(ha:A=A')(hb:B=B'):(cond R A B)=cond S A' B':=by rw[h,ha,hb]
theorem DJ{α:Type}{R:Bool}{A A' B B':α}(ha:A=A')(hb:B=B'):(cond R A B)=cond R A' B':=by rw[ha,hb]
structure DR(P:Program)(g:FuncId)(e:EC):Prop where
 meets:SC P g e
 call:∀(args:Array Value) (w:World),(callFunc g args).run P w=.ok (.enter g args) w
inductive FD(P:Program):List (Nat × EC)->Prop
 | nil:FD P []
 | cons {g e l}:DR P g e->FD P l->FD P ((g,e)::l)
theorem FD.get{P:Program}{l:List (Nat × EC)}(h:FD P l){g:Nat}{e:EC}(hg:CC l g=xM e):DR P g e:=by
 induction h with
 | nil=>cases hg
 | @cons g' e' l h1 h2 ih =>
   simp only[CC] at hg;cases hb:zj g' g with
   | true =>rw[hb] at hg;simp only[Aa,Ae] at hg;have:=Au hb;subst this hg;exact h1
   | false=>rw[hb] at hg; exact ih hg
theorem Nm{P:Program}{f:FuncId}{fn:Func}{body:Code}(hf:P.funcs[f]?=xM fn)(hn:(fn.name== "runtime.NumGoroutine")=wy)(hb:fn.body=xM body)(args:Array Value)(w:World):
 (callFunc f args).run P w=.ok (.enter f args) w:=by
 have h1:fn.name≠ "runtime.NumGoroutine":=by simpa using hn
 simp[callFunc,hf,h1,hb]
inductive Pe(P:Program):List (Nat × TI)->Prop
 | nil:Pe P []
 | cons {t ti l}:CJ P t ti->Pe P l->Pe P ((t,ti)::l)
theorem Pe.get{P:Program}{l:List (Nat × TI)}(h:Pe P l){t:Nat}{ti:TI}(hg:AfD l t=xM ti):CJ P t ti:=by
 induction h with
 | nil=>cases hg
 | @cons t' ti' l h1 h2 ih =>
   simp only[AfD] at hg;cases hb:zj t' t with
   | true =>rw[hb] at hg;simp only[Aa,Ae] at hg;have:=Au hb;subst this hg;exact h1
   | false=>rw[hb] at hg; exact ih hg
theorem Dm{P:Program}{t:TypeId}{ti:TI}{z:Value}(h:(P.info? t).map (fun i=>(i.zero,i.size,i.bytes))=xM (xM z,ti.size,ti.bytes))(hz:Yp ti.zero z.cells.toList)(hs:z.cells.size=ti.size)
 (h1:∀u∈z.cells.toList,u.oneCell'=wg) (hd:Da P t ti.kind):CJ P t ti:=by
 cases hi:P.info? t with
 | none=>rw[hi] at h; cases h
 | some i =>rw[hi] at h;simp only[Option.map_some,Ae,Ak] at h;exact⟨⟨i,z,hi,h.2.1,h.2.2,h.1,hz,hs,h1⟩,hd⟩
def AdZ(ts:List AT)(pre:List G0->Bool)(out:List G0->DV)(mu:List G0->Nat)(n:Nat):EC:=B9 ts (fun as=>pre as&&CE (mu as<n)) out
theorem Abd{P:Program}{E:Nat->Env}{f:FuncId}{fn:Func}{body:Code}(hf:P.funcs[f]?=xM fn)(hb:fn.body=xM body){ts:List AT}{pre:List G0->Bool}{out:List G0->DV}(mu:List G0->Nat)
 (he:∀n,SC P f (AdZ ts pre out mu n)->Ix P (E n))
 (h:∀n as ds,EZ ts as ds->pre as=wg->mu as<n+1->∃fuel d drops,BX (E n) fuel fn body ds=xM d/\Wk drops d (out as)):SC P f (B9 ts pre out):=by
 have key:∀n,SC P f (AdZ ts pre out mu n):=by
  intro n
  induction n with
  | zero =>
    intro args ha;simp only[AdZ,B9] at ha;split at ha
    ·simp only[Am,Bt] at ha; omega
    ·cases ha
  | succ n ih =>
    refine NY (he n ih) hf hb fun as ds hd hp=>?_
    simp only[Am,Bt] at hp;exact h n as ds hd hp.1 hp.2
 intro args ha;simp only[B9] at ha;cases hd:KB ts args with
 | none=>rw[hd] at ha; cases ha
 | some as =>rw[hd] at ha;have:=key (mu as+1) args (by simp only[AdZ,B9,hd,Am,Bt]; exact⟨ha,Nat.lt_succ_self _⟩);simp only[AdZ,B9] at this ⊢;exact this
theorem K0{P:Program}(w:World){t:TypeId}{ti:TI}(hf:CJ P t ti)(ha:ti.agg=wy){xs:Array Value}{i:Nat}{v:Value}(hv:xs[i]?=xM v):(part t xs i).run P w=.ok v w:=by simp[part,hf.Qv w,ha,hv]
theorem T1{z:Bool}{l m:List DV}(h:sameShape (.bool z::l) m=wg):∃b m',m=.bool b::m'/\sameShape l m'=wg:=by
 cases m with
 | nil=>simp[sameShape] at h
 | cons d m'=>cases d<;>simp[sameShape] at h; exact⟨_,_,rfl,h⟩
theorem ID{k:IntKind}{z:Int}{l m:List DV}(h:sameShape (.int k z::l) m=wg):∃b m',m=.int k b::m'/\sameShape l m'=wg:=by
 cases m with
 | nil=>simp[sameShape] at h
 | cons d m'=>cases d<;>simp[sameShape] at h; obtain⟨rfl,h⟩:=h; exact⟨_,_,rfl,h⟩
theorem O6{m:List DV}(h:sameShape [] m=wg):m=[]:=by
 cases m with
 | nil=>rfl
 | cons d m'=>cases d<;>simp[sameShape] at h
theorem Amo{P:Program}{g:FuncId}{e:EC}(h:DR P g e){vals:Array Value}{w:World}{args:List DV}{I:Nat->Prop}(hI:∀b,I b->b<w.heap.size)(ha:BN (I5 I) w args vals.toList)
 (hp:e.pre args=wg) (ho:e.out args=.bool wg):Calls P g vals w fun e w'=>e=.returned (.bool wg)/\Below w.heap.size w w':=by
 refine(h.meets args hp w vals I hI ha).mono ?_
 rintro e w' ⟨v,own,he,hb,_,hv⟩
 rw[ho] at hv;simp only[Bz] at hv;subst hv;exact⟨he,hb⟩
def Amr(ts:List AT)(e1 e2:EC):EC where
 pre:=fun args=>match KB ts args with
  | some _=>e1.pre args
  | none=>e2.pre args
 out:=fun args=>match KB ts args with
  | some _=>e1.out args
  | none=>e2.out args
theorem DR.alt{P:Program}{g:FuncId}{ts:List AT}{e1 e2:EC}(h1:DR P g e1)(h2:DR P g e2):DR P g (Amr ts e1 e2):=by
 refine⟨fun args ha=>?_,h1.call⟩;simp only[Amr] at ha ⊢;cases hd:KB ts args with
 | none=>rw[hd] at ha; exact h2.meets args ha
 | some x=>rw[hd] at ha; exact h1.meets args ha
theorem DR.SD{P:Program}{g:FuncId}{ts:List AT}{pre pre':List G0->Bool}{out out':List G0->DV}(h:DR P g (B9 ts pre out))(drops:List Nat)
 (hw:∀ats,pre' ats=wg->pre ats=wg/\Wk drops (out ats) (out' ats)):DR P g (B9 ts pre' out'):=by
 refine⟨fun args ha=>?_,h.call⟩;simp only[B9] at ha ⊢;cases hd:KB ts args with
 | none=>rw[hd] at ha; cases ha
 | some x =>rw[hd] at ha;have:=h.meets args (by simp only[B9,hd]; exact(hw x ha).1);simp only[B9,hd] at this;exact this.SD (hw x ha).2
def Aij(K:List (List DV)->List DV->Prop):List DV->Prop
 | .C3 .arg _ rows::ds=>K rows ds
 | _=>True
def J7:Nat->List AT->(List G0->List DV->Prop)->Prop
 | 0,_,_=>False
 | _+1,[],K=>K [] []
 | n+1,.b::ts,K=>∀x:Bool,J7 n ts fun as ds=>K (.b x::as) (.bool x::ds)
 | n+1,.i k::ts,K=>∀x:Int,J7 n ts fun as ds=>K (.i x::as) (.int k x::ds)
 | n+1,.s k::ts,K=>∀x:Bb,J7 n ts fun as ds=>K (.l x::as) (.Bh .arg k x::ds)
 | n+1,.fl::ts,K=>∀x:Nat,J7 n ts fun as ds=>K (.f x::as) (.fl x::ds)
 | n+1,.nb::ts,K=>∀x:Nat,J7 n ts fun as ds=>K (.f x::as) (.nb x::ds)
 | n+1,.rl sz::ts,K=>∀x:List (List DV),J7 n ts fun as ds=>K (.r x::as) (.C3 .arg sz x::ds)
 | n+1,.st l::ts,K=>J7 n l fun as cs=>J7 n ts fun bs ds=>K (as++bs) (.agg cs::ds)
 | n+1,.fn g l::ts,K=>J7 n l fun as cs=>J7 n ts fun bs ds=>K (as++bs) (.fn g [] cs::ds)
 | n+1,.fm g l::ts,K=>J7 n l fun as cs=>J7 n ts fun bs ds=>K (as++bs) (.fn g cs []::ds)
 | n+1,.cp l::ts,K=>J7 n l fun as cs=>J7 n ts fun bs ds=>K (as++bs) (.CQ cs::ds)
 | n+1,.rs sz []::ts,K=>J7 n ts fun as ds=>K as (.C3 .arg sz []::ds)
 | n+1,.rs sz (l::ls)::ts,K=>J7 n l fun as cs=>J7 n (.rs sz ls::ts) fun bs ds=>Aij (fun rows ds=>K (as++bs) (.C3 .arg sz (cs::rows)::ds)) ds
theorem J7.go:∀(n:Nat) {ts:List AT} {as:List G0} {ds:List DV} {K:List G0->List DV->Prop},J7 n ts K->EZ ts as ds->K as ds:=by
 intro n
 induction n with
 | zero=>intro ts as ds K h _; exact h.elim
 | succ n ih =>
   intro ts as ds K h e;cases e with
   | nil=>exact h
   | b x e=>exact ih (K:=fun as ds=>K (.b x::as) (.bool x::ds)) (h x) e
   | i k x e=>exact ih (K:=fun as ds=>K (.i x::as) (.int k x::ds)) (h x) e
   | s k x e=>exact ih (K:=fun as ds=>K (.l x::as) (.Bh .arg k x::ds)) (h x) e
   | fl x e=>exact ih (K:=fun as ds=>K (.f x::as) (.fl x::ds)) (h x) e
   | nb x e=>exact ih (K:=fun as ds=>K (.f x::as) (.nb x::ds)) (h x) e
   | rl sz x e=>exact ih (K:=fun as ds=>K (.r x::as) (.C3 .arg sz x::ds)) (h x) e
   | @st _ _ a c _ _ e1 e2=>exact ih (K:=fun bs ds=>K (a++bs) (.agg c::ds)) (ih (K:=fun as cs=>J7 n _ fun bs ds=>K (as++bs) (.agg cs::ds)) h e1) e2
   | @fn g _ _ a c _ _ e1 e2=>exact ih (K:=fun bs ds=>K (a++bs) (.fn g [] c::ds)) (ih (K:=fun as cs=>J7 n _ fun bs ds=>K (as++bs) (.fn g [] cs::ds)) h e1) e2
   | @fm g _ _ a c _ _ e1 e2=>exact ih (K:=fun bs ds=>K (a++bs) (.fn g c []::ds)) (ih (K:=fun as cs=>J7 n _ fun bs ds=>K (as++bs) (.fn g cs []::ds)) h e1) e2
   | @cp _ _ a c _ _ e1 e2=>exact ih (K:=fun bs ds=>K (a++bs) (.CQ c::ds)) (ih (K:=fun as cs=>J7 n _ fun bs ds=>K (as++bs) (.CQ cs::ds)) h e1) e2
   | rs0 e=>exact ih (K:=fun as ds=>K as (.C3 .arg _ []::ds)) h e
   | @rs1 sz _ _ _ a c _ _ _ e1 e2 =>have:=ih (K:=fun bs ds=>Aij (fun rows ds=>K (a++bs) (.C3 .arg sz (c::rows)::ds)) ds) (ih (K:=fun as cs=>J7 n _ fun bs ds=>Aij (fun rows ds=>K (as++bs) (.C3 .arg sz (cs::rows)::ds)) ds) h e1) e2;exact this
abbrev AkV(E:Env)(fn:Func)(ds:List DV)(out:DV):Prop:=∃N dv drops,BX E N fn (Br fn) ds=xM dv/\Wk drops dv out
abbrev Hyp(E:Env)(fn:Func)(ts:List AT)(pre:List G0->Bool)(out:List G0->DV):Prop:=J7 40 ts fun as ds=>pre as=wg->AkV E fn ds (out as)
theorem Fk{P:Program}{E:Env}(he:Ix P E){f:FuncId}{fn:Func}(hf:P.funcs[f]?=xM fn)(hb:fn.body=xM (Br fn))(hn:(fn.name== "runtime.NumGoroutine")=wy){ts:List AT}{pre:List G0->Bool}{out:List G0->DV}
 (h:J7 40 ts fun as ds=>pre as=wg->AkV E fn ds (out as)):DR P f (B9 ts pre out):=
 ⟨NY he hf hb fun _ _ e hp=>J7.go 40 h e hp,Nm hf hn hb⟩
theorem Bq{x:Int}(h1:-9223372036854775808<=x)(h2:x<=9223372036854775807):Be x=x:=Go.IntWalk.i64_in x ⟨h1,h2⟩
theorem Mk(x:Int):BQ x=x%18446744073709551616:=by unfold BQ IntKind.wrap; simp[IntKind.bits,IntKind.signed]
theorem Afv(x:Int):Ii x=x%4294967296:=by unfold Ii IntKind.wrap; simp[IntKind.bits,IntKind.signed]
theorem Di{x:Int}(h1:0<=x)(h2:x<18446744073709551616):BQ x=x:=by rw[Mk]; omega
theorem Ih{x:Int}(h1:0<=x)(h2:x<4294967296):Ii x=x:=by rw[Afv]; omega
theorem Ak6(k:IntKind)(x y:Int):D7 k x y=x / 2^(min y.toNat k.bits):=by unfold D7;exact Int.fdiv_eq_ediv_of_nonneg _ (Int.le_of_lt (Int.pow_pos (by decide)))
theorem Hd(k:IntKind)(n s:Nat)(h:s<=k.bits):D7 k n s=((n / 2^s:Nat):Int):=by
 rw[Ak6,Ad,ym h]
 push_cast
 rfl
theorem Ff(n s:Nat)(h:s<=64):Cr .u64 n s=((n*2^s%2^64:Nat):Int):=by
 unfold Cr;rw[Ad,show IntKind.u64.bits=64 from rfl,ym h];show BQ _=_;rw[Mk];show _=((n*2^s%18446744073709551616:Nat):Int)
 rw[Int.natCast_emod,Ax,Int.natCast_pow];rfl
theorem HL(b n:Nat):(zp b n).toNat=n%2^b:=by rw[BitVec.toNat_ofInt];rw[show((n:Int)%(2^b:Nat))=((n%2^b:Nat):Int) by push_cast; rfl,Ad]
theorem Qh{n:Nat}(h:n<2^64):IntKind.u64.wrap n=n:=by show BQ _=_;rw[Mk];omega
theorem ZW{a b:Nat}(ha:a<2^64)(hb:b<2^64):ED .u64 a b=((a &&& b:Nat):Int):=by unfold ED;rw[BitVec.toNat_and,HL,HL,show IntKind.u64.bits=64 from rfl,Ao ha,Ao hb];exact Qh (AG Nat.and_le_left ha)
theorem Ri{a b:Nat}(ha:a<2^64)(hb:b<2^64):Ht .u64 a b=((a ||| b:Nat):Int):=by unfold Ht;rw[BitVec.toNat_or,HL,HL,show IntKind.u64.bits=64 from rfl,Ao ha,Ao hb];exact Qh (Nat.or_lt_two_pow ha hb)
theorem Aiu{a b:Nat}(ha:a<2^64)(hb:b<2^64):Ak5 .u64 a b=((a ^^^ b:Nat):Int):=by unfold Ak5;rw[BitVec.toNat_xor,HL,HL,show IntKind.u64.bits=64 from rfl,Ao ha,Ao hb];exact Qh (Nat.xor_lt_two_pow ha hb)
theorem HO{a:Nat}(k:Nat)(ha:a<2^64)(hk:k<=64):ED .u64 a ((2^k-1:Nat):Int)=((a%2^k:Nat):Int):=by rw[ZW ha (by have:=Aq (n:=2) (by decide) hk; have:=Nat.pow_pos (a:=2) (n:=k) (by decide); omega),Nat.and_two_pow_sub_one_eq_mod]
theorem Lc{a b k:Nat}(hb:b<2^k):b ||| (a*2^k)=a*2^k+b:=by rw[xq,A1,vU hb]
theorem Afk{a b k:Nat}(hb:b<2^k)(h:a*2^k+b<2^64):Ht .u64 b ((a*2^k:Nat):Int)=((a*2^k+b:Nat):Int):=by rw[Ri (by omega) (by omega),Lc hb]
theorem Lm{a b k:Nat}(hb:b<2^k)(h:a*2^k+b<2^64):Ht .u64 ((a*2^k:Nat):Int) b=((a*2^k+b:Nat):Int):=by rw[Ri (by omega) (by omega),xq,Lc hb]
theorem To{r:Nat}(hr:r<2^63):(2^63+r) ^^^ 2^63=r/\r ^^^ 2^63=2^63+r:=by
 have e2:=vU hr 1;rw[AN] at e2
 have a1:r ^^^ 2^63=2^63+r:=by
  rw[e2];apply Nat.eq_of_testBit_eq;intro i;rw[Nat.testBit_xor,Nat.testBit_or,Nat.testBit_two_pow];by_cases hi:63=i
  ·subst hi;rw[Nat.testBit_lt_two_pow hr]; simp
  ·simp[hi]
 refine⟨?_,a1⟩;rw[<- a1,Nat.xor_assoc,Nat.xor_self,Nat.xor_zero]
theorem AiB{a:Nat}(ha:a<2^64):a ^^^ 2^63=if 2^63<=a then a-2^63 else a+2^63:=by
 by_cases h:2^63<=a
 ·rw[Az h];obtain⟨r,rfl⟩:∃r,a=2^63+r:=⟨a-2^63,by omega⟩
  rw[(To (by omega)).1]; omega
 ·rw[Ay h,(To (by omega)).2]; omega
def Bo(x:Int):Bool:=CE (0<=x/\x<18446744073709551616)
theorem BR{x:Int}(h:Bo x=wg):∃n:Nat,x=n/\n<2^64:=by unfold Bo at h;rw[Bt] at h;exact⟨x.toNat,by omega,by omega⟩
theorem Cq{n:Nat}(h:n<2^64):Bo n=wg:=by unfold Bo;rw[Bt];omega
inductive WkL(drops:List Nat):List DV->List DV->Prop
 | nil:WkL drops [] []
 | cons {d d' l l'}:Wk drops d d'->WkL drops l l'->WkL drops (d::l) (d'::l')
theorem WkL.length{drops:List Nat}{l l':List DV}(h:WkL drops l l'):l.length=l'.length:=by
 induction h with
 | nil=>rfl
 | cons _ _ ih=>simp[ih]
theorem WkL.get{drops:List Nat}{l l':List DV}(h:WkL drops l l'):∀(j:Nat) d d',l[j]?=xM d->l'[j]?=xM d'->Wk drops d d':=by
 induction h with
 | nil=>intro j d d' h; cases h
 | cons h1 _ ih =>
   intro j d d' h2 h3;cases j with
   | zero=>cases h2; cases h3; exact h1
   | succ j=>exact ih j d d' h2 h3
theorem Wk.Gt{drops:List Nat}{l l':List DV}(h:WkL drops l l'):Wk drops (.agg l) (.agg l'):=.agg h.length h.get
theorem Wk.Gx{drops:List Nat}{l l':List DV}(h:WkL drops l l'):Wk drops (.Cw l) (.Cw l'):=.Cw h.length h.get
theorem Wk.bool{drops:List Nat}{b:Bool}:Wk drops (.bool b) (.bool b):=.refl rfl (by intros; simp) (by intros; simp)
theorem Wk.int{drops:List Nat}{k:IntKind}{x:Int}:Wk drops (.int k x) (.int k x):=.refl rfl (by intros; simp) (by intros; simp)
theorem Wk.fl{drops:List Nat}{x:Nat}:Wk drops (.fl x) (.fl x):=.refl rfl (by intros; simp) (by intros; simp)
theorem Wk.Sd{drops:List Nat}{k:IntKind}{l:Bb}:Wk drops (.Bh .arg k l) (.Bh .arg k l):=.refl rfl (by intros; simp) (by intros; simp)
theorem Wk.Na{drops:List Nat}{k:IntKind}{l:Bb}:Wk drops (.Bh .BF k l) (.Bh .BF k l):=.refl rfl (by intros; simp) (by intros; simp)
theorem EZ.Ta{as:List G0}{ds:List DV}(h:EZ [] as ds):as=[]/\ds=[]:=by cases h; exact⟨rfl,rfl⟩
theorem EZ.AnF{ts:List AT}{as:List G0}{ds:List DV}(h:EZ (.b::ts) as ds):∃x as' ds',as=.b x::as'/\ds=.bool x::ds'/\EZ ts as' ds':=by cases h with | b x h=>exact⟨x,_,_,rfl,rfl,h⟩
theorem EZ.Ah7{k:IntKind}{ts:List AT}{as:List G0}{ds:List DV}(h:EZ (.i k::ts) as ds):∃x as' ds',as=.i x::as'/\ds=.int k x::ds'/\EZ ts as' ds':=by cases h with | i k x h=>exact⟨x,_,_,rfl,rfl,h⟩
theorem EZ.AkJ{k:IntKind}{ts:List AT}{as:List G0}{ds:List DV}(h:EZ (.s k::ts) as ds):∃x as' ds',as=.l x::as'/\ds=.Bh .arg k x::ds'/\EZ ts as' ds':=by cases h with | s k x h=>exact⟨x,_,_,rfl,rfl,h⟩
theorem EZ.AlO{ts:List AT}{as:List G0}{ds:List DV}(h:EZ (.nb::ts) as ds):∃x as' ds',as=.f x::as'/\ds=.nb x::ds'/\EZ ts as' ds':=by cases h with | nb x h=>exact⟨x,_,_,rfl,rfl,h⟩
end Go.Den
end
