/- A verified evaluator of the program's form and its use for this seat: Den32, Den33, Den34, Den35, Den36, Den37, Den38, Bits. -/
import Derived.Test.YthajngaadbanfaaGreatTC
import Derived.KernelRfl
import Derived.Laws.StructEq
import Derived.Laws.Externs
import Derived.ChangeKeysEq
import Derived.IntWalk
set_option linter.unusedVariables false
set_option linter.unusedSimpArgs false
open Option renaming some->xQ,none->xY
open Bool renaming true->xZ,false->x5
open Array renaming replicate->yP,size_replicate->vK,getD_eq_getD_getElem?->ya,getElem?_append_left->wI
open List renaming replicate->zp,length_replicate->xe,getElem?_append_left->yC,getElem?_replicate->xK,drop_zero->zY,take_length->z9,getElem?_eq_some_iff->xv,size_toArray->xN,length_cons->zj
open Option renaming getD_none->xc
open Nat renaming beq->zg,zero_le->zo,min_eq_left->yv,or_comm->xB,two_pow_add_eq_or_of_lt->vM
open BitVec renaming ofInt->zq
open Classical renaming propDecidable->vL
noncomputable section
namespace Go.Den
open Go.RowKit (Below)
theorem AbP{P:Program}{E:Env}{S:UJ E}(hty:∀t ti,E.ty t=xQ ti->CI P t ti){I:Nat->Prop}{fn:Func}{st:St}{out:DV}(h:UC E fn st=xQ out){w w':World}{a:Act}(hh:Fa S I w.heap.size w st a w'):
 ∃v own,(results fn a.tmps).run P w'=.ok v w'/\Below w.heap.size w w'/\Ahz own w w'/\B0 (DW I own w w') w' out v:=by
 obtain⟨A,hA⟩:=hh;unfold UC at h;cases hds:Pj E st fn.results.toList with
 | none=>simp[hds] at h
 | some ds =>
   rw[hds,Aj] at h;obtain⟨vs,hv,hr⟩:=QR hty hA _ ds hds;have hm:Mem I w.heap.size A st.heap w':=hA.mem fun n p fo _ hl=>hl
   have hone:B0 (Cc I w.heap.size A w') w' (AfF ds) (AfE vs):=by
    match ds,vs,hv with
    | [],vs,hv =>rw[BM.Gj] at hv; subst hv;simp only[B0,AfF,AfE];exact⟨#[],rfl,by simp[BM]⟩
    | [d],vs,hv =>rw[BM.CW] at hv;obtain⟨u,us,rfl,h1,h2⟩:=hv;rw[BM.Gj] at h2; subst h2;exact h1
    | d::d'::ds,vs,hv =>have hv':=hv;rw[BM.CW] at hv;obtain⟨u,us,rfl,h1,h2⟩:=hv;rw[BM.CW] at h2;obtain⟨u',us',rfl,h3,h4⟩:=h2;simp only[B0,AfF,AfE];exact⟨_,rfl,by simpa using hv'⟩
   cases hrs:FR st.heap 6 (AfF ds) with
   | none=>rw[hrs] at h; cases h
   | some r =>
     obtain⟨d,ns,os⟩:=r;rw[hrs,Aj] at h;simp only at h;cases hc:(ns.all fun n=>!(os.contains n)) with
     | false=>rw[hc] at h; cases h
     | true =>
       rw[hc,Aa,Ae] at h;subst h
       have hdis:∀n∈ns,n ∉ os:=fun n hn hno=>by have:=List.all_eq_true.1 hc n hn;simp[hno] at this
       refine⟨_,J3 A os,RC hr,hA.below,⟨fun i b hb=>?_,fun i j b hi hj=>?_⟩,Af5 hm hdis 6 _ _ _ ns os hrs (fun _ h=>h) (fun _ h=>h) hone⟩
       ·obtain⟨_,p,hp,hl,hpb⟩:=LM hb;exact hm.Gz i p b hp (by rw[hl]; simp) hpb
       ·obtain⟨_,p,hp,hl,hpb⟩:=LM hi;obtain⟨_,q,hq,hl',hqb⟩:=LM hj;exact hm.inj i j p q b hp hq (by rw[hl]; simp) (by rw[hl']; simp) hpb hqb
theorem Ak4{P:Program}{E:Env}(he:He P E){fuel:Nat}{f:FuncId}{fn:Func}{body:Code}(hf:P.funcs[f]?=xQ fn)(hb:fn.body=xQ body){args:List DV}{out:DV}(h:Cz E fuel fn body args=xQ out):MG P f args out:=by
 intro w vals I hI hv;refine calls_of_wp hf hb ?_;unfold Cz at h;have hlen:args.length=vals.size:=by have:=hv.length; simpa using this
 have hh:Fa (E:=E) ⟨fun _=>False,fun t=>(vals++yP (fn.ntmps-vals.size) undef).getD t undef⟩ I w.heap.size w ⟨args++zp (fn.ntmps-args.length) .undef,[]⟩ ⟨vals++yP (fn.ntmps-vals.size) undef,[]⟩ w:=by
  refine⟨fun _=>xY,rfl,by simp only[Array.size_append,vK,A8,xe]; omega,Below.refl _ _,AB _,hI,fun n p h=>(by cases h),fun n p b h=>(by cases h),fun n m p q b h=>(by cases h),fun t=>?_,fun b h=>h.elim,fun t _=>rfl⟩;have hw:I6 (HC I) (Cc I w.heap.size (fun _=>xY) w):=⟨fun b hb=>⟨hI b hb,.inl hb,fun n p h=>(by cases h)⟩,rfl,fun _=>rfl,fun _=>rfl⟩
  have hl:=BM.Fg hw _ _ hv;rcases AF t args.length with hlt | hge
  ·obtain⟨v,h1,h2⟩:=hl.getD t hlt;simp only[Al,yC hlt] at h2 ⊢;have hlt':t<vals.size:=by omega
   have e:(vals++yP (fn.ntmps-vals.size) undef).getD t undef=v:=by rw[ya,wI hlt'];rw[Array.getElem?_toList] at h1;rw[h1]; rfl
   rw[e]; exact h2
  ·rw[Al,AX hge,xK];split<;>simp only[Be,xc,B0]
 refine Mz he fuel out body 0 _ _ _ _ h _ _ hh _ (fun st a w' hk hh'=>?_) (fun id st a w' hk=>by cases hk) (fun st a w' hk hh'=>?_)
 ·obtain⟨v,own,h1,h2,h3,h4⟩:=AbP he.ty hk hh';have hd:a.defers=[]:=by obtain⟨A,hA⟩:=hh'; exact hA.defers
  exact⟨hd,v,h1,v,own,rfl,h2,h3,h4⟩
 ·obtain⟨v,own,h1,h2,h3,h4⟩:=AbP he.ty hk hh';have hd:a.defers=[]:=by obtain⟨A,hA⟩:=hh'; exact hA.defers
  exact⟨hd,v,h1,v,own,rfl,h2,h3,h4⟩
open Go.RowKit (Below)
inductive AT where
 | b
 | i (k:IntKind)
 | s (k:IntKind)
 | fl
 | nb
 | st (l:List AT)
 | fn (g:FuncId) (l:List AT)
 | fm (g:FuncId) (l:List AT)
 | cp (l:List AT)
 | rs (sz:Nat) (l:List (List AT))
 | rl (sz:Nat)
inductive F4 where
 | b (x:Bool)
 | i (x:Int)
 | l (x:Bf)
 | f (x:Nat)
 | r (x:List (List DV))
def Zr:AT->DV->Option F4
 | .b,.bool x=>xQ (.b x)
 | .i k,.int k' x=>bif decide (k=k') then xQ (.i x) else xY
 | .s _,.nil=>xQ (.l [])
 | .s k,.Bj .arg k' l=>bif decide (k=k') then xQ (.l l) else xY
 | .fl,.fl n=>xQ (.f n)
 | .nb,.nb n=>xQ (.f n)
 | .rl _,.nil=>xQ (.r [])
 | .rl sz,.Cu .arg sz' rows=>bif zg sz sz' then xQ (.r rows) else xY
 | _,_=>xY
def Rr:List AT->List DV->Option (List F4)
 | [],[]=>xQ []
 | t::ts,d::ds=>match Zr t d with
   | some a=>match Rr ts ds with
     | some as=>xQ (a::as)
     | none=>xY
   | none=>xY
 | _,_=>xY
def OD:List AT->List DV->Option (List F4)
 | [],[]=>xQ []
 | .cp l::ts,.CS cs::ds=>match Rr l cs with
   | some as=>match OD ts ds with
     | some bs=>xQ (as++bs)
     | none=>xY
   | none=>xY
 | .st l::ts,.agg cs::ds=>match Rr l cs with
   | some as=>match OD ts ds with
     | some bs=>xQ (as++bs)
     | none=>xY
   | none=>xY
 | t::ts,d::ds=>match Zr t d with
   | some a=>match OD ts ds with
     | some bs=>xQ (a::bs)
     | none=>xY
   | none=>xY
 | _,_=>xY
def Xs:List (List AT)->List (List DV)->Option (List F4)
 | [],[]=>xQ []
 | l::ls,cs::rows=>match Rr l cs with
   | some as=>match Xs ls rows with
     | some bs=>xQ (as++bs)
     | none=>xY
   | none=>xY
 | _,_=>xY
def JC:List AT->List DV->Option (List F4)
 | [],[]=>xQ []
 | .rs sz ls::ts,.Cu .arg sz' rows::ds=>bif zg sz sz' then
  match Xs ls rows with
  | some as=>match JC ts ds with
    | some bs=>xQ (as++bs)
    | none=>xY
  | none=>xY
   else xY
 | .fm g l::ts,.fn g' fs []::ds=>bif zg g g' then
  match OD l fs with
  | some as=>match JC ts ds with
    | some bs=>xQ (as++bs)
    | none=>xY
  | none=>xY
   else xY
 | .fn g l::ts,.fn g' [] cs::ds=>bif zg g g' then
  match OD l cs with
  | some as=>match JC ts ds with
    | some bs=>xQ (as++bs)
    | none=>xY
  | none=>xY
   else xY
 | .cp l::ts,.CS cs::ds=>match OD l cs with
   | some as=>match JC ts ds with
     | some bs=>xQ (as++bs)
     | none=>xY
   | none=>xY
 | .st l::ts,.agg cs::ds=>match OD l cs with
   | some as=>match JC ts ds with
     | some bs=>xQ (as++bs)
     | none=>xY
   | none=>xY
 | t::ts,d::ds=>match Zr t d with
   | some a=>match JC ts ds with
     | some bs=>xQ (a::bs)
     | none=>xY
   | none=>xY
 | _,_=>xY
inductive EH:List AT->List F4->List DV->Prop
 | nil:EH [] [] []
 | b {ts as ds} (x:Bool):EH ts as ds->EH (.b::ts) (.b x::as) (.bool x::ds)
 | i {ts as ds} (k:IntKind) (x:Int):EH ts as ds->EH (.i k::ts) (.i x::as) (.int k x::ds)
 | s {ts as ds} (k:IntKind) (x:Bf):EH ts as ds->EH (.s k::ts) (.l x::as) (.Bj .arg k x::ds)
 | fl {ts as ds} (x:Nat):EH ts as ds->EH (.fl::ts) (.f x::as) (.fl x::ds)
 | nb {ts as ds} (x:Nat):EH ts as ds->EH (.nb::ts) (.f x::as) (.nb x::ds)
 | rl {ts as ds} (sz:Nat) (x:List (List DV)):EH ts as ds->EH (.rl sz::ts) (.r x::as) (.Cu .arg sz x::ds)
 | st {l ts as cs bs ds}:EH l as cs->EH ts bs ds->EH (.st l::ts) (as++bs) (.agg cs::ds)
 | fn {g l ts as cs bs ds}:EH l as cs->EH ts bs ds->EH (.fn g l::ts) (as++bs) (.fn g [] cs::ds)
 | fm {g l ts as cs bs ds}:EH l as cs->EH ts bs ds->EH (.fm g l::ts) (as++bs) (.fn g cs []::ds)
 | cp {l ts as cs bs ds}:EH l as cs->EH ts bs ds->EH (.cp l::ts) (as++bs) (.CS cs::ds)
 | rs0 {sz ts bs ds}:EH ts bs ds->EH (.rs sz []::ts) bs (.Cu .arg sz []::ds)
 | rs1 {sz l ls ts as cs bs rows ds}:EH l as cs->EH (.rs sz ls::ts) bs (.Cu .arg sz rows::ds)->EH (.rs sz (l::ls)::ts) (as++bs) (.Cu .arg sz (cs::rows)::ds)
theorem AfM{c:Ctx}{w:World}{k:IntKind}{v:Value}(h:B0 c w .nil v):B0 c w (.Bj .arg k []) v:=by simp only[B0] at h ⊢;subst h;exact⟨xY,0,rfl,AB _,.inl trivial⟩
theorem AfL{c:Ctx}{w:World}{sz:Nat}{v:Value}(h:B0 c w .nil v):B0 c w (.Cu .arg sz []) v:=by simp only[B0] at h ⊢;subst h;exact⟨xY,0,rfl,AB _,.inl trivial⟩
theorem Xt{t:AT}{d:DV}{a:F4}(h:Zr t d=xQ a):∃d',(∀ts as ds,EH ts as ds->EH (t::ts) (a::as) (d'::ds))/\∀c w v,B0 c w d v->B0 c w d' v:=by
 unfold Zr at h;split at h
 ·simp only[Ae] at h; subst h;exact⟨_,fun _ _ _ he=>.b _ he,fun _ _ _ h=>h⟩
 ·rename_i k k' x;by_cases e:k=k'
  ·subst e;simp only[decide_true,Aa,Ae] at h; subst h;exact⟨_,fun _ _ _ he=>.i _ _ he,fun _ _ _ h=>h⟩
  ·simp[e] at h
 ·rename_i k;simp only[Ae] at h; subst h;exact⟨_,fun _ _ _ he=>.s k _ he,fun _ _ _ h=>AfM h⟩
 ·rename_i k k' x;by_cases e:k=k'
  ·subst e;simp only[decide_true,Aa,Ae] at h; subst h;exact⟨_,fun _ _ _ he=>.s _ _ he,fun _ _ _ h=>h⟩
  ·simp[e] at h
 ·simp only[Ae] at h; subst h;exact⟨_,fun _ _ _ he=>.fl _ he,fun _ _ _ h=>h⟩
 ·simp only[Ae] at h; subst h;exact⟨_,fun _ _ _ he=>.nb _ he,fun _ _ _ h=>h⟩
 ·rename_i sz;simp only[Ae] at h; subst h;exact⟨_,fun _ _ _ he=>.rl sz _ he,fun _ _ _ h=>AfL h⟩
 ·rename_i sz sz' rows;cases hg:zg sz sz' with
  | false=>rw[hg] at h; cases h
  | true =>rw[hg,Aa] at h;obtain rfl:=Au hg;simp only[Ae] at h; subst h;exact⟨_,fun _ _ _ he=>.rl sz _ he,fun _ _ _ h=>h⟩
 ·cases h
theorem SJ:∀{ts:List AT} {ds:List DV} {as:List F4},Rr ts ds=xQ as->∃ds',EH ts as ds'/\∀c w vs,BM c w ds vs->BM c w ds' vs
 | [],[],as,h=>by simp only[Rr,Ae] at h; subst h;exact⟨[],.nil,fun _ _ _ h=>h⟩
 | t::ts,d::ds,as,h=>by
   simp only[Rr] at h;cases h1:Zr t d with
   | none=>rw[h1] at h; cases h
   | some a =>
     cases h2:Rr ts ds with
     | none=>rw[h1,h2] at h; cases h
     | some bs =>rw[h1,h2] at h;simp only[Ae] at h; subst h;obtain⟨d',i1,i2⟩:=Xt h1;obtain⟨ds',j1,j2⟩:=SJ h2;refine⟨d'::ds',i1 _ _ _ j1,fun c w vs hv=>?_⟩;rw[BM.CW] at hv ⊢;obtain⟨u,us,e,hu,hus⟩:=hv;exact⟨u,us,e,i2 _ _ _ hu,j2 _ _ _ hus⟩
 | [],_::_,as,h=>by simp[Rr] at h
 | _::_,[],as,h=>by simp[Rr] at h
theorem M3:∀{ts:List AT} {ds:List DV} {as:List F4},OD ts ds=xQ as->∃ds',EH ts as ds'/\∀c w vs,BM c w ds vs->BM c w ds' vs
 | ts,ds,as,h=>by
   unfold OD at h;split at h
   ·simp only[Ae] at h; subst h;exact⟨[],.nil,fun _ _ _ h=>h⟩
   ·rename_i l ts cs ds;cases h1:Rr l cs with
    | none=>rw[h1] at h; cases h
    | some a =>
      cases h2:OD ts ds with
      | none=>rw[h1,h2] at h; cases h
      | some bs =>rw[h1,h2] at h;simp only[Ae] at h; subst h;obtain⟨cs',i1,i2⟩:=SJ h1;obtain⟨ds',j1,j2⟩:=M3 h2;refine⟨.CS cs'::ds',.cp i1 j1,fun c w vs hv=>?_⟩;rw[BM.CW] at hv ⊢;obtain⟨u,us,e,hu,hus⟩:=hv;refine⟨u,us,e,?_,j2 _ _ _ hus⟩;simp only[B0] at hu ⊢;obtain⟨b,o,vs,e,hb,hh,hc⟩:=hu;exact⟨b,o,vs,e,hb,i2 _ _ _ hh,hc⟩
   ·rename_i l ts cs ds;cases h1:Rr l cs with
    | none=>rw[h1] at h; cases h
    | some a =>
      cases h2:OD ts ds with
      | none=>rw[h1,h2] at h; cases h
      | some bs =>rw[h1,h2] at h;simp only[Ae] at h; subst h;obtain⟨cs',i1,i2⟩:=SJ h1;obtain⟨ds',j1,j2⟩:=M3 h2;refine⟨.agg cs'::ds',.st i1 j1,fun c w vs hv=>?_⟩;rw[BM.CW] at hv ⊢;obtain⟨u,us,e,hu,hus⟩:=hv;refine⟨u,us,e,?_,j2 _ _ _ hus⟩;simp only[B0] at hu ⊢;obtain⟨vs,e,hh⟩:=hu;exact⟨vs,e,i2 _ _ _ hh⟩
   ·rename_i t ts d ds _ _;cases h1:Zr t d with
    | none=>rw[h1] at h; cases h
    | some a =>
      cases h2:OD ts ds with
      | none=>rw[h1,h2] at h; cases h
      | some bs =>rw[h1,h2] at h;simp only[Ae] at h; subst h;obtain⟨d',i1,i2⟩:=Xt h1;obtain⟨ds',j1,j2⟩:=M3 h2;refine⟨d'::ds',i1 _ _ _ j1,fun c w vs hv=>?_⟩;rw[BM.CW] at hv ⊢;obtain⟨u,us,e,hu,hus⟩:=hv;exact⟨u,us,e,i2 _ _ _ hu,j2 _ _ _ hus⟩
   ·cases h
theorem Acz:∀{ls:List (List AT)} {rows:List (List DV)} {as:List F4},Xs ls rows=xQ as ->
 ∃rows',(∀sz ts bs ds,EH ts bs ds->EH (.rs sz ls::ts) (as++bs) (.Cu .arg sz rows'::ds))/\rows'.length=rows.length/\∀c w vs,Dx c w rows vs->Dx c w rows' vs
 | [],[],as,h=>by simp only[Xs,Ae] at h; subst h;exact⟨[],fun _ _ _ _ h=>.rs0 h,rfl,fun _ _ _ h=>h⟩
 | l::ls,cs::rows,as,h=>by
   simp only[Xs] at h;cases h1:Rr l cs with
   | none=>rw[h1] at h; cases h
   | some a =>
     cases h2:Xs ls rows with
     | none=>rw[h1,h2] at h; cases h
     | some bs =>
       rw[h1,h2] at h;simp only[Ae] at h; subst h;obtain⟨cs',i1,i2⟩:=SJ h1;obtain⟨rows',j1,j2,j3⟩:=Acz h2;refine⟨cs'::rows',fun sz ts b ds he=>?_,by simp[j2],fun c w vs hv=>?_⟩
       ·rw[List.append_assoc]; exact .rs1 i1 (j1 _ _ _ _ he)
       ·simp only[Dx] at hv ⊢;obtain⟨u,us,e,hu,hus⟩:=hv;exact⟨u,us,e,i2 _ _ _ hu,j3 _ _ _ hus⟩
 | [],_::_,as,h=>by simp[Xs] at h
 | _::_,[],as,h=>by simp[Xs] at h
theorem Ki:∀{ts:List AT} {ds:List DV} {as:List F4},JC ts ds=xQ as->∃ds',EH ts as ds'/\∀c w vs,BM c w ds vs->BM c w ds' vs
 | ts,ds,as,h=>by
   unfold JC at h;split at h
   ·simp only[Ae] at h; subst h;exact⟨[],.nil,fun _ _ _ h=>h⟩
   ·rename_i sz ls ts sz' rows ds;cases hg:zg sz sz' with
    | false=>rw[hg] at h; cases h
    | true =>
    rw[hg,Aa] at h;obtain rfl:=Au hg;cases h1:Xs ls rows with
    | none=>rw[h1] at h; cases h
    | some a =>
      cases h2:JC ts ds with
      | none=>rw[h1,h2] at h; cases h
      | some bs =>rw[h1,h2] at h;simp only[Ae] at h; subst h;obtain⟨rows',i1,i3,i2⟩:=Acz h1;obtain⟨ds',j1,j2⟩:=Ki h2;refine⟨.Cu .arg sz rows'::ds',i1 _ _ _ _ j1,fun c w vs hv=>?_⟩;rw[BM.CW] at hv ⊢;obtain⟨u,us,e,hu,hus⟩:=hv;refine⟨u,us,e,?_,j2 _ _ _ hus⟩;simp only[B0] at hu ⊢;obtain⟨a,cap,e,hc,hh⟩:=hu;refine⟨a,cap,by rw[i3]; exact e,by rw[i3]; exact hc,hh.imp (fun h=>?_) fun⟨b,o,rs,e1,e2,e3,e4,e5⟩=>⟨b,o,rs,e1,e2,i2 _ _ _ e3,e4,e5⟩⟩;rw[h] at i3;exact AJ i3
   ·rename_i g l ts g' cs ds;cases hg:zg g g' with
    | false=>rw[hg] at h; cases h
    | true =>
    rw[hg,Aa] at h;obtain rfl:=Au hg;cases h1:OD l cs with
    | none=>rw[h1] at h; cases h
    | some a =>
      cases h2:JC ts ds with
      | none=>rw[h1,h2] at h; cases h
      | some bs =>rw[h1,h2] at h;simp only[Ae] at h; subst h;obtain⟨cs',i1,i2⟩:=M3 h1;obtain⟨ds',j1,j2⟩:=Ki h2;refine⟨.fn g cs' []::ds',.fm i1 j1,fun c w vs hv=>?_⟩;rw[BM.CW] at hv ⊢;obtain⟨u,us,e,hu,hus⟩:=hv;refine⟨u,us,e,?_,j2 _ _ _ hus⟩;simp only[B0] at hu ⊢;obtain⟨fs',vs,e,hf,hh⟩:=hu;exact⟨fs',vs,e,i2 _ _ _ hf,hh⟩
   ·rename_i g l ts g' cs ds;cases hg:zg g g' with
    | false=>rw[hg] at h; cases h
    | true =>
    rw[hg,Aa] at h;obtain rfl:=Au hg;cases h1:OD l cs with
    | none=>rw[h1] at h; cases h
    | some a =>
      cases h2:JC ts ds with
      | none=>rw[h1,h2] at h; cases h
      | some bs =>rw[h1,h2] at h;simp only[Ae] at h; subst h;obtain⟨cs',i1,i2⟩:=M3 h1;obtain⟨ds',j1,j2⟩:=Ki h2;refine⟨.fn g [] cs'::ds',.fn i1 j1,fun c w vs hv=>?_⟩;rw[BM.CW] at hv ⊢;obtain⟨u,us,e,hu,hus⟩:=hv;refine⟨u,us,e,?_,j2 _ _ _ hus⟩;simp only[B0] at hu ⊢;obtain⟨fs',vs,e,hf,hh⟩:=hu;exact⟨fs',vs,e,hf,i2 _ _ _ hh⟩
   ·rename_i l ts cs ds;cases h1:OD l cs with
    | none=>rw[h1] at h; cases h
    | some a =>
      cases h2:JC ts ds with
      | none=>rw[h1,h2] at h; cases h
      | some bs =>rw[h1,h2] at h;simp only[Ae] at h; subst h;obtain⟨cs',i1,i2⟩:=M3 h1;obtain⟨ds',j1,j2⟩:=Ki h2;refine⟨.CS cs'::ds',.cp i1 j1,fun c w vs hv=>?_⟩;rw[BM.CW] at hv ⊢;obtain⟨u,us,e,hu,hus⟩:=hv;refine⟨u,us,e,?_,j2 _ _ _ hus⟩;simp only[B0] at hu ⊢;obtain⟨b,o,vs,e,hb,hh,hc⟩:=hu;exact⟨b,o,vs,e,hb,i2 _ _ _ hh,hc⟩
   ·rename_i l ts cs ds;cases h1:OD l cs with
    | none=>rw[h1] at h; cases h
    | some a =>
      cases h2:JC ts ds with
      | none=>rw[h1,h2] at h; cases h
      | some bs =>rw[h1,h2] at h;simp only[Ae] at h; subst h;obtain⟨cs',i1,i2⟩:=M3 h1;obtain⟨ds',j1,j2⟩:=Ki h2;refine⟨.agg cs'::ds',.st i1 j1,fun c w vs hv=>?_⟩;rw[BM.CW] at hv ⊢;obtain⟨u,us,e,hu,hus⟩:=hv;refine⟨u,us,e,?_,j2 _ _ _ hus⟩;simp only[B0] at hu ⊢;obtain⟨vs,e,hh⟩:=hu;exact⟨vs,e,i2 _ _ _ hh⟩
   ·rename_i t ts d ds _ _ _ _ _;cases h1:Zr t d with
    | none=>rw[h1] at h; cases h
    | some a =>
      cases h2:JC ts ds with
      | none=>rw[h1,h2] at h; cases h
      | some bs =>rw[h1,h2] at h;simp only[Ae] at h; subst h;obtain⟨d',i1,i2⟩:=Xt h1;obtain⟨ds',j1,j2⟩:=Ki h2;refine⟨d'::ds',i1 _ _ _ j1,fun c w vs hv=>?_⟩;rw[BM.CW] at hv ⊢;obtain⟨u,us,e,hu,hus⟩:=hv;exact⟨u,us,e,i2 _ _ _ hu,j2 _ _ _ hus⟩
   ·cases h
def BO(ts:List AT)(pre:List F4->Bool)(out:List F4->DV):Ez where
 pre:=fun args=>match JC ts args with
  | some as=>pre as
  | none=>x5
 out:=fun args=>match JC ts args with
  | some as=>out as
  | none=>.undef
inductive Wk(drops:List Nat):DV->DV->Prop
 | refl {d:DV} (h:EK 1 [] d=xZ) (ho:∀i e k l,d≠.Bj (.own i e) k l) (hr:∀i e k l,d≠.Cu (.own i e) k l):Wk drops d d
 | nil (g:R0) (k:IntKind):Wk drops .nil (.Bj g k [])
 | BE (k:IntKind) (l:Bf):Wk drops (.Bj .BE k l) (.Bj .arg k l)
 | Df (i:Nat) (e:TypeId) (k:IntKind) (l:Bf) (h:i ∉ drops):Wk drops (.Bj (.own i e) k l) (.Bj (.own i e) k l)
 | Amz (i:Nat) (e:TypeId) (sz:Nat) (l:List (List DV)) (h:i ∉ drops):Wk drops (.Cu (.own i e) sz l) (.Cu (.own i e) sz l)
 | Ams (g:R0) (sz:Nat):Wk drops .nil (.Cu g sz [])
 | Acr (i:Nat) (e:TypeId) (sz:Nat) (l:List (List DV)) (h:i∈drops):Wk drops (.Cu (.own i e) sz l) (.Cu .BE sz l)
 | drop (i:Nat) (e:TypeId) (k:IntKind) (l:Bf) (h:i∈drops):Wk drops (.Bj (.own i e) k l) (.Bj .BE k l)
 | Acs (i:Nat) (e:TypeId) (k:IntKind) (l:Bf) (h:i∈drops):Wk drops (.Bj (.own i e) k l) (.Bj .arg k l)
 | agg {l l':List DV} (h:l.length=l'.length) (hw:∀(j:Nat) d d',l[j]?=xQ d->l'[j]?=xQ d'->Wk drops d d'):Wk drops (.agg l) (.agg l')
 | CR {l l':List DV} (h:l.length=l'.length) (hw:∀(j:Nat) d d',l[j]?=xQ d->l'[j]?=xQ d'->Wk drops d d'):Wk drops (.CR l) (.CR l')
def Hc(drops:List Nat)(own:Nat->Option Nat)(i:Nat):Option Nat:=if i∈drops then xY else own i
theorem JB{drops:List Nat}{own:Nat->Option Nat}{i b:Nat}(h:Hc drops own i=xQ b):own i=xQ b/\i ∉ drops:=by
 unfold Hc at h;split at h
 ·cases h
 ·exact⟨h,‹_›⟩
theorem OL{w:World}{base:Nat}{e:TypeId}{k:IntKind}{l:Bf}{v:Value}(ho:w.ownsRow base e 1 v l.length (l.map (Value.int k))){ok:Nat->Prop}(hok:∀b,v.ownBlock=xQ b->ok b):
 ∃a cap,v=.slice a l.length cap/\l.length<=cap/\(l=[]\/∃b o,a=xQ ⟨b,o,xY⟩/\ok b/\∀(i:Nat) n,l[i]?=xQ n->w.cell? ⟨b,o+i,xY⟩=xQ (.int k n)):=by
 have:=Iw (p:=⟨.live,.row v 1⟩) rfl ho (ER ho) (ok:=ok) hok;simp only[zY,z9] at this;exact this
theorem Wk.rel{drops:List Nat}{d d':DV}(h:Wk drops d d'){I:Nat->Prop}{own:Nat->Option Nat}{w w':World}(ho:Ahz own w w'):∀v,B0 (DW I own w w') w' d v->B0 (DW I (Hc drops own) w w') w' d' v:=by
 have hok:∀b,(DW I own w w').ok b->(DW I (Hc drops own) w w').ok b:=by
  rintro b ⟨h1,h2,h3⟩
  exact⟨h1,h2,fun i hi=>h3 i (JB hi).1⟩
 have hblk:∀i b,i∈drops->own i=xQ b->(DW I (Hc drops own) w w').ok b/\w.heap.size<=b:=by intro i b hi hb;obtain⟨h1,h2⟩:=ho.lt i b hb;refine⟨⟨h2,.inr h1,fun j hj=>?_⟩,h1⟩;obtain⟨h3,h4⟩:=JB hj;rw[ho.inj j i b h3 hb] at h4;exact h4 hi
 induction h with
 | @refl d h h1 h2 =>
   intro v hv
   have hl:JF (({ DW I own w w' with own:=fun _=>xY }:Ctx).only []) w' (DW I (Hc drops own) w w') w' :=⟨hok,rfl,rfl,fun _ _ h=>(by cases h),fun n p hp=>(by simp[Ctx.only] at hp),fun _ _ _=>rfl,fun _ _ h=>(by cases h)⟩
   refine B0.DD hl d v (WM [] 1 d v h ?_);cases d with
   | Bj g k l =>
     cases g with
     | own i e=>exact absurd rfl (h1 i e k l)
     | _=>simp only[B0] at hv ⊢; exact hv
   | Cu g k l =>
     cases g with
     | own i e=>exact absurd rfl (h2 i e k l)
     | _=>simp only[B0] at hv ⊢; exact hv
   | agg l =>
     cases l with
     | nil=>simp only[B0] at hv ⊢; simpa[BM] using hv
     | cons a l=>simp[EK] at h
   | CR l =>
     cases l with
     | nil=>simp only[B0] at hv ⊢; simpa[BM] using hv
     | cons a l=>simp[EK] at h
   | fn g a c =>
     cases a with
     | cons _ _=>simp[EK] at h
     | nil =>
       cases c with
       | cons _ _=>simp[EK] at h
       | nil=>simp only[B0] at hv ⊢; simpa[BM] using hv
   | gd c d=>simp[EK] at h
   | Dh n=>simp[EK] at h
   | JX n o m=>simp[EK] at h
   | ptr n i j=>simp[EK] at h
   | undef=>simp only[B0]
   | _=>simp only[B0] at hv ⊢; exact hv
 | nil g k =>
   intro v hv;simp only[B0] at hv;subst hv;cases g with
   | own i e=>simp only[B0]; exact⟨World.ownsRow_nil w' _ e 1,fun b hb=>by cases hb⟩
   | _=>simp only[B0]; exact⟨xY,0,rfl,AB _,.inl trivial⟩
 | Ams g sz =>
   intro v hv;simp only[B0] at hv;subst hv;cases g with
   | own i e=>simp only[B0]; exact⟨[],by simp[Dx],by simp,World.ownsRow_nil w' _ e sz,fun b hb=>by cases hb⟩
   | _=>simp only[B0]; exact⟨xY,0,rfl,AB _,.inl trivial⟩
 | Acr i e sz l h =>intro v hv;simp only[B0] at hv ⊢;obtain⟨rows,h1,h2,h3,h4⟩:=hv;have hr:=Dx.DD (c:=(DW I own w w').bare) (c':=(DW I (Hc drops own) w w').bare) ⟨hok,rfl,rfl,fun _ _ h=>(by cases h),fun _ _ h=>(by cases h),fun _ _ _=>rfl,fun _ _ h=>(by cases h)⟩ _ _ h1;have:=Iv (p:=⟨.live,.row v sz⟩) rfl hr h2 h3 (by have:=ER h3; exact this) (ok:=fun b=>(DW I (Hc drops own) w w').ok b/\w.heap.size<=b) (fun b hb=>hblk i b h (h4 b hb));simp only[zY,z9] at this;obtain⟨a,cap,e1,e2,e3⟩:=this;exact⟨a,cap,e1,e2,e3.imp id fun⟨b,o,rows',e4,e5,e6,e7,e8⟩=>⟨b,o,rows',e4,⟨e5.1,rfl,e5.2⟩,e6,e7,e8⟩⟩
 | BE k l =>intro v hv;simp only[B0] at hv ⊢;obtain⟨a,cap,e,h1,h2⟩:=hv;exact⟨a,cap,e,h1,h2.imp id fun⟨b,o,h3,h4,h5⟩=>⟨b,o,h3,hok b h4.1,h5⟩⟩
 | Df i e k l h =>intro v hv;simp only[B0] at hv ⊢;exact⟨hv.1,fun b hb=>by show Hc drops own i=xQ b; unfold Hc; rw[Ay h]; exact hv.2 b hb⟩
 | Amz i e sz l h =>intro v hv;simp only[B0] at hv ⊢;obtain⟨rows,h1,h2,h3,h4⟩:=hv;refine⟨rows,?_,h2,h3,fun b hb=>by show Hc drops own i=xQ b; unfold Hc; rw[Ay h]; exact h4 b hb⟩;exact Dx.DD (c:=(DW I own w w').bare) (c':=(DW I (Hc drops own) w w').bare) ⟨hok,rfl,rfl,fun _ _ h=>(by cases h),fun _ _ h=>(by cases h),fun _ _ _=>rfl,fun _ _ h=>(by cases h)⟩ _ _ h1
 | drop i e k l h =>intro v hv;simp only[B0] at hv ⊢;exact OL hv.1 fun b hb=>⟨(hblk i b h (hv.2 b hb)).1,rfl,(hblk i b h (hv.2 b hb)).2⟩
 | Acs i e k l h =>intro v hv;simp only[B0] at hv ⊢;exact OL hv.1 fun b hb=>(hblk i b h (hv.2 b hb)).1
 | @agg l l' h hw ih =>
   intro v hv;simp only[B0] at hv ⊢;obtain⟨vs,e,hl⟩:=hv;refine⟨vs,e,BM.JH (by rw[<- h]; exact hl.length) fun j d v hd hv=>?_⟩;have hlt:j<l.length:=by rw[h]; exact(xv.1 hd).1
   obtain⟨u,hu,hr⟩:=hl.get j _ (As hlt);rw[hv] at hu; cases hu;exact ih j _ d (As hlt) hd v hr
 | @CR l l' h hw ih =>
   intro v hv;simp only[B0] at hv ⊢;obtain⟨vs,e,hl⟩:=hv;refine⟨vs,e,BM.JH (by rw[<- h]; exact hl.length) fun j d v hd hv=>?_⟩;have hlt:j<l.length:=by rw[h]; exact(xv.1 hd).1
   obtain⟨u,hu,hr⟩:=hl.get j _ (As hlt);rw[hv] at hu; cases hu;exact ih j _ d (As hlt) hd v hr
theorem MG.U6{P:Program}{f:FuncId}{args:List DV}{out out':DV}(h:MG P f args out){drops:List Nat}(hw:Wk drops out out'):MG P f args out':=by
 intro w vals I hI hv;refine(h w vals I hI hv).mono ?_
 rintro e w' ⟨v,own,he,hb,ho,hr⟩
 refine⟨v,Hc drops own,he,hb,⟨fun i b hi=>ho.lt i b (JB hi).1,fun i j b hi hj=>ho.inj i j b (JB hi).1 (JB hj).1⟩,hw.rel ho v hr⟩
theorem MG.args{P:Program}{f:FuncId}{args args':List DV}{out:DV}(h:MG P f args out)(ha:∀c w vs,BM c w args' vs->BM c w args vs):MG P f args' out :=fun w vals I hI hv=>h w vals I hI (ha _ _ _ hv)
theorem N8{P:Program}{E:Env}(he:He P E){f:FuncId}{fn:Func}{body:Code}(hf:P.funcs[f]?=xQ fn)(hb:fn.body=xQ body){ts:List AT}{pre:List F4->Bool}{out:List F4->DV}
 (h:∀as ds,EH ts as ds->pre as=xZ->∃fuel d drops,Cz E fuel fn body ds=xQ d/\Wk drops d (out as)):RV P f (BO ts pre out):=by
 intro args ha;simp only[BO] at ha ⊢;cases hd:JC ts args with
 | none=>rw[hd] at ha; cases ha
 | some as =>rw[hd] at ha;simp only at ha ⊢;obtain⟨ds,h1,h2⟩:=Ki hd;obtain⟨fuel,d,drops,h3,h4⟩:=h as ds h1 ha;exact((Ak4 he hf hb h3).U6 h4).args h2
structure Pt(β:Type) where
 b:Nat
 c:Code
 Kn:St->Option β
 Kx:Nat->St->Option β
 Kr:St->Option β
def descend{β:Type}(E:Env)(n:Nat):List Nat->List Nat->Nat->Code->(St->Option β)->(Nat->St->Option β)->(St->Option β)->Pt β
 | 0::p,ms,b,.seq x y,Kn,Kx,Kr=>descend E n p ms b x (fun st'=>den E n b y st' Kn Kx Kr) Kx Kr
 | _::p,ms,b,.seq _ y,Kn,Kx,Kr=>descend E n p ms b y Kn Kx Kr
 | 0::p,ms,b,.cond _ x _,Kn,Kx,Kr=>descend E n p ms b x Kn Kx Kr
 | _::p,ms,b,.cond _ _ y,Kn,Kx,Kr=>descend E n p ms b y Kn Kx Kr
 | _::p,ms,_,.block id c,Kn,Kx,Kr=>descend E n p ms id c Kn (fun id' st'=>cond (id'==id) (Kn st') (Kx id' st')) Kr
 | _::p,ms,b,.scope c,Kn,Kx,Kr=>descend E n p ms b c Kn Kx Kr
 | _::p,m::ms,b,.loop c,_,Kx,Kr=>descend E n p ms b c (fun st2=>match canon (E.hint b) st2 with | some st3=>Qr (E.hint b) (den E n b c) m st3 Kx Kr | none=>xY) Kx Kr
 | _,_,b,c,Kn,Kx,Kr=>⟨b,c,Kn,Kx,Kr⟩
def cutAt(E:Env)(n:Nat)(fn:Func)(body:Code)(p ms:List Nat)(st:St):Option DV:=
 match descend E n p ms 0 body (fun st=>UC E fn st) (fun _ _=>xY) (fun st=>UC E fn st) with
 | ⟨b,.seq (.region _ ops draw) y,Kn,Kx,Kr⟩=>Ww (Yp E ops draw (fun st'=>den E n b y st' Kn Kx Kr)) st
 | ⟨_,.region _ ops draw,Kn,_,_⟩=>Ww (Yp E ops draw Kn) st
 | _=>xY
def AgV(E:Env)(n:Nat)(fn:Func)(body:Code)(p ms:List Nat)(st:St):Option DV:=
 match descend E n p ms 0 body (fun st=>UC E fn st) (fun _ _=>xY) (fun st=>UC E fn st) with
 | ⟨b,.seq (.region _ ops draw) y,Kn,Kx,Kr⟩=>Yp E ops draw (fun st'=>den E n b y st' Kn Kx Kr) st
 | ⟨_,.region _ ops draw,Kn,_,_⟩=>Yp E ops draw Kn st
 | _=>xY
theorem DY(E:Env)(n:Nat)(fn:Func)(body:Code)(p ms:List Nat)(st:St):cutAt E n fn body p ms st=AgV E n fn body p ms st:=by unfold cutAt AgV;split<;>simp only[Vc]
def C6(E:Env)(n:Nat)(fn:Func)(body:Code)(p ms:List Nat)(m:Nat)(st:St):Option DV:=
 match descend E n p ms 0 body (fun st=>UC E fn st) (fun _ _=>xY) (fun st=>UC E fn st) with
 | ⟨b,.loop c,_,Kx,Kr⟩=>Qr (E.hint b) (den E n b c) m st Kx Kr
 | _=>xY
def atL(i:Nat):List (Nat × DV)->DV
 | []=>.undef
 | (j,d)::l=>bif zg i j then d else atL i l
def Amv(l:List (Nat × DV)):Nat->Nat->List DV
 | 0,_=>[]
 | k+1,i=>atL i l::Amv l k (i+1)
def Fz(n:Nat)(l:List (Nat × DV)):List DV:=Amv l n 0
def Bg(x:Int):Int:=IntKind.i64.wrap x
def BV(x:Int):Int:=IntKind.u64.wrap x
def HM(x:Int):Int:=IntKind.u32.wrap x
def FZ(k:IntKind)(x y:Int):Int:=k.wrap (zq k.bits x &&& zq k.bits y).toNat
def HK(k:IntKind)(x y:Int):Int:=k.wrap (zq k.bits x ||| zq k.bits y).toNat
def Aji(k:IntKind)(x y:Int):Int:=k.wrap (zq k.bits x ^^^ zq k.bits y).toNat
def O0(k:IntKind)(x y:Int):Int:=k.wrap (zq k.bits x &&& ~~~(zq k.bits y)).toNat
def Ct(k:IntKind)(x y:Int):Int:=k.wrap (x*2^(min y.toNat k.bits))
def DU(k:IntKind)(x y:Int):Int:=x.fdiv (2^(min y.toNat k.bits))
def Ch(p:Prop):Bool:=@decide p (vL p)
theorem Bv{p:Prop}:Ch p=xZ↔p:=by unfold Ch; exact @decide_eq_true_iff p (vL p)
def Bw(f:Func):Code:=f.body.getD .skip
def Db:List (Nat × Ez)->Nat->Option Ez
 | [],_=>xY
 | (m,e)::l,n=>bif zg m n then xQ e else Db l n
def AcA:List (Nat × TI)->Nat->Option TI
 | [],_=>xY
 | (m,e)::l,n=>bif zg m n then xQ e else AcA l n
theorem ifT{α:Type}{R:Bool}{A A' B:α}(h:R=xZ)(ha:A=A'):(cond R A B)=A':=by rw[h,ha]; rfl
theorem B5{α:Type}{R:Bool}{A A':Option α}(h:R=xZ)(ha:A=A'):(cond R A xY)=A':=ifT h ha
theorem CQ{α:Type}{R S:Bool}{A A' B B':α}(h:R=S)(ha:A=A')(hb:B=B'):(cond R A B)=cond S A' B':=by rw[h,ha,hb]
theorem EY{α:Type}{R:Bool}{A A' B B':α}(ha:A=A')(hb:B=B'):(cond R A B)=cond R A' B':=by rw[ha,hb]
structure Ey(P:Program)(g:FuncId)(e:Ez):Prop where
 meets:RV P g e
 call:∀(args:Array Value) (w:World),(callFunc g args).run P w=.ok (.enter g args) w
inductive Ff(P:Program):List (Nat × Ez)->Prop
 | nil:Ff P []
 | cons {g e l}:Ey P g e->Ff P l->Ff P ((g,e)::l)
theorem Ff.get{P:Program}{l:List (Nat × Ez)}(h:Ff P l){g:Nat}{e:Ez}(hg:Db l g=xQ e):Ey P g e:=by
 induction h with
 | nil=>cases hg
 | @cons g' e' l h1 h2 ih =>
   simp only[Db] at hg;cases hb:zg g' g with
   | true =>rw[hb] at hg;simp only[Aa,Ae] at hg;have:=Au hb;subst this hg;exact h1
   | false=>rw[hb] at hg; exact ih hg
theorem Io{P:Program}{f:FuncId}{fn:Func}{body:Code}(hf:P.funcs[f]?=xQ fn)(hn:(fn.name== "runtime.NumGoroutine")=x5)(hb:fn.body=xQ body)(args:Array Value)(w:World):
 (callFunc f args).run P w=.ok (.enter f args) w:=by
 have h1:fn.name≠ "runtime.NumGoroutine":=by simpa using hn
 simp[callFunc,hf,h1,hb]
inductive O3(P:Program):List (Nat × TI)->Prop
 | nil:O3 P []
 | cons {t ti l}:CI P t ti->O3 P l->O3 P ((t,ti)::l)
theorem O3.get{P:Program}{l:List (Nat × TI)}(h:O3 P l){t:Nat}{ti:TI}(hg:AcA l t=xQ ti):CI P t ti:=by
 induction h with
 | nil=>cases hg
 | @cons t' ti' l h1 h2 ih =>
   simp only[AcA] at hg;cases hb:zg t' t with
   | true =>rw[hb] at hg;simp only[Aa,Ae] at hg;have:=Au hb;subst this hg;exact h1
   | false=>rw[hb] at hg; exact ih hg
theorem CY{P:Program}{t:TypeId}{ti:TI}{z:Value}(h:(P.info? t).map (fun i=>(i.zero,i.size,i.bytes))=xQ (xQ z,ti.size,ti.bytes))(hz:XA ti.zero z.cells.toList)(hs:z.cells.size=ti.size)
 (h1:∀u∈z.cells.toList,u.oneCell'=xZ) (hd:CV P t ti.kind):CI P t ti:=by
 cases hi:P.info? t with
 | none=>rw[hi] at h; cases h
 | some i =>rw[hi] at h;simp only[Option.map_some,Ae,Ak] at h;exact⟨⟨i,z,hi,h.2.1,h.2.2,h.1,hz,hs,h1⟩,hd⟩
def Adi(ts:List AT)(pre:List F4->Bool)(out:List F4->DV)(mu:List F4->Nat)(n:Nat):Ez:=BO ts (fun as=>pre as&&Ch (mu as<n)) out
theorem Aa9{P:Program}{E:Nat->Env}{f:FuncId}{fn:Func}{body:Code}(hf:P.funcs[f]?=xQ fn)(hb:fn.body=xQ body){ts:List AT}{pre:List F4->Bool}{out:List F4->DV}(mu:List F4->Nat)
 (he:∀n,RV P f (Adi ts pre out mu n)->He P (E n))
 (h:∀n as ds,EH ts as ds->pre as=xZ->mu as<n+1->∃fuel d drops,Cz (E n) fuel fn body ds=xQ d/\Wk drops d (out as)):RV P f (BO ts pre out):=by
 have key:∀n,RV P f (Adi ts pre out mu n):=by
  intro n
  induction n with
  | zero =>
    intro args ha;simp only[Adi,BO] at ha;split at ha
    ·simp only[Am,Bv] at ha; omega
    ·cases ha
  | succ n ih =>
    refine N8 (he n ih) hf hb fun as ds hd hp=>?_
    simp only[Am,Bv] at hp;exact h n as ds hd hp.1 hp.2
 intro args ha;simp only[BO] at ha;cases hd:JC ts args with
 | none=>rw[hd] at ha; cases ha
 | some as =>rw[hd] at ha;have:=key (mu as+1) args (by simp only[Adi,BO,hd,Am,Bv]; exact⟨ha,Nat.lt_succ_self _⟩);simp only[Adi,BO] at this ⊢;exact this
theorem Mg{P:Program}(w:World){t:TypeId}{ti:TI}(hf:CI P t ti)(ha:ti.agg=x5){xs:Array Value}{i:Nat}{v:Value}(hv:xs[i]?=xQ v):(part t xs i).run P w=.ok v w:=by simp[part,hf.PT w,ha,hv]
theorem Ti{z:Bool}{l m:List DV}(h:sameShape (.bool z::l) m=xZ):∃b m',m=.bool b::m'/\sameShape l m'=xZ:=by
 cases m with
 | nil=>simp[sameShape] at h
 | cons d m'=>cases d<;>simp[sameShape] at h; exact⟨_,_,rfl,h⟩
theorem Od{k:IntKind}{z:Int}{l m:List DV}(h:sameShape (.int k z::l) m=xZ):∃b m',m=.int k b::m'/\sameShape l m'=xZ:=by
 cases m with
 | nil=>simp[sameShape] at h
 | cons d m'=>cases d<;>simp[sameShape] at h; obtain⟨rfl,h⟩:=h; exact⟨_,_,rfl,h⟩
theorem Vk{m:List DV}(h:sameShape [] m=xZ):m=[]:=by
 cases m with
 | nil=>rfl
 | cons d m'=>cases d<;>simp[sameShape] at h
theorem AkN{P:Program}{g:FuncId}{e:Ez}(h:Ey P g e){vals:Array Value}{w:World}{args:List DV}{I:Nat->Prop}(hI:∀b,I b->b<w.heap.size)(ha:BM (HC I) w args vals.toList)
 (hp:e.pre args=xZ) (ho:e.out args=.bool xZ):Calls P g vals w fun e w'=>e=.returned (.bool xZ)/\Below w.heap.size w w':=by
 refine(h.meets args hp w vals I hI ha).mono ?_
 rintro e w' ⟨v,own,he,hb,_,hv⟩
 rw[ho] at hv;simp only[B0] at hv;subst hv;exact⟨he,hb⟩
def AmL(E:Env)(n:Nat)(_fn:Func)(body:Code)(p ms:List Nat)(m:Nat)(st:St):Option Unit:=
 match descend E n p ms 0 body (fun _=>xQ ()) (fun _ _=>xY) (fun _=>xQ ()) with
 | ⟨b,.loop c,_,Kx,Kr⟩=>Qr (E.hint b) (den E n b c) m st Kx Kr
 | _=>xY
def UL(e:TypeId)(k:IntKind)(st:St):Option (Bf):=match st.tmps.getD 0 .undef with
 | .Dh n=>match look st.heap n with
   | some (false,.Bj e' k' l)=>bif e==e'&&decide (k=k') then xQ l else xY
   | _=>xY
 | _=>xY
def wrD(E:Env)(fuel:Nat)(fn:Func)(body:Code)(e:TypeId)(k:IntKind)(l:Bf)(ds:List DV):Option (Bf) :=den E fuel 0 body ⟨(.Dh 1000::ds)++zp (fn.ntmps-(ds.length+1)) .undef,[(1000,x5,.Bj e k l)]⟩ (UL e k) (fun _ _=>xY) (UL e k)
def Qk(E:Env)(n:Nat)(_fn:Func)(body:Code)(e:TypeId)(k:IntKind)(p ms:List Nat)(m:Nat)(st:St):Option (Bf):=
 match descend E n p ms 0 body (UL e k) (fun _ _=>xY) (UL e k) with
 | ⟨b,.loop c,_,Kx,Kr⟩=>Qr (E.hint b) (den E n b c) m st Kx Kr
 | _=>xY
theorem Ali{P:Program}{E:Env}(he:He P E)(hnp:0<E.np){f:FuncId}{fn:Func}{body:Code}(hf:P.funcs[f]?=xQ fn)(hb:fn.body=xQ body)(hres:fn.results.toList=[])
 (hcall:∀(args:Array Value) (w:World),(callFunc f args).run P w=.ok (.enter f args) w) {W:Writer}
 (h:∀l ds,l.length<=maxLen->W.pre l ds=xZ->∃ds' fuel,(∀c w vs,BM c w ds vs->BM c w ds' vs)/\wrD E fuel fn body W.elem W.kind l ds'=xQ (W.out l ds)):LC P f W:=by
 refine⟨hcall,fun w v l ds vals hown hds hpre=>?_⟩;refine calls_of_wp hf hb ?_
 have hlen:l.length<=maxLen:=by
  rcases hown.2 with ⟨_,hn⟩ | ⟨g,cap,cur,_,_,_,hnc,hm,_,_⟩
  ·rw[hn]; exact zo _
  ·exact AP hnc hm
 obtain⟨ds',fuel,hds',h⟩:=h l ds hlen hpre;have hds:=hds' _ _ _ hds;generalize W.out l ds=out at h;unfold wrD at h
 let A:Nat->Option Place:=fun n=>if n=1000 then xQ ⟨.live,.row v 1⟩ else xY
 have hA:∀{n p},A n=xQ p->n=1000/\p=⟨.live,.row v 1⟩:=by
  intro n p hp;have hp:(if n=1000 then xQ (⟨.live,.row v 1⟩:Place) else xY)=xQ p:=hp;by_cases hn:n=1000
  ·rw[Az hn] at hp; cases hp; exact⟨hn,rfl⟩
  ·rw[Ay hn] at hp; cases hp
 have hone:v.oneCell'=xZ:=by rcases hown.2 with ⟨hv,_⟩ | ⟨g,cap,cur,hv,_⟩<;>rw[hv]<;>rfl
 have hsz:∀b,v.ownBlock=xQ b->b<w.heap.size:=fun b hb=>(hown.lt b hb).2
 have hl:ds'.length=vals.length:=hds.length
 have hh:Fa (E:=E) ⟨fun b=>b<w.heap.size/\v.ownBlock≠xQ b,fun t=>((v::vals).toArray++yP (fn.ntmps-(v::vals).toArray.size) undef).getD t undef⟩ (fun _=>False) 0 w
  ⟨(.Dh 1000::ds')++zp (fn.ntmps-(ds'.length+1)) .undef,[(1000,x5,.Bj W.elem W.kind l)]⟩
  ⟨(v::vals).toArray++yP (fn.ntmps-(v::vals).toArray.size) undef,[]⟩ w:=by
  refine⟨A,rfl,by simp only[Array.size_append,vK,xN,A8,xe,zj]; omega,Below.refl _ _,zo _,fun b h=>h.elim,fun n p hp=>?_,fun n p b hp _ hpb=>?_,fun n m p q b hp hq _ _ _ _=>?_,fun t=>?_,fun b hb=>⟨hb.1,rfl,fun n p hp _ hpb=>?_⟩,fun t _=>rfl⟩
  ·obtain⟨rfl,rfl⟩:=hA hp;exact⟨_,rfl,rfl,v,rfl,hown⟩
  ·obtain⟨rfl,rfl⟩:=hA hp;exact⟨zo _,hsz b hpb⟩
  ·exact(hA hp).1.trans (hA hq).1.symm
  ·have hw:I6 (HC fun b=>b<w.heap.size/\v.ownBlock≠xQ b) (Cc (fun _=>False) 0 A w):=⟨fun b hb=>⟨hb.1,.inr (zo _),fun n p hp _ hpb=>by obtain⟨rfl,rfl⟩:=hA hp;exact hb.2 hpb⟩,rfl,fun _=>rfl,fun _=>rfl⟩
   have hall:BM (Cc (fun _=>False) 0 A w) w (.Dh 1000::ds') (v::vals):=by rw[BM.CW];refine⟨_,_,rfl,?_,BM.Fg hw _ _ hds⟩;simp only[B0];exact⟨hone,⟨.live,.row v 1⟩,(Az rfl:A 1000=xQ _),.inr ⟨1,rfl⟩⟩
   rcases AF t (.Dh 1000::ds').length with hlt | hge
   ·obtain⟨u,h1,h2⟩:=hall.getD t hlt;simp only[Al,yC hlt] at h2 ⊢;have hlt':t<(v::vals).toArray.size:=by simp only[xN,zj] at hlt ⊢; omega
    have e:((v::vals).toArray++yP (fn.ntmps-(v::vals).toArray.size) undef).getD t undef=u:=by rw[ya,wI hlt',List.getElem?_toArray,h1]; rfl
    rw[e]; exact h2
   ·rw[Al,AX hge,xK];split<;>simp only[Be,xc,B0]
  ·obtain⟨rfl,rfl⟩:=hA hp;exact hb.2 hpb
 have fin:∀(st:St) (a:Act) (w':World),UL W.elem W.kind st=xQ out->Fa (E:=E) ⟨fun b=>b<w.heap.size/\v.ownBlock≠xQ b,fun t=>((v::vals).toArray++yP (fn.ntmps-(v::vals).toArray.size) undef).getD t undef⟩ (fun _=>False) 0 w st a w' ->
  a.defers=[]/\∃u,(results fn a.tmps).run P w'=.ok u w'/\(∃u',Ending.returned u=.returned u')/\w'.ownsRow 0 W.elem 1 v out.length (out.map (Value.int W.kind))/\Below 0 w w'/\∀b,b<w.heap.size->v.ownBlock≠xQ b->w'.heap[b]?=w.heap[b]?:=by
  intro st a w' he' ⟨A',hA'⟩;obtain⟨vs,hv,hr⟩:=QR (st:=st) he.ty hA' fn.results.toList [] (by rw[hres]; rfl);refine⟨hA'.defers,_,RC hr,⟨_,rfl⟩,?_,hA'.below,fun b h1 h2=>(hA'.kept b ⟨h1,h2⟩).2.1⟩;have h0:=hA'.tmps 0;have hpin:=hA'.pin 0 hnp
  have hv0:a.tmps.getD 0 undef=v:=by rw[hpin];show((v::vals).toArray++yP (fn.ntmps-(v::vals).toArray.size) undef).getD 0 undef=v;rw[ya,wI (by simp)]; rfl
  rw[hv0] at h0;unfold UL at he';split at he'
  ·rename_i n hn;rw[hn] at h0;simp only[B0] at h0;obtain⟨_,p,hp,hpd⟩:=h0;split at he'
   ·rename_i e' k' l' hlk;cases hc:(W.elem==e'&&decide (W.kind=k')) with
    | false=>rw[hc] at he'; simp at he'
    | true =>
      rw[hc,Aa,Ae] at he';subst he';simp only[Am,beq_iff_eq,Ai] at hc;obtain⟨rfl,rfl⟩:=hc;have hm:Mem (fun _=>False) 0 A' st.heap w':=hA'.mem fun n p fo _ hl=>hl
      obtain⟨hlive,sv,hkind,hown'⟩:=Em hm hp hlk;simp only[Bool.false_eq_true,if_false] at hlive;rcases hpd with hpd | ⟨size,hk⟩
      ·rw[hlive] at hpd; cases hpd
      ·rw[hkind] at hk; cases hk;exact hown'
   ·cases he'
  ·cases he'
 refine Mz he fuel out body 0 _ _ _ _ h _ _ hh _ (fun st a w' hk hh'=>?_) (fun id st a w' hk=>by cases hk) (fun st a w' hk hh'=>?_)
 ·obtain⟨h1,u,h2,h3⟩:=fin st a w' hk hh';exact⟨h1,u,h2,h3⟩
 ·obtain⟨h1,u,h2,h3⟩:=fin st a w' hk hh';exact⟨h1,u,h2,h3⟩
def XK(e:TypeId)(k:IntKind)(ts:List AT)(pre:List F4->Bool)(out:List F4->Bf):Writer where
 elem:=e
 kind:=k
 pre:=fun l ds=>match JC ts ds with
  | some as=>pre (.l l::as)
  | none=>x5
 out:=fun l ds=>match JC ts ds with
  | some as=>out (.l l::as)
  | none=>l
theorem SM{P:Program}{E:Env}(he:He P E)(hnp:0<E.np){f:FuncId}{fn:Func}{body:Code}(hf:P.funcs[f]?=xQ fn)(hb:fn.body=xQ body)(hres:fn.results.toList=[])
 (hcall:∀(args:Array Value) (w:World),(callFunc f args).run P w=.ok (.enter f args) w) {e:TypeId} {k:IntKind} {ts:List AT} {pre:List F4->Bool} {out:List F4->Bf}
 (h:∀l as ds,EH ts as ds->pre (.l l::as)=xZ->∃fuel,wrD E fuel fn body e k l ds=xQ (out (.l l::as))):LC P f (XK e k ts pre out):=by
 refine Ali he hnp hf hb hres hcall fun l ds _ hp=>?_
 simp only[XK] at hp ⊢;cases hd:JC ts ds with
 | none=>rw[hd] at hp; cases hp
 | some as =>rw[hd] at hp;obtain⟨ds',h1,h2⟩:=Ki hd;obtain⟨fuel,h3⟩:=h l as ds' h1 hp;exact⟨ds',fuel,h2,h3⟩
def AkR(ts:List AT)(e1 e2:Ez):Ez where
 pre:=fun args=>match JC ts args with
  | some _=>e1.pre args
  | none=>e2.pre args
 out:=fun args=>match JC ts args with
  | some _=>e1.out args
  | none=>e2.out args
theorem Ey.alt{P:Program}{g:FuncId}{ts:List AT}{e1 e2:Ez}(h1:Ey P g e1)(h2:Ey P g e2):Ey P g (AkR ts e1 e2):=by
 refine⟨fun args ha=>?_,h1.call⟩;simp only[AkR] at ha ⊢;cases hd:JC ts args with
 | none=>rw[hd] at ha; exact h2.meets args ha
 | some x=>rw[hd] at ha; exact h1.meets args ha
theorem Ey.U6{P:Program}{g:FuncId}{ts:List AT}{pre pre':List F4->Bool}{out out':List F4->DV}(h:Ey P g (BO ts pre out))(drops:List Nat)
 (hw:∀ats,pre' ats=xZ->pre ats=xZ/\Wk drops (out ats) (out' ats)):Ey P g (BO ts pre' out'):=by
 refine⟨fun args ha=>?_,h.call⟩;simp only[BO] at ha ⊢;cases hd:JC ts args with
 | none=>rw[hd] at ha; cases ha
 | some x =>rw[hd] at ha;have:=h.meets args (by simp only[BO,hd]; exact(hw x ha).1);simp only[BO,hd] at this;exact this.U6 (hw x ha).2
def AgY(K:List (List DV)->List DV->Prop):List DV->Prop
 | .Cu .arg _ rows::ds=>K rows ds
 | _=>True
def Ju:Nat->List AT->(List F4->List DV->Prop)->Prop
 | 0,_,_=>False
 | _+1,[],K=>K [] []
 | n+1,.b::ts,K=>∀x:Bool,Ju n ts fun as ds=>K (.b x::as) (.bool x::ds)
 | n+1,.i k::ts,K=>∀x:Int,Ju n ts fun as ds=>K (.i x::as) (.int k x::ds)
 | n+1,.s k::ts,K=>∀x:Bf,Ju n ts fun as ds=>K (.l x::as) (.Bj .arg k x::ds)
 | n+1,.fl::ts,K=>∀x:Nat,Ju n ts fun as ds=>K (.f x::as) (.fl x::ds)
 | n+1,.nb::ts,K=>∀x:Nat,Ju n ts fun as ds=>K (.f x::as) (.nb x::ds)
 | n+1,.rl sz::ts,K=>∀x:List (List DV),Ju n ts fun as ds=>K (.r x::as) (.Cu .arg sz x::ds)
 | n+1,.st l::ts,K=>Ju n l fun as cs=>Ju n ts fun bs ds=>K (as++bs) (.agg cs::ds)
 | n+1,.fn g l::ts,K=>Ju n l fun as cs=>Ju n ts fun bs ds=>K (as++bs) (.fn g [] cs::ds)
 | n+1,.fm g l::ts,K=>Ju n l fun as cs=>Ju n ts fun bs ds=>K (as++bs) (.fn g cs []::ds)
 | n+1,.cp l::ts,K=>Ju n l fun as cs=>Ju n ts fun bs ds=>K (as++bs) (.CS cs::ds)
 | n+1,.rs sz []::ts,K=>Ju n ts fun as ds=>K as (.Cu .arg sz []::ds)
 | n+1,.rs sz (l::ls)::ts,K=>Ju n l fun as cs=>Ju n (.rs sz ls::ts) fun bs ds=>AgY (fun rows ds=>K (as++bs) (.Cu .arg sz (cs::rows)::ds)) ds
theorem Ju.go:∀(n:Nat) {ts:List AT} {as:List F4} {ds:List DV} {K:List F4->List DV->Prop},Ju n ts K->EH ts as ds->K as ds:=by
 intro n
 induction n with
 | zero=>intro ts as ds K h _; exact h.elim
 | succ n ih =>
   intro ts as ds K h e;cases e with
   | nil=>exact h
   | b x e=>exact ih (K:=fun as ds=>K (.b x::as) (.bool x::ds)) (h x) e
   | i k x e=>exact ih (K:=fun as ds=>K (.i x::as) (.int k x::ds)) (h x) e
   | s k x e=>exact ih (K:=fun as ds=>K (.l x::as) (.Bj .arg k x::ds)) (h x) e
   | fl x e=>exact ih (K:=fun as ds=>K (.f x::as) (.fl x::ds)) (h x) e
   | nb x e=>exact ih (K:=fun as ds=>K (.f x::as) (.nb x::ds)) (h x) e
   | rl sz x e=>exact ih (K:=fun as ds=>K (.r x::as) (.Cu .arg sz x::ds)) (h x) e
   | @st _ _ a c _ _ e1 e2=>exact ih (K:=fun bs ds=>K (a++bs) (.agg c::ds)) (ih (K:=fun as cs=>Ju n _ fun bs ds=>K (as++bs) (.agg cs::ds)) h e1) e2
   | @fn g _ _ a c _ _ e1 e2=>exact ih (K:=fun bs ds=>K (a++bs) (.fn g [] c::ds)) (ih (K:=fun as cs=>Ju n _ fun bs ds=>K (as++bs) (.fn g [] cs::ds)) h e1) e2
   | @fm g _ _ a c _ _ e1 e2=>exact ih (K:=fun bs ds=>K (a++bs) (.fn g c []::ds)) (ih (K:=fun as cs=>Ju n _ fun bs ds=>K (as++bs) (.fn g cs []::ds)) h e1) e2
   | @cp _ _ a c _ _ e1 e2=>exact ih (K:=fun bs ds=>K (a++bs) (.CS c::ds)) (ih (K:=fun as cs=>Ju n _ fun bs ds=>K (as++bs) (.CS cs::ds)) h e1) e2
   | rs0 e=>exact ih (K:=fun as ds=>K as (.Cu .arg _ []::ds)) h e
   | @rs1 sz _ _ _ a c _ _ _ e1 e2 =>have:=ih (K:=fun bs ds=>AgY (fun rows ds=>K (a++bs) (.Cu .arg sz (c::rows)::ds)) ds) (ih (K:=fun as cs=>Ju n _ fun bs ds=>AgY (fun rows ds=>K (as++bs) (.Cu .arg sz (cs::rows)::ds)) ds) h e1) e2;exact this
abbrev AjB(E:Env)(fn:Func)(ds:List DV)(out:DV):Prop:=∃N dv drops,Cz E N fn (Bw fn) ds=xQ dv/\Wk drops dv out
abbrev Hyp(E:Env)(fn:Func)(ts:List AT)(pre:List F4->Bool)(out:List F4->DV):Prop:=Ju 40 ts fun as ds=>pre as=xZ->AjB E fn ds (out as)
theorem FO{P:Program}{E:Env}(he:He P E){f:FuncId}{fn:Func}(hf:P.funcs[f]?=xQ fn)(hb:fn.body=xQ (Bw fn))(hn:(fn.name== "runtime.NumGoroutine")=x5){ts:List AT}{pre:List F4->Bool}{out:List F4->DV}
 (h:Ju 40 ts fun as ds=>pre as=xZ->AjB E fn ds (out as)):Ey P f (BO ts pre out):=
 ⟨N8 he hf hb fun _ _ e hp=>Ju.go 40 h e hp,Io hf hn hb⟩
theorem Bz{x:Int}(h1:-9223372036854775808<=x)(h2:x<=9223372036854775807):Bg x=x:=Go.IntWalk.i64_in x ⟨h1,h2⟩
theorem PC(x:Int):BV x=x%18446744073709551616:=by unfold BV IntKind.wrap; simp[IntKind.bits,IntKind.signed]
theorem Ae0(x:Int):HM x=x%4294967296:=by unfold HM IntKind.wrap; simp[IntKind.bits,IntKind.signed]
theorem Dr{x:Int}(h1:0<=x)(h2:x<18446744073709551616):BV x=x:=by rw[PC]; omega
theorem HL{x:Int}(h1:0<=x)(h2:x<4294967296):HM x=x:=by rw[Ae0]; omega
theorem Ajj(k:IntKind)(x y:Int):DU k x y=x / 2^(min y.toNat k.bits):=by unfold DU;exact Int.fdiv_eq_ediv_of_nonneg _ (Int.le_of_lt (Int.pow_pos (by decide)))
theorem GP(k:IntKind)(n s:Nat)(h:s<=k.bits):DU k n s=((n / 2^s:Nat):Int):=by
 rw[Ajj,Ad,yv h]
 push_cast
 rfl
theorem F3(n s:Nat)(h:s<=64):Ct .u64 n s=((n*2^s%2^64:Nat):Int):=by
 unfold Ct;rw[Ad,show IntKind.u64.bits=64 from rfl,yv h];show BV _=_;rw[PC];show _=((n*2^s%18446744073709551616:Nat):Int)
 rw[Int.natCast_emod,Ax,Int.natCast_pow];rfl
theorem Iy(b n:Nat):(zq b n).toNat=n%2^b:=by rw[BitVec.toNat_ofInt];rw[show((n:Int)%(2^b:Nat))=((n%2^b:Nat):Int) by push_cast; rfl,Ad]
theorem Sk{n:Nat}(h:n<2^64):IntKind.u64.wrap n=n:=by show BV _=_;rw[PC];omega
theorem Ahk{a b:Nat}(ha:a<2^64)(hb:b<2^64):FZ .u64 a b=((a &&& b:Nat):Int):=by unfold FZ;rw[BitVec.toNat_and,Iy,Iy,show IntKind.u64.bits=64 from rfl,Ao ha,Ao hb];exact Sk (AK Nat.and_le_left ha)
theorem X0{a b:Nat}(ha:a<2^64)(hb:b<2^64):HK .u64 a b=((a ||| b:Nat):Int):=by unfold HK;rw[BitVec.toNat_or,Iy,Iy,show IntKind.u64.bits=64 from rfl,Ao ha,Ao hb];exact Sk (Nat.or_lt_two_pow ha hb)
theorem Ahj{a b:Nat}(ha:a<2^64)(hb:b<2^64):Aji .u64 a b=((a ^^^ b:Nat):Int):=by unfold Aji;rw[BitVec.toNat_xor,Iy,Iy,show IntKind.u64.bits=64 from rfl,Ao ha,Ao hb];exact Sk (Nat.xor_lt_two_pow ha hb)
theorem H4{a:Nat}(k:Nat)(ha:a<2^64)(hk:k<=64):FZ .u64 a ((2^k-1:Nat):Int)=((a%2^k:Nat):Int):=by rw[Ahk ha (by have:=Aq (n:=2) (by decide) hk; have:=Nat.pow_pos (a:=2) (n:=k) (by decide); omega),Nat.and_two_pow_sub_one_eq_mod]
theorem Qa{a b k:Nat}(hb:b<2^k):b ||| (a*2^k)=a*2^k+b:=by rw[xB,A0,vM hb]
theorem Ael{a b k:Nat}(hb:b<2^k)(h:a*2^k+b<2^64):HK .u64 b ((a*2^k:Nat):Int)=((a*2^k+b:Nat):Int):=by rw[X0 (by omega) (by omega),Qa hb]
theorem KJ{a b k:Nat}(hb:b<2^k)(h:a*2^k+b<2^64):HK .u64 ((a*2^k:Nat):Int) b=((a*2^k+b:Nat):Int):=by rw[X0 (by omega) (by omega),xB,Qa hb]
theorem SL{r:Nat}(hr:r<2^63):(2^63+r) ^^^ 2^63=r/\r ^^^ 2^63=2^63+r:=by
 have e2:=vM hr 1;rw[AR] at e2
 have a1:r ^^^ 2^63=2^63+r:=by
  rw[e2];apply Nat.eq_of_testBit_eq;intro i;rw[Nat.testBit_xor,Nat.testBit_or,Nat.testBit_two_pow];by_cases hi:63=i
  ·subst hi;rw[Nat.testBit_lt_two_pow hr]; simp
  ·simp[hi]
 refine⟨?_,a1⟩;rw[<- a1,Nat.xor_assoc,Nat.xor_self,Nat.xor_zero]
theorem Ah8{a:Nat}(ha:a<2^64):a ^^^ 2^63=if 2^63<=a then a-2^63 else a+2^63:=by
 by_cases h:2^63<=a
 ·rw[Az h];obtain⟨r,rfl⟩:∃r,a=2^63+r:=⟨a-2^63,by omega⟩
  rw[(SL (by omega)).1]; omega
 ·rw[Ay h,(SL (by omega)).2]; omega
def Br(x:Int):Bool:=Ch (0<=x/\x<18446744073709551616)
theorem C9{x:Int}(h:Br x=xZ):∃n:Nat,x=n/\n<2^64:=by unfold Br at h;rw[Bv] at h;exact⟨x.toNat,by omega,by omega⟩
theorem CP{n:Nat}(h:n<2^64):Br n=xZ:=by unfold Br;rw[Bv];omega
inductive WkL(drops:List Nat):List DV->List DV->Prop
 | nil:WkL drops [] []
 | cons {d d' l l'}:Wk drops d d'->WkL drops l l'->WkL drops (d::l) (d'::l')
theorem WkL.length{drops:List Nat}{l l':List DV}(h:WkL drops l l'):l.length=l'.length:=by
 induction h with
 | nil=>rfl
 | cons _ _ ih=>simp[ih]
theorem WkL.get{drops:List Nat}{l l':List DV}(h:WkL drops l l'):∀(j:Nat) d d',l[j]?=xQ d->l'[j]?=xQ d'->Wk drops d d':=by
 induction h with
 | nil=>intro j d d' h; cases h
 | cons h1 _ ih =>
   intro j d d' h2 h3;cases j with
   | zero=>cases h2; cases h3; exact h1
   | succ j=>exact ih j d d' h2 h3
theorem Wk.GQ{drops:List Nat}{l l':List DV}(h:WkL drops l l'):Wk drops (.agg l) (.agg l'):=.agg h.length h.get
theorem Wk.Gr{drops:List Nat}{l l':List DV}(h:WkL drops l l'):Wk drops (.CR l) (.CR l'):=.CR h.length h.get
theorem Wk.bool{drops:List Nat}{b:Bool}:Wk drops (.bool b) (.bool b):=.refl rfl (by intros; simp) (by intros; simp)
theorem Wk.int{drops:List Nat}{k:IntKind}{x:Int}:Wk drops (.int k x) (.int k x):=.refl rfl (by intros; simp) (by intros; simp)
theorem Wk.X5{drops:List Nat}{k:IntKind}{l:Bf}:Wk drops (.Bj .arg k l) (.Bj .arg k l):=.refl rfl (by intros; simp) (by intros; simp)
theorem Wk.Jq{drops:List Nat}{k:IntKind}{l:Bf}:Wk drops (.Bj .BE k l) (.Bj .BE k l):=.refl rfl (by intros; simp) (by intros; simp)
theorem EH.Ib{as:List F4}{ds:List DV}(h:EH [] as ds):as=[]/\ds=[]:=by cases h; exact⟨rfl,rfl⟩
theorem EH.Am9{ts:List AT}{as:List F4}{ds:List DV}(h:EH (.b::ts) as ds):∃x as' ds',as=.b x::as'/\ds=.bool x::ds'/\EH ts as' ds':=by cases h with | b x h=>exact⟨x,_,_,rfl,rfl,h⟩
theorem EH.VG{k:IntKind}{ts:List AT}{as:List F4}{ds:List DV}(h:EH (.i k::ts) as ds):∃x as' ds',as=.i x::as'/\ds=.int k x::ds'/\EH ts as' ds':=by cases h with | i k x h=>exact⟨x,_,_,rfl,rfl,h⟩
theorem EH.Yj{k:IntKind}{ts:List AT}{as:List F4}{ds:List DV}(h:EH (.s k::ts) as ds):∃x as' ds',as=.l x::as'/\ds=.Bj .arg k x::ds'/\EH ts as' ds':=by cases h with | s k x h=>exact⟨x,_,_,rfl,rfl,h⟩
theorem EH.AaM{g:FuncId}{l ts:List AT}{as:List F4}{ds:List DV}(h:EH (.fn g l::ts) as ds):∃a1 cs a2 ds',as=a1++a2/\ds=.fn g [] cs::ds'/\EH l a1 cs/\EH ts a2 ds':=by cases h with | fn h1 h2=>exact⟨_,_,_,_,rfl,rfl,h1,h2⟩
theorem EH.AaW{l ts:List AT}{as:List F4}{ds:List DV}(h:EH (.cp l::ts) as ds):∃a1 cs a2 ds',as=a1++a2/\ds=.CS cs::ds'/\EH l a1 cs/\EH ts a2 ds':=by cases h with | cp h1 h2=>exact⟨_,_,_,_,rfl,rfl,h1,h2⟩
end Go.Den
end
