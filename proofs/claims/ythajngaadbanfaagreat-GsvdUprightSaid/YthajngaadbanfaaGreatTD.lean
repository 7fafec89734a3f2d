/- A verified evaluator of the program's form and its use for this seat: Den32, Den33, Den34, Den35, Den36, Den37, Den38, Bits. -/
import Derived.Test.YthajngaadbanfaaGreatTC
import Derived.KernelRfl
import Derived.Laws.StructEq
import Derived.Laws.Externs
import Derived.ChangeKeysEq
import Derived.IntWalk
set_option linter.unusedVariables false
set_option linter.unusedSimpArgs false
open Option renaming some->wM,none->wN
open Bool renaming true->wc,false->wh
open Array renaming replicate->yK,size_replicate->vF,getD_eq_getD_getElem?->z5,getElem?_append_left->wE
open List renaming replicate->zo,length_replicate->xc,getElem?_append_left->yH,getElem?_replicate->xJ,drop_zero->zU,take_length->ya,getElem?_eq_some_iff->xr,size_toArray->xM,length_cons->zj
open Option renaming getD_none->y8
open Nat renaming beq->zf,zero_le->zl,min_eq_left->yq,or_comm->xz,two_pow_add_eq_or_of_lt->vI
open BitVec renaming ofInt->zn
open Classical renaming propDecidable->vG
noncomputable section
namespace Go.Den
open Go.RowKit (Below)
theorem AaM{P:Program}{E:Env}{S:Uf E}(hty:∀t ti,E.ty t=wM ti->CC P t ti){I:Nat->Prop}{fn:Func}{st:St}{out:DV}(h:TW E fn st=wM out){w w':World}{a:Act}(hh:EL S I w.heap.size w st a w'):
 ∃v own,(results fn a.tmps).run P w'=.ok v w'/\Below w.heap.size w w'/\Ag1 own w w'/\By (DM I own w w') w' out v:=by
 obtain⟨A,hA⟩:=hh;unfold TW at h;cases hds:OG E st fn.results.toList with
 | none=>simp[hds] at h
 | some ds =>
   rw[hds,Aj] at h;obtain⟨vs,hv,hr⟩:=Qw hty hA _ ds hds;have hm:Mem I w.heap.size A st.heap w':=hA.mem fun n p fo _ hl=>hl
   have hone:By (Cd I w.heap.size A w') w' (AeK ds) (AeJ vs):=by
    match ds,vs,hv with
    | [],vs,hv =>rw[BJ.FE] at hv; subst hv;simp only[By,AeK,AeJ];exact⟨#[],rfl,by simp[BJ]⟩
    | [d],vs,hv =>rw[BJ.CR] at hv;obtain⟨u,us,rfl,h1,h2⟩:=hv;rw[BJ.FE] at h2; subst h2;exact h1
    | d::d'::ds,vs,hv =>have hv':=hv;rw[BJ.CR] at hv;obtain⟨u,us,rfl,h1,h2⟩:=hv;rw[BJ.CR] at h2;obtain⟨u',us',rfl,h3,h4⟩:=h2;simp only[By,AeK,AeJ];exact⟨_,rfl,by simpa using hv'⟩
   cases hrs:F3 st.heap 6 (AeK ds) with
   | none=>rw[hrs] at h; cases h
   | some r =>
     obtain⟨d,ns,os⟩:=r;rw[hrs,Aj] at h;simp only at h;cases hc:(ns.all fun n=>!(os.contains n)) with
     | false=>rw[hc] at h; cases h
     | true =>
       rw[hc,Aa,Ae] at h;subst h
       have hdis:∀n∈ns,n ∉ os:=fun n hn hno=>by have:=List.all_eq_true.1 hc n hn;simp[hno] at this
       refine⟨_,Jf A os,Rd hr,hA.below,⟨fun i b hb=>?_,fun i j b hi hj=>?_⟩,Ae9 hm hdis 6 _ _ _ ns os hrs (fun _ h=>h) (fun _ h=>h) hone⟩
       ·obtain⟨_,p,hp,hl,hpb⟩:=Lp hb;exact hm.Gf i p b hp (by rw[hl]; simp) hpb
       ·obtain⟨_,p,hp,hl,hpb⟩:=Lp hi;obtain⟨_,q,hq,hl',hqb⟩:=Lp hj;exact hm.inj i j p q b hp hq (by rw[hl]; simp) (by rw[hl']; simp) hpb hqb
theorem Aj3{P:Program}{E:Env}(he:GH P E){fuel:Nat}{f:FuncId}{fn:Func}{body:Code}(hf:P.funcs[f]?=wM fn)(hb:fn.body=wM body){args:List DV}{out:DV}(h:Cz E fuel fn body args=wM out):Mh P f args out:=by
 intro w vals I hI hv;refine calls_of_wp hf hb ?_;unfold Cz at h;have hlen:args.length=vals.size:=by have:=hv.length; simpa using this
 have hh:EL (E:=E) ⟨fun _=>False,fun t=>(vals++yK (fn.ntmps-vals.size) undef).getD t undef⟩ I w.heap.size w ⟨args++zo (fn.ntmps-args.length) .undef,[]⟩ ⟨vals++yK (fn.ntmps-vals.size) undef,[]⟩ w:=by
  refine⟨fun _=>wN,rfl,by simp only[Array.size_append,vF,A8,xc]; omega,Below.refl _ _,AB _,hI,fun n p h=>(by cases h),fun n p b h=>(by cases h),fun n m p q b h=>(by cases h),fun t=>?_,fun b h=>h.elim,fun t _=>rfl⟩;have hw:Ig (Ho I) (Cd I w.heap.size (fun _=>wN) w):=⟨fun b hb=>⟨hI b hb,.inl hb,fun n p h=>(by cases h)⟩,rfl,fun _=>rfl,fun _=>rfl⟩
  have hl:=BJ.EP hw _ _ hv;rcases AF t args.length with hlt | hge
  ·obtain⟨v,h1,h2⟩:=hl.getD t hlt;simp only[Al,yH hlt] at h2 ⊢;have hlt':t<vals.size:=by omega
   have e:(vals++yK (fn.ntmps-vals.size) undef).getD t undef=v:=by rw[z5,wE hlt'];rw[Array.getElem?_toList] at h1;rw[h1]; rfl
   rw[e]; exact h2
  ·rw[Al,AX hge,xJ];split<;>simp only[Be,y8,By]
 refine LW he fuel out body 0 _ _ _ _ h _ _ hh _ (fun st a w' hk hh'=>?_) (fun id st a w' hk=>by cases hk) (fun st a w' hk hh'=>?_)
 ·obtain⟨v,own,h1,h2,h3,h4⟩:=AaM he.ty hk hh';have hd:a.defers=[]:=by obtain⟨A,hA⟩:=hh'; exact hA.defers
  exact⟨hd,v,h1,v,own,rfl,h2,h3,h4⟩
 ·obtain⟨v,own,h1,h2,h3,h4⟩:=AaM he.ty hk hh';have hd:a.defers=[]:=by obtain⟨A,hA⟩:=hh'; exact hA.defers
  exact⟨hd,v,h1,v,own,rfl,h2,h3,h4⟩
open Go.RowKit (Below)
inductive AT where
 | b
 | i (k:IntKind)
 | s (k:IntKind)
 | fl
 | nb
 | st (l:List AT)
 | fn (g:FuncId) (l:List AT)
 | fm (g:FuncId) (l:List AT)
 | cp (l:List AT)
 | rs (sz:Nat) (l:List (List AT))
 | rl (sz:Nat)
inductive Fk where
 | b (x:Bool)
 | i (x:Int)
 | l (x:Bf)
 | f (x:Nat)
 | r (x:List (List DV))
def Yv:AT->DV->Option Fk
 | .b,.bool x=>wM (.b x)
 | .i k,.int k' x=>bif decide (k=k') then wM (.i x) else wN
 | .s _,.nil=>wM (.l [])
 | .s k,.Bj .arg k' l=>bif decide (k=k') then wM (.l l) else wN
 | .fl,.fl n=>wM (.f n)
 | .nb,.nb n=>wM (.f n)
 | .rl _,.nil=>wM (.r [])
 | .rl sz,.CO .arg sz' rows=>bif zf sz sz' then wM (.r rows) else wN
 | _,_=>wN
def QL:List AT->List DV->Option (List Fk)
 | [],[]=>wM []
 | t::ts,d::ds=>match Yv t d with
   | some a=>match QL ts ds with
     | some as=>wM (a::as)
     | none=>wN
   | none=>wN
 | _,_=>wN
def Oi:List AT->List DV->Option (List Fk)
 | [],[]=>wM []
 | .cp l::ts,.CL cs::ds=>match QL l cs with
   | some as=>match Oi ts ds with
     | some bs=>wM (as++bs)
     | none=>wN
   | none=>wN
 | .st l::ts,.agg cs::ds=>match QL l cs with
   | some as=>match Oi ts ds with
     | some bs=>wM (as++bs)
     | none=>wN
   | none=>wN
 | t::ts,d::ds=>match Yv t d with
   | some a=>match Oi ts ds with
     | some bs=>wM (a::bs)
     | none=>wN
   | none=>wN
 | _,_=>wN
def W1:List (List AT)->List (List DV)->Option (List Fk)
 | [],[]=>wM []
 | l::ls,cs::rows=>match QL l cs with
   | some as=>match W1 ls rows with
     | some bs=>wM (as++bs)
     | none=>wN
   | none=>wN
 | _,_=>wN
def Jo:List AT->List DV->Option (List Fk)
 | [],[]=>wM []
 | .rs sz ls::ts,.CO .arg sz' rows::ds=>bif zf sz sz' then
  match W1 ls rows with
  | some as=>match Jo ts ds with
    | some bs=>wM (as++bs)
    | none=>wN
  | none=>wN
   else wN
 | .fm g l::ts,.fn g' fs []::ds=>bif zf g g' then
  match Oi l fs with
  | some as=>match Jo ts ds with
    | some bs=>wM (as++bs)
    | none=>wN
  | none=>wN
   else wN
 | .fn g l::ts,.fn g' [] cs::ds=>bif zf g g' then
  match Oi l cs with
  | some as=>match Jo ts ds with
    | some bs=>wM (as++bs)
    | none=>wN
  | none=>wN
   else wN
 | .cp l::ts,.CL cs::ds=>match Oi l cs with
   | some as=>match Jo ts ds with
     | some bs=>wM (as++bs)
     | none=>wN
   | none=>wN
 | .st l::ts,.agg cs::ds=>match Oi l cs with
   | some as=>match Jo ts ds with
     | some bs=>wM (as++bs)
     | none=>wN
   | none=>wN
 | t::ts,d::ds=>match Yv t d with
   | some a=>match Jo ts ds with
     | some bs=>wM (a::bs)
     | none=>wN
   | none=>wN
 | _,_=>wN
inductive E2:List AT->List Fk->List DV->Prop
 | nil:E2 [] [] []
 | b {ts as ds} (x:Bool):E2 ts as ds->E2 (.b::ts) (.b x::as) (.bool x::ds)
 | i {ts as ds} (k:IntKind) (x:Int):E2 ts as ds->E2 (.i k::ts) (.i x::as) (.int k x::ds)
 | s {ts as ds} (k:IntKind) (x:Bf):E2 ts as ds->E2 (.s k::ts) (.l x::as) (.Bj .arg k x::ds)
 | fl {ts as ds} (x:Nat):E2 ts as ds->E2 (.fl::ts) (.f x::as) (.fl x::ds)
 | nb {ts as ds} (x:Nat):E2 ts as ds->E2 (.nb::ts) (.f x::as) (.nb x::ds)
 | rl {ts as ds} (sz:Nat) (x:List (List DV)):E2 ts as ds->E2 (.rl sz::ts) (.r x::as) (.CO .arg sz x::ds)
 | st {l ts as cs bs ds}:E2 l as cs->E2 ts bs ds->E2 (.st l::ts) (as++bs) (.agg cs::ds)
 | fn {g l ts as cs bs ds}:E2 l as cs->E2 ts bs ds->E2 (.fn g l::ts) (as++bs) (.fn g [] cs::ds)
 | fm {g l ts as cs bs ds}:E2 l as cs->E2 ts bs ds->E2 (.fm g l::ts) (as++bs) (.fn g cs []::ds)
 | cp {l ts as cs bs ds}:E2 l as cs->E2 ts bs ds->E2 (.cp l::ts) (as++bs) (.CL cs::ds)
 | rs0 {sz ts bs ds}:E2 ts bs ds->E2 (.rs sz []::ts) bs (.CO .arg sz []::ds)
 | rs1 {sz l ls ts as cs bs rows ds}:E2 l as cs->E2 (.rs sz ls::ts) bs (.CO .arg sz rows::ds)->E2 (.rs sz (l::ls)::ts) (as++bs) (.CO .arg sz (cs::rows)::ds)
theorem AeR{c:Ctx}{w:World}{k:IntKind}{v:Value}(h:By c w .nil v):By c w (.Bj .arg k []) v:=by simp only[By] at h ⊢;subst h;exact⟨wN,0,rfl,AB _,.inl trivial⟩
theorem AeQ{c:Ctx}{w:World}{sz:Nat}{v:Value}(h:By c w .nil v):By c w (.CO .arg sz []) v:=by simp only[By] at h ⊢;subst h;exact⟨wN,0,rfl,AB _,.inl trivial⟩
theorem W3{t:AT}{d:DV}{a:Fk}(h:Yv t d=wM a):∃d',(∀ts as ds,E2 ts as ds->E2 (t::ts) (a::as) (d'::ds))/\∀c w v,By c w d v->By c w d' v:=by
 unfold Yv at h;split at h
 ·simp only[Ae] at h; subst h;exact⟨_,fun _ _ _ he=>.b _ he,fun _ _ _ h=>h⟩
 ·rename_i k k' x;by_cases e:k=k'
  ·subst e;simp only[decide_true,Aa,Ae] at h; subst h;exact⟨_,fun _ _ _ he=>.i _ _ he,fun _ _ _ h=>h⟩
  ·simp[e] at h
 ·rename_i k;simp only[Ae] at h; subst h;exact⟨_,fun _ _ _ he=>.s k _ he,fun _ _ _ h=>AeR h⟩
 ·rename_i k k' x;by_cases e:k=k'
  ·subst e;simp only[decide_true,Aa,Ae] at h; subst h;exact⟨_,fun _ _ _ he=>.s _ _ he,fun _ _ _ h=>h⟩
  ·simp[e] at h
 ·simp only[Ae] at h; subst h;exact⟨_,fun _ _ _ he=>.fl _ he,fun _ _ _ h=>h⟩
 ·simp only[Ae] at h; subst h;exact⟨_,fun _ _ _ he=>.nb _ he,fun _ _ _ h=>h⟩
 ·rename_i sz;simp only[Ae] at h; subst h;exact⟨_,fun _ _ _ he=>.rl sz _ he,fun _ _ _ h=>AeQ h⟩
 ·rename_i sz sz' rows;cases hg:zf sz sz' with
  | false=>rw[hg] at h; cases h
  | true =>rw[hg,Aa] at h;obtain rfl:=Au hg;simp only[Ae] at h; subst h;exact⟨_,fun _ _ _ he=>.rl sz _ he,fun _ _ _ h=>h⟩
 ·cases h
theorem Se:∀{ts:List AT} {ds:List DV} {as:List Fk},QL ts ds=wM as->∃ds',E2 ts as ds'/\∀c w vs,BJ c w ds vs->BJ c w ds' vs
 | [],[],as,h=>by simp only[QL,Ae] at h; subst h;exact⟨[],.nil,fun _ _ _ h=>h⟩
 | t::ts,d::ds,as,h=>by
   simp only[QL] at h;cases h1:Yv t d with
   | none=>rw[h1] at h; cases h
   | some a =>
     cases h2:QL ts ds with
     | none=>rw[h1,h2] at h; cases h
     | some bs =>rw[h1,h2] at h;simp only[Ae] at h; subst h;obtain⟨d',i1,i2⟩:=W3 h1;obtain⟨ds',j1,j2⟩:=Se h2;refine⟨d'::ds',i1 _ _ _ j1,fun c w vs hv=>?_⟩;rw[BJ.CR] at hv ⊢;obtain⟨u,us,e,hu,hus⟩:=hv;exact⟨u,us,e,i2 _ _ _ hu,j2 _ _ _ hus⟩
 | [],_::_,as,h=>by simp[QL] at h
 | _::_,[],as,h=>by simp[QL] at h
theorem LX:∀{ts:List AT} {ds:List DV} {as:List Fk},Oi ts ds=wM as->∃ds',E2 ts as ds'/\∀c w vs,BJ c w ds vs->BJ c w ds' vs
 | ts,ds,as,h=>by
   unfold Oi at h;split at h
   ·simp only[Ae] at h; subst h;exact⟨[],.nil,fun _ _ _ h=>h⟩
   ·rename_i l ts cs ds;cases h1:QL l cs with
    | none=>rw[h1] at h; cases h
    | some a =>
      cases h2:Oi ts ds with
      | none=>rw[h1,h2] at h; cases h
      | some bs =>rw[h1,h2] at h;simp only[Ae] at h; subst h;obtain⟨cs',i1,i2⟩:=Se h1;obtain⟨ds',j1,j2⟩:=LX h2;refine⟨.CL cs'::ds',.cp i1 j1,fun c w vs hv=>?_⟩;rw[BJ.CR] at hv ⊢;obtain⟨u,us,e,hu,hus⟩:=hv;refine⟨u,us,e,?_,j2 _ _ _ hus⟩;simp only[By] at hu ⊢;obtain⟨b,o,vs,e,hb,hh,hc⟩:=hu;exact⟨b,o,vs,e,hb,i2 _ _ _ hh,hc⟩
   ·rename_i l ts cs ds;cases h1:QL l cs with
    | none=>rw[h1] at h; cases h
    | some a =>
      cases h2:Oi ts ds with
      | none=>rw[h1,h2] at h; cases h
      | some bs =>rw[h1,h2] at h;simp only[Ae] at h; subst h;obtain⟨cs',i1,i2⟩:=Se h1;obtain⟨ds',j1,j2⟩:=LX h2;refine⟨.agg cs'::ds',.st i1 j1,fun c w vs hv=>?_⟩;rw[BJ.CR] at hv ⊢;obtain⟨u,us,e,hu,hus⟩:=hv;refine⟨u,us,e,?_,j2 _ _ _ hus⟩;simp only[By] at hu ⊢;obtain⟨vs,e,hh⟩:=hu;exact⟨vs,e,i2 _ _ _ hh⟩
   ·rename_i t ts d ds _ _;cases h1:Yv t d with
    | none=>rw[h1] at h; cases h
    | some a =>
      cases h2:Oi ts ds with
      | none=>rw[h1,h2] at h; cases h
      | some bs =>rw[h1,h2] at h;simp only[Ae] at h; subst h;obtain⟨d',i1,i2⟩:=W3 h1;obtain⟨ds',j1,j2⟩:=LX h2;refine⟨d'::ds',i1 _ _ _ j1,fun c w vs hv=>?_⟩;rw[BJ.CR] at hv ⊢;obtain⟨u,us,e,hu,hus⟩:=hv;exact⟨u,us,e,i2 _ _ _ hu,j2 _ _ _ hus⟩
   ·cases h
theorem Aby:∀{ls:List (List AT)} {rows:List (List DV)} {as:List Fk},W1 ls rows=wM as ->
 ∃rows',(∀sz ts bs ds,E2 ts bs ds->E2 (.rs sz ls::ts) (as++bs) (.CO .arg sz rows'::ds))/\rows'.length=rows.length/\∀c w vs,Dm c w rows vs->Dm c w rows' vs
 | [],[],as,h=>by simp only[W1,Ae] at h; subst h;exact⟨[],fun _ _ _ _ h=>.rs0 h,rfl,fun _ _ _ h=>h⟩
 | l::ls,cs::rows,as,h=>by
   simp only[W1] at h;cases h1:QL l cs with
   | none=>rw[h1] at h; cases h
   | some a =>
     cases h2:W1 ls rows with
     | none=>rw[h1,h2] at h; cases h
     | some bs =>
       rw[h1,h2] at h;simp only[Ae] at h; subst h;obtain⟨cs',i1,i2⟩:=Se h1;obtain⟨rows',j1,j2,j3⟩:=Aby h2;refine⟨cs'::rows',fun sz ts b ds he=>?_,by simp[j2],fun c w vs hv=>?_⟩
       ·rw[List.append_assoc]; exact .rs1 i1 (j1 _ _ _ _ he)
       ·simp only[Dm] at hv ⊢;obtain⟨u,us,e,hu,hus⟩:=hv;exact⟨u,us,e,i2 _ _ _ hu,j3 _ _ _ hus⟩
 | [],_::_,as,h=>by simp[W1] at h
 | _::_,[],as,h=>by simp[W1] at h
theorem JL:∀{ts:List AT} {ds:List DV} {as:List Fk},Jo ts ds=wM as->∃ds',E2 ts as ds'/\∀c w vs,BJ c w ds vs->BJ c w ds' vs
 | ts,ds,as,h=>by
   unfold Jo at h;split at h
   ·simp only[Ae] at h; subst h;exact⟨[],.nil,fun _ _ _ h=>h⟩
   ·rename_i sz ls ts sz' rows ds;cases hg:zf sz sz' with
    | false=>rw[hg] at h; cases h
    | true =>
    rw[hg,Aa] at h;obtain rfl:=Au hg;cases h1:W1 ls rows with
    | none=>rw[h1] at h; cases h
    | some a =>
      cases h2:Jo ts ds with
      | none=>rw[h1,h2] at h; cases h
      | some bs =>rw[h1,h2] at h;simp only[Ae] at h; subst h;obtain⟨rows',i1,i3,i2⟩:=Aby h1;obtain⟨ds',j1,j2⟩:=JL h2;refine⟨.CO .arg sz rows'::ds',i1 _ _ _ _ j1,fun c w vs hv=>?_⟩;rw[BJ.CR] at hv ⊢;obtain⟨u,us,e,hu,hus⟩:=hv;refine⟨u,us,e,?_,j2 _ _ _ hus⟩;simp only[By] at hu ⊢;obtain⟨a,cap,e,hc,hh⟩:=hu;refine⟨a,cap,by rw[i3]; exact e,by rw[i3]; exact hc,hh.imp (fun h=>?_) fun⟨b,o,rs,e1,e2,e3,e4,e5⟩=>⟨b,o,rs,e1,e2,i2 _ _ _ e3,e4,e5⟩⟩;rw[h] at i3;exact AJ i3
   ·rename_i g l ts g' cs ds;cases hg:zf g g' with
    | false=>rw[hg] at h; cases h
    | true =>
    rw[hg,Aa] at h;obtain rfl:=Au hg;cases h1:Oi l cs with
    | none=>rw[h1] at h; cases h
    | some a =>
      cases h2:Jo ts ds with
      | none=>rw[h1,h2] at h; cases h
      | some bs =>rw[h1,h2] at h;simp only[Ae] at h; subst h;obtain⟨cs',i1,i2⟩:=LX h1;obtain⟨ds',j1,j2⟩:=JL h2;refine⟨.fn g cs' []::ds',.fm i1 j1,fun c w vs hv=>?_⟩;rw[BJ.CR] at hv ⊢;obtain⟨u,us,e,hu,hus⟩:=hv;refine⟨u,us,e,?_,j2 _ _ _ hus⟩;simp only[By] at hu ⊢;obtain⟨fs',vs,e,hf,hh⟩:=hu;exact⟨fs',vs,e,i2 _ _ _ hf,hh⟩
   ·rename_i g l ts g' cs ds;cases hg:zf g g' with
    | false=>rw[hg] at h; cases h
    | true =>
    rw[hg,Aa] at h;obtain rfl:=Au hg;cases h1:Oi l cs with
    | none=>rw[h1] at h; cases h
    | some a =>
      cases h2:Jo ts ds with
      | none=>rw[h1,h2] at h; cases h
      | some bs =>rw[h1,h2] at h;simp only[Ae] at h; subst h;obtain⟨cs',i1,i2⟩:=LX h1;obtain⟨ds',j1,j2⟩:=JL h2;refine⟨.fn g [] cs'::ds',.fn i1 j1,fun c w vs hv=>?_⟩;rw[BJ.CR] at hv ⊢;obtain⟨u,us,e,hu,hus⟩:=hv;refine⟨u,us,e,?_,j2 _ _ _ hus⟩;simp only[By] at hu ⊢;obtain⟨fs',vs,e,hf,hh⟩:=hu;exact⟨fs',vs,e,hf,i2 _ _ _ hh⟩
   ·rename_i l ts cs ds;cases h1:Oi l cs with
    | none=>rw[h1] at h; cases h
    | some a =>
      cases h2:Jo ts ds with
      | none=>rw[h1,h2] at h; cases h
      | some bs =>rw[h1,h2] at h;simp only[Ae] at h; subst h;obtain⟨cs',i1,i2⟩:=LX h1;obtain⟨ds',j1,j2⟩:=JL h2;refine⟨.CL cs'::ds',.cp i1 j1,fun c w vs hv=>?_⟩;rw[BJ.CR] at hv ⊢;obtain⟨u,us,e,hu,hus⟩:=hv;refine⟨u,us,e,?_,j2 _ _ _ hus⟩;simp only[By] at hu ⊢;obtain⟨b,o,vs,e,hb,hh,hc⟩:=hu;exact⟨b,o,vs,e,hb,i2 _ _ _ hh,hc⟩
   ·rename_i l ts cs ds;cases h1:Oi l cs with
    | none=>rw[h1] at h; cases h
    | some a =>
      cases h2:Jo ts ds with
      | none=>rw[h1,h2] at h; cases h
      | some bs =>rw[h1,h2] at h;simp only[Ae] at h; subst h;obtain⟨cs',i1,i2⟩:=LX h1;obtain⟨ds',j1,j2⟩:=JL h2;refine⟨.agg cs'::ds',.st i1 j1,fun c w vs hv=>?_⟩;rw[BJ.CR] at hv ⊢;obtain⟨u,us,e,hu,hus⟩:=hv;refine⟨u,us,e,?_,j2 _ _ _ hus⟩;simp only[By] at hu ⊢;obtain⟨vs,e,hh⟩:=hu;exact⟨vs,e,i2 _ _ _ hh⟩
   ·rename_i t ts d ds _ _ _ _ _;cases h1:Yv t d with
    | none=>rw[h1] at h; cases h
    | some a =>
      cases h2:Jo ts ds with
      | none=>rw[h1,h2] at h; cases h
      | some bs =>rw[h1,h2] at h;simp only[Ae] at h; subst h;obtain⟨d',i1,i2⟩:=W3 h1;obtain⟨ds',j1,j2⟩:=JL h2;refine⟨d'::ds',i1 _ _ _ j1,fun c w vs hv=>?_⟩;rw[BJ.CR] at hv ⊢;obtain⟨u,us,e,hu,hus⟩:=hv;exact⟨u,us,e,i2 _ _ _ hu,j2 _ _ _ hus⟩
   ·cases h
def BP(ts:List AT)(pre:List Fk->Bool)(out:List Fk->DV):Ew where
 pre:=fun args=>match Jo ts args with
  | some as=>pre as
  | none=>wh
 out:=fun args=>match Jo ts args with
  | some as=>out as
  | none=>.undef
inductive Wk(drops:List Nat):DV->DV->Prop
 | refl {d:DV} (h:E7 1 [] d=wc) (ho:∀i e k l,d≠.Bj (.own i e) k l) (hr:∀i e k l,d≠.CO (.own i e) k l):Wk drops d d
 | nil (g:QT) (k:IntKind):Wk drops .nil (.Bj g k [])
 | BE (k:IntKind) (l:Bf):Wk drops (.Bj .BE k l) (.Bj .arg k l)
 | Da (i:Nat) (e:TypeId) (k:IntKind) (l:Bf) (h:i ∉ drops):Wk drops (.Bj (.own i e) k l) (.Bj (.own i e) k l)
 | Alv (i:Nat) (e:TypeId) (sz:Nat) (l:List (List DV)) (h:i ∉ drops):Wk drops (.CO (.own i e) sz l) (.CO (.own i e) sz l)
 | Aln (g:QT) (sz:Nat):Wk drops .nil (.CO g sz [])
 | AfN (i:Nat) (e:TypeId) (sz:Nat) (l:List (List DV)) (h:i∈drops):Wk drops (.CO (.own i e) sz l) (.CO .BE sz l)
 | drop (i:Nat) (e:TypeId) (k:IntKind) (l:Bf) (h:i∈drops):Wk drops (.Bj (.own i e) k l) (.Bj .BE k l)
 | Abp (i:Nat) (e:TypeId) (k:IntKind) (l:Bf) (h:i∈drops):Wk drops (.Bj (.own i e) k l) (.Bj .arg k l)
 | agg {l l':List DV} (h:l.length=l'.length) (hw:∀(j:Nat) d d',l[j]?=wM d->l'[j]?=wM d'->Wk drops d d'):Wk drops (.agg l) (.agg l')
 | CJ {l l':List DV} (h:l.length=l'.length) (hw:∀(j:Nat) d d',l[j]?=wM d->l'[j]?=wM d'->Wk drops d d'):Wk drops (.CJ l) (.CJ l')
def GF(drops:List Nat)(own:Nat->Option Nat)(i:Nat):Option Nat:=if i∈drops then wN else own i
theorem Jn{drops:List Nat}{own:Nat->Option Nat}{i b:Nat}(h:GF drops own i=wM b):own i=wM b/\i ∉ drops:=by
 unfold GF at h;split at h
 ·cases h
 ·exact⟨h,‹_›⟩
theorem Ot{w:World}{base:Nat}{e:TypeId}{k:IntKind}{l:Bf}{v:Value}(ho:w.ownsRow base e 1 v l.length (l.map (Value.int k))){ok:Nat->Prop}(hok:∀b,v.ownBlock=wM b->ok b):
 ∃a cap,v=.slice a l.length cap/\l.length<=cap/\(l=[]\/∃b o,a=wM ⟨b,o,wN⟩/\ok b/\∀(i:Nat) n,l[i]?=wM n->w.cell? ⟨b,o+i,wN⟩=wM (.int k n)):=by
 have:=HU (p:=⟨.live,.row v 1⟩) rfl ho (ED ho) (ok:=ok) hok;simp only[zU,ya] at this;exact this
theorem Wk.rel{drops:List Nat}{d d':DV}(h:Wk drops d d'){I:Nat->Prop}{own:Nat->Option Nat}{w w':World}(ho:Ag1 own w w'):∀v,By (DM I own w w') w' d v->By (DM I (GF drops own) w w') w' d' v:=by
 have hok:∀b,(DM I own w w').ok b->(DM I (GF drops own) w w').ok b:=by
  rintro b ⟨h1,h2,h3⟩
  exact⟨h1,h2,fun i hi=>h3 i (Jn hi).1⟩
 have hblk:∀i b,i∈drops->own i=wM b->(DM I (GF drops own) w w').ok b/\w.heap.size<=b:=by intro i b hi hb;obtain⟨h1,h2⟩:=ho.lt i b hb;refine⟨⟨h2,.inr h1,fun j hj=>?_⟩,h1⟩;obtain⟨h3,h4⟩:=Jn hj;rw[ho.inj j i b h3 hb] at h4;exact h4 hi
 induction h with
 | @refl d h h1 h2 =>
   intro v hv
   have hl:Jr (({ DM I own w w' with own:=fun _=>wN }:Ctx).only []) w' (DM I (GF drops own) w w') w' :=⟨hok,rfl,rfl,fun _ _ h=>(by cases h),fun n p hp=>(by simp[Ctx.only] at hp),fun _ _ _=>rfl,fun _ _ h=>(by cases h)⟩
   refine By.D1 hl d v (VQ [] 1 d v h ?_);cases d with
   | Bj g k l =>
     cases g with
     | own i e=>exact absurd rfl (h1 i e k l)
     | _=>simp only[By] at hv ⊢; exact hv
   | CO g k l =>
     cases g with
     | own i e=>exact absurd rfl (h2 i e k l)
     | _=>simp only[By] at hv ⊢; exact hv
   | agg l =>
     cases l with
     | nil=>simp only[By] at hv ⊢; simpa[BJ] using hv
     | cons a l=>simp[E7] at h
   | CJ l =>
     cases l with
     | nil=>simp only[By] at hv ⊢; simpa[BJ] using hv
     | cons a l=>simp[E7] at h
   | fn g a c =>
     cases a with
     | cons _ _=>simp[E7] at h
     | nil =>
       cases c with
       | cons _ _=>simp[E7] at h
       | nil=>simp only[By] at hv ⊢; simpa[BJ] using hv
   | gd c d=>simp[E7] at h
   | Dh n=>simp[E7] at h
   | J9 n o m=>simp[E7] at h
   | ptr n i j=>simp[E7] at h
   | undef=>simp only[By]
   | _=>simp only[By] at hv ⊢; exact hv
 | nil g k =>
   intro v hv;simp only[By] at hv;subst hv;cases g with
   | own i e=>simp only[By]; exact⟨World.ownsRow_nil w' _ e 1,fun b hb=>by cases hb⟩
   | _=>simp only[By]; exact⟨wN,0,rfl,AB _,.inl trivial⟩
 | Aln g sz =>
   intro v hv;simp only[By] at hv;subst hv;cases g with
   | own i e=>simp only[By]; exact⟨[],by simp[Dm],by simp,World.ownsRow_nil w' _ e sz,fun b hb=>by cases hb⟩
   | _=>simp only[By]; exact⟨wN,0,rfl,AB _,.inl trivial⟩
 | AfN i e sz l h =>intro v hv;simp only[By] at hv ⊢;obtain⟨rows,h1,h2,h3,h4⟩:=hv;have hr:=Dm.D1 (c:=(DM I own w w').bare) (c':=(DM I (GF drops own) w w').bare) ⟨hok,rfl,rfl,fun _ _ h=>(by cases h),fun _ _ h=>(by cases h),fun _ _ _=>rfl,fun _ _ h=>(by cases h)⟩ _ _ h1;have:=HT (p:=⟨.live,.row v sz⟩) rfl hr h2 h3 (by have:=ED h3; exact this) (ok:=fun b=>(DM I (GF drops own) w w').ok b/\w.heap.size<=b) (fun b hb=>hblk i b h (h4 b hb));simp only[zU,ya] at this;obtain⟨a,cap,e1,e2,e3⟩:=this;exact⟨a,cap,e1,e2,e3.imp id fun⟨b,o,rows',e4,e5,e6,e7,e8⟩=>⟨b,o,rows',e4,⟨e5.1,rfl,e5.2⟩,e6,e7,e8⟩⟩
 | BE k l =>intro v hv;simp only[By] at hv ⊢;obtain⟨a,cap,e,h1,h2⟩:=hv;exact⟨a,cap,e,h1,h2.imp id fun⟨b,o,h3,h4,h5⟩=>⟨b,o,h3,hok b h4.1,h5⟩⟩
 | Da i e k l h =>intro v hv;simp only[By] at hv ⊢;exact⟨hv.1,fun b hb=>by show GF drops own i=wM b; unfold GF; rw[Ay h]; exact hv.2 b hb⟩
 | Alv i e sz l h =>intro v hv;simp only[By] at hv ⊢;obtain⟨rows,h1,h2,h3,h4⟩:=hv;refine⟨rows,?_,h2,h3,fun b hb=>by show GF drops own i=wM b; unfold GF; rw[Ay h]; exact h4 b hb⟩;exact Dm.D1 (c:=(DM I own w w').bare) (c':=(DM I (GF drops own) w w').bare) ⟨hok,rfl,rfl,fun _ _ h=>(by cases h),fun _ _ h=>(by cases h),fun _ _ _=>rfl,fun _ _ h=>(by cases h)⟩ _ _ h1
 | drop i e k l h =>intro v hv;simp only[By] at hv ⊢;exact Ot hv.1 fun b hb=>⟨(hblk i b h (hv.2 b hb)).1,rfl,(hblk i b h (hv.2 b hb)).2⟩
 | Abp i e k l h =>intro v hv;simp only[By] at hv ⊢;exact Ot hv.1 fun b hb=>(hblk i b h (hv.2 b hb)).1
 | @agg l l' h hw ih =>
   intro v hv;simp only[By] at hv ⊢;obtain⟨vs,e,hl⟩:=hv;refine⟨vs,e,BJ.Ju (by rw[<- h]; exact hl.length) fun j d v hd hv=>?_⟩;have hlt:j<l.length:=by rw[h]; exact(xr.1 hd).1
   obtain⟨u,hu,hr⟩:=hl.get j _ (As hlt);rw[hv] at hu; cases hu;exact ih j _ d (As hlt) hd v hr
 | @CJ l l' h hw ih =>
   intro v hv;simp only[By] at hv ⊢;obtain⟨vs,e,hl⟩:=hv;refine⟨vs,e,BJ.Ju (by rw[<- h]; exact hl.length) fun j d v hd hv=>?_⟩;have hlt:j<l.length:=by rw[h]; exact(xr.1 hd).1
   obtain⟨u,hu,hr⟩:=hl.get j _ (As hlt);rw[hv] at hu; cases hu;exact ih j _ d (As hlt) hd v hr
theorem Mh.TP{P:Program}{f:FuncId}{args:List DV}{out out':DV}(h:Mh P f args out){drops:List Nat}(hw:Wk drops out out'):Mh P f args out':=by
 intro w vals I hI hv;refine(h w vals I hI hv).mono ?_
 rintro e w' ⟨v,own,he,hb,ho,hr⟩
 refine⟨v,GF drops own,he,hb,⟨fun i b hi=>ho.lt i b (Jn hi).1,fun i j b hi hj=>ho.inj i j b (Jn hi).1 (Jn hj).1⟩,hw.rel ho v hr⟩
theorem Mh.args{P:Program}{f:FuncId}{args args':List DV}{out:DV}(h:Mh P f args out)(ha:∀c w vs,BJ c w args' vs->BJ c w args vs):Mh P f args' out :=fun w vals I hI hv=>h w vals I hI (ha _ _ _ hv)
theorem Na{P:Program}{E:Env}(he:GH P E){f:FuncId}{fn:Func}{body:Code}(hf:P.funcs[f]?=wM fn)(hb:fn.body=wM body){ts:List AT}{pre:List Fk->Bool}{out:List Fk->DV}
 (h:∀as ds,E2 ts as ds->pre as=wc->∃fuel d drops,Cz E fuel fn body ds=wM d/\Wk drops d (out as)):Rv P f (BP ts pre out):=by
 intro args ha;simp only[BP] at ha ⊢;cases hd:Jo ts args with
 | none=>rw[hd] at ha; cases ha
 | some as =>rw[hd] at ha;simp only at ha ⊢;obtain⟨ds,h1,h2⟩:=JL hd;obtain⟨fuel,d,drops,h3,h4⟩:=h as ds h1 ha;exact((Aj3 he hf hb h3).TP h4).args h2
structure Pt(β:Type) where
 b:Nat
 c:Code
 Kn:St->Option β
 Kx:Nat->St->Option β
 Kr:St->Option β
def descend{β:Type}(E:Env)(n:Nat):List Nat->List Nat->Nat->Code->(St->Option β)->(Nat->St->Option β)->(St->Option β)->Pt β
 | 0::p,ms,b,.seq x y,Kn,Kx,Kr=>descend E n p ms b x (fun st'=>den E n b y st' Kn Kx Kr) Kx Kr
 | _::p,ms,b,.seq _ y,Kn,Kx,Kr=>descend E n p ms b y Kn Kx Kr
 | 0::p,ms,b,.cond _ x _,Kn,Kx,Kr=>descend E n p ms b x Kn Kx Kr
 | _::p,ms,b,.cond _ _ y,Kn,Kx,Kr=>descend E n p ms b y Kn Kx Kr
 | _::p,ms,_,.block id c,Kn,Kx,Kr=>descend E n p ms id c Kn (fun id' st'=>cond (id'==id) (Kn st') (Kx id' st')) Kr
 | _::p,ms,b,.scope c,Kn,Kx,Kr=>descend E n p ms b c Kn Kx Kr
 | _::p,m::ms,b,.loop c,_,Kx,Kr=>descend E n p ms b c (fun st2=>match canon (E.hint b) st2 with | some st3=>PK (E.hint b) (den E n b c) m st3 Kx Kr | none=>wN) Kx Kr
 | _,_,b,c,Kn,Kx,Kr=>⟨b,c,Kn,Kx,Kr⟩
def cutAt(E:Env)(n:Nat)(fn:Func)(body:Code)(p ms:List Nat)(st:St):Option DV:=
 match descend E n p ms 0 body (fun st=>TW E fn st) (fun _ _=>wN) (fun st=>TW E fn st) with
 | ⟨b,.seq (.region _ ops draw) y,Kn,Kx,Kr⟩=>V5 (X3 E ops draw (fun st'=>den E n b y st' Kn Kx Kr)) st
 | ⟨_,.region _ ops draw,Kn,_,_⟩=>V5 (X3 E ops draw Kn) st
 | _=>wN
def AfX(E:Env)(n:Nat)(fn:Func)(body:Code)(p ms:List Nat)(st:St):Option DV:=
 match descend E n p ms 0 body (fun st=>TW E fn st) (fun _ _=>wN) (fun st=>TW E fn st) with
 | ⟨b,.seq (.region _ ops draw) y,Kn,Kx,Kr⟩=>X3 E ops draw (fun st'=>den E n b y st' Kn Kx Kr) st
 | ⟨_,.region _ ops draw,Kn,_,_⟩=>X3 E ops draw Kn st
 | _=>wN
theorem DO(E:Env)(n:Nat)(fn:Func)(body:Code)(p ms:List Nat)(st:St):cutAt E n fn body p ms st=AfX E n fn body p ms st:=by unfold cutAt AfX;split<;>simp only[Uu]
def C6(E:Env)(n:Nat)(fn:Func)(body:Code)(p ms:List Nat)(m:Nat)(st:St):Option DV:=
 match descend E n p ms 0 body (fun st=>TW E fn st) (fun _ _=>wN) (fun st=>TW E fn st) with
 | ⟨b,.loop c,_,Kx,Kr⟩=>PK (E.hint b) (den E n b c) m st Kx Kr
 | _=>wN
def atL(i:Nat):List (Nat × DV)->DV
 | []=>.undef
 | (j,d)::l=>bif zf i j then d else atL i l
def Alq(l:List (Nat × DV)):Nat->Nat->List DV
 | 0,_=>[]
 | k+1,i=>atL i l::Alq l k (i+1)
def Fp(n:Nat)(l:List (Nat × DV)):List DV:=Alq l n 0
def Bh(x:Int):Int:=IntKind.i64.wrap x
def BU(x:Int):Int:=IntKind.u64.wrap x
def Hy(x:Int):Int:=IntKind.u32.wrap x
def F9(k:IntKind)(x y:Int):Int:=k.wrap (zn k.bits x &&& zn k.bits y).toNat
def Hw(k:IntKind)(x y:Int):Int:=k.wrap (zn k.bits x ||| zn k.bits y).toNat
def Aii(k:IntKind)(x y:Int):Int:=k.wrap (zn k.bits x ^^^ zn k.bits y).toNat
def NX(k:IntKind)(x y:Int):Int:=k.wrap (zn k.bits x &&& ~~~(zn k.bits y)).toNat
def Cr(k:IntKind)(x y:Int):Int:=k.wrap (x*2^(min y.toNat k.bits))
def DL(k:IntKind)(x y:Int):Int:=x.fdiv (2^(min y.toNat k.bits))
def Ci(p:Prop):Bool:=@decide p (vG p)
theorem Bv{p:Prop}:Ci p=wc↔p:=by unfold Ci; exact @decide_eq_true_iff p (vG p)
def Bw(f:Func):Code:=f.body.getD .skip
def CW:List (Nat × Ew)->Nat->Option Ew
 | [],_=>wN
 | (m,e)::l,n=>bif zf m n then wM e else CW l n
def AbB:List (Nat × TI)->Nat->Option TI
 | [],_=>wN
 | (m,e)::l,n=>bif zf m n then wM e else AbB l n
theorem ifT{α:Type}{R:Bool}{A A' B:α}(h:R=wc)(ha:A=A'):(cond R A B)=A':=by rw[h,ha]; rfl
theorem B4{α:Type}{R:Bool}{A A':Option α}(h:R=wc)(ha:A=A'):(cond R A wN)=A':=ifT h ha
theorem CQ{α:Type}{R S:Bool}{A A' B B':α}(h:R=S)(ha:A=A')(hb:B=B'):(cond R A B)=cond S A' B':=by rw[h,ha,hb]
theorem ET{α:Type}{R:Bool}{A A' B B':α}(ha:A=A')(hb:B=B'):(cond R A B)=cond R A' B':=by rw[ha,hb]
structure Ev(P:Program)(g:FuncId)(e:Ew):Prop where
 meets:Rv P g e
 call:∀(args:Array Value) (w:World),(callFunc g args).run P w=.ok (.enter g args) w
inductive Fe(P:Program):List (Nat × Ew)->Prop
 | nil:Fe P []
 | cons {g e l}:Ev P g e->Fe P l->Fe P ((g,e)::l)
theorem Fe.get{P:Program}{l:List (Nat × Ew)}(h:Fe P l){g:Nat}{e:Ew}(hg:CW l g=wM e):Ev P g e:=by
 induction h with
 | nil=>cases hg
 | @cons g' e' l h1 h2 ih =>
   simp only[CW] at hg;cases hb:zf g' g with
   | true =>rw[hb] at hg;simp only[Aa,Ae] at hg;have:=Au hb;subst this hg;exact h1
   | false=>rw[hb] at hg; exact ih hg
theorem HP{P:Program}{f:FuncId}{fn:Func}{body:Code}(hf:P.funcs[f]?=wM fn)(hn:(fn.name== "runtime.NumGoroutine")=wh)(hb:fn.body=wM body)(args:Array Value)(w:World):
 (callFunc f args).run P w=.ok (.enter f args) w:=by
 have h1:fn.name≠ "runtime.NumGoroutine":=by simpa using hn
 simp[callFunc,hf,h1,hb]
inductive Oa(P:Program):List (Nat × TI)->Prop
 | nil:Oa P []
 | cons {t ti l}:CC P t ti->Oa P l->Oa P ((t,ti)::l)
theorem Oa.get{P:Program}{l:List (Nat × TI)}(h:Oa P l){t:Nat}{ti:TI}(hg:AbB l t=wM ti):CC P t ti:=by
 induction h with
 | nil=>cases hg
 | @cons t' ti' l h1 h2 ih =>
   simp only[AbB] at hg;cases hb:zf t' t with
   | true =>rw[hb] at hg;simp only[Aa,Ae] at hg;have:=Au hb;subst this hg;exact h1
   | false=>rw[hb] at hg; exact ih hg
theorem CT{P:Program}{t:TypeId}{ti:TI}{z:Value}(h:(P.info? t).map (fun i=>(i.zero,i.size,i.bytes))=wM (wM z,ti.size,ti.bytes))(hz:WI ti.zero z.cells.toList)(hs:z.cells.size=ti.size)
 (h1:∀u∈z.cells.toList,u.oneCell'=wc) (hd:CP P t ti.kind):CC P t ti:=by
 cases hi:P.info? t with
 | none=>rw[hi] at h; cases h
 | some i =>rw[hi] at h;simp only[Option.map_some,Ae,Ak] at h;exact⟨⟨i,z,hi,h.2.1,h.2.2,h.1,hz,hs,h1⟩,hd⟩
def Acl(ts:List AT)(pre:List Fk->Bool)(out:List Fk->DV)(mu:List Fk->Nat)(n:Nat):Ew:=BP ts (fun as=>pre as&&Ci (mu as<n)) out
theorem Z9{P:Program}{E:Nat->Env}{f:FuncId}{fn:Func}{body:Code}(hf:P.funcs[f]?=wM fn)(hb:fn.body=wM body){ts:List AT}{pre:List Fk->Bool}{out:List Fk->DV}(mu:List Fk->Nat)
 (he:∀n,Rv P f (Acl ts pre out mu n)->GH P (E n))
 (h:∀n as ds,E2 ts as ds->pre as=wc->mu as<n+1->∃fuel d drops,Cz (E n) fuel fn body ds=wM d/\Wk drops d (out as)):Rv P f (BP ts pre out):=by
 have key:∀n,Rv P f (Acl ts pre out mu n):=by
  intro n
  induction n with
  | zero =>
    intro args ha;simp only[Acl,BP] at ha;split at ha
    ·simp only[Am,Bv] at ha; omega
    ·cases ha
  | succ n ih =>
    refine Na (he n ih) hf hb fun as ds hd hp=>?_
    simp only[Am,Bv] at hp;exact h n as ds hd hp.1 hp.2
 intro args ha;simp only[BP] at ha;cases hd:Jo ts args with
 | none=>rw[hd] at ha; cases ha
 | some as =>rw[hd] at ha;have:=key (mu as+1) args (by simp only[Acl,BP,hd,Am,Bv]; exact⟨ha,Nat.lt_succ_self _⟩);simp only[Acl,BP] at this ⊢;exact this
theorem LD{P:Program}(w:World){t:TypeId}{ti:TI}(hf:CC P t ti)(ha:ti.agg=wh){xs:Array Value}{i:Nat}{v:Value}(hv:xs[i]?=wM v):(part t xs i).run P w=.ok v w:=by simp[part,hf.Pu w,ha,hv]
theorem S2{z:Bool}{l m:List DV}(h:sameShape (.bool z::l) m=wc):∃b m',m=.bool b::m'/\sameShape l m'=wc:=by
 cases m with
 | nil=>simp[sameShape] at h
 | cons d m'=>cases d<;>simp[sameShape] at h; exact⟨_,_,rfl,h⟩
theorem NB{k:IntKind}{z:Int}{l m:List DV}(h:sameShape (.int k z::l) m=wc):∃b m',m=.int k b::m'/\sameShape l m'=wc:=by
 cases m with
 | nil=>simp[sameShape] at h
 | cons d m'=>cases d<;>simp[sameShape] at h; obtain⟨rfl,h⟩:=h; exact⟨_,_,rfl,h⟩
theorem U1{m:List DV}(h:sameShape [] m=wc):m=[]:=by
 cases m with
 | nil=>rfl
 | cons d m'=>cases d<;>simp[sameShape] at h
theorem AjL{P:Program}{g:FuncId}{e:Ew}(h:Ev P g e){vals:Array Value}{w:World}{args:List DV}{I:Nat->Prop}(hI:∀b,I b->b<w.heap.size)(ha:BJ (Ho I) w args vals.toList)
 (hp:e.pre args=wc) (ho:e.out args=.bool wc):Calls P g vals w fun e w'=>e=.returned (.bool wc)/\Below w.heap.size w w':=by
 refine(h.meets args hp w vals I hI ha).mono ?_
 rintro e w' ⟨v,own,he,hb,_,hv⟩
 rw[ho] at hv;simp only[By] at hv;subst hv;exact⟨he,hb⟩
def AlG(E:Env)(n:Nat)(_fn:Func)(body:Code)(p ms:List Nat)(m:Nat)(st:St):Option Unit:=
 match descend E n p ms 0 body (fun _=>wM ()) (fun _ _=>wN) (fun _=>wM ()) with
 | ⟨b,.loop c,_,Kx,Kr⟩=>PK (E.hint b) (den E n b c) m st Kx Kr
 | _=>wN
def Uh(e:TypeId)(k:IntKind)(st:St):Option (Bf):=match st.tmps.getD 0 .undef with
 | .Dh n=>match look st.heap n with
   | some (false,.Bj e' k' l)=>bif e==e'&&decide (k=k') then wM l else wN
   | _=>wN
 | _=>wN
def wrD(E:Env)(fuel:Nat)(fn:Func)(body:Code)(e:TypeId)(k:IntKind)(l:Bf)(ds:List DV):Option (Bf) :=den E fuel 0 body ⟨(.Dh 1000::ds)++zo (fn.ntmps-(ds.length+1)) .undef,[(1000,wh,.Bj e k l)]⟩ (Uh e k) (fun _ _=>wN) (Uh e k)
def PC(E:Env)(n:Nat)(_fn:Func)(body:Code)(e:TypeId)(k:IntKind)(p ms:List Nat)(m:Nat)(st:St):Option (Bf):=
 match descend E n p ms 0 body (Uh e k) (fun _ _=>wN) (Uh e k) with
 | ⟨b,.loop c,_,Kx,Kr⟩=>PK (E.hint b) (den E n b c) m st Kx Kr
 | _=>wN
theorem Akg{P:Program}{E:Env}(he:GH P E)(hnp:0<E.np){f:FuncId}{fn:Func}{body:Code}(hf:P.funcs[f]?=wM fn)(hb:fn.body=wM body)(hres:fn.results.toList=[])
 (hcall:∀(args:Array Value) (w:World),(callFunc f args).run P w=.ok (.enter f args) w) {W:Writer}
 (h:∀l ds,l.length<=maxLen->W.pre l ds=wc->∃ds' fuel,(∀c w vs,BJ c w ds vs->BJ c w ds' vs)/\wrD E fuel fn body W.elem W.kind l ds'=wM (W.out l ds)):KZ P f W:=by
 refine⟨hcall,fun w v l ds vals hown hds hpre=>?_⟩;refine calls_of_wp hf hb ?_
 have hlen:l.length<=maxLen:=by
  rcases hown.2 with ⟨_,hn⟩ | ⟨g,cap,cur,_,_,_,hnc,hm,_,_⟩
  ·rw[hn]; exact zl _
  ·exact AP hnc hm
 obtain⟨ds',fuel,hds',h⟩:=h l ds hlen hpre;have hds:=hds' _ _ _ hds;generalize W.out l ds=out at h;unfold wrD at h
 let A:Nat->Option Place:=fun n=>if n=1000 then wM ⟨.live,.row v 1⟩ else wN
 have hA:∀{n p},A n=wM p->n=1000/\p=⟨.live,.row v 1⟩:=by
  intro n p hp;have hp:(if n=1000 then wM (⟨.live,.row v 1⟩:Place) else wN)=wM p:=hp;by_cases hn:n=1000
  ·rw[Az hn] at hp; cases hp; exact⟨hn,rfl⟩
  ·rw[Ay hn] at hp; cases hp
 have hone:v.oneCell'=wc:=by rcases hown.2 with ⟨hv,_⟩ | ⟨g,cap,cur,hv,_⟩<;>rw[hv]<;>rfl
 have hsz:∀b,v.ownBlock=wM b->b<w.heap.size:=fun b hb=>(hown.lt b hb).2
 have hl:ds'.length=vals.length:=hds.length
 have hh:EL (E:=E) ⟨fun b=>b<w.heap.size/\v.ownBlock≠wM b,fun t=>((v::vals).toArray++yK (fn.ntmps-(v::vals).toArray.size) undef).getD t undef⟩ (fun _=>False) 0 w
  ⟨(.Dh 1000::ds')++zo (fn.ntmps-(ds'.length+1)) .undef,[(1000,wh,.Bj W.elem W.kind l)]⟩
  ⟨(v::vals).toArray++yK (fn.ntmps-(v::vals).toArray.size) undef,[]⟩ w:=by
  refine⟨A,rfl,by simp only[Array.size_append,vF,xM,A8,xc,zj]; omega,Below.refl _ _,zl _,fun b h=>h.elim,fun n p hp=>?_,fun n p b hp _ hpb=>?_,fun n m p q b hp hq _ _ _ _=>?_,fun t=>?_,fun b hb=>⟨hb.1,rfl,fun n p hp _ hpb=>?_⟩,fun t _=>rfl⟩
  ·obtain⟨rfl,rfl⟩:=hA hp;exact⟨_,rfl,rfl,v,rfl,hown⟩
  ·obtain⟨rfl,rfl⟩:=hA hp;exact⟨zl _,hsz b hpb⟩
  ·exact(hA hp).1.trans (hA hq).1.symm
  ·have hw:Ig (Ho fun b=>b<w.heap.size/\v.ownBlock≠wM b) (Cd (fun _=>False) 0 A w):=⟨fun b hb=>⟨hb.1,.inr (zl _),fun n p hp _ hpb=>by obtain⟨rfl,rfl⟩:=hA hp;exact hb.2 hpb⟩,rfl,fun _=>rfl,fun _=>rfl⟩
   have hall:BJ (Cd (fun _=>False) 0 A w) w (.Dh 1000::ds') (v::vals):=by rw[BJ.CR];refine⟨_,_,rfl,?_,BJ.EP hw _ _ hds⟩;simp only[By];exact⟨hone,⟨.live,.row v 1⟩,(Az rfl:A 1000=wM _),.inr ⟨1,rfl⟩⟩
   rcases AF t (.Dh 1000::ds').length with hlt | hge
   ·obtain⟨u,h1,h2⟩:=hall.getD t hlt;simp only[Al,yH hlt] at h2 ⊢;have hlt':t<(v::vals).toArray.size:=by simp only[xM,zj] at hlt ⊢; omega
    have e:((v::vals).toArray++yK (fn.ntmps-(v::vals).toArray.size) undef).getD t undef=u:=by rw[z5,wE hlt',List.getElem?_toArray,h1]; rfl
    rw[e]; exact h2
   ·rw[Al,AX hge,xJ];split<;>simp only[Be,y8,By]
  ·obtain⟨rfl,rfl⟩:=hA hp;exact hb.2 hpb
 have fin:∀(st:St) (a:Act) (w':World),Uh W.elem W.kind st=wM out->EL (E:=E) ⟨fun b=>b<w.heap.size/\v.ownBlock≠wM b,fun t=>((v::vals).toArray++yK (fn.ntmps-(v::vals).toArray.size) undef).getD t undef⟩ (fun _=>False) 0 w st a w' ->
  a.defers=[]/\∃u,(results fn a.tmps).run P w'=.ok u w'/\(∃u',Ending.returned u=.returned u')/\w'.ownsRow 0 W.elem 1 v out.length (out.map (Value.int W.kind))/\Below 0 w w'/\∀b,b<w.heap.size->v.ownBlock≠wM b->w'.heap[b]?=w.heap[b]?:=by
  intro st a w' he' ⟨A',hA'⟩;obtain⟨vs,hv,hr⟩:=Qw (st:=st) he.ty hA' fn.results.toList [] (by rw[hres]; rfl);refine⟨hA'.defers,_,Rd hr,⟨_,rfl⟩,?_,hA'.below,fun b h1 h2=>(hA'.kept b ⟨h1,h2⟩).2.1⟩;have h0:=hA'.tmps 0;have hpin:=hA'.pin 0 hnp
  have hv0:a.tmps.getD 0 undef=v:=by rw[hpin];show((v::vals).toArray++yK (fn.ntmps-(v::vals).toArray.size) undef).getD 0 undef=v;rw[z5,wE (by simp)]; rfl
  rw[hv0] at h0;unfold Uh at he';split at he'
  ·rename_i n hn;rw[hn] at h0;simp only[By] at h0;obtain⟨_,p,hp,hpd⟩:=h0;split at he'
   ·rename_i e' k' l' hlk;cases hc:(W.elem==e'&&decide (W.kind=k')) with
    | false=>rw[hc] at he'; simp at he'
    | true =>
      rw[hc,Aa,Ae] at he';subst he';simp only[Am,beq_iff_eq,Ai] at hc;obtain⟨rfl,rfl⟩:=hc;have hm:Mem (fun _=>False) 0 A' st.heap w':=hA'.mem fun n p fo _ hl=>hl
      obtain⟨hlive,sv,hkind,hown'⟩:=DX hm hp hlk;simp only[Bool.false_eq_true,if_false] at hlive;rcases hpd with hpd | ⟨size,hk⟩
      ·rw[hlive] at hpd; cases hpd
      ·rw[hkind] at hk; cases hk;exact hown'
   ·cases he'
  ·cases he'
 refine LW he fuel out body 0 _ _ _ _ h _ _ hh _ (fun st a w' hk hh'=>?_) (fun id st a w' hk=>by cases hk) (fun st a w' hk hh'=>?_)
 ·obtain⟨h1,u,h2,h3⟩:=fin st a w' hk hh';exact⟨h1,u,h2,h3⟩
 ·obtain⟨h1,u,h2,h3⟩:=fin st a w' hk hh';exact⟨h1,u,h2,h3⟩
def WT(e:TypeId)(k:IntKind)(ts:List AT)(pre:List Fk->Bool)(out:List Fk->Bf):Writer where
 elem:=e
 kind:=k
 pre:=fun l ds=>match Jo ts ds with
  | some as=>pre (.l l::as)
  | none=>wh
 out:=fun l ds=>match Jo ts ds with
  | some as=>out (.l l::as)
  | none=>l
theorem Sh{P:Program}{E:Env}(he:GH P E)(hnp:0<E.np){f:FuncId}{fn:Func}{body:Code}(hf:P.funcs[f]?=wM fn)(hb:fn.body=wM body)(hres:fn.results.toList=[])
 (hcall:∀(args:Array Value) (w:World),(callFunc f args).run P w=.ok (.enter f args) w) {e:TypeId} {k:IntKind} {ts:List AT} {pre:List Fk->Bool} {out:List Fk->Bf}
 (h:∀l as ds,E2 ts as ds->pre (.l l::as)=wc->∃fuel,wrD E fuel fn body e k l ds=wM (out (.l l::as))):KZ P f (WT e k ts pre out):=by
 refine Akg he hnp hf hb hres hcall fun l ds _ hp=>?_
 simp only[WT] at hp ⊢;cases hd:Jo ts ds with
 | none=>rw[hd] at hp; cases hp
 | some as =>rw[hd] at hp;obtain⟨ds',h1,h2⟩:=JL hd;obtain⟨fuel,h3⟩:=h l as ds' h1 hp;exact⟨ds',fuel,h2,h3⟩
def AjP(ts:List AT)(e1 e2:Ew):Ew where
 pre:=fun args=>match Jo ts args with
  | some _=>e1.pre args
  | none=>e2.pre args
 out:=fun args=>match Jo ts args with
  | some _=>e1.out args
  | none=>e2.out args
theorem Ev.alt{P:Program}{g:FuncId}{ts:List AT}{e1 e2:Ew}(h1:Ev P g e1)(h2:Ev P g e2):Ev P g (AjP ts e1 e2):=by
 refine⟨fun args ha=>?_,h1.call⟩;simp only[AjP] at ha ⊢;cases hd:Jo ts args with
 | none=>rw[hd] at ha; exact h2.meets args ha
 | some x=>rw[hd] at ha; exact h1.meets args ha
theorem Ev.TP{P:Program}{g:FuncId}{ts:List AT}{pre pre':List Fk->Bool}{out out':List Fk->DV}(h:Ev P g (BP ts pre out))(drops:List Nat)
 (hw:∀ats,pre' ats=wc->pre ats=wc/\Wk drops (out ats) (out' ats)):Ev P g (BP ts pre' out'):=by
 refine⟨fun args ha=>?_,h.call⟩;simp only[BP] at ha ⊢;cases hd:Jo ts args with
 | none=>rw[hd] at ha; cases ha
 | some x =>rw[hd] at ha;have:=h.meets args (by simp only[BP,hd]; exact(hw x ha).1);simp only[BP,hd] at this;exact this.TP (hw x ha).2
def Aga(K:List (List DV)->List DV->Prop):List DV->Prop
 | .CO .arg _ rows::ds=>K rows ds
 | _=>True
def IW:Nat->List AT->(List Fk->List DV->Prop)->Prop
 | 0,_,_=>False
 | _+1,[],K=>K [] []
 | n+1,.b::ts,K=>∀x:Bool,IW n ts fun as ds=>K (.b x::as) (.bool x::ds)
 | n+1,.i k::ts,K=>∀x:Int,IW n ts fun as ds=>K (.i x::as) (.int k x::ds)
 | n+1,.s k::ts,K=>∀x:Bf,IW n ts fun as ds=>K (.l x::as) (.Bj .arg k x::ds)
 | n+1,.fl::ts,K=>∀x:Nat,IW n ts fun as ds=>K (.f x::as) (.fl x::ds)
 | n+1,.nb::ts,K=>∀x:Nat,IW n ts fun as ds=>K (.f x::as) (.nb x::ds)
 | n+1,.rl sz::ts,K=>∀x:List (List DV),IW n ts fun as ds=>K (.r x::as) (.CO .arg sz x::ds)
 | n+1,.st l::ts,K=>IW n l fun as cs=>IW n ts fun bs ds=>K (as++bs) (.agg cs::ds)
 | n+1,.fn g l::ts,K=>IW n l fun as cs=>IW n ts fun bs ds=>K (as++bs) (.fn g [] cs::ds)
 | n+1,.fm g l::ts,K=>IW n l fun as cs=>IW n ts fun bs ds=>K (as++bs) (.fn g cs []::ds)
 | n+1,.cp l::ts,K=>IW n l fun as cs=>IW n ts fun bs ds=>K (as++bs) (.CL cs::ds)
 | n+1,.rs sz []::ts,K=>IW n ts fun as ds=>K as (.CO .arg sz []::ds)
 | n+1,.rs sz (l::ls)::ts,K=>IW n l fun as cs=>IW n (.rs sz ls::ts) fun bs ds=>Aga (fun rows ds=>K (as++bs) (.CO .arg sz (cs::rows)::ds)) ds
theorem IW.go:∀(n:Nat) {ts:List AT} {as:List Fk} {ds:List DV} {K:List Fk->List DV->Prop},IW n ts K->E2 ts as ds->K as ds:=by
 intro n
 induction n with
 | zero=>intro ts as ds K h _; exact h.elim
 | succ n ih =>
   intro ts as ds K h e;cases e with
   | nil=>exact h
   | b x e=>exact ih (K:=fun as ds=>K (.b x::as) (.bool x::ds)) (h x) e
   | i k x e=>exact ih (K:=fun as ds=>K (.i x::as) (.int k x::ds)) (h x) e
   | s k x e=>exact ih (K:=fun as ds=>K (.l x::as) (.Bj .arg k x::ds)) (h x) e
   | fl x e=>exact ih (K:=fun as ds=>K (.f x::as) (.fl x::ds)) (h x) e
   | nb x e=>exact ih (K:=fun as ds=>K (.f x::as) (.nb x::ds)) (h x) e
   | rl sz x e=>exact ih (K:=fun as ds=>K (.r x::as) (.CO .arg sz x::ds)) (h x) e
   | @st _ _ a c _ _ e1 e2=>exact ih (K:=fun bs ds=>K (a++bs) (.agg c::ds)) (ih (K:=fun as cs=>IW n _ fun bs ds=>K (as++bs) (.agg cs::ds)) h e1) e2
   | @fn g _ _ a c _ _ e1 e2=>exact ih (K:=fun bs ds=>K (a++bs) (.fn g [] c::ds)) (ih (K:=fun as cs=>IW n _ fun bs ds=>K (as++bs) (.fn g [] cs::ds)) h e1) e2
   | @fm g _ _ a c _ _ e1 e2=>exact ih (K:=fun bs ds=>K (a++bs) (.fn g c []::ds)) (ih (K:=fun as cs=>IW n _ fun bs ds=>K (as++bs) (.fn g cs []::ds)) h e1) e2
   | @cp _ _ a c _ _ e1 e2=>exact ih (K:=fun bs ds=>K (a++bs) (.CL c::ds)) (ih (K:=fun as cs=>IW n _ fun bs ds=>K (as++bs) (.CL cs::ds)) h e1) e2
   | rs0 e=>exact ih (K:=fun as ds=>K as (.CO .arg _ []::ds)) h e
   | @rs1 sz _ _ _ a c _ _ _ e1 e2 =>have:=ih (K:=fun bs ds=>Aga (fun rows ds=>K (a++bs) (.CO .arg sz (c::rows)::ds)) ds) (ih (K:=fun as cs=>IW n _ fun bs ds=>Aga (fun rows ds=>K (as++bs) (.CO .arg sz (cs::rows)::ds)) ds) h e1) e2;exact this
abbrev Ai8(E:Env)(fn:Func)(ds:List DV)(out:DV):Prop:=∃N dv drops,Cz E N fn (Bw fn) ds=wM dv/\Wk drops dv out
abbrev Hyp(E:Env)(fn:Func)(ts:List AT)(pre:List Fk->Bool)(out:List Fk->DV):Prop:=IW 40 ts fun as ds=>pre as=wc->Ai8 E fn ds (out as)
theorem Gc{P:Program}{E:Env}(he:GH P E){f:FuncId}{fn:Func}(hf:P.funcs[f]?=wM fn)(hb:fn.body=wM (Bw fn))(hn:(fn.name== "runtime.NumGoroutine")=wh){ts:List AT}{pre:List Fk->Bool}{out:List Fk->DV}
 (h:IW 40 ts fun as ds=>pre as=wc->Ai8 E fn ds (out as)):Ev P f (BP ts pre out):=
 ⟨Na he hf hb fun _ _ e hp=>IW.go 40 h e hp,HP hf hn hb⟩
theorem Bz{x:Int}(h1:-9223372036854775808<=x)(h2:x<=9223372036854775807):Bh x=x:=Go.IntWalk.i64_in x ⟨h1,h2⟩
theorem Pg(x:Int):BU x=x%18446744073709551616:=by unfold BU IntKind.wrap; simp[IntKind.bits,IntKind.signed]
theorem Ad1(x:Int):Hy x=x%4294967296:=by unfold Hy IntKind.wrap; simp[IntKind.bits,IntKind.signed]
theorem Dk{x:Int}(h1:0<=x)(h2:x<18446744073709551616):BU x=x:=by rw[Pg]; omega
theorem Hx{x:Int}(h1:0<=x)(h2:x<4294967296):Hy x=x:=by rw[Ad1]; omega
theorem Aij(k:IntKind)(x y:Int):DL k x y=x / 2^(min y.toNat k.bits):=by unfold DL;exact Int.fdiv_eq_ediv_of_nonneg _ (Int.le_of_lt (Int.pow_pos (by decide)))
theorem G3(k:IntKind)(n s:Nat)(h:s<=k.bits):DL k n s=((n / 2^s:Nat):Int):=by
 rw[Aij,Ad,yq h]
 push_cast
 rfl
theorem Fj(n s:Nat)(h:s<=64):Cr .u64 n s=((n*2^s%2^64:Nat):Int):=by
 unfold Cr;rw[Ad,show IntKind.u64.bits=64 from rfl,yq h];show BU _=_;rw[Pg];show _=((n*2^s%18446744073709551616:Nat):Int)
 rw[Int.natCast_emod,Ax,Int.natCast_pow];rfl
theorem HW(b n:Nat):(zn b n).toNat=n%2^b:=by rw[BitVec.toNat_ofInt];rw[show((n:Int)%(2^b:Nat))=((n%2^b:Nat):Int) by push_cast; rfl,Ad]
theorem RA{n:Nat}(h:n<2^64):IntKind.u64.wrap n=n:=by show BU _=_;rw[Pg];omega
theorem Agm{a b:Nat}(ha:a<2^64)(hb:b<2^64):F9 .u64 a b=((a &&& b:Nat):Int):=by unfold F9;rw[BitVec.toNat_and,HW,HW,show IntKind.u64.bits=64 from rfl,Ao ha,Ao hb];exact RA (AK Nat.and_le_left ha)
theorem WA{a b:Nat}(ha:a<2^64)(hb:b<2^64):Hw .u64 a b=((a ||| b:Nat):Int):=by unfold Hw;rw[BitVec.toNat_or,HW,HW,show IntKind.u64.bits=64 from rfl,Ao ha,Ao hb];exact RA (Nat.or_lt_two_pow ha hb)
theorem Agl{a b:Nat}(ha:a<2^64)(hb:b<2^64):Aii .u64 a b=((a ^^^ b:Nat):Int):=by unfold Aii;rw[BitVec.toNat_xor,HW,HW,show IntKind.u64.bits=64 from rfl,Ao ha,Ao hb];exact RA (Nat.xor_lt_two_pow ha hb)
theorem Hh{a:Nat}(k:Nat)(ha:a<2^64)(hk:k<=64):F9 .u64 a ((2^k-1:Nat):Int)=((a%2^k:Nat):Int):=by rw[Agm ha (by have:=Aq (n:=2) (by decide) hk; have:=Nat.pow_pos (a:=2) (n:=k) (by decide); omega),Nat.and_two_pow_sub_one_eq_mod]
theorem P1{a b k:Nat}(hb:b<2^k):b ||| (a*2^k)=a*2^k+b:=by rw[xz,A0,vI hb]
theorem Adl{a b k:Nat}(hb:b<2^k)(h:a*2^k+b<2^64):Hw .u64 b ((a*2^k:Nat):Int)=((a*2^k+b:Nat):Int):=by rw[WA (by omega) (by omega),P1 hb]
theorem Kt{a b k:Nat}(hb:b<2^k)(h:a*2^k+b<2^64):Hw .u64 ((a*2^k:Nat):Int) b=((a*2^k+b:Nat):Int):=by rw[WA (by omega) (by omega),xz,P1 hb]
theorem Sg{r:Nat}(hr:r<2^63):(2^63+r) ^^^ 2^63=r/\r ^^^ 2^63=2^63+r:=by
 have e2:=vI hr 1;rw[AR] at e2
 have a1:r ^^^ 2^63=2^63+r:=by
  rw[e2];apply Nat.eq_of_testBit_eq;intro i;rw[Nat.testBit_xor,Nat.testBit_or,Nat.testBit_two_pow];by_cases hi:63=i
  ·subst hi;rw[Nat.testBit_lt_two_pow hr]; simp
  ·simp[hi]
 refine⟨?_,a1⟩;rw[<- a1,Nat.xor_assoc,Nat.xor_self,Nat.xor_zero]
theorem AgA{a:Nat}(ha:a<2^64):a ^^^ 2^63=if 2^63<=a then a-2^63 else a+2^63:=by
 by_cases h:2^63<=a
 ·rw[Az h];obtain⟨r,rfl⟩:∃r,a=2^63+r:=⟨a-2^63,by omega⟩
  rw[(Sg (by omega)).1]; omega
 ·rw[Ay h,(Sg (by omega)).2]; omega
def Br(x:Int):Bool:=Ci (0<=x/\x<18446744073709551616)
theorem C3{x:Int}(h:Br x=wc):∃n:Nat,x=n/\n<2^64:=by unfold Br at h;rw[Bv] at h;exact⟨x.toNat,by omega,by omega⟩
theorem CI{n:Nat}(h:n<2^64):Br n=wc:=by unfold Br;rw[Bv];omega
inductive WkL(drops:List Nat):List DV->List DV->Prop
 | nil:WkL drops [] []
 | cons {d d' l l'}:Wk drops d d'->WkL drops l l'->WkL drops (d::l) (d'::l')
theorem WkL.length{drops:List Nat}{l l':List DV}(h:WkL drops l l'):l.length=l'.length:=by
 induction h with
 | nil=>rfl
 | cons _ _ ih=>simp[ih]
theorem WkL.get{drops:List Nat}{l l':List DV}(h:WkL drops l l'):∀(j:Nat) d d',l[j]?=wM d->l'[j]?=wM d'->Wk drops d d':=by
 induction h with
 | nil=>intro j d d' h; cases h
 | cons h1 _ ih =>
   intro j d d' h2 h3;cases j with
   | zero=>cases h2; cases h3; exact h1
   | succ j=>exact ih j d d' h2 h3
theorem Wk.GA{drops:List Nat}{l l':List DV}(h:WkL drops l l'):Wk drops (.agg l) (.agg l'):=.agg h.length h.get
theorem Wk.FQ{drops:List Nat}{l l':List DV}(h:WkL drops l l'):Wk drops (.CJ l) (.CJ l'):=.CJ h.length h.get
theorem Wk.bool{drops:List Nat}{b:Bool}:Wk drops (.bool b) (.bool b):=.refl rfl (by intros; simp) (by intros; simp)
theorem Wk.int{drops:List Nat}{k:IntKind}{x:Int}:Wk drops (.int k x) (.int k x):=.refl rfl (by intros; simp) (by intros; simp)
theorem Wk.WC{drops:List Nat}{k:IntKind}{l:Bf}:Wk drops (.Bj .arg k l) (.Bj .arg k l):=.refl rfl (by intros; simp) (by intros; simp)
theorem Wk.IP{drops:List Nat}{k:IntKind}{l:Bf}:Wk drops (.Bj .BE k l) (.Bj .BE k l):=.refl rfl (by intros; simp) (by intros; simp)
theorem E2.HE{as:List Fk}{ds:List DV}(h:E2 [] as ds):as=[]/\ds=[]:=by cases h; exact⟨rfl,rfl⟩
theorem E2.Al5{ts:List AT}{as:List Fk}{ds:List DV}(h:E2 (.b::ts) as ds):∃x as' ds',as=.b x::as'/\ds=.bool x::ds'/\E2 ts as' ds':=by cases h with | b x h=>exact⟨x,_,_,rfl,rfl,h⟩
theorem E2.UT{k:IntKind}{ts:List AT}{as:List Fk}{ds:List DV}(h:E2 (.i k::ts) as ds):∃x as' ds',as=.i x::as'/\ds=.int k x::ds'/\E2 ts as' ds':=by cases h with | i k x h=>exact⟨x,_,_,rfl,rfl,h⟩
theorem E2.Xv{k:IntKind}{ts:List AT}{as:List Fk}{ds:List DV}(h:E2 (.s k::ts) as ds):∃x as' ds',as=.l x::as'/\ds=.Bj .arg k x::ds'/\E2 ts as' ds':=by cases h with | s k x h=>exact⟨x,_,_,rfl,rfl,h⟩
theorem E2.ZM{g:FuncId}{l ts:List AT}{as:List Fk}{ds:List DV}(h:E2 (.fn g l::ts) as ds):∃a1 cs a2 ds',as=a1++a2/\ds=.fn g [] cs::ds'/\E2 l a1 cs/\E2 ts a2 ds':=by cases h with | fn h1 h2=>exact⟨_,_,_,_,rfl,rfl,h1,h2⟩
theorem E2.ZW{l ts:List AT}{as:List Fk}{ds:List DV}(h:E2 (.cp l::ts) as ds):∃a1 cs a2 ds',as=a1++a2/\ds=.CL cs::ds'/\E2 l a1 cs/\E2 ts a2 ds':=by cases h with | cp h1 h2=>exact⟨_,_,_,_,rfl,rfl,h1,h2⟩
end Go.Den
end
