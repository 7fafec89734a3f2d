/- A verified evaluator of the program's form and its use for this seat: Den32, Den33, Den34, Den35, Den36, Den37, Den38, Bits, Rnd, Flt, Words, NearL, IeeL, OrdL, MulL, Limb, DyL, DyV, ExactL, MulW, SumL. -/
import Derived.Test.YthajngaadbanfaaGreatTC
import Derived.KernelRfl
import Derived.Laws.StructEq
import Derived.Laws.Externs
import Derived.ChangeKeysEq
import Derived.IntWalk
set_option linter.unusedVariables false
set_option linter.unusedSimpArgs false
open Array renaming replicate->y0,size_replicate->vZ,getD_eq_getD_getElem?->yf,getElem?_append_left->wV
open List renaming replicate->zp,length_replicate->xq,getElem?_append_left->yX,getElem?_replicate->xY,drop_zero->zW,take_length->ym,getElem?_eq_some_iff->xG,size_toArray->x7,length_cons->zo,mem_cons->zu
open Option renaming getD_none->xn
open Nat renaming beq->zg,zero_le->zA,min_eq_left->yw,or_comm->xw,two_pow_add_eq_or_of_lt->v9,mod_one->wc,mul_mod_mul_left->ua,mul_left_comm->y4,mul_eq_zero->xx,add_comm->xu,log2_self_le->zS,lt_log2_self->yr,le_log2->zM,mul_lt_mul_right->xy,div_add_mod->zG,mod_lt->zv,pow_succ->zD,one_mul->zC,add_sub_cancel->yE,div_lt_iff_lt_mul->yI,le_div_iff_mul_le->y5,div_eq_of_lt->yc,eq_zero_or_pos->y6,zero_div->xe,shiftLeft_eq->yS,min_eq_right->xN,zero_mul->zN,le_of_lt->xQ,mul_add->yh,dvd_of_mod_eq_zero->ud,mul_div_cancel_left->ue,exists_eq_add_of_le->uf,mul_le_mul_left->yQ,mul_zero->yB,div_one->yT,mul_div_cancel->wo,add_lt_add_left->uh,sub_mul->yt
open BitVec renaming ofInt->zj
open Classical renaming propDecidable->v8
open Bool renaming false_eq_true->yd
open Int renaming natCast_nonneg->xd,natCast_zero->wY,add_zero->xP,min_le_left->w8,min_le_right->w9,mul_nonneg->wg,mul_neg_of_neg_of_pos->vd,natAbs_mul->yA,natAbs_natCast->zX,neg_mul->xS,zero_mul->yC,mul_assoc->wt,mul_lt_mul_right->ug
noncomputable section
open Int (toNat)
open List (length getD)
namespace Go.Den
open Go.RowKit (Below)
theorem As8{P:Program}{E:Env}{S:Aha E}(hty:∀t ti,E.ty t=some ti->Cz P t ti){I:Nat->Prop}{fn:Func}{st:St}{out:DV}(h:Agz E fn st=some out){w w':World}{a:Act}(hh:G1 S I w.heap.size w st a w') :
 ∃v own,(results fn a.tmps).run P w'=.ok v w'/\Below w.heap.size w w'/\Auc own w w'/\Au (E4 I own w w') w' out v:=by
 obtain⟨A,hA⟩:=hh;unfold Agz at h;cases hds:X2 E st fn.results.toList with
 | none=>simp[hds] at h
 | some ds =>
   rw[hds,Bex] at h;obtain⟨vs,hv,hr⟩:=Aa7 hty hA _ ds hds;have hm:Mem I w.heap.size A st.heap w':=hA.mem fun n p fo _ hl=>hl
   have hone:Au (B1 I w.heap.size A w') w' (Az5 ds) (Az4 vs):=by
    match ds,vs,hv with
    | [],vs,hv =>rw[Bh.Im] at hv; subst hv;simp only[Au,Az5,Az4];exact⟨#[],rfl,by simp[Bh]⟩
    | [d],vs,hv =>rw[Bh.Df] at hv;obtain⟨u,us,rfl,h1,h2⟩:=hv;rw[Bh.Im] at h2; subst h2;exact h1
    | d::d'::ds,vs,hv =>have hv':=hv;rw[Bh.Df] at hv;obtain⟨u,us,rfl,h1,h2⟩:=hv;rw[Bh.Df] at h2;obtain⟨u',us',rfl,h3,h4⟩:=h2;simp only[Au,Az5,Az4];exact⟨_,rfl,by simpa using hv'⟩
   cases hrs:H9 st.heap 6 (Az5 ds) with
   | none=>rw[hrs] at h; cases h
   | some r =>
     obtain⟨d,ns,os⟩:=r;rw[hrs,Bex] at h;simp only at h;cases hc:(ns.all fun n=>!(os.contains n)) with
     | false=>rw[hc] at h; cases h
     | true =>
       rw[hc,Bep,Bes] at h;subst h
       have hdis:∀n∈ns,n ∉ os:=fun n hn hno=>by have:=List.all_eq_true.1 hc n hn;simp[hno] at this
       refine⟨_,O4 A os,Acd hr,hA.below,⟨fun i b hb=>?_,fun i j b hi hj=>?_⟩,Azs hm hdis 6 _ _ _ ns os hrs (fun _ h=>h) (fun _ h=>h) hone⟩
       ·obtain⟨_,p,hp,hl,hpb⟩:=Sr hb;exact hm.blkB i p b hp (by rw[hl]; simp) hpb
       ·obtain⟨_,p,hp,hl,hpb⟩:=Sr hi;obtain⟨_,q,hq,hl',hqb⟩:=Sr hj;exact hm.inj i j p q b hp hq (by rw[hl]; simp) (by rw[hl']; simp) hpb hqb
theorem A8l{P:Program}{E:Env}(he:Ke P E){fuel:Nat}{f:FuncId}{fn:Func}{body:Code}(hf:P.funcs[f]?=some fn)(hb:fn.body=some body){args:List DV}{out:DV}(h:Bv E fuel fn body args=some out):Sh P f args out:=by
 intro w vals I hI hv;refine calls_of_wp hf hb ?_;unfold Bv at h;have hlen:args.length=vals.size:=by have:=hv.length; simpa using this
 have hh:G1 (E:=E) ⟨fun _=>False,fun t=>(vals++y0 (fn.ntmps-vals.size) undef).getD t undef⟩ I w.heap.size w ⟨args++zp (fn.ntmps-args.length) .undef,[]⟩ ⟨vals++y0 (fn.ntmps-vals.size) undef,[]⟩ w:=by
  refine⟨fun _=>none,rfl,by simp only[Array.size_append,vZ,Bfh,xq]; omega,Below.refl _ _,Bfj _,hI,fun n p h=>(by cases h),fun n p b h=>(by cases h),fun n m p q b h=>(by cases h),fun t=>?_,fun b h=>h.elim,fun t _=>rfl⟩;have hw:M8 (Lq I) (B1 I w.heap.size (fun _=>none) w):=⟨fun b hb=>⟨hI b hb,.inl hb,fun n p h=>(by cases h)⟩,rfl,fun _=>rfl,fun _=>rfl⟩
  have hl:=Bh.G8 hw _ _ hv;rcases Bfm t args.length with hlt | hge
  ·obtain⟨v,h1,h2⟩:=hl.getD t hlt;simp only[Bez,yX hlt] at h2 ⊢;have hlt':t<vals.size:=by omega
   have e:(vals++y0 (fn.ntmps-vals.size) undef).getD t undef=v:=by rw[yf,wV hlt'];rw[Array.getElem?_toList] at h1;rw[h1]; rfl
   rw[e]; exact h2
  ·rw[Bez,Bf3 hge,xY];split<;>simp only[Bf9,xn,Au]
 refine T1 he fuel out body 0 _ _ _ _ h _ _ hh _ (fun st a w' hk hh'=>?_) (fun id st a w' hk=>by cases hk) (fun st a w' hk hh'=>?_)
 ·obtain⟨v,own,h1,h2,h3,h4⟩:=As8 he.ty hk hh';have hd:a.defers=[]:=by obtain⟨A,hA⟩:=hh'; exact hA.defers
  exact⟨hd,v,h1,v,own,rfl,h2,h3,h4⟩
 ·obtain⟨v,own,h1,h2,h3,h4⟩:=As8 he.ty hk hh';have hd:a.defers=[]:=by obtain⟨A,hA⟩:=hh'; exact hA.defers
  exact⟨hd,v,h1,v,own,rfl,h2,h3,h4⟩
open Go.RowKit (Below)
inductive AT where
 | b
 | i (k:IntKind)
 | s (k:IntKind)
 | fl
 | nb
 | st (l:List AT)
 | fn (g:FuncId) (l:List AT)
 | fm (g:FuncId) (l:List AT)
 | cp (l:List AT)
 | rs (sz:Nat) (l:List (List AT))
 | rl (sz:Nat)
inductive Hr where
 | b (x:Bool)
 | i (x:Int)
 | l (x:List Int)
 | f (x:Nat)
 | r (x:List (List DV))
def Aol:AT->DV->Option Hr
 | .b,.bool x=>some (.b x)
 | .i k,.int k' x=>bif decide (k=k') then some (.i x) else none
 | .s _,.nil=>some (.l [])
 | .s k,.ints .arg k' l=>bif decide (k=k') then some (.l l) else none
 | .fl,.fl n=>some (.f n)
 | .nb,.nb n=>some (.f n)
 | .rl _,.nil=>some (.r [])
 | .rl sz,.recs .arg sz' rows=>bif zg sz sz' then some (.r rows) else none
 | _,_=>none
def Abu:List AT->List DV->Option (List Hr)
 | [],[]=>some []
 | t::ts,d::ds=>match Aol t d with
   | some a=>match Abu ts ds with
     | some as=>some (a::as)
     | none=>none
   | none=>none
 | _,_=>none
def Xa:List AT->List DV->Option (List Hr)
 | [],[]=>some []
 | .cp l::ts,.cellp cs::ds=>match Abu l cs with
   | some as=>match Xa ts ds with
     | some bs=>some (as++bs)
     | none=>none
   | none=>none
 | .st l::ts,.agg cs::ds=>match Abu l cs with
   | some as=>match Xa ts ds with
     | some bs=>some (as++bs)
     | none=>none
   | none=>none
 | t::ts,d::ds=>match Aol t d with
   | some a=>match Xa ts ds with
     | some bs=>some (a::bs)
     | none=>none
   | none=>none
 | _,_=>none
def Ak5:List (List AT)->List (List DV)->Option (List Hr)
 | [],[]=>some []
 | l::ls,cs::rows=>match Abu l cs with
   | some as=>match Ak5 ls rows with
     | some bs=>some (as++bs)
     | none=>none
   | none=>none
 | _,_=>none
def Ol:List AT->List DV->Option (List Hr)
 | [],[]=>some []
 | .rs sz ls::ts,.recs .arg sz' rows::ds=>bif zg sz sz' then
  match Ak5 ls rows with
  | some as=>match Ol ts ds with
    | some bs=>some (as++bs)
    | none=>none
  | none=>none
   else none
 | .fm g l::ts,.fn g' fs []::ds=>bif zg g g' then
  match Xa l fs with
  | some as=>match Ol ts ds with
    | some bs=>some (as++bs)
    | none=>none
  | none=>none
   else none
 | .fn g l::ts,.fn g' [] cs::ds=>bif zg g g' then
  match Xa l cs with
  | some as=>match Ol ts ds with
    | some bs=>some (as++bs)
    | none=>none
  | none=>none
   else none
 | .cp l::ts,.cellp cs::ds=>match Xa l cs with
   | some as=>match Ol ts ds with
     | some bs=>some (as++bs)
     | none=>none
   | none=>none
 | .st l::ts,.agg cs::ds=>match Xa l cs with
   | some as=>match Ol ts ds with
     | some bs=>some (as++bs)
     | none=>none
   | none=>none
 | t::ts,d::ds=>match Aol t d with
   | some a=>match Ol ts ds with
     | some bs=>some (a::bs)
     | none=>none
   | none=>none
 | _,_=>none
inductive Gb:List AT->List Hr->List DV->Prop
 | nil:Gb [] [] []
 | b {ts as ds} (x:Bool):Gb ts as ds->Gb (.b::ts) (.b x::as) (.bool x::ds)
 | i {ts as ds} (k:IntKind) (x:Int):Gb ts as ds->Gb (.i k::ts) (.i x::as) (.int k x::ds)
 | s {ts as ds} (k:IntKind) (x:List Int):Gb ts as ds->Gb (.s k::ts) (.l x::as) (.ints .arg k x::ds)
 | fl {ts as ds} (x:Nat):Gb ts as ds->Gb (.fl::ts) (.f x::as) (.fl x::ds)
 | nb {ts as ds} (x:Nat):Gb ts as ds->Gb (.nb::ts) (.f x::as) (.nb x::ds)
 | rl {ts as ds} (sz:Nat) (x:List (List DV)):Gb ts as ds->Gb (.rl sz::ts) (.r x::as) (.recs .arg sz x::ds)
 | st {l ts as cs bs ds}:Gb l as cs->Gb ts bs ds->Gb (.st l::ts) (as++bs) (.agg cs::ds)
 | fn {g l ts as cs bs ds}:Gb l as cs->Gb ts bs ds->Gb (.fn g l::ts) (as++bs) (.fn g [] cs::ds)
 | fm {g l ts as cs bs ds}:Gb l as cs->Gb ts bs ds->Gb (.fm g l::ts) (as++bs) (.fn g cs []::ds)
 | cp {l ts as cs bs ds}:Gb l as cs->Gb ts bs ds->Gb (.cp l::ts) (as++bs) (.cellp cs::ds)
 | rs0 {sz ts bs ds}:Gb ts bs ds->Gb (.rs sz []::ts) bs (.recs .arg sz []::ds)
 | rs1 {sz l ls ts as cs bs rows ds}:Gb l as cs->Gb (.rs sz ls::ts) bs (.recs .arg sz rows::ds)->Gb (.rs sz (l::ls)::ts) (as++bs) (.recs .arg sz (cs::rows)::ds)
theorem A0c{c:Ctx}{w:World}{k:IntKind}{v:Value}(h:Au c w .nil v):Au c w (.ints .arg k []) v:=by simp only[Au] at h ⊢;subst h;exact⟨none,0,rfl,Bfj _,.inl trivial⟩
theorem A0b{c:Ctx}{w:World}{sz:Nat}{v:Value}(h:Au c w .nil v):Au c w (.recs .arg sz []) v:=by simp only[Au] at h ⊢;subst h;exact⟨none,0,rfl,Bfj _,.inl trivial⟩
theorem Ak6{t:AT}{d:DV}{a:Hr}(h:Aol t d=some a):∃d',(∀ts as ds,Gb ts as ds->Gb (t::ts) (a::as) (d'::ds))/\∀c w v,Au c w d v->Au c w d' v:=by
 unfold Aol at h;split at h
 ·simp only[Bes] at h; subst h;exact⟨_,fun _ _ _ he=>.b _ he,fun _ _ _ h=>h⟩
 ·rename_i k k' x;by_cases e:k=k'
  ·subst e;simp only[decide_true,Bep,Bes] at h; subst h;exact⟨_,fun _ _ _ he=>.i _ _ he,fun _ _ _ h=>h⟩
  ·simp[e] at h
 ·rename_i k;simp only[Bes] at h; subst h;exact⟨_,fun _ _ _ he=>.s k _ he,fun _ _ _ h=>A0c h⟩
 ·rename_i k k' x;by_cases e:k=k'
  ·subst e;simp only[decide_true,Bep,Bes] at h; subst h;exact⟨_,fun _ _ _ he=>.s _ _ he,fun _ _ _ h=>h⟩
  ·simp[e] at h
 ·simp only[Bes] at h; subst h;exact⟨_,fun _ _ _ he=>.fl _ he,fun _ _ _ h=>h⟩
 ·simp only[Bes] at h; subst h;exact⟨_,fun _ _ _ he=>.nb _ he,fun _ _ _ h=>h⟩
 ·rename_i sz;simp only[Bes] at h; subst h;exact⟨_,fun _ _ _ he=>.rl sz _ he,fun _ _ _ h=>A0b h⟩
 ·rename_i sz sz' rows;cases hg:zg sz sz' with
  | false=>rw[hg] at h; cases h
  | true =>rw[hg,Bep] at h;obtain rfl:=Be7 hg;simp only[Bes] at h; subst h;exact⟨_,fun _ _ _ he=>.rl sz _ he,fun _ _ _ h=>h⟩
 ·cases h
theorem Adu:∀{ts:List AT} {ds:List DV} {as:List Hr},Abu ts ds=some as->∃ds',Gb ts as ds'/\∀c w vs,Bh c w ds vs->Bh c w ds' vs
 | [],[],as,h=>by simp only[Abu,Bes] at h; subst h;exact⟨[],.nil,fun _ _ _ h=>h⟩
 | t::ts,d::ds,as,h=>by
   simp only[Abu] at h;cases h1:Aol t d with
   | none=>rw[h1] at h; cases h
   | some a =>
     cases h2:Abu ts ds with
     | none=>rw[h1,h2] at h; cases h
     | some bs =>rw[h1,h2] at h;simp only[Bes] at h; subst h;obtain⟨d',i1,i2⟩:=Ak6 h1;obtain⟨ds',j1,j2⟩:=Adu h2;refine⟨d'::ds',i1 _ _ _ j1,fun c w vs hv=>?_⟩;rw[Bh.Df] at hv ⊢;obtain⟨u,us,e,hu,hus⟩:=hv;exact⟨u,us,e,i2 _ _ _ hu,j2 _ _ _ hus⟩
 | [],_::_,as,h=>by simp[Abu] at h
 | _::_,[],as,h=>by simp[Abu] at h
theorem T2:∀{ts:List AT} {ds:List DV} {as:List Hr},Xa ts ds=some as->∃ds',Gb ts as ds'/\∀c w vs,Bh c w ds vs->Bh c w ds' vs
 | ts,ds,as,h=>by
   unfold Xa at h;split at h
   ·simp only[Bes] at h; subst h;exact⟨[],.nil,fun _ _ _ h=>h⟩
   ·rename_i l ts cs ds;cases h1:Abu l cs with
    | none=>rw[h1] at h; cases h
    | some a =>
      cases h2:Xa ts ds with
      | none=>rw[h1,h2] at h; cases h
      | some bs =>rw[h1,h2] at h;simp only[Bes] at h; subst h;obtain⟨cs',i1,i2⟩:=Adu h1;obtain⟨ds',j1,j2⟩:=T2 h2;refine⟨.cellp cs'::ds',.cp i1 j1,fun c w vs hv=>?_⟩;rw[Bh.Df] at hv ⊢;obtain⟨u,us,e,hu,hus⟩:=hv;refine⟨u,us,e,?_,j2 _ _ _ hus⟩;simp only[Au] at hu ⊢;obtain⟨b,o,vs,e,hb,hh,hc⟩:=hu;exact⟨b,o,vs,e,hb,i2 _ _ _ hh,hc⟩
   ·rename_i l ts cs ds;cases h1:Abu l cs with
    | none=>rw[h1] at h; cases h
    | some a =>
      cases h2:Xa ts ds with
      | none=>rw[h1,h2] at h; cases h
      | some bs =>rw[h1,h2] at h;simp only[Bes] at h; subst h;obtain⟨cs',i1,i2⟩:=Adu h1;obtain⟨ds',j1,j2⟩:=T2 h2;refine⟨.agg cs'::ds',.st i1 j1,fun c w vs hv=>?_⟩;rw[Bh.Df] at hv ⊢;obtain⟨u,us,e,hu,hus⟩:=hv;refine⟨u,us,e,?_,j2 _ _ _ hus⟩;simp only[Au] at hu ⊢;obtain⟨vs,e,hh⟩:=hu;exact⟨vs,e,i2 _ _ _ hh⟩
   ·rename_i t ts d ds _ _;cases h1:Aol t d with
    | none=>rw[h1] at h; cases h
    | some a =>
      cases h2:Xa ts ds with
      | none=>rw[h1,h2] at h; cases h
      | some bs =>rw[h1,h2] at h;simp only[Bes] at h; subst h;obtain⟨d',i1,i2⟩:=Ak6 h1;obtain⟨ds',j1,j2⟩:=T2 h2;refine⟨d'::ds',i1 _ _ _ j1,fun c w vs hv=>?_⟩;rw[Bh.Df] at hv ⊢;obtain⟨u,us,e,hu,hus⟩:=hv;exact⟨u,us,e,i2 _ _ _ hu,j2 _ _ _ hus⟩
   ·cases h
theorem At3:∀{ls:List (List AT)} {rows:List (List DV)} {as:List Hr},Ak5 ls rows=some as ->
 ∃rows',(∀sz ts bs ds,Gb ts bs ds->Gb (.rs sz ls::ts) (as++bs) (.recs .arg sz rows'::ds))/\rows'.length=rows.length/\∀c w vs,D5 c w rows vs->D5 c w rows' vs
 | [],[],as,h=>by simp only[Ak5,Bes] at h; subst h;exact⟨[],fun _ _ _ _ h=>.rs0 h,rfl,fun _ _ _ h=>h⟩
 | l::ls,cs::rows,as,h=>by
   simp only[Ak5] at h;cases h1:Abu l cs with
   | none=>rw[h1] at h; cases h
   | some a =>
     cases h2:Ak5 ls rows with
     | none=>rw[h1,h2] at h; cases h
     | some bs =>
       rw[h1,h2] at h;simp only[Bes] at h; subst h;obtain⟨cs',i1,i2⟩:=Adu h1;obtain⟨rows',j1,j2,j3⟩:=At3 h2;refine⟨cs'::rows',fun sz ts b ds he=>?_,by simp[j2],fun c w vs hv=>?_⟩
       ·rw[List.append_assoc]; exact .rs1 i1 (j1 _ _ _ _ he)
       ·simp only[D5] at hv ⊢;obtain⟨u,us,e,hu,hus⟩:=hv;exact⟨u,us,e,i2 _ _ _ hu,j3 _ _ _ hus⟩
 | [],_::_,as,h=>by simp[Ak5] at h
 | _::_,[],as,h=>by simp[Ak5] at h
theorem Ov:∀{ts:List AT} {ds:List DV} {as:List Hr},Ol ts ds=some as->∃ds',Gb ts as ds'/\∀c w vs,Bh c w ds vs->Bh c w ds' vs
 | ts,ds,as,h=>by
   unfold Ol at h;split at h
   ·simp only[Bes] at h; subst h;exact⟨[],.nil,fun _ _ _ h=>h⟩
   ·rename_i sz ls ts sz' rows ds;cases hg:zg sz sz' with
    | false=>rw[hg] at h; cases h
    | true =>
    rw[hg,Bep] at h;obtain rfl:=Be7 hg;cases h1:Ak5 ls rows with
    | none=>rw[h1] at h; cases h
    | some a =>
      cases h2:Ol ts ds with
      | none=>rw[h1,h2] at h; cases h
      | some bs =>rw[h1,h2] at h;simp only[Bes] at h; subst h;obtain⟨rows',i1,i3,i2⟩:=At3 h1;obtain⟨ds',j1,j2⟩:=Ov h2;refine⟨.recs .arg sz rows'::ds',i1 _ _ _ _ j1,fun c w vs hv=>?_⟩;rw[Bh.Df] at hv ⊢;obtain⟨u,us,e,hu,hus⟩:=hv;refine⟨u,us,e,?_,j2 _ _ _ hus⟩;simp only[Au] at hu ⊢;obtain⟨a,cap,e,hc,hh⟩:=hu;refine⟨a,cap,by rw[i3]; exact e,by rw[i3]; exact hc,hh.imp (fun h=>?_) fun⟨b,o,rs,e1,e2,e3,e4,e5⟩=>⟨b,o,rs,e1,e2,i2 _ _ _ e3,e4,e5⟩⟩;rw[h] at i3;exact Bfq i3
   ·rename_i g l ts g' cs ds;cases hg:zg g g' with
    | false=>rw[hg] at h; cases h
    | true =>
    rw[hg,Bep] at h;obtain rfl:=Be7 hg;cases h1:Xa l cs with
    | none=>rw[h1] at h; cases h
    | some a =>
      cases h2:Ol ts ds with
      | none=>rw[h1,h2] at h; cases h
      | some bs =>rw[h1,h2] at h;simp only[Bes] at h; subst h;obtain⟨cs',i1,i2⟩:=T2 h1;obtain⟨ds',j1,j2⟩:=Ov h2;refine⟨.fn g cs' []::ds',.fm i1 j1,fun c w vs hv=>?_⟩;rw[Bh.Df] at hv ⊢;obtain⟨u,us,e,hu,hus⟩:=hv;refine⟨u,us,e,?_,j2 _ _ _ hus⟩;simp only[Au] at hu ⊢;obtain⟨fs',vs,e,hf,hh⟩:=hu;exact⟨fs',vs,e,i2 _ _ _ hf,hh⟩
   ·rename_i g l ts g' cs ds;cases hg:zg g g' with
    | false=>rw[hg] at h; cases h
    | true =>
    rw[hg,Bep] at h;obtain rfl:=Be7 hg;cases h1:Xa l cs with
    | none=>rw[h1] at h; cases h
    | some a =>
      cases h2:Ol ts ds with
      | none=>rw[h1,h2] at h; cases h
      | some bs =>rw[h1,h2] at h;simp only[Bes] at h; subst h;obtain⟨cs',i1,i2⟩:=T2 h1;obtain⟨ds',j1,j2⟩:=Ov h2;refine⟨.fn g [] cs'::ds',.fn i1 j1,fun c w vs hv=>?_⟩;rw[Bh.Df] at hv ⊢;obtain⟨u,us,e,hu,hus⟩:=hv;refine⟨u,us,e,?_,j2 _ _ _ hus⟩;simp only[Au] at hu ⊢;obtain⟨fs',vs,e,hf,hh⟩:=hu;exact⟨fs',vs,e,hf,i2 _ _ _ hh⟩
   ·rename_i l ts cs ds;cases h1:Xa l cs with
    | none=>rw[h1] at h; cases h
    | some a =>
      cases h2:Ol ts ds with
      | none=>rw[h1,h2] at h; cases h
      | some bs =>rw[h1,h2] at h;simp only[Bes] at h; subst h;obtain⟨cs',i1,i2⟩:=T2 h1;obtain⟨ds',j1,j2⟩:=Ov h2;refine⟨.cellp cs'::ds',.cp i1 j1,fun c w vs hv=>?_⟩;rw[Bh.Df] at hv ⊢;obtain⟨u,us,e,hu,hus⟩:=hv;refine⟨u,us,e,?_,j2 _ _ _ hus⟩;simp only[Au] at hu ⊢;obtain⟨b,o,vs,e,hb,hh,hc⟩:=hu;exact⟨b,o,vs,e,hb,i2 _ _ _ hh,hc⟩
   ·rename_i l ts cs ds;cases h1:Xa l cs with
    | none=>rw[h1] at h; cases h
    | some a =>
      cases h2:Ol ts ds with
      | none=>rw[h1,h2] at h; cases h
      | some bs =>rw[h1,h2] at h;simp only[Bes] at h; subst h;obtain⟨cs',i1,i2⟩:=T2 h1;obtain⟨ds',j1,j2⟩:=Ov h2;refine⟨.agg cs'::ds',.st i1 j1,fun c w vs hv=>?_⟩;rw[Bh.Df] at hv ⊢;obtain⟨u,us,e,hu,hus⟩:=hv;refine⟨u,us,e,?_,j2 _ _ _ hus⟩;simp only[Au] at hu ⊢;obtain⟨vs,e,hh⟩:=hu;exact⟨vs,e,i2 _ _ _ hh⟩
   ·rename_i t ts d ds _ _ _ _ _;cases h1:Aol t d with
    | none=>rw[h1] at h; cases h
    | some a =>
      cases h2:Ol ts ds with
      | none=>rw[h1,h2] at h; cases h
      | some bs =>rw[h1,h2] at h;simp only[Bes] at h; subst h;obtain⟨d',i1,i2⟩:=Ak6 h1;obtain⟨ds',j1,j2⟩:=Ov h2;refine⟨d'::ds',i1 _ _ _ j1,fun c w vs hv=>?_⟩;rw[Bh.Df] at hv ⊢;obtain⟨u,us,e,hu,hus⟩:=hv;exact⟨u,us,e,i2 _ _ _ hu,j2 _ _ _ hus⟩
   ·cases h
def A6(ts:List AT)(pre:List Hr->Bool)(out:List Hr->DV):Fy where
 pre:=fun args=>match Ol ts args with
  | some as=>pre as
  | none=>false
 out:=fun args=>match Ol ts args with
  | some as=>out as
  | none=>.undef
inductive Wk(drops:List Nat):DV->DV->Prop
 | refl {d:DV} (h:Gp 1 [] d=true) (ho:∀i e k l,d≠.ints (.own i e) k l) (hr:∀i e k l,d≠.recs (.own i e) k l):Wk drops d d
 | nil (g:Aoz) (k:IntKind):Wk drops .nil (.ints g k [])
 | fresh (k:IntKind) (l:List Int):Wk drops (.ints .fresh k l) (.ints .arg k l)
 | keep (i:Nat) (e:TypeId) (k:IntKind) (l:List Int) (h:i ∉ drops):Wk drops (.ints (.own i e) k l) (.ints (.own i e) k l)
 | keepR (i:Nat) (e:TypeId) (sz:Nat) (l:List (List DV)) (h:i ∉ drops):Wk drops (.recs (.own i e) sz l) (.recs (.own i e) sz l)
 | nilR (g:Aoz) (sz:Nat):Wk drops .nil (.recs g sz [])
 | dropR (i:Nat) (e:TypeId) (sz:Nat) (l:List (List DV)) (h:i∈drops):Wk drops (.recs (.own i e) sz l) (.recs .fresh sz l)
 | drop (i:Nat) (e:TypeId) (k:IntKind) (l:List Int) (h:i∈drops):Wk drops (.ints (.own i e) k l) (.ints .fresh k l)
 | dropA (i:Nat) (e:TypeId) (k:IntKind) (l:List Int) (h:i∈drops):Wk drops (.ints (.own i e) k l) (.ints .arg k l)
 | agg {l l':List DV} (h:l.length=l'.length) (hw:∀(j:Nat) d d',l[j]?=some d->l'[j]?=some d'->Wk drops d d'):Wk drops (.agg l) (.agg l')
 | tup {l l':List DV} (h:l.length=l'.length) (hw:∀(j:Nat) d d',l[j]?=some d->l'[j]?=some d'->Wk drops d d'):Wk drops (.tup l) (.tup l')
def Ka(drops:List Nat)(own:Nat->Option Nat)(i:Nat):Option Nat:=if i∈drops then none else own i
theorem Pd{drops:List Nat}{own:Nat->Option Nat}{i b:Nat}(h:Ka drops own i=some b):own i=some b/\i ∉ drops:=by
 unfold Ka at h;split at h
 ·cases h
 ·exact⟨h,‹_›⟩
theorem Xg{w:World}{base:Nat}{e:TypeId}{k:IntKind}{l:List Int}{v:Value}(ho:w.ownsRow base e 1 v l.length (l.map (Value.int k))){ok:Nat->Prop}(hok:∀b,v.ownBlock=some b->ok b) :
 ∃a cap,v=.slice a l.length cap/\l.length<=cap/\(l=[]\/∃b o,a=some ⟨b,o,none⟩/\ok b/\∀(i:Nat) n,l[i]?=some n->w.cell? ⟨b,o+i,none⟩=some (.int k n)):=by
 have:=Mv (p:=⟨.live,.row v 1⟩) rfl ho (Gx ho) (ok:=ok) hok;simp only[zW,ym] at this;exact this
theorem Wk.rel{drops:List Nat}{d d':DV}(h:Wk drops d d'){I:Nat->Prop}{own:Nat->Option Nat}{w w':World}(ho:Auc own w w'):∀v,Au (E4 I own w w') w' d v->Au (E4 I (Ka drops own) w w') w' d' v:=by
 have hok:∀b,(E4 I own w w').ok b->(E4 I (Ka drops own) w w').ok b:=by
  rintro b ⟨h1,h2,h3⟩
  exact⟨h1,h2,fun i hi=>h3 i (Pd hi).1⟩
 have hblk:∀i b,i∈drops->own i=some b->(E4 I (Ka drops own) w w').ok b/\w.heap.size<=b:=by intro i b hi hb;obtain⟨h1,h2⟩:=ho.lt i b hb;refine⟨⟨h2,.inr h1,fun j hj=>?_⟩,h1⟩;obtain⟨h3,h4⟩:=Pd hj;rw[ho.inj j i b h3 hb] at h4;exact h4 hi
 induction h with
 | @refl d h h1 h2 =>
   intro v hv
   have hl:Pg (({ E4 I own w w' with own:=fun _=>none }:Ctx).only []) w' (E4 I (Ka drops own) w w') w' :=⟨hok,rfl,rfl,fun _ _ h=>(by cases h),fun n p hp=>(by simp[Ctx.only] at hp),fun _ _ _=>rfl,fun _ _ h=>(by cases h)⟩
   refine Au.Em hl d v (Akd [] 1 d v h ?_);cases d with
   | ints g k l =>
     cases g with
     | own i e=>exact absurd rfl (h1 i e k l)
     | _=>simp only[Au] at hv ⊢; exact hv
   | recs g k l =>
     cases g with
     | own i e=>exact absurd rfl (h2 i e k l)
     | _=>simp only[Au] at hv ⊢; exact hv
   | agg l =>
     cases l with
     | nil=>simp only[Au] at hv ⊢; simpa[Bh] using hv
     | cons a l=>simp[Gp] at h
   | tup l =>
     cases l with
     | nil=>simp only[Au] at hv ⊢; simpa[Bh] using hv
     | cons a l=>simp[Gp] at h
   | fn g a c =>
     cases a with
     | cons _ _=>simp[Gp] at h
     | nil =>
       cases c with
       | cons _ _=>simp[Gp] at h
       | nil=>simp only[Au] at hv ⊢; simpa[Bh] using hv
   | gd c d=>simp[Gp] at h
   | oref n=>simp[Gp] at h
   | sref n o m=>simp[Gp] at h
   | ptr n i j=>simp[Gp] at h
   | undef=>simp only[Au]
   | _=>simp only[Au] at hv ⊢; exact hv
 | nil g k =>
   intro v hv;simp only[Au] at hv;subst hv;cases g with
   | own i e=>simp only[Au]; exact⟨World.ownsRow_nil w' _ e 1,fun b hb=>by cases hb⟩
   | _=>simp only[Au]; exact⟨none,0,rfl,Bfj _,.inl trivial⟩
 | nilR g sz =>
   intro v hv;simp only[Au] at hv;subst hv;cases g with
   | own i e=>simp only[Au]; exact⟨[],by simp[D5],by simp,World.ownsRow_nil w' _ e sz,fun b hb=>by cases hb⟩
   | _=>simp only[Au]; exact⟨none,0,rfl,Bfj _,.inl trivial⟩
 | dropR i e sz l h =>intro v hv;simp only[Au] at hv ⊢;obtain⟨rows,h1,h2,h3,h4⟩:=hv;have hr:=D5.Em (c:=(E4 I own w w').bare) (c':=(E4 I (Ka drops own) w w').bare) ⟨hok,rfl,rfl,fun _ _ h=>(by cases h),fun _ _ h=>(by cases h),fun _ _ _=>rfl,fun _ _ h=>(by cases h)⟩ _ _ h1;have:=Mu (p:=⟨.live,.row v sz⟩) rfl hr h2 h3 (by have:=Gx h3; exact this) (ok:=fun b=>(E4 I (Ka drops own) w w').ok b/\w.heap.size<=b) (fun b hb=>hblk i b h (h4 b hb));simp only[zW,ym] at this;obtain⟨a,cap,e1,e2,e3⟩:=this;exact⟨a,cap,e1,e2,e3.imp id fun⟨b,o,rows',e4,e5,e6,e7,e8⟩=>⟨b,o,rows',e4,⟨e5.1,rfl,e5.2⟩,e6,e7,e8⟩⟩
 | fresh k l =>intro v hv;simp only[Au] at hv ⊢;obtain⟨a,cap,e,h1,h2⟩:=hv;exact⟨a,cap,e,h1,h2.imp id fun⟨b,o,h3,h4,h5⟩=>⟨b,o,h3,hok b h4.1,h5⟩⟩
 | keep i e k l h =>intro v hv;simp only[Au] at hv ⊢;exact⟨hv.1,fun b hb=>by show Ka drops own i=some b; unfold Ka; rw[Bfb h]; exact hv.2 b hb⟩
 | keepR i e sz l h =>intro v hv;simp only[Au] at hv ⊢;obtain⟨rows,h1,h2,h3,h4⟩:=hv;refine⟨rows,?_,h2,h3,fun b hb=>by show Ka drops own i=some b; unfold Ka; rw[Bfb h]; exact h4 b hb⟩;exact D5.Em (c:=(E4 I own w w').bare) (c':=(E4 I (Ka drops own) w w').bare) ⟨hok,rfl,rfl,fun _ _ h=>(by cases h),fun _ _ h=>(by cases h),fun _ _ _=>rfl,fun _ _ h=>(by cases h)⟩ _ _ h1
 | drop i e k l h =>intro v hv;simp only[Au] at hv ⊢;exact Xg hv.1 fun b hb=>⟨(hblk i b h (hv.2 b hb)).1,rfl,(hblk i b h (hv.2 b hb)).2⟩
 | dropA i e k l h =>intro v hv;simp only[Au] at hv ⊢;exact Xg hv.1 fun b hb=>(hblk i b h (hv.2 b hb)).1
 | @agg l l' h hw ih =>
   intro v hv;simp only[Au] at hv ⊢;obtain⟨vs,e,hl⟩:=hv;refine⟨vs,e,Bh.Pl (by rw[<- h]; exact hl.length) fun j d v hd hv=>?_⟩;have hlt:j<l.length:=by rw[h]; exact(xG.1 hd).1
   obtain⟨u,hu,hr⟩:=hl.get j _ (Be6 hlt);rw[hv] at hu; cases hu;exact ih j _ d (Be6 hlt) hd v hr
 | @tup l l' h hw ih =>
   intro v hv;simp only[Au] at hv ⊢;obtain⟨vs,e,hl⟩:=hv;refine⟨vs,e,Bh.Pl (by rw[<- h]; exact hl.length) fun j d v hd hv=>?_⟩;have hlt:j<l.length:=by rw[h]; exact(xG.1 hd).1
   obtain⟨u,hu,hr⟩:=hl.get j _ (Be6 hlt);rw[hv] at hu; cases hu;exact ih j _ d (Be6 hlt) hd v hr
theorem Sh.Aar{P:Program}{f:FuncId}{args:List DV}{out out':DV}(h:Sh P f args out){drops:List Nat}(hw:Wk drops out out'):Sh P f args out':=by
 intro w vals I hI hv;refine(h w vals I hI hv).mono ?_
 rintro e w' ⟨v,own,he,hb,ho,hr⟩
 refine⟨v,Ka drops own,he,hb,⟨fun i b hi=>ho.lt i b (Pd hi).1,fun i j b hi hj=>ho.inj i j b (Pd hi).1 (Pd hj).1⟩,hw.rel ho v hr⟩
theorem Sh.args{P:Program}{f:FuncId}{args args':List DV}{out:DV}(h:Sh P f args out)(ha:∀c w vs,Bh c w args' vs->Bh c w args vs):Sh P f args' out :=fun w vals I hI hv=>h w vals I hI (ha _ _ _ hv)
theorem Vf{P:Program}{E:Env}(he:Ke P E){f:FuncId}{fn:Func}{body:Code}(hf:P.funcs[f]?=some fn)(hb:fn.body=some body){ts:List AT}{pre:List Hr->Bool}{out:List Hr->DV}
 (h:∀as ds,Gb ts as ds->pre as=true->∃fuel d drops,Bv E fuel fn body ds=some d/\Wk drops d (out as)):Acx P f (A6 ts pre out):=by
 intro args ha;simp only[A6] at ha ⊢;cases hd:Ol ts args with
 | none=>rw[hd] at ha; cases ha
 | some as =>rw[hd] at ha;simp only at ha ⊢;obtain⟨ds,h1,h2⟩:=Ov hd;obtain⟨fuel,d,drops,h3,h4⟩:=h as ds h1 ha;exact((A8l he hf hb h3).Aar h4).args h2
structure Pt(β:Type) where
 b:Nat
 c:Code
 Kn:St->Option β
 Kx:Nat->St->Option β
 Kr:St->Option β
def descend{β:Type}(E:Env)(n:Nat):List Nat->List Nat->Nat->Code->(St->Option β)->(Nat->St->Option β)->(St->Option β)->Pt β
 | 0::p,ms,b,.seq x y,Kn,Kx,Kr=>descend E n p ms b x (fun st'=>den E n b y st' Kn Kx Kr) Kx Kr
 | _::p,ms,b,.seq _ y,Kn,Kx,Kr=>descend E n p ms b y Kn Kx Kr
 | 0::p,ms,b,.cond _ x _,Kn,Kx,Kr=>descend E n p ms b x Kn Kx Kr
 | _::p,ms,b,.cond _ _ y,Kn,Kx,Kr=>descend E n p ms b y Kn Kx Kr
 | _::p,ms,_,.block id c,Kn,Kx,Kr=>descend E n p ms id c Kn (fun id' st'=>cond (id'==id) (Kn st') (Kx id' st')) Kr
 | _::p,ms,b,.scope c,Kn,Kx,Kr=>descend E n p ms b c Kn Kx Kr
 | _::p,m::ms,b,.loop c,_,Kx,Kr=>descend E n p ms b c (fun st2=>match canon (E.hint b) st2 with | some st3=>Z4 (E.hint b) (den E n b c) m st3 Kx Kr | none=>none) Kx Kr
 | _,_,b,c,Kn,Kx,Kr=>⟨b,c,Kn,Kx,Kr⟩
def cutAt(E:Env)(n:Nat)(fn:Func)(body:Code)(p ms:List Nat)(st:St):Option DV :=
 match descend E n p ms 0 body (fun st=>Agz E fn st) (fun _ _=>none) (fun st=>Agz E fn st) with
 | ⟨b,.seq (.region _ ops draw) y,Kn,Kx,Kr⟩=>Ajp (Amz E ops draw (fun st'=>den E n b y st' Kn Kx Kr)) st
 | ⟨_,.region _ ops draw,Kn,_,_⟩=>Ajp (Amz E ops draw Kn) st
 | _=>none
def A1y(E:Env)(n:Nat)(fn:Func)(body:Code)(p ms:List Nat)(st:St):Option DV :=
 match descend E n p ms 0 body (fun st=>Agz E fn st) (fun _ _=>none) (fun st=>Agz E fn st) with
 | ⟨b,.seq (.region _ ops draw) y,Kn,Kx,Kr⟩=>Amz E ops draw (fun st'=>den E n b y st' Kn Kx Kr) st
 | ⟨_,.region _ ops draw,Kn,_,_⟩=>Amz E ops draw Kn st
 | _=>none
theorem D3(E:Env)(n:Nat)(fn:Func)(body:Code)(p ms:List Nat)(st:St):cutAt E n fn body p ms st=A1y E n fn body p ms st:=by unfold cutAt A1y;split<;>simp only[Ahr]
def B2(E:Env)(n:Nat)(fn:Func)(body:Code)(p ms:List Nat)(m:Nat)(st:St):Option DV :=
 match descend E n p ms 0 body (fun st=>Agz E fn st) (fun _ _=>none) (fun st=>Agz E fn st) with
 | ⟨b,.loop c,_,Kx,Kr⟩=>Z4 (E.hint b) (den E n b c) m st Kx Kr
 | _=>none
def atL(i:Nat):List (Nat × DV)->DV
 | []=>.undef
 | (j,d)::l=>bif zg i j then d else atL i l
def Bbn(l:List (Nat × DV)):Nat->Nat->List DV
 | 0,_=>[]
 | k+1,i=>atL i l::Bbn l k (i+1)
def F3(n:Nat)(l:List (Nat × DV)):List DV:=Bbn l n 0
def Ad(x:Int):Int:=IntKind.i64.wrap x
def Bo(x:Int):Int:=IntKind.u64.wrap x
def Ly(x:Int):Int:=IntKind.u32.wrap x
def Gl(k:IntKind)(x y:Int):Int:=k.wrap (zj k.bits x &&& zj k.bits y).toNat
def Kc(k:IntKind)(x y:Int):Int:=k.wrap (zj k.bits x ||| zj k.bits y).toNat
def A57(k:IntKind)(x y:Int):Int:=k.wrap (zj k.bits x ^^^ zj k.bits y).toNat
def I4(k:IntKind)(x y:Int):Int:=k.wrap (zj k.bits x &&& ~~~(zj k.bits y)).toNat
def Cj(k:IntKind)(x y:Int):Int:=k.wrap (x*2^(min y.toNat k.bits))
def Eo(k:IntKind)(x y:Int):Int:=x.fdiv (2^(min y.toNat k.bits))
def Bq(p:Prop):Bool:=@decide p (v8 p)
theorem Ak{p:Prop}:Bq p=true↔p:=by unfold Bq; exact @decide_eq_true_iff p (v8 p)
def Aj(f:Func):Code:=f.body.getD .skip
def Cw:List (Nat × Fy)->Nat->Option Fy
 | [],_=>none
 | (m,e)::l,n=>bif zg m n then some e else Cw l n
def Aui:List (Nat × TI)->Nat->Option TI
 | [],_=>none
 | (m,e)::l,n=>bif zg m n then some e else Aui l n
theorem ifT{α:Type}{R:Bool}{A A' B:α}(h:R=true)(ha:A=A'):(cond R A B)=A':=by rw[h,ha]; rfl
theorem Ax{α:Type}{R:Bool}{A A':Option α}(h:R=true)(ha:A=A'):(cond R A none)=A':=ifT h ha
theorem Co{α:Type}{R S:Bool}{A A' B B':α}(h:R=S)(ha:A=A')(hb:B=B'):(cond R A B)=cond S A' B':=by rw[h,ha,hb]
theorem Es{α:Type}{R:Bool}{A A' B B':α}(ha:A=A')(hb:B=B'):(cond R A B)=cond R A' B':=by rw[ha,hb]
structure E8(P:Program)(g:FuncId)(e:Fy):Prop where
 meets:Acx P g e
 call:∀(args:Array Value) (w:World),(callFunc g args).run P w=.ok (.enter g args) w
inductive Hh(P:Program):List (Nat × Fy)->Prop
 | nil:Hh P []
 | cons {g e l}:E8 P g e->Hh P l->Hh P ((g,e)::l)
theorem Hh.get{P:Program}{l:List (Nat × Fy)}(h:Hh P l){g:Nat}{e:Fy}(hg:Cw l g=some e):E8 P g e:=by
 induction h with
 | nil=>cases hg
 | @cons g' e' l h1 h2 ih =>
   simp only[Cw] at hg;cases hb:zg g' g with
   | true =>rw[hb] at hg;simp only[Bep,Bes] at hg;have:=Be7 hb;subst this hg;exact h1
   | false=>rw[hb] at hg; exact ih hg
theorem Mm{P:Program}{f:FuncId}{fn:Func}{body:Code}(hf:P.funcs[f]?=some fn)(hn:(fn.name== "runtime.NumGoroutine")=false)(hb:fn.body=some body)(args:Array Value)(w:World) :
 (callFunc f args).run P w=.ok (.enter f args) w:=by
 have h1:fn.name≠ "runtime.NumGoroutine":=by simpa using hn
 simp[callFunc,hf,h1,hb]
inductive W3(P:Program):List (Nat × TI)->Prop
 | nil:W3 P []
 | cons {t ti l}:Cz P t ti->W3 P l->W3 P ((t,ti)::l)
theorem W3.get{P:Program}{l:List (Nat × TI)}(h:W3 P l){t:Nat}{ti:TI}(hg:Aui l t=some ti):Cz P t ti:=by
 induction h with
 | nil=>cases hg
 | @cons t' ti' l h1 h2 ih =>
   simp only[Aui] at hg;cases hb:zg t' t with
   | true =>rw[hb] at hg;simp only[Bep,Bes] at hg;have:=Be7 hb;subst this hg;exact h1
   | false=>rw[hb] at hg; exact ih hg
theorem Dh{P:Program}{t:TypeId}{ti:TI}{z:Value}(h:(P.info? t).map (fun i=>(i.zero,i.size,i.bytes))=some (some z,ti.size,ti.bytes))(hz:Alm ti.zero z.cells.toList)(hs:z.cells.size=ti.size)
 (h1:∀u∈z.cells.toList,u.oneCell'=true) (hd:Dd P t ti.kind):Cz P t ti:=by
 cases hi:P.info? t with
 | none=>rw[hi] at h; cases h
 | some i =>rw[hi] at h;simp only[Option.map_some,Bes,Bey] at h;exact⟨⟨i,z,hi,h.2.1,h.2.2,h.1,hz,hs,h1⟩,hd⟩
def Avn(ts:List AT)(pre:List Hr->Bool)(out:List Hr->DV)(mu:List Hr->Nat)(n:Nat):Fy:=A6 ts (fun as=>pre as&&Bq (mu as<n)) out
theorem Aq6{P:Program}{E:Nat->Env}{f:FuncId}{fn:Func}{body:Code}(hf:P.funcs[f]?=some fn)(hb:fn.body=some body){ts:List AT}{pre:List Hr->Bool}{out:List Hr->DV}(mu:List Hr->Nat)
 (he:∀n,Acx P f (Avn ts pre out mu n)->Ke P (E n))
 (h:∀n as ds,Gb ts as ds->pre as=true->mu as<n+1->∃fuel d drops,Bv (E n) fuel fn body ds=some d/\Wk drops d (out as)):Acx P f (A6 ts pre out):=by
 have key:∀n,Acx P f (Avn ts pre out mu n):=by
  intro n
  induction n with
  | zero =>
    intro args ha;simp only[Avn,A6] at ha;split at ha
    ·simp only[Be0,Ak] at ha; omega
    ·cases ha
  | succ n ih =>
    refine Vf (he n ih) hf hb fun as ds hd hp=>?_
    simp only[Be0,Ak] at hp;exact h n as ds hd hp.1 hp.2
 intro args ha;simp only[A6] at ha;cases hd:Ol ts args with
 | none=>rw[hd] at ha; cases ha
 | some as =>rw[hd] at ha;have:=key (mu as+1) args (by simp only[Avn,A6,hd,Be0,Ak]; exact⟨ha,Nat.lt_succ_self _⟩);simp only[Avn,A6] at this ⊢;exact this
theorem Ti{P:Program}(w:World){t:TypeId}{ti:TI}(hf:Cz P t ti)(ha:ti.agg=false){xs:Array Value}{i:Nat}{v:Value}(hv:xs[i]?=some v):(part t xs i).run P w=.ok v w:=by simp[part,hf.Y9 w,ha,hv]
theorem Aeh{z:Bool}{l m:List DV}(h:sameShape (.bool z::l) m=true):∃b m',m=.bool b::m'/\sameShape l m'=true:=by
 cases m with
 | nil=>simp[sameShape] at h
 | cons d m'=>cases d<;>simp[sameShape] at h; exact⟨_,_,rfl,h⟩
theorem Wa{k:IntKind}{z:Int}{l m:List DV}(h:sameShape (.int k z::l) m=true):∃b m',m=.int k b::m'/\sameShape l m'=true:=by
 cases m with
 | nil=>simp[sameShape] at h
 | cons d m'=>cases d<;>simp[sameShape] at h; obtain⟨rfl,h⟩:=h; exact⟨_,_,rfl,h⟩
theorem Ahy{m:List DV}(h:sameShape [] m=true):m=[]:=by
 cases m with
 | nil=>rfl
 | cons d m'=>cases d<;>simp[sameShape] at h
theorem A8z{P:Program}{g:FuncId}{e:Fy}(h:E8 P g e){vals:Array Value}{w:World}{args:List DV}{I:Nat->Prop}(hI:∀b,I b->b<w.heap.size)(ha:Bh (Lq I) w args vals.toList)
 (hp:e.pre args=true) (ho:e.out args=.bool true):Calls P g vals w fun e w'=>e=.returned (.bool true)/\Below w.heap.size w w':=by
 refine(h.meets args hp w vals I hI ha).mono ?_
 rintro e w' ⟨v,own,he,hb,_,hv⟩
 rw[ho] at hv;simp only[Au] at hv;subst hv;exact⟨he,hb⟩
def Bca(E:Env)(n:Nat)(_fn:Func)(body:Code)(p ms:List Nat)(m:Nat)(st:St):Option Unit :=
 match descend E n p ms 0 body (fun _=>some ()) (fun _ _=>none) (fun _=>some ()) with
 | ⟨b,.loop c,_,Kx,Kr⟩=>Z4 (E.hint b) (den E n b c) m st Kx Kr
 | _=>none
def Ahc(e:TypeId)(k:IntKind)(st:St):Option (List Int):=match st.tmps.getD 0 .undef with
 | .oref n=>match look st.heap n with
   | some (false,.ints e' k' l)=>bif e==e'&&decide (k=k') then some l else none
   | _=>none
 | _=>none
def wrD(E:Env)(fuel:Nat)(fn:Func)(body:Code)(e:TypeId)(k:IntKind)(l:List Int)(ds:List DV):Option (List Int) :=den E fuel 0 body ⟨(.oref 1000::ds)++zp (fn.ntmps-(ds.length+1)) .undef,[(1000,false,.ints e k l)]⟩ (Ahc e k) (fun _ _=>none) (Ahc e k)
def Zx(E:Env)(n:Nat)(_fn:Func)(body:Code)(e:TypeId)(k:IntKind)(p ms:List Nat)(m:Nat)(st:St):Option (List Int) :=
 match descend E n p ms 0 body (Ahc e k) (fun _ _=>none) (Ahc e k) with
 | ⟨b,.loop c,_,Kx,Kr⟩=>Z4 (E.hint b) (den E n b c) m st Kx Kr
 | _=>none
theorem A9i{P:Program}{E:Env}(he:Ke P E)(hnp:0<E.np){f:FuncId}{fn:Func}{body:Code}(hf:P.funcs[f]?=some fn)(hb:fn.body=some body)(hres:fn.results.toList=[])
 (hcall:∀(args:Array Value) (w:World),(callFunc f args).run P w=.ok (.enter f args) w) {W:Writer}
 (h:∀l ds,l.length<=maxLen->W.pre l ds=true->∃ds' fuel,(∀c w vs,Bh c w ds vs->Bh c w ds' vs)/\wrD E fuel fn body W.elem W.kind l ds'=some (W.out l ds)):Sg P f W:=by
 refine⟨hcall,fun w v l ds vals hown hds hpre=>?_⟩;refine calls_of_wp hf hb ?_
 have hlen:l.length<=maxLen:=by
  rcases hown.2 with ⟨_,hn⟩ | ⟨g,cap,cur,_,_,_,hnc,hm,_,_⟩
  ·rw[hn]; exact zA _
  ·exact Bfw hnc hm
 obtain⟨ds',fuel,hds',h⟩:=h l ds hlen hpre;have hds:=hds' _ _ _ hds;generalize W.out l ds=out at h;unfold wrD at h
 let A:Nat->Option Place:=fun n=>if n=1000 then some ⟨.live,.row v 1⟩ else none
 have hA:∀{n p},A n=some p->n=1000/\p=⟨.live,.row v 1⟩:=by
  intro n p hp;have hp:(if n=1000 then some (⟨.live,.row v 1⟩:Place) else none)=some p:=hp;by_cases hn:n=1000
  ·rw[Bfc hn] at hp; cases hp; exact⟨hn,rfl⟩
  ·rw[Bfb hn] at hp; cases hp
 have hone:v.oneCell'=true:=by rcases hown.2 with ⟨hv,_⟩ | ⟨g,cap,cur,hv,_⟩<;>rw[hv]<;>rfl
 have hsz:∀b,v.ownBlock=some b->b<w.heap.size:=fun b hb=>(hown.lt b hb).2
 have hl:ds'.length=vals.length:=hds.length
 have hh:G1 (E:=E) ⟨fun b=>b<w.heap.size/\v.ownBlock≠some b,fun t=>((v::vals).toArray++y0 (fn.ntmps-(v::vals).toArray.size) undef).getD t undef⟩ (fun _=>False) 0 w
  ⟨(.oref 1000::ds')++zp (fn.ntmps-(ds'.length+1)) .undef,[(1000,false,.ints W.elem W.kind l)]⟩
  ⟨(v::vals).toArray++y0 (fn.ntmps-(v::vals).toArray.size) undef,[]⟩ w:=by
  refine⟨A,rfl,by simp only[Array.size_append,vZ,x7,Bfh,xq,zo]; omega,Below.refl _ _,zA _,fun b h=>h.elim,fun n p hp=>?_,fun n p b hp _ hpb=>?_,fun n m p q b hp hq _ _ _ _=>?_,fun t=>?_,fun b hb=>⟨hb.1,rfl,fun n p hp _ hpb=>?_⟩,fun t _=>rfl⟩
  ·obtain⟨rfl,rfl⟩:=hA hp;exact⟨_,rfl,rfl,v,rfl,hown⟩
  ·obtain⟨rfl,rfl⟩:=hA hp;exact⟨zA _,hsz b hpb⟩
  ·exact(hA hp).1.trans (hA hq).1.symm
  ·have hw:M8 (Lq fun b=>b<w.heap.size/\v.ownBlock≠some b) (B1 (fun _=>False) 0 A w):=⟨fun b hb=>⟨hb.1,.inr (zA _),fun n p hp _ hpb=>by obtain⟨rfl,rfl⟩:=hA hp;exact hb.2 hpb⟩,rfl,fun _=>rfl,fun _=>rfl⟩
   have hall:Bh (B1 (fun _=>False) 0 A w) w (.oref 1000::ds') (v::vals):=by rw[Bh.Df];refine⟨_,_,rfl,?_,Bh.G8 hw _ _ hds⟩;simp only[Au];exact⟨hone,⟨.live,.row v 1⟩,(Bfc rfl:A 1000=some _),.inr ⟨1,rfl⟩⟩
   rcases Bfm t (.oref 1000::ds').length with hlt | hge
   ·obtain⟨u,h1,h2⟩:=hall.getD t hlt;simp only[Bez,yX hlt] at h2 ⊢;have hlt':t<(v::vals).toArray.size:=by simp only[x7,zo] at hlt ⊢; omega
    have e:((v::vals).toArray++y0 (fn.ntmps-(v::vals).toArray.size) undef).getD t undef=u:=by rw[yf,wV hlt',List.getElem?_toArray,h1]; rfl
    rw[e]; exact h2
   ·rw[Bez,Bf3 hge,xY];split<;>simp only[Bf9,xn,Au]
  ·obtain⟨rfl,rfl⟩:=hA hp;exact hb.2 hpb
 have fin:∀(st:St) (a:Act) (w':World),Ahc W.elem W.kind st=some out->G1 (E:=E) ⟨fun b=>b<w.heap.size/\v.ownBlock≠some b,fun t=>((v::vals).toArray++y0 (fn.ntmps-(v::vals).toArray.size) undef).getD t undef⟩ (fun _=>False) 0 w st a w' ->
  a.defers=[]/\∃u,(results fn a.tmps).run P w'=.ok u w'/\(∃u',Ending.returned u=.returned u')/\w'.ownsRow 0 W.elem 1 v out.length (out.map (Value.int W.kind))/\Below 0 w w'/\∀b,b<w.heap.size->v.ownBlock≠some b->w'.heap[b]?=w.heap[b]?:=by
  intro st a w' he' ⟨A',hA'⟩;obtain⟨vs,hv,hr⟩:=Aa7 (st:=st) he.ty hA' fn.results.toList [] (by rw[hres]; rfl);refine⟨hA'.defers,_,Acd hr,⟨_,rfl⟩,?_,hA'.below,fun b h1 h2=>(hA'.kept b ⟨h1,h2⟩).2.1⟩;have h0:=hA'.tmps 0;have hpin:=hA'.pin 0 hnp
  have hv0:a.tmps.getD 0 undef=v:=by rw[hpin];show((v::vals).toArray++y0 (fn.ntmps-(v::vals).toArray.size) undef).getD 0 undef=v;rw[yf,wV (by simp)]; rfl
  rw[hv0] at h0;unfold Ahc at he';split at he'
  ·rename_i n hn;rw[hn] at h0;simp only[Au] at h0;obtain⟨_,p,hp,hpd⟩:=h0;split at he'
   ·rename_i e' k' l' hlk;cases hc:(W.elem==e'&&decide (W.kind=k')) with
    | false=>rw[hc] at he'; simp at he'
    | true =>
      rw[hc,Bep,Bes] at he';subst he';simp only[Be0,beq_iff_eq,Bew] at hc;obtain⟨rfl,rfl⟩:=hc;have hm:Mem (fun _=>False) 0 A' st.heap w':=hA'.mem fun n p fo _ hl=>hl
      obtain⟨hlive,sv,hkind,hown'⟩:=Fk hm hp hlk;simp only[yd,if_false] at hlive;rcases hpd with hpd | ⟨size,hk⟩
      ·rw[hlive] at hpd; cases hpd
      ·rw[hkind] at hk; cases hk;exact hown'
   ·cases he'
  ·cases he'
 refine T1 he fuel out body 0 _ _ _ _ h _ _ hh _ (fun st a w' hk hh'=>?_) (fun id st a w' hk=>by cases hk) (fun st a w' hk hh'=>?_)
 ·obtain⟨h1,u,h2,h3⟩:=fin st a w' hk hh';exact⟨h1,u,h2,h3⟩
 ·obtain⟨h1,u,h2,h3⟩:=fin st a w' hk hh';exact⟨h1,u,h2,h3⟩
def Alq(e:TypeId)(k:IntKind)(ts:List AT)(pre:List Hr->Bool)(out:List Hr->List Int):Writer where
 elem:=e
 kind:=k
 pre:=fun l ds=>match Ol ts ds with
  | some as=>pre (.l l::as)
  | none=>false
 out:=fun l ds=>match Ol ts ds with
  | some as=>out (.l l::as)
  | none=>l
theorem Adz{P:Program}{E:Env}(he:Ke P E)(hnp:0<E.np){f:FuncId}{fn:Func}{body:Code}(hf:P.funcs[f]?=some fn)(hb:fn.body=some body)(hres:fn.results.toList=[])
 (hcall:∀(args:Array Value) (w:World),(callFunc f args).run P w=.ok (.enter f args) w) {e:TypeId} {k:IntKind} {ts:List AT} {pre:List Hr->Bool} {out:List Hr->List Int}
 (h:∀l as ds,Gb ts as ds->pre (.l l::as)=true->∃fuel,wrD E fuel fn body e k l ds=some (out (.l l::as))):Sg P f (Alq e k ts pre out):=by
 refine A9i he hnp hf hb hres hcall fun l ds _ hp=>?_
 simp only[Alq] at hp ⊢;cases hd:Ol ts ds with
 | none=>rw[hd] at hp; cases hp
 | some as =>rw[hd] at hp;obtain⟨ds',h1,h2⟩:=Ov hd;obtain⟨fuel,h3⟩:=h l as ds' h1 hp;exact⟨ds',fuel,h2,h3⟩
def A83(ts:List AT)(e1 e2:Fy):Fy where
 pre:=fun args=>match Ol ts args with
  | some _=>e1.pre args
  | none=>e2.pre args
 out:=fun args=>match Ol ts args with
  | some _=>e1.out args
  | none=>e2.out args
theorem E8.alt{P:Program}{g:FuncId}{ts:List AT}{e1 e2:Fy}(h1:E8 P g e1)(h2:E8 P g e2):E8 P g (A83 ts e1 e2):=by
 refine⟨fun args ha=>?_,h1.call⟩;simp only[A83] at ha ⊢;cases hd:Ol ts args with
 | none=>rw[hd] at ha; exact h2.meets args ha
 | some x=>rw[hd] at ha; exact h1.meets args ha
theorem E8.Aar{P:Program}{g:FuncId}{ts:List AT}{pre pre':List Hr->Bool}{out out':List Hr->DV}(h:E8 P g (A6 ts pre out))(drops:List Nat)
 (hw:∀ats,pre' ats=true->pre ats=true/\Wk drops (out ats) (out' ats)):E8 P g (A6 ts pre' out'):=by
 refine⟨fun args ha=>?_,h.call⟩;simp only[A6] at ha ⊢;cases hd:Ol ts args with
 | none=>rw[hd] at ha; cases ha
 | some x =>rw[hd] at ha;have:=h.meets args (by simp only[A6,hd]; exact(hw x ha).1);simp only[A6,hd] at this;exact this.Aar (hw x ha).2
def A11(K:List (List DV)->List DV->Prop):List DV->Prop
 | .recs .arg _ rows::ds=>K rows ds
 | _=>True
def Oo:Nat->List AT->(List Hr->List DV->Prop)->Prop
 | 0,_,_=>False
 | _+1,[],K=>K [] []
 | n+1,.b::ts,K=>∀x:Bool,Oo n ts fun as ds=>K (.b x::as) (.bool x::ds)
 | n+1,.i k::ts,K=>∀x:Int,Oo n ts fun as ds=>K (.i x::as) (.int k x::ds)
 | n+1,.s k::ts,K=>∀x:List Int,Oo n ts fun as ds=>K (.l x::as) (.ints .arg k x::ds)
 | n+1,.fl::ts,K=>∀x:Nat,Oo n ts fun as ds=>K (.f x::as) (.fl x::ds)
 | n+1,.nb::ts,K=>∀x:Nat,Oo n ts fun as ds=>K (.f x::as) (.nb x::ds)
 | n+1,.rl sz::ts,K=>∀x:List (List DV),Oo n ts fun as ds=>K (.r x::as) (.recs .arg sz x::ds)
 | n+1,.st l::ts,K=>Oo n l fun as cs=>Oo n ts fun bs ds=>K (as++bs) (.agg cs::ds)
 | n+1,.fn g l::ts,K=>Oo n l fun as cs=>Oo n ts fun bs ds=>K (as++bs) (.fn g [] cs::ds)
 | n+1,.fm g l::ts,K=>Oo n l fun as cs=>Oo n ts fun bs ds=>K (as++bs) (.fn g cs []::ds)
 | n+1,.cp l::ts,K=>Oo n l fun as cs=>Oo n ts fun bs ds=>K (as++bs) (.cellp cs::ds)
 | n+1,.rs sz []::ts,K=>Oo n ts fun as ds=>K as (.recs .arg sz []::ds)
 | n+1,.rs sz (l::ls)::ts,K=>Oo n l fun as cs=>Oo n (.rs sz ls::ts) fun bs ds=>A11 (fun rows ds=>K (as++bs) (.recs .arg sz (cs::rows)::ds)) ds
theorem Oo.go:∀(n:Nat) {ts:List AT} {as:List Hr} {ds:List DV} {K:List Hr->List DV->Prop},Oo n ts K->Gb ts as ds->K as ds:=by
 intro n
 induction n with
 | zero=>intro ts as ds K h _; exact h.elim
 | succ n ih =>
   intro ts as ds K h e;cases e with
   | nil=>exact h
   | b x e=>exact ih (K:=fun as ds=>K (.b x::as) (.bool x::ds)) (h x) e
   | i k x e=>exact ih (K:=fun as ds=>K (.i x::as) (.int k x::ds)) (h x) e
   | s k x e=>exact ih (K:=fun as ds=>K (.l x::as) (.ints .arg k x::ds)) (h x) e
   | fl x e=>exact ih (K:=fun as ds=>K (.f x::as) (.fl x::ds)) (h x) e
   | nb x e=>exact ih (K:=fun as ds=>K (.f x::as) (.nb x::ds)) (h x) e
   | rl sz x e=>exact ih (K:=fun as ds=>K (.r x::as) (.recs .arg sz x::ds)) (h x) e
   | @st _ _ a c _ _ e1 e2=>exact ih (K:=fun bs ds=>K (a++bs) (.agg c::ds)) (ih (K:=fun as cs=>Oo n _ fun bs ds=>K (as++bs) (.agg cs::ds)) h e1) e2
   | @fn g _ _ a c _ _ e1 e2=>exact ih (K:=fun bs ds=>K (a++bs) (.fn g [] c::ds)) (ih (K:=fun as cs=>Oo n _ fun bs ds=>K (as++bs) (.fn g [] cs::ds)) h e1) e2
   | @fm g _ _ a c _ _ e1 e2=>exact ih (K:=fun bs ds=>K (a++bs) (.fn g c []::ds)) (ih (K:=fun as cs=>Oo n _ fun bs ds=>K (as++bs) (.fn g cs []::ds)) h e1) e2
   | @cp _ _ a c _ _ e1 e2=>exact ih (K:=fun bs ds=>K (a++bs) (.cellp c::ds)) (ih (K:=fun as cs=>Oo n _ fun bs ds=>K (as++bs) (.cellp cs::ds)) h e1) e2
   | rs0 e=>exact ih (K:=fun as ds=>K as (.recs .arg _ []::ds)) h e
   | @rs1 sz _ _ _ a c _ _ _ e1 e2 =>have:=ih (K:=fun bs ds=>A11 (fun rows ds=>K (a++bs) (.recs .arg sz (c::rows)::ds)) ds) (ih (K:=fun as cs=>Oo n _ fun bs ds=>A11 (fun rows ds=>K (as++bs) (.recs .arg sz (cs::rows)::ds)) ds) h e1) e2;exact this
abbrev A2s(E:Env)(fn:Func)(ds:List DV)(out:DV):Prop:=∃N dv drops,Bv E N fn (Aj fn) ds=some dv/\Wk drops dv out
abbrev Hyp(E:Env)(fn:Func)(ts:List AT)(pre:List Hr->Bool)(out:List Hr->DV):Prop:=Oo 40 ts fun as ds=>pre as=true->A2s E fn ds (out as)
theorem Ij{P:Program}{E:Env}(he:Ke P E){f:FuncId}{fn:Func}(hf:P.funcs[f]?=some fn)(hb:fn.body=some (Aj fn))(hn:(fn.name== "runtime.NumGoroutine")=false){ts:List AT}{pre:List Hr->Bool}{out:List Hr->DV}
 (h:Oo 40 ts fun as ds=>pre as=true->A2s E fn ds (out as)):E8 P f (A6 ts pre out) :=
 ⟨Vf he hf hb fun _ _ e hp=>Oo.go 40 h e hp,Mm hf hn hb⟩
theorem An{x:Int}(h1:-9223372036854775808<=x)(h2:x<=9223372036854775807):Ad x=x:=Go.IntWalk.i64_in x ⟨h1,h2⟩
theorem Si(x:Int):Bo x=x%18446744073709551616:=by unfold Bo IntKind.wrap; simp[IntKind.bits,IntKind.signed]
theorem Axx(x:Int):Ly x=x%4294967296:=by unfold Ly IntKind.wrap; simp[IntKind.bits,IntKind.signed]
theorem Dx{x:Int}(h1:0<=x)(h2:x<18446744073709551616):Bo x=x:=by rw[Si]; omega
theorem Lx{x:Int}(h1:0<=x)(h2:x<4294967296):Ly x=x:=by rw[Axx]; omega
theorem A58(k:IntKind)(x y:Int):Eo k x y=x / 2^(min y.toNat k.bits):=by unfold Eo;exact Int.fdiv_eq_ediv_of_nonneg _ (Int.le_of_lt (Int.pow_pos (by decide)))
theorem J3(k:IntKind)(n s:Nat)(h:s<=k.bits):Eo k n s=((n / 2^s:Nat):Int):=by
 rw[A58,Ber,yw h]
 push_cast
 rfl
theorem He(n s:Nat)(h:s<=64):Cj .u64 n s=((n*2^s%2^64:Nat):Int):=by
 unfold Cj;rw[Ber,show IntKind.u64.bits=64 from rfl,yw h];show Bo _=_;rw[Si];show _=((n*2^s%18446744073709551616:Nat):Int)
 rw[Int.natCast_emod,Bfa,Int.natCast_pow];rfl
theorem Lc(b n:Nat):(zj b n).toNat=n%2^b:=by rw[BitVec.toNat_ofInt];rw[show((n:Int)%(2^b:Nat))=((n%2^b:Nat):Int) by push_cast; rfl,Ber]
theorem Yv{n:Nat}(h:n<2^64):IntKind.u64.wrap n=n:=by show Bo _=_;rw[Si];omega
theorem Aos{a b:Nat}(ha:a<2^64)(hb:b<2^64):Gl .u64 a b=((a &&& b:Nat):Int):=by unfold Gl;rw[BitVec.toNat_and,Lc,Lc,show IntKind.u64.bits=64 from rfl,Be2 ha,Be2 hb];exact Yv (Bfr Nat.and_le_left ha)
theorem Aag{a b:Nat}(ha:a<2^64)(hb:b<2^64):Kc .u64 a b=((a ||| b:Nat):Int):=by unfold Kc;rw[BitVec.toNat_or,Lc,Lc,show IntKind.u64.bits=64 from rfl,Be2 ha,Be2 hb];exact Yv (Nat.or_lt_two_pow ha hb)
theorem A2e{a b:Nat}(ha:a<2^64)(hb:b<2^64):A57 .u64 a b=((a ^^^ b:Nat):Int):=by unfold A57;rw[BitVec.toNat_xor,Lc,Lc,show IntKind.u64.bits=64 from rfl,Be2 ha,Be2 hb];exact Yv (Nat.xor_lt_two_pow ha hb)
theorem Li{a:Nat}(k:Nat)(ha:a<2^64)(hk:k<=64):Gl .u64 a ((2^k-1:Nat):Int)=((a%2^k:Nat):Int):=by rw[Aos ha (by have:=Be4 (n:=2) (by decide) hk; have:=Nat.pow_pos (a:=2) (n:=k) (by decide); omega),Nat.and_two_pow_sub_one_eq_mod]
theorem Q4{a b k:Nat}(hb:b<2^k):b ||| (a*2^k)=a*2^k+b:=by rw[xw,Bfd,v9 hb]
theorem Axk{a b k:Nat}(hb:b<2^k)(h:a*2^k+b<2^64):Kc .u64 b ((a*2^k:Nat):Int)=((a*2^k+b:Nat):Int):=by rw[Aag (by omega) (by omega),Q4 hb]
theorem Rf{a b k:Nat}(hb:b<2^k)(h:a*2^k+b<2^64):Kc .u64 ((a*2^k:Nat):Int) b=((a*2^k+b:Nat):Int):=by rw[Aag (by omega) (by omega),xw,Q4 hb]
theorem Ady{r:Nat}(hr:r<2^63):(2^63+r) ^^^ 2^63=r/\r ^^^ 2^63=2^63+r:=by
 have e2:=v9 hr 1;rw[Bfy] at e2
 have a1:r ^^^ 2^63=2^63+r:=by
  rw[e2];apply Nat.eq_of_testBit_eq;intro i;rw[Nat.testBit_xor,Nat.testBit_or,Nat.testBit_two_pow];by_cases hi:63=i
  ·subst hi;rw[Nat.testBit_lt_two_pow hr]; simp
  ·simp[hi]
 refine⟨?_,a1⟩;rw[<- a1,Nat.xor_assoc,Nat.xor_self,Nat.xor_zero]
theorem A2y{a:Nat}(ha:a<2^64):a ^^^ 2^63=if 2^63<=a then a-2^63 else a+2^63:=by
 by_cases h:2^63<=a
 ·rw[Bfc h];obtain⟨r,rfl⟩:∃r,a=2^63+r:=⟨a-2^63,by omega⟩
  rw[(Ady (by omega)).1]; omega
 ·rw[Bfb h,(Ady (by omega)).2]; omega
def Af(x:Int):Bool:=Bq (0<=x/\x<18446744073709551616)
theorem Bu{x:Int}(h:Af x=true):∃n:Nat,x=n/\n<2^64:=by unfold Af at h;rw[Ak] at h;exact⟨x.toNat,by omega,by omega⟩
theorem Cr{n:Nat}(h:n<2^64):Af n=true:=by unfold Af;rw[Ak];omega
inductive WkL(drops:List Nat):List DV->List DV->Prop
 | nil:WkL drops [] []
 | cons {d d' l l'}:Wk drops d d'->WkL drops l l'->WkL drops (d::l) (d'::l')
theorem WkL.length{drops:List Nat}{l l':List DV}(h:WkL drops l l'):l.length=l'.length:=by
 induction h with
 | nil=>rfl
 | cons _ _ ih=>simp[ih]
theorem WkL.get{drops:List Nat}{l l':List DV}(h:WkL drops l l'):∀(j:Nat) d d',l[j]?=some d->l'[j]?=some d'->Wk drops d d':=by
 induction h with
 | nil=>intro j d d' h; cases h
 | cons h1 _ ih =>
   intro j d d' h2 h3;cases j with
   | zero=>cases h2; cases h3; exact h1
   | succ j=>exact ih j d d' h2 h3
theorem Wk.H3{drops:List Nat}{l l':List DV}(h:WkL drops l l'):Wk drops (.agg l) (.agg l'):=.agg h.length h.get
theorem Wk.Ik{drops:List Nat}{l l':List DV}(h:WkL drops l l'):Wk drops (.tup l) (.tup l'):=.tup h.length h.get
theorem Wk.bool{drops:List Nat}{b:Bool}:Wk drops (.bool b) (.bool b):=.refl rfl (by intros; simp) (by intros; simp)
theorem Wk.int{drops:List Nat}{k:IntKind}{x:Int}:Wk drops (.int k x) (.int k x):=.refl rfl (by intros; simp) (by intros; simp)
theorem Wk.fl{drops:List Nat}{x:Nat}:Wk drops (.fl x) (.fl x):=.refl rfl (by intros; simp) (by intros; simp)
theorem Wk.Aai{drops:List Nat}{k:IntKind}{l:List Int}:Wk drops (.ints .arg k l) (.ints .arg k l):=.refl rfl (by intros; simp) (by intros; simp)
theorem Wk.Rd{drops:List Nat}{k:IntKind}{l:List Int}:Wk drops (.ints .fresh k l) (.ints .fresh k l):=.refl rfl (by intros; simp) (by intros; simp)
theorem Gb.Lf{as:List Hr}{ds:List DV}(h:Gb [] as ds):as=[]/\ds=[]:=by cases h; exact⟨rfl,rfl⟩
theorem Gb.Bbx{ts:List AT}{as:List Hr}{ds:List DV}(h:Gb (.b::ts) as ds):∃x as' ds',as=.b x::as'/\ds=.bool x::ds'/\Gb ts as' ds':=by cases h with | b x h=>exact⟨x,_,_,rfl,rfl,h⟩
theorem Gb.Aiq{k:IntKind}{ts:List AT}{as:List Hr}{ds:List DV}(h:Gb (.i k::ts) as ds):∃x as' ds',as=.i x::as'/\ds=.int k x::ds'/\Gb ts as' ds':=by cases h with | i k x h=>exact⟨x,_,_,rfl,rfl,h⟩
theorem Gb.Amm{k:IntKind}{ts:List AT}{as:List Hr}{ds:List DV}(h:Gb (.s k::ts) as ds):∃x as' ds',as=.l x::as'/\ds=.ints .arg k x::ds'/\Gb ts as' ds':=by cases h with | s k x h=>exact⟨x,_,_,rfl,rfl,h⟩
theorem Gb.A8b{ts:List AT}{as:List Hr}{ds:List DV}(h:Gb (.nb::ts) as ds):∃x as' ds',as=.f x::as'/\ds=.nb x::ds'/\Gb ts as' ds':=by cases h with | nb x h=>exact⟨x,_,_,rfl,rfl,h⟩
theorem Gb.Ari{g:FuncId}{l ts:List AT}{as:List Hr}{ds:List DV}(h:Gb (.fn g l::ts) as ds):∃a1 cs a2 ds',as=a1++a2/\ds=.fn g [] cs::ds'/\Gb l a1 cs/\Gb ts a2 ds':=by cases h with | fn h1 h2=>exact⟨_,_,_,_,rfl,rfl,h1,h2⟩
theorem Gb.Arq{l ts:List AT}{as:List Hr}{ds:List DV}(h:Gb (.cp l::ts) as ds):∃a1 cs a2 ds',as=a1++a2/\ds=.cellp cs::ds'/\Gb l a1 cs/\Gb ts a2 ds':=by cases h with | cp h1 h2=>exact⟨_,_,_,_,rfl,rfl,h1,h2⟩
end Go.Den
namespace Go.Ct
def K8(V k:Nat):Nat:=V / 2^k+(if 2^k<2*(V%2^k)\/(2*(V%2^k)=2^k/\V / 2^k%2=1) then 1 else 0)
def Lk(V:Nat)(s:Int):Nat:=K8 (V*2^(-s).toNat) s.toNat
def Qw(V:Nat)(s:Int):Bool:=decide (V*2^(-s).toNat%2^s.toNat=0)
def Ca(M:Nat)(E:Int):Int:=max (E+M.log2-52) (-1074)
def kept(M:Nat)(E:Int):Nat:=Lk M (Ca M E-E)
def Ea:Nat:=2047*2^52
def B9(M:Nat)(E:Int):Nat:=if M=0 then 0 else min ((Ca M E+1074).toNat*2^52+kept M E) Ea
def exact(M:Nat)(E:Int):Bool:=Qw M (Ca M E-E)
def flags(r:Nat)(ex:Bool):Nat:=if r=Ea then 5 else if ex then 0 else if 2^52<=r then 1 else 3
def flagsOf(M:Nat)(E:Int):Nat:=if M=0 then 0 else flags (B9 M E) (exact M E)
theorem Cm(k:Nat):0<2^k:=Nat.pow_pos (by decide)
theorem Qp(V:Nat):K8 V 0=V:=by unfold K8; simp[wc]
theorem Zc(V a k:Nat):K8 (V*2^a) (a+k)=K8 V k:=by
 unfold K8;have hA:=Cm a;have e:2^(a+k)=2^a*2^k:=Bfe 2 a k
 have hd:V*2^a / 2^(a+k)=V / 2^k:=by rw[e,Bfd V,Nat.mul_div_mul_left _ _ hA]
 have hm:V*2^a%2^(a+k)=2^a*(V%2^k):=by rw[e,Bfd V,ua]
 rw[hd,hm,e]
 have h1:(2^a*2^k<2*(2^a*(V%2^k)))↔(2^k<2*(V%2^k)):=by rw[y4 2];exact Nat.mul_lt_mul_left hA
 have h2:(2*(2^a*(V%2^k))=2^a*2^k)↔(2*(V%2^k)=2^k):=by rw[y4 2];exact Nat.mul_right_inj (by omega)
 simp only[h1,h2]
theorem mod_mul(V a k:Nat):(V*2^a%2^(a+k)=0)↔(V%2^k=0):=by
 have hA:=Cm a;rw[Bfe,Bfd V,ua];constructor
 ·intro h;rcases xx.1 h with h | h
  ·omega
  ·exact h
 ·intro h; rw[h]; rfl
theorem Ace(V k:Nat)(s:Int):Lk (V*2^k) (s+k)=Lk V s/\Qw (V*2^k) (s+k)=Qw V s:=by
 unfold Lk Qw;by_cases h0:0<=s
 ·have e1:(-(s+k)).toNat=0:=by omega
  have e2:(-s).toNat=0:=by omega
  have e3:(s+k).toNat=k+s.toNat:=by omega
  rw[e1,e2,e3,Bfn,Bfy,Bfy];exact⟨Zc V k _,by simp only[mod_mul]⟩
 ·by_cases h1:0<=s+k
  ·have e1:(-(s+k)).toNat=0:=by omega
   have e2:s.toNat=0:=by omega
   have e3:k=(s+k).toNat+(-s).toNat:=by omega
   rw[e1,e2,Bfn,Bfy]
   have e4:V*2^k=V*2^(-s).toNat*2^(s+k).toNat:=by rw[Bfg,<- Bfe,xu (-s).toNat,<- e3]
   rw[e4];refine⟨?_,?_⟩
   ·have:=Zc (V*2^(-s).toNat) (s+k).toNat 0;rw[Bfx] at this; exact this
   ·have:=mod_mul (V*2^(-s).toNat) (s+k).toNat 0;rw[Bfx,Bfn] at this;simp only[this]
  ·have e1:(s+k).toNat=0:=by omega
   have e2:s.toNat=0:=by omega
   have e3:(-s).toNat=k+(-(s+k)).toNat:=by omega
   rw[e1,e2,e3,Bfe,Bfg];exact⟨rfl,rfl⟩
theorem O9(M k:Nat)(hM:M≠0):(M*2^k).log2=M.log2+k:=by
 have hk:=Cm k
 have hne:M*2^k≠0:=by intro h;rcases xx.1 h with h | h<;>omega
 have h1:=zS hM;have h2:=yr (n:=M)
 have a:M.log2+k<=(M*2^k).log2:=by rw[zM hne,Bfe];exact Be1 _ h1
 have b:(M*2^k).log2<M.log2+k+1:=by rw[Bf5 hne,Nat.add_right_comm,Bfe];exact(xy hk).2 h2
 omega
theorem Z0{n a:Nat}(h1:2^a<=n)(h2:n<2^(a+1)):n.log2=a:=by
 have:=Cm a;have hn:n≠0:=by omega
 have b1:=(zM hn).2 h1;have b2:=(Bf5 hn).2 h2;omega
theorem Ard(M k:Nat)(E:Int)(hM:M≠0):Ca (M*2^k) (E-k)=Ca M E:=by unfold Ca; rw[O9 M k hM]; congr 1; omega
theorem Ko{M k:Nat}(hM:M≠0):M*2^k≠0:=by have:=Cm k;intro h;rcases xx.1 h with h | h<;>omega
theorem D1(M k:Nat)(E:Int):B9 (M*2^k) (E-k)=B9 M E/\flagsOf (M*2^k) (E-k)=flagsOf M E:=by
 by_cases hM:M=0
 ·subst hM; simp[B9,flagsOf]
 ·have hl:=Ard M k E hM;have e:Ca M E-(E-k)=Ca M E-E+k:=by omega
  have h1:B9 (M*2^k) (E-k)=B9 M E:=by unfold B9 kept;rw[Bfb (Ko hM),Bfb hM,hl,e,(Ace M k _).1]
  refine⟨h1,?_⟩;unfold flagsOf;rw[Bfb (Ko hM),Bfb hM,h1];unfold exact;rw[hl,e,(Ace M k _).2]
theorem Azq{V s d k:Nat}(hs:s%2=1)(h1:(s-1)*2^d<V)(h2:V<(s+1)*2^d)(hk:2<=k) :
 K8 V (d+k)=K8 s k/\V%2^(d+k)≠0/\s%2^k≠0:=by
 have hA:=Cm d;obtain⟨j,rfl⟩:∃j,k=j+2:=⟨k-2,by omega⟩
 have hB:2^(j+2)=4*2^j:=by rw[Bfe]; omega
 have hBp:=Cm (j+2);have hC:=Cm j;have hsd:=zG s (2^(j+2))
 have hr2:s%2^(j+2)%2=1:=by rw[hB,show 4*2^j=2*(2*2^j) by omega,Nat.mod_mul_right_mod]; exact hs
 have hrlt:=zv s hBp;generalize hq:s / 2^(j+2)=q at *
 generalize hr:s%2^(j+2)=r at *
 have hAB:2^(d+(j+2))=2^d*2^(j+2):=Bfe 2 d (j+2);generalize hBB:2^(j+2)=b at *
 generalize hAA:2^d=a at *
 have e1:(s-1)*a=q*(a*b)+(r-1)*a:=by
  have:s-1=b*q+(r-1):=by omega
  rw[this,Bft,Bfd b q,Bfg,Bfd b a]
 have e2:(s+1)*a=q*(a*b)+(r+1)*a:=by
  have:s+1=b*q+(r+1):=by omega
  rw[this,Bft,Bfd b q,Bfg,Bfd b a]
 have e3:(r+1)*a<=b*a:=Be1 a (by omega);rw[Bfd b a] at e3;rw[e1] at h1;rw[e2] at h2;have hdiv:V / (a*b)=q:=Nat.div_eq_of_lt_le (by omega) (by rw[Bft]; omega)
 have hmod:V%(a*b)=V-q*(a*b):=by have:=zG V (a*b);rw[hdiv,Bfd (a*b) q] at this; omega
 have hb2:b=2*(2*2^j):=by omega
 generalize hc:2^j=c at *
 have hR1:(r-1)*a<V-q*(a*b):=by omega
 have hR2:V-q*(a*b)<(r+1)*a:=by omega
 generalize hR:V-q*(a*b)=R at *
 have hab:a*b=2*(2*c*a):=by rw[hb2,Bfd a,Bfg]
 have key:(a*b<2*R\/(2*R=a*b/\q%2=1))↔(b<2*r\/(2*r=b/\q%2=1)):=by
  rw[hab,hb2];rcases Bfm r (2*c) with hlt | hge
  ·have:(r+1)*a<=2*c*a:=Be1 a (by omega);constructor<;>(intro h; omega)
  ·have hgt:2*c+1<=r:=by omega
   have:2*c*a<=(r-1)*a:=Be1 a (by omega);constructor
   ·intro _; left; omega
   ·intro _; left; omega
 refine⟨?_,?_,?_⟩
 ·unfold K8;rw[hAB,hdiv,hmod,hBB,hq,hr];simp only[key]
 ·rw[hAB,hmod];have:=zA ((r-1)*a);omega
 ·omega
theorem U3{V s d:Nat}{E:Int}(hs:s%2=1)(h1:(s-1)*2^d<V)(h2:V<(s+1)*2^d)(hl:Ca V E=Ca s (E+d))(hk:E+d+2<=Ca s (E+d)) :
 B9 V E=B9 s (E+d)/\flagsOf V E=flagsOf s (E+d):=by
 have hV:V≠0:=by omega
 have hs0:s≠0:=by omega
 generalize hL:Ca s (E+d)=L at *
 obtain⟨k,hk2⟩:∃k:Nat,L-(E+d)=k+2:=⟨(L-(E+d)-2).toNat,by omega⟩
 obtain⟨a1,a2,a3⟩:=Azq (k:=k+2) hs h1 h2 (by omega);have e1:(L-E).toNat=d+(k+2):=by omega
 have e2:(-(L-E)).toNat=0:=by omega
 have e3:(L-(E+d)).toNat=k+2:=by omega
 have e4:(-(L-(E+d))).toNat=0:=by omega
 have hr:B9 V E=B9 s (E+d):=by unfold B9 kept Lk;rw[Bfb hV,Bfb hs0,hl,hL,e1,e2,e3,e4];simp only[Bfn,Bfy];rw[a1]
 refine⟨hr,?_⟩;unfold flagsOf exact Qw;rw[Bfb hV,Bfb hs0,hr,hl,hL,e1,e2,e3,e4];simp only[Bfn,Bfy,a2,a3,decide_false]
theorem Vi{V s d:Nat}(hs:s%2=1)(hs3:3<=s)(h1:(s-1)*2^d<V)(h2:V<(s+1)*2^d):V.log2=s.log2+d:=by
 have hs0:s≠0:=by omega
 have a1:=zS hs0;have a2:=yr (n:=s);have hl:1<=s.log2:=by rw[zM hs0]; omega
 obtain⟨t,ht⟩:∃t,s.log2=t+1:=⟨s.log2-1,by omega⟩
 rw[ht] at a1 a2 ⊢;have ev1:2^(t+1)=2*2^t:=by rw[zD]; omega
 have ev2:2^(t+1+1)=2*(2*2^t):=by rw[zD,ev1]; omega
 refine Z0 ?_ ?_
 ·rw[Bfe];have:2^(t+1)*2^d<=(s-1)*2^d:=Be1 _ (by omega);omega
 ·have e:t+1+d+1=(t+1+1)+d:=by omega
  rw[e,Bfe];have:(s+1)*2^d<=2^(t+1+1)*2^d:=Be1 _ (by omega);omega
def Be(b:Nat):Bool:=decide (2^63<=b)
def D7(b:Nat):Nat:=b / 2^52%2048
def Dc(b:Nat):Nat:=b%2^52
def Ag(b:Nat):Nat:=if D7 b=2047 then (if Dc b=0 then 3 else 4) else if 0<D7 b then 2 else if 0<Dc b then 1 else 0
def Iy(b:Nat):Bool:=decide (D7 b<2047)
def Fz(b:Nat):Nat:=if 2^63<=b then b-2^63 else b+2^63
def Ap(b:Nat):Nat:=if D7 b=0 then Dc b else Dc b+2^52
def Aw(b:Nat):Int:=if D7 b=0 then -1074 else (D7 b:Int)-1075
def Bf(neg:Bool)(r:Nat):Nat:=if neg then 2^63+r else r
def Il(neg:Bool)(m:Nat):Int:=if neg then -(m:Int) else m
def Gc(b:Nat)(e:Int):Int:=Il (Be b) (Ap b*2^(Aw b-e).toNat)
def P1:Nat:=0x7ff8000000000000
def Lp(z:Nat)(S:Int)(e:Int):Nat × Nat :=if S=0 then (z,0) else (Bf (decide (S<0)) (B9 S.natAbs e),flagsOf S.natAbs e)
def Fh(a b:Nat):Nat × Nat :=
 if Ag a=4\/Ag b=4 then (P1,0)
 else if Ag a=3 then (if Ag b=3/\a≠b then (P1,16) else (a,0))
 else if Ag b=3 then (b,0)
 else Lp (Bf (Be a&&Be b) 0) (Gc a (min (Aw a) (Aw b))+Gc b (min (Aw a) (Aw b))) (min (Aw a) (Aw b))
def Agw(a b:Nat):Nat × Nat:=Fh a (Fz b)
def Ie(neg:Bool)(m:Nat)(e:Int)(Ia:Bool):Nat × Nat :=(Bf neg (B9 (4*m+Ia.toNat) (e-2)),flagsOf (4*m+Ia.toNat) (e-2))
def En(x:Int):Bool:=Be x.toNat
def Qb(x:Int):Int:=D7 x.toNat
def Dv(x:Int):Int:=Dc x.toNat
def Bb(x:Int):Int:=Ag x.toNat
def Dl(x:Int):Bool:=Iy x.toNat
def B7(x:Int):Int:=Fz x.toNat
def B4(x:Int):Int:=Ap x.toNat
def Bn(x:Int):Int:=Aw x.toNat
def Gr(neg:Bool)(m e:Int)(Ia:Bool):Int:=(Ie neg m.toNat e Ia).1
def Gq(neg:Bool)(m e:Int)(Ia:Bool):Int:=(Ie neg m.toNat e Ia).2
def De(a b:Int):Int:=(Fh a.toNat b.toNat).1
def Acw(a b:Int):Int:=(Fh a.toNat b.toNat).2
def Gg(a b:Int):Int:=(Agw a.toNat b.toNat).1
def Bbb(a b:Int):Int:=(Agw a.toNat b.toNat).2
theorem K9(b:Nat):D7 b<2048:=zv _ (by decide)
theorem L8(b:Nat):Dc b<4503599627370496:=zv _ (by decide)
theorem F8(b:Nat):Ap b<9007199254740992:=by have:=L8 b;unfold Ap; split<;>omega
theorem Da(b:Nat):-1074<=Aw b/\Aw b<=972:=by have:=K9 b;unfold Aw; split<;>omega
theorem Qn{m:Nat}{e:Int}(h1:2^52<=m)(h2:m<2^53)(he:-1074<=e):B9 m e=min ((e+1074).toNat*2^52+m) Ea:=by
 have hl:m.log2=52:=Z0 h1 h2;have hm:m≠0:=by omega
 have hle:Ca m e=e:=by unfold Ca; rw[hl]; omega
 unfold B9 kept;rw[Bfb hm,hle,Int.sub_self];unfold Lk;simp[Qp]
theorem Aem{m:Nat}(h2:m<2^52):B9 m (-1074)=m:=by
 by_cases hm:m=0
 ·subst hm; rfl
 ·have hl:m.log2<52:=(Bf5 hm).2 h2;have hle:Ca m (-1074)=-1074:=by unfold Ca; omega
  unfold B9 kept;rw[Bfb hm,hle,Int.sub_self];unfold Lk Ea;simp[Qp];omega
theorem K5(m:Nat)(e:Int):B9 m e<=Ea:=by
 unfold B9;split
 ·exact zA _
 ·exact Nat.min_le_right _ _
theorem Ft:Ea=9218868437227405312:=rfl
theorem Qa(m:Nat)(e:Int):B9 m e<2^63:=by have:=K5 m e;rw[Ft] at this;omega
theorem U2(n:Bool)(m:Nat)(e:Int):Bf n (B9 m e)<2^64:=by have:=Qa m e;unfold Bf; split<;>omega
theorem Ae6{r:Nat}(h:r<2^63):Fz r=2^63+r:=by unfold Fz; rw[Bfb (by omega)]; omega
open Go.Den
def Ot(m e:Int):Bool:=Bq (0<=m/\m<=9007199254740992/\-1074<=e/\e+m / 9007199254740992<=100000)
def Tl(m e:Int):Nat:=if 9007199254740992<=m then 1 else if m<4503599627370496 then 2+(e+1074).toNat else 0
def Zf(n:Bool)(m e:Int):Int:=Bf n (B9 m.toNat e)
def F0(m e:Int)(r:Bool):Bool :=Bq (0<=m/\m<18446744073709551616/\e<=50000/\(-1137<=e\/(m<4611686018427387904/\-1140<=e))/\(r=true->4503599627370496<=m\/e<=-1074))
def Hy(n D:Nat):Nat:=if n%2^D=0 then n / 2^D else 2*(n / 2^D / 2)+1
def G4(m d:Int):Int:=Hy m.toNat (min d.toNat 63)
def By(l:List Int):Bool:=Bq (l.length<4611686018427387904/\∀x∈l,Af x=true)
def E5(x:Nat):Nat:=if Ag x=4 then P1 else x
def Age(x:Int):Int:=E5 x.toNat
def H0(x:Nat):Int:=E5 x
def R9(x:Int):Bool:=Bq (0<=x)
theorem No(n:Nat):R9 (n:Int)=true:=Ak.2 (xd n)
theorem Zp{x:Int}(h:R9 x=true):∃n:Nat,x=n:=⟨x.toNat,by have:=Ak.1 h; omega⟩
theorem Bbe(a c:Nat):(a+1)*c+c=a*c+(c+c):=by rw[Bft,zC,Nat.add_assoc]
theorem A91:2^52+2^52=2^53:=by decide
theorem Bbd(a:Nat):(a+1)*2^52+2^52=a*2^52+2^53:=(Bbe a (2^52)).trans (congrArg (fun x=>a*2^52+x) A91)
theorem A67:2^52*2^1=2^53:=by decide
theorem A36{E:Int}:B9 (2^53) E=B9 (2^52) (E+1):=by
 have:=(D1 (2^52) 1 (E+1)).1;have e1:E+1-((1:Nat):Int)=E:=by omega
 rw[e1,A67] at this;exact this
theorem Azd{E:Int}(hE:-1074<=E):B9 (2^53) E=min ((E+1074).toNat*2^52+2^53) Ea:=by
 have e3:(E+1+1074).toNat=(E+1074).toNat+1:=by omega
 rw[A36,Qn (by decide) (by decide) (by omega),e3];exact congrArg (fun x=>min x Ea) (Bbd _)
theorem Ava{q:Nat}{E:Int}(h1:q<=2^53)(hE:-1074<=E)(h2:2^52<=q\/E=-1074):B9 q E=min ((E+1074).toNat*2^52+q) Ea:=by
 by_cases ha:q=2^53
 ·rw[ha]; exact Azd hE
 ·by_cases hb:2^52<=q
  ·exact Qn hb (by omega) hE
  ·obtain rfl:E=-1074:=h2.resolve_left hb;rw[Aem (by omega)];unfold Ea;simp;omega
theorem Avp{M D s:Nat}(hs:s<=1):K8 (4*M+s) (D+2)=M / 2^D+(if 0<D/\(2^(D-1)<M%2^D\/(M%2^D=2^(D-1)/\(s=1\/M / 2^D%2=1))) then 1 else 0) /\
 ((4*M+s)%2^(D+2)=0↔M%2^D=0/\s=0):=by
 have hp:2^(D+2)=2^D*4:=by rw[Bfe]
 have hA:=Cm D;have hdm:=zG M (2^D);have hlt:=zv M hA
 have hdiv:(4*M+s) / (2^D*4)=M / 2^D:=by rw[Bfd (2^D) 4,<- Bfi];congr 1; omega
 have hmod:(4*M+s)%(2^D*4)=4*(M%2^D)+s:=by
  have h:=zG (4*M+s) (2^D*4);rw[hdiv] at h;have e:2^D*4*(M / 2^D)=4*(2^D*(M / 2^D)):=by rw[Bfd (2^D) 4,Bfg]
  rw[e] at h;omega
 unfold K8;rw[hp,hdiv,hmod];generalize M%2^D=r at *
 generalize M / 2^D=q at *
 refine⟨?_,by omega⟩;congr 1
 have key:(2^D*4<2*(4*r+s)\/2*(4*r+s)=2^D*4/\q%2=1)↔(0<D/\(2^(D-1)<r\/(r=2^(D-1)/\(s=1\/q%2=1)))):=by
  cases D with
  | zero=>simp only[Bfn] at hlt ⊢; omega
  | succ d =>
    rw[zD] at hlt ⊢;simp only[yE];generalize 2^d=c at *
    omega
 simp only[key]
structure Drop(M:Nat)(e:Int)(D:Nat):Prop where
 le:D<=63
 stop:D<63->M / 2^D<2^53/\-1074<=e+D
 least:∀d,d<D->2^53<=M / 2^d\/e+d < -1074
def qOf(M D s:Nat):Nat:=M / 2^D+(if 0<D/\(2^(D-1)<M%2^D\/(M%2^D=2^(D-1)/\(s=1\/M / 2^D%2=1))) then 1 else 0)
theorem Azw{M D s:Nat}(h:M / 2^D<2^53):qOf M D s<=2^53:=by unfold qOf; split<;>omega
theorem Azx{M D s:Nat}:M / 2^D<=qOf M D s:=by unfold qOf; omega
theorem A8v{M D:Nat}{c:Nat}(h:M / 2^D<c):M<c*2^D:=(yI (Cm D)).1 h
theorem A01{M D:Nat}{c:Nat}(h:c<=M / 2^D):c*2^D<=M:=(y5 (Cm D)).1 h
theorem Afi{V:Nat}{E L:Int}(h:(E+V.log2-52=L/\-1074<=L)\/(E+V.log2-52<=L/\L=-1074)):Ca V E=L:=by unfold Ca; omega
theorem Awi{M s:Nat}(hs:s<=1)(hM:M≠0):(4*M+s).log2=M.log2+2:=by
 have h1:=zS hM;have h2:=yr (n:=M);refine Z0 ?_ ?_
 ·rw[Bfe]; omega
 ·have e:2^(M.log2+2+1)=2^(M.log2+1)*4:=by rw[show M.log2+2+1=M.log2+1+2 by omega,Bfe]
  omega
theorem Av9{M D s:Nat}{e:Int}(hD:Drop M e D)(hs:s<=1)(hV:4*M+s≠0)(hM:M<2^64)(he:-1137<=e\/(M<2^62/\-1140<=e))(hr:s=1->2^52<=M\/e<=-1074) :
 B9 (4*M+s) (e-2)=B9 (if e+D < -1074 then 0 else qOf M D s) (max (e+D) (-1074)) /\
 flagsOf (4*M+s) (e-2)=flags (B9 (4*M+s) (e-2)) (decide (M%2^D=0/\s=0)) /\
 (if e+D < -1074 then 0 else qOf M D s)<=2^53:=by
 have hA:=Cm D;by_cases hlow:e+D < -1074
 ·
  have hD63:D=63:=by
   rcases Bfm D 63 with h | h
   ·have:=(hD.stop h).2; omega
   ·have:=hD.le; omega
  subst hD63;have hM62:M<2^62:=by rcases he with h | h; omega; exact h.1
  have he2:-1140<=e:=by rcases he with h | h; omega; exact h.2
  have hV64:4*M+s<2^64:=by omega
  have hlog:(4*M+s).log2<64:=(Bf5 hV).2 hV64;have hl:Ca (4*M+s) (e-2)=-1074:=Afi (.inr ⟨by omega,rfl⟩);obtain⟨k,hk⟩:∃k:Nat,(-1074-(e-2)).toNat=66+k:=⟨(-1074-(e-2)).toNat-66,by omega⟩
  have e2:(-(-1074-(e-2))).toNat=0:=by omega
  have hp:2^66<=2^(66+k):=Be4 (by decide) (by omega);have hsm:4*M+s<2^(66+k):=by omega
  have hz:Lk (4*M+s) (-1074-(e-2))=0:=by unfold Lk K8;rw[e2,hk,Bfn,Bfy,yc hsm,Be2 hsm,Bfb (by omega)]
  have hru:B9 (4*M+s) (e-2)=0:=by unfold B9 kept;rw[Bfb hV,hl,hz];simp
  refine⟨?_,?_,?_⟩
  ·rw[hru,Bfc hlow]; rfl
  ·unfold flagsOf exact Qw;rw[Bfb hV,hl,e2,hk,Bfn,Bfy,Be2 hsm];congr 1;have h63:M%2^63=M:=Be2 (by omega);rw[h63,Be5];simp only[Bew];omega
  ·rw[Bfc hlow]; exact zA _
 ·have hmax:max (e+D) (-1074)=e+D:=by omega
  have hq:M / 2^D<2^53:=by
   rcases Bfm D 63 with h | h
   ·exact(hD.stop h).1
   ·have:D=63:=by have:=hD.le; omega
    subst this;exact Bfr (Nat.div_le_of_le_mul (show M<=2^63*2 by omega)) (by decide)
  obtain⟨c1,c2⟩:=Avp (M:=M) (D:=D) hs;rw[Bfb hlow,hmax];refine⟨?_,?_,Azw hq⟩
  all_goals
   by_cases hD0:D=0/\s=0
   ·obtain⟨rfl,rfl⟩:=hD0;have hM0:M≠0:=by omega
    obtain⟨s1,s2⟩:=D1 M 2 e;have e1:M*2^2=4*M+0:=by omega
    have e2:e-((2:Nat):Int)=e-2:=by omega
    rw[e1,e2] at s1 s2;have hq0:qOf M 0 0=M:=by unfold qOf; simp
    have hle:Ca M e<=e:=by have:M.log2<53:=(Bf5 hM0).2 (by simpa using hq);unfold Ca; simp only[wY,xP] at hlow; omega
    first
    | (rw[s1,hq0]; simp; done)
    | (rw[s2,s1]
       unfold flagsOf exact Qw;have z:(Ca M e-e).toNat=0:=by omega
       rw[Bfb hM0,z];simp[wc])
   ·
    have hl:Ca (4*M+s) (e-2)=e+D:=by
     by_cases hM0:M=0
     ·subst hM0;have hs1:s=1:=by omega
      subst hs1
      have hle:e+D=-1074:=by
       rcases y6 D with rfl | hpos
       ·have:=hr rfl; omega
       ·have h:=hD.least (D-1) (by omega);simp only[xe] at h;omega
      refine Afi (.inr ⟨?_,hle⟩);have:(4*0+1:Nat).log2=0:=by decide
      rw[this]; omega
     ·have hlog:=Awi hs hM0
      have hub:M.log2<53+D:=by rw[Bf5 hM0,Bfe]; exact A8v hq
      have hcase:52+D<=M.log2\/e+D=-1074:=by
       rcases y6 D with rfl | hpos
       ·have hs1:s=1:=by omega
        rcases hr hs1 with h | h
        ·left; rw[zM hM0]; simpa using h
        ·right; simp only[wY,xP] at hlow ⊢; omega
       ·rcases hD.least (D-1) (by omega) with h | h
        ·left;rw[zM hM0];have:=A01 h;have e1:2^(52+D)=2^53*2^(D-1):=by rw[<- Bfe]; congr 1; omega
         rw[e1]; exact this
        ·right; omega
      refine Afi ?_;rw[hlog];rcases hcase with h | h
      ·left; omega
      ·right; omega
    have e1:(e+D-(e-2)).toNat=D+2:=by omega
    have e2:(-(e+(D:Int)-(e-2))).toNat=0:=by omega
    have hkept:kept (4*M+s) (e-2)=qOf M D s:=by unfold kept Lk;rw[hl,e1,e2,Bfn,Bfy,c1]; rfl
    first
    | (have hbig:2^52<=qOf M D s\/e+D=-1074:=by
        rcases y6 D with rfl | hpos
        ·have hs1:s=1:=by omega
         rcases hr hs1 with h | h
         ·left; exact Bfw (by simpa using h) Azx
         ·right; simp only[wY,xP] at hlow ⊢; omega
        ·rcases hD.least (D-1) (by omega) with h | h
         ·left;refine Bfw ?_ Azx;rw[y5 hA];have:=A01 h;have e1:2^52*2^D=2^53*2^(D-1):=by rw[<- Bfe,<- Bfe]; congr 1; omega
          rw[e1]; exact this
         ·right; omega
       rw[Ava (Azw hq) (by omega) hbig];unfold B9;rw[Bfb hV,hl,hkept]; done)
    | (unfold flagsOf exact Qw
       rw[Bfb hV,hl,e1,e2,Bfn,Bfy];congr 1;rw[Be5];simp only[Bew];exact c2)
theorem Aba(n:Bool){r:Nat}(h:r<2^63):D7 (Bf n r)=r / 2^52:=by
 unfold D7 Bf; cases n
 ·simp only[yd,if_false]; omega
 ·simp only[if_true]; omega
theorem Yd(n:Bool)(r:Nat):Dc (Bf n r)=r%2^52:=by
 unfold Dc Bf; cases n
 ·rfl
 ·simp only[if_true]; omega
theorem Wr(n:Bool){r:Nat}(h:r<=Ea):Ag (Bf n r)=if r=Ea then 3 else if 2^52<=r then 2 else if 0<r then 1 else 0:=by
 rw[Ft] at *
 unfold Ag;rw[Aba n (by omega),Yd];by_cases h1:r=9218868437227405312
 ·subst h1; simp
 ·rw[Bfb h1,Bfb (by omega)];by_cases h2:2^52<=r
  ·rw[Bfc h2,Bfc (by omega)]
  ·rw[Bfb h2,Bfb (by omega)];by_cases h3:0<r
   ·rw[Bfc h3,Bfc (by omega)]
   ·rw[Bfb h3,Bfb (by omega)]
open Ieee
theorem A8w(neg:Bool)(V k:Nat):Toward.even.cut neg V k=K8 V k:=by
 unfold Toward.cut K8;simp only[yS,zC];by_cases h:k<=V.log2+2
 ·rw[yw h];congr 1;by_cases h1:2^k<2*(V%2^k)
  ·simp[h1]
  ·by_cases h2:2*(V%2^k)=2^k/\V / 2^k%2=1
   ·simp[h2.1,h2.2]
   ·simp[h1,h2];intro h3;have:=zv (V / 2^k) (show 0<2 by decide);omega
 ·rw[xN (by omega)];have hV:V<2^(V.log2+1):=yr;have e:2^(V.log2+2)=2*2^(V.log2+1):=by rw[zD,Bfd]
  have hk:2^(V.log2+2)<=2^k:=Be4 (by decide) (by omega);have d1:V / 2^(V.log2+2)=0:=yc (by omega);have d2:V / 2^k=0:=yc (by omega);have m1:V%2^(V.log2+2)=V:=Be2 (by omega);have m2:V%2^k=V:=Be2 (by omega);rw[d1,d2,m1,m2];have c1:¬(2^(V.log2+2)<2*V):=by omega
  have c2:¬(2^k<2*V):=by omega
  simp[c1,c2]
theorem A20(neg:Bool)(r:Nat):Ieee.double.word neg r=Bf neg r:=rfl
theorem Aqw(neg:Bool)(M:Nat)(E:Int):Ieee.double.nearest neg M E=Bf neg (B9 M E):=by
 unfold Format.nearest B9;by_cases h:M=0
 ·rw[Bfc h,Bfc h]; rfl
 ·rw[Bfb h,Bfb h,A20];have e1:Ieee.double.leastPlace=-1074:=by decide
  have e2:max (E+(M.log2:Int)-(Ieee.double.fractionBits:Int)) Ieee.double.leastPlace=Ca M E:=by rw[e1]; rfl
  rw[e2,e1,A8w,yS];unfold kept Lk;have e3:(-(Ca M E-E)).toNat=(E-Ca M E).toNat:=by congr 1; omega
  have e4:Ca M E - -1074=Ca M E+1074:=by omega
  rw[e3,e4];rfl
theorem Iu(b:Nat):(D7 b=2047/\Dc b=0/\Ag b=3)\/(D7 b=2047/\Dc b≠0/\Ag b=4)\/(D7 b<2047/\Ag b≠3/\Ag b≠4):=by
 have:=K9 b;unfold Ag;by_cases h1:D7 b=2047
 ·by_cases h2:Dc b=0<;>simp[h1,h2]
 ·refine .inr (.inr ⟨by omega,?_⟩);rw[Bfb h1];split
  ·decide
  ·split<;>decide
theorem Rt(b:Nat):b%2^63=D7 b*2^52+Dc b:=by unfold D7 Dc; omega
def So(b:Nat):Datum:=if Ag b=4 then .nan (Be b) (Dc b) else if Ag b=3 then .infinity (Be b) else .number (Be b) (Ap b) (Aw b)
theorem K7{b:Nat}(h:b<2^64):Ieee.double.read b=So b:=by
 unfold Format.read So;have e0:Ieee.double.signWeight=2^63:=rfl;have e1:Ieee.double.leastPlace=-1074:=by decide
 have e2:Ieee.double.binade=2^52:=rfl;have e3:Ieee.double.infRung=Ea:=rfl
 have hn:(b / 2^63%2==1)=Be b:=by unfold Be;rw[Be5];simp only[beq_iff_eq,Bew];omega
 dsimp only;rw[e0,e1,e2,e3,hn,Rt,Ft];have hf:Dc b<2^52:=L8 b;rcases Iu b with ⟨h1,h2,h3⟩ | ⟨h1,h2,h3⟩ | ⟨h1,h2,h3⟩
 ·rw[Bfb (by omega),Bfb (by omega),Bfc (by omega),Bfb (by omega),Bfc h3]
 ·rw[Bfb (by omega),Bfb (by omega),Bfb (by omega),Bfc h3];have e:D7 b*2^52+Dc b-9218868437227405312=Dc b:=by omega
  rw[e]
 ·rw[Bfb h3,Bfb h2];by_cases h0:D7 b=0
  ·rw[Bfc (by omega)];unfold Ap Aw;rw[Bfc h0,Bfc h0,h0,zN,Bfz]
  ·rw[Bfb (by omega),Bfc (by omega)];unfold Ap Aw;rw[Bfb h0,Bfb h0];have m1:(D7 b*2^52+Dc b)%2^52=Dc b:=by omega
   have m2:(D7 b*2^52+Dc b) / 2^52=D7 b:=by omega
   have e:(-1074:Int)+((D7 b-1:Nat):Int)=(D7 b:Int)-1075:=by omega
   rw[m1,m2,xu (2^52),e]
theorem Aud(s:Bool):Ieee.double.write (.infinity s)=Bf s Ea:=rfl
theorem Qj(s:Bool)(m:Nat)(e:Int):Ieee.double.write (.number s m e)=Bf s (B9 m e):=Aqw s m e
theorem Ox{b:Nat}(h:b<2^64)(h3:Ag b=3):Bf (Be b) Ea=b:=by
 rcases Iu b with ⟨h1,h2,_⟩ | ⟨_,_,h4⟩ | ⟨_,h4,_⟩
 ·have e:=Rt b;rw[h1,h2] at e;rw[Ft];unfold Bf Be;by_cases hb:2^63<=b
  ·simp[hb]; omega
  ·simp[hb]; omega
 ·omega
 ·omega
theorem Iv(s:Bool){r:Nat}(h:r<=Ea):E5 (Bf s r)=Bf s r:=by
 unfold E5;rw[Bfb];rw[Wr s h];split
 ·decide
 ·split
  ·decide
  ·split<;>decide
theorem V9(s:Bool)(m up:Nat):Ieee.signed s m up=Il s (m*2^up):=by unfold Ieee.signed Il;rw[yS]
theorem A02(s:Bool):Ag (Bf s Ea)=3:=by rw[Wr s (Bfj _),Bfc rfl]
theorem Jc{b:Nat}(h:Ag b=4):So b=.nan (Be b) (Dc b):=Bfc h
theorem F2{b:Nat}(h:Ag b=3):So b=.infinity (Be b):=by unfold So; rw[Bfb (by omega),Bfc h]
theorem F1{b:Nat}(h3:Ag b≠3)(h4:Ag b≠4):So b=.number (Be b) (Ap b) (Aw b):=by unfold So; rw[Bfb h4,Bfb h3]
theorem A2l{a b:Nat}(h:Ag a=4\/Ag b=4):Fh a b=(P1,0):=Bfc h
theorem Aox{a b:Nat}(h4:¬(Ag a=4\/Ag b=4))(h:Ag a=3):Fh a b=(if Ag b=3/\a≠b then (P1,16) else (a,0)):=by unfold Fh; rw[Bfb h4,Bfc h]
theorem Ai7{a b:Nat}(h4:¬(Ag a=4\/Ag b=4))(h:Ag a≠3)(h':Ag b=3):Fh a b=(b,0):=by unfold Fh; rw[Bfb h4,Bfb h,Bfc h']
theorem S9{a b:Nat}(h4:¬(Ag a=4\/Ag b=4))(h:Ag a≠3)(h':Ag b≠3) :
 Fh a b=Lp (Bf (Be a&&Be b) 0) (Gc a (min (Aw a) (Aw b))+Gc b (min (Aw a) (Aw b))) (min (Aw a) (Aw b)):=by
 unfold Fh; rw[Bfb h4,Bfb h,Bfb h']
theorem A3w(s:Bool)(m:Nat)(i:Int)(t:Bool)(n:Nat)(j:Int):(Datum.number s m i).sum (Datum.number t n j) =
 some (.number (if Il s (m*2^(i-min i j).toNat)+Il t (n*2^(j-min i j).toNat)=0 then s&&t else Il s (m*2^(i-min i j).toNat)+Il t (n*2^(j-min i j).toNat)<0)
  (Il s (m*2^(i-min i j).toNat)+Il t (n*2^(j-min i j).toNat)).natAbs (min i j)):=by
 rw[<- V9,<- V9];rfl
theorem Al3{a b:Nat}(ha:a<2^64)(hb:b<2^64){d:Nat}(hd:Ag d=4) :
 E5 ((((So a).sum (So b)).map Ieee.double.write).getD d)=(Fh a b).1:=by
 have cd:E5 d=P1:=Bfc hd;by_cases h4:Ag a=4\/Ag b=4
 ·rw[A2l h4];by_cases a4:Ag a=4
  ·rw[Jc a4]; exact cd
  ·have b4:=h4.resolve_left a4;rw[Jc b4];by_cases a3:Ag a=3
   ·rw[F2 a3]; exact cd
   ·rw[F1 a3 a4]; exact cd
 ·have a4:Ag a≠4:=fun h=>h4 (.inl h)
  have b4:Ag b≠4:=fun h=>h4 (.inr h)
  by_cases a3:Ag a=3
  ·have wa:=Ox ha a3;rw[Aox h4 a3,F2 a3];by_cases b3:Ag b=3
   ·have wb:=Ox hb b3;rw[F2 b3];by_cases hs:Be a=Be b
    ·have hab:a=b:=by rw[<- wa,<- wb,hs]
     rw[Bfb (fun h=>h.2 hab)];have:(Datum.infinity (Be a)).sum (.infinity (Be b))=some (.infinity (Be a)):=Bfc hs;rw[this];show E5 (Bf (Be a) Ea)=a;rw[Iv _ (Bfj _),wa]
    ·have hab:a≠b:=fun h=>hs (by rw[h])
     have:(Datum.infinity (Be a)).sum (.infinity (Be b))=none:=Bfb hs;rw[this,Bfc ⟨b3,hab⟩];exact cd
   ·rw[F1 b3 b4,Bfb (fun h=>b3 h.1)];show E5 (Bf (Be a) Ea)=a;rw[Iv _ (Bfj _),wa]
  ·rw[F1 a3 a4];by_cases b3:Ag b=3
   ·have wb:=Ox hb b3;rw[Ai7 h4 a3 b3,F2 b3];show E5 (Bf (Be b) Ea)=b;rw[Iv _ (Bfj _),wb]
   ·rw[S9 h4 a3 b3,F1 b3 b4,A3w];show E5 (Ieee.double.write (.number _ _ _))=_;rw[Qj,Iv _ (K5 _ _)];unfold Lp Gc;by_cases h0:Il (Be a) (Ap a*2^(Aw a-min (Aw a) (Aw b)).toNat)+Il (Be b) (Ap b*2^(Aw b-min (Aw a) (Aw b)).toNat)=0
    ·rw[Bfc h0,Bfc h0,h0];have:B9 (Int.natAbs 0) (min (Aw a) (Aw b))=0:=Bfc rfl;rw[this]
    ·rw[Bfb h0,Bfb h0]
theorem A2j{a b:Nat}(ha:a<2^64)(hb:b<2^64){d:Nat}(hd:Ag d=4):E5 ((Ieee.double.add a b).getD d)=(Fh a b).1:=by unfold Format.add;rw[K7 ha,K7 hb];exact Al3 ha hb hd
theorem Ve{b:Nat}(h:b<2^64):Be (Fz b)=!(Be b)/\D7 (Fz b)=D7 b/\Dc (Fz b)=Dc b:=by
 unfold Be D7 Dc Fz;by_cases hb:2^63<=b
 ·rw[Bfc hb];refine⟨?_,by omega,by omega⟩;have:¬2^63<=b-2^63:=by omega
  simp[hb,this]
 ·rw[Bfb hb];refine⟨?_,by omega,by omega⟩;have:2^63<=b+2^63:=by omega
  simp[hb,this]
theorem Aq3{b:Nat}(h:b<2^64):Fz b<2^64:=by unfold Fz; split<;>omega
theorem Aqg{b:Nat}(h:b<2^64):So (Fz b)=(So b).opposite:=by
 obtain⟨h1,h2,h3⟩:=Ve h;have hk:Ag (Fz b)=Ag b:=by unfold Ag; rw[h2,h3]
 have hm:Ap (Fz b)=Ap b:=by unfold Ap; rw[h2,h3]
 have he:Aw (Fz b)=Aw b:=by unfold Aw; rw[h2]
 by_cases b4:Ag b=4
 ·rw[Jc b4,Jc (by omega),h1,h3]; rfl
 ·by_cases b3:Ag b=3
  ·rw[F2 b3,F2 (by omega),h1]; rfl
  ·rw[F1 b3 b4,F1 (by omega) (by omega),h1,hm,he]; rfl
theorem Ayu{a b:Nat}(ha:a<2^64)(hb:b<2^64){d:Nat}(hd:Ag d=4):E5 ((Ieee.double.sub a b).getD d)=(Agw a b).1:=by unfold Format.sub;rw[K7 ha,K7 hb,<- Aqg hb];exact Al3 ha (Aq3 hb) hd
theorem Ae1(b:Nat):(Ieee.double.read b).isNaN=decide (Ag b=4):=by
 unfold Format.read;have e0:Ieee.double.signWeight=2^63:=rfl;have e2:Ieee.double.binade=2^52:=rfl;have e3:Ieee.double.infRung=Ea:=rfl;dsimp only;rw[e0,e2,e3,Rt,Ft];have hf:Dc b<2^52:=L8 b;rcases Iu b with ⟨h1,h2,h3⟩ | ⟨h1,h2,h3⟩ | ⟨h1,h2,h3⟩
 ·rw[Bfb (by omega),Bfb (by omega),Bfc (by omega),Beu (by omega)]; rfl
 ·rw[Bfb (by omega),Bfb (by omega),Bfb (by omega),Beq h3]; rfl
 ·rw[Beu h3];by_cases h0:D7 b=0
  ·rw[Bfc (by omega)]; rfl
  ·rw[Bfb (by omega),Bfc (by omega)]; rfl
theorem Aa8{V W k:Nat}(h:V<=W):K8 V k<=K8 W k:=by
 unfold K8;have hA:=Cm k;have hq:V / 2^k<=W / 2^k:=Nat.div_le_div_right h;rcases Bfm (V / 2^k) (W / 2^k) with h1 | h1
 ·split<;>split<;>omega
 ·have he:V / 2^k=W / 2^k:=by omega
  have v:=zG V (2^k);have w:=zG W (2^k);rw[he] at v ⊢;have hr:V%2^k<=W%2^k:=by omega
  by_cases hc:2^k<2*(V%2^k)\/2*(V%2^k)=2^k/\W / 2^k%2=1
  ·have hc':2^k<2*(W%2^k)\/2*(W%2^k)=2^k/\W / 2^k%2=1:=by
    rcases hc with hc | ⟨hc,hd⟩
    ·exact .inl (by omega)
    ·rcases Bfm (2^k) (2*(W%2^k)) with h2 | h2
     ·exact .inl h2
     ·exact .inr ⟨by omega,hd⟩
   rw[Bfc hc,Bfc hc'];exact Bfj _
  ·rw[Bfb hc];exact Nat.le_add_right _ _
theorem A4d{V c k:Nat}(h:V<=c*2^k):K8 V k<=c:=by
 have h1:=Aa8 (k:=k) h
 have:K8 (c*2^k) k=c:=by have:=Zc c k 0;rw[Bfx,Qp] at this;exact this
 omega
theorem A48{V c k:Nat}(h:c*2^k<=V):c<=K8 V k:=by
 have h1:=Aa8 (k:=k) h
 have:K8 (c*2^k) k=c:=by have:=Zc c k 0;rw[Bfx,Qp] at this;exact this
 omega
theorem Aqh{V W:Nat}{s:Int}(h:V<=W):Lk V s<=Lk W s:=Aa8 (Be1 _ h)
theorem Are{V W:Nat}{E:Int}(hV:V≠0)(h:V<=W):Ca V E<=Ca W E:=by have:V.log2<=W.log2:=(zM (by omega)).2 (Bfw (zS hV) h);unfold Ca; omega
theorem Atr{V:Nat}{E:Int}:kept V E<=2^53:=by
 have hV:V<2^(V.log2+1):=yr;unfold kept Lk;refine A4d ?_;have hl:E+V.log2-52<=Ca V E:=by unfold Ca; omega
 rw[<- Bfe];have h1:V*2^(-(Ca V E-E)).toNat<=2^(V.log2+1)*2^(-(Ca V E-E)).toNat:=Be1 _ (xQ hV);rw[<- Bfe] at h1;exact Bfw h1 (Be4 (by decide) (by omega))
theorem Adn{V:Nat}{E:Int}(hV:V≠0)(hl:Ca V E=E+V.log2-52):2^52<=kept V E:=by have h1:2^V.log2<=V:=zS hV;unfold kept Lk;refine A48 ?_;rw[<- Bfe];have h2:2^V.log2*2^(-(Ca V E-E)).toNat<=V*2^(-(Ca V E-E)).toNat:=Be1 _ h1;rw[<- Bfe] at h2;exact Bfw (Be4 (by decide) (by omega)) h2
theorem Ii{V W:Nat}{E:Int}(h:V<=W):B9 V E<=B9 W E:=by
 unfold B9;by_cases hV:V=0
 ·rw[Bfc hV]; exact zA _
 ·have hW:W≠0:=by omega
  rw[Bfb hV,Bfb hW];have hl:=Are (E:=E) hV h
  have key:(Ca V E+1074).toNat*2^52+kept V E<=(Ca W E+1074).toNat*2^52+kept W E:=by
   rcases Int.lt_or_eq_of_le hl with h1 | h1
   ·have hb:-1074<=Ca V E:=by unfold Ca; omega
    have hn:Ca W E=E+W.log2-52:=by unfold Ca at h1 hb ⊢; omega
    have k1:=Atr (V:=V) (E:=E);have k2:=Adn hW hn;have h2:(Ca V E+1074).toNat+1<=(Ca W E+1074).toNat:=by omega
    have h3:((Ca V E+1074).toNat+1)*2^52<=(Ca W E+1074).toNat*2^52:=Be1 _ h2;rw[Bft (Ca V E+1074).toNat 1 (2^52),zC] at h3;omega
   ·unfold kept;rw[h1];exact Nat.add_le_add_left (Aqh h) _
  omega
theorem Wg{b:Nat}(h4:Ag b≠4):B9 (Ap b) (Aw b)=b%2^63:=by
 have hf:Dc b<2^52:=L8 b;have hr:=Rt b;rw[hr];unfold Ap Aw;by_cases h0:D7 b=0
 ·rw[Bfc h0,Bfc h0,Aem hf,h0,zN,Bfz]
 ·rw[Bfb h0,Bfb h0,Qn (by omega) (by omega) (by omega),Ft];have e:((D7 b:Int)-1075+1074).toNat=D7 b-1:=by omega
  rw[e];have h5:(D7 b-1)*2^52+(Dc b+2^52)=D7 b*2^52+Dc b:=by omega
  rw[h5];rcases Iu b with ⟨h1,h2,_⟩ | ⟨_,_,h⟩ | ⟨h1,_,_⟩
  ·rw[h1,h2]; decide
  ·exact absurd h h4
  ·omega
def G5(b:Nat):Int:=Il (Be b) (b%2^63)
def Hb(b:Nat)(f:Int):Nat:=Ap b*2^(Aw b-f).toNat
theorem Q6{b:Nat}{f:Int}(h4:Ag b≠4)(hf:f<=Aw b):B9 (Hb b f) f=b%2^63:=by
 rw[<- Wg h4];have h:=(D1 (Ap b) (Aw b-f).toNat (Aw b)).1;have e:Aw b-((Aw b-f).toNat:Int)=f:=by omega
 rw[e] at h;exact h
theorem A0n{a b:Nat}(h:a%2^63=b%2^63)(f:Int):Hb a f=Hb b f:=by
 have h1:D7 a=D7 b:=by unfold D7; omega
 have h2:Dc a=Dc b:=by unfold Dc; omega
 unfold Hb Ap Aw;rw[h1,h2]
theorem Ae8{a b:Nat}{f:Int}(ha:Ag a≠4)(hb:Ag b≠4)(hfa:f<=Aw a)(hfb:f<=Aw b):Hb a f<Hb b f↔a%2^63<b%2^63:=by
 constructor
 ·intro h;have h1:=Ii (E:=f) (xQ h);rw[Q6 ha hfa,Q6 hb hfb] at h1;rcases Nat.lt_or_eq_of_le h1 with h2 | h2
  ·exact h2
  ·have:=A0n h2 f; omega
 ·intro h;rcases Bfm (Hb a f) (Hb b f) with h1 | h1
  ·exact h1
  ·have h1:=Ii (E:=f) h1;rw[Q6 ha hfa,Q6 hb hfb] at h1;omega
theorem Anj(b:Nat)(f:Int):Hb b f=0↔b%2^63=0:=by
 have hp:=Cm (Aw b-f).toNat;unfold Hb;rw[xx,Rt];have h1:¬(2^(Aw b-f).toNat=0):=by omega
 have h2:Ap b=0↔D7 b*2^52+Dc b=0:=by unfold Ap; split<;>omega
 rw[h2];exact⟨fun h=>h.resolve_right h1,.inl⟩
theorem A7p{s t:Bool}{m n m' n':Nat}(h1:m<n↔m'<n')(h2:n<m↔n'<m')(h3:m=0↔m'=0)(h4:n=0↔n'=0):Il s m<Il t n↔Il s m'<Il t n':=by unfold Il;cases s<;>cases t<;>simp<;>omega
theorem Ajf{a b:Nat}{f:Int}(ha:Ag a≠4)(hb:Ag b≠4)(hfa:f<=Aw a)(hfb:f<=Aw b):Gc a f<Gc b f↔G5 a<G5 b :=A7p (Ae8 ha hb hfa hfb) (Ae8 hb ha hfb hfa) (Anj a f) (Anj b f)
theorem Axa{x y x' y':Int}(h1:x<y↔x'<y')(h2:y<x↔y'<x'):compare x y=compare x' y':=by
 show compareOfLessAndEq x y=compareOfLessAndEq x' y';unfold compareOfLessAndEq;by_cases h:x<y
 ·rw[Bfc h,Bfc (h1.1 h)]
 ·rw[Bfb h,Bfb (fun k=>h (h1.2 k))];by_cases e:x=y
  ·rw[Bfc e,Bfc (by omega)]
  ·rw[Bfb e,Bfb (by omega)]
theorem A04{b:Nat}(h4:Ag b≠4):b%2^63<=Ea:=by rw[<- Wg h4]; exact K5 _ _
theorem Tu{b:Nat}(h:Ag b=3):b%2^63=Ea:=by
 rw[Rt];rcases Iu b with ⟨h1,h2,_⟩ | ⟨_,_,h4⟩ | ⟨_,h4,_⟩
 ·rw[h1,h2]; rfl
 ·omega
 ·omega
theorem Wt{b:Nat}(h3:Ag b≠3)(h4:Ag b≠4):b%2^63<Ea:=by
 have hf:Dc b<2^52:=L8 b;rw[Rt,Ft];rcases Iu b with ⟨_,_,h⟩ | ⟨_,_,h⟩ | ⟨h1,_,_⟩
 ·exact absurd h h3
 ·exact absurd h h4
 ·omega
theorem Art{x y:Int}(h:x<y):compare x y=.lt:=by show compareOfLessAndEq x y=_; unfold compareOfLessAndEq; rw[Bfc h]
theorem Aru{x y:Int}(h:y<x):compare x y=.gt:=by show compareOfLessAndEq x y=_; unfold compareOfLessAndEq; rw[Bfb (by omega),Bfb (by omega)]
theorem Ss{a b:Nat}(ha:a<2^64)(hb:b<2^64)(a4:Ag a≠4)(b4:Ag b≠4):Ieee.double.order a b=some (compare (G5 a) (G5 b)):=by
 unfold Format.order;rw[K7 ha,K7 hb];have hpos:0<Ea:=by decide
 by_cases a3:Ag a=3
 ·have ka:=Tu a3;rw[F2 a3];by_cases b3:Ag b=3
  ·have kb:=Tu b3;rw[F2 b3];show some (compare (Be b).toNat (Be a).toNat)=_;unfold G5;rw[ka,kb];cases Be a<;>cases Be b<;>decide
  ·have kb:=Wt b3 b4;rw[F1 b3 b4];show some (if Be a then Ordering.lt else .gt)=_;unfold G5 Il;rw[ka];cases Be a
   ·rw[Aru (by simp; split<;>omega)]; rfl
   ·rw[Art (by simp; split<;>omega)]; rfl
 ·have ka:=Wt a3 a4;rw[F1 a3 a4];by_cases b3:Ag b=3
  ·have kb:=Tu b3;rw[F2 b3];show some (if Be b then Ordering.gt else .lt)=_;unfold G5 Il;rw[kb];cases Be b
   ·rw[Art (by simp; split<;>omega)]; rfl
   ·rw[Aru (by simp; split<;>omega)]; rfl
  ·rw[F1 b3 b4];show some (compare (Ieee.signed _ _ _) (Ieee.signed _ _ _))=_;rw[V9,V9];congr 1;exact Axa (Ajf a4 b4 (w8 _ _) (w9 _ _)) (Ajf b4 a4 (w9 _ _) (w8 _ _))
theorem Abe{a b:Nat}(ha:a<2^64)(hb:b<2^64)(h:Ag a=4\/Ag b=4):Ieee.double.order a b=none:=by
 unfold Format.order;rw[K7 ha,K7 hb];by_cases a4:Ag a=4
 ·rw[Jc a4]; cases So b<;>rfl
 ·rw[Jc (h.resolve_left a4)]; cases So a<;>rfl
def Aj7(S:Int)(f:Int):Int:=if S<0 then -(B9 S.natAbs f:Int) else B9 S.natAbs f
theorem Aqe(S:Int)(k:Nat)(f:Int):Aj7 (S*((2^k:Nat):Int)) (f-k)=Aj7 S f:=by
 have hp:=Cm k
 have h0:S*((2^k:Nat):Int)<0↔S<0:=by
  constructor
  ·intro h;rcases Int.lt_or_le S 0 with h1 | h1
   ·exact h1
   ·have:=wg h1 (xd (2^k)); omega
  ·intro h;exact vd h (by omega)
 unfold Aj7;rw[yA,zX,(D1 S.natAbs k f).1];by_cases h:S<0
 ·rw[Bfc h,Bfc (h0.2 h)]
 ·rw[Bfb h,Bfb (fun k=>h (h0.1 k))]
theorem Nu(s:Bool){r:Nat}(h:r<2^63):G5 (Bf s r)=Il s r:=by
 unfold G5 Bf Be;cases s
 ·have h1:¬2^63<=r:=by omega
  have h2:r%2^63=r:=Be2 h;simp only[yd,if_false,Beu h1,h2]
 ·have h1:2^63<=2^63+r:=by omega
  have h2:(2^63+r)%2^63=r:=by omega
  simp only[if_true,Beq h1,h2]
theorem Awn(s:Bool)(S f:Int):G5 (Lp (Bf s 0) S f).1=Aj7 S f:=by
 unfold Lp Aj7;by_cases h:S=0
 ·subst h;have e:B9 (Int.natAbs 0) f=0:=Bfc rfl;rw[Bfc rfl,e,Nu s (by decide)];cases s<;>rfl
 ·rw[Bfb h];show G5 (Bf _ _)=_;rw[Nu _ (Qa _ _)];unfold Il;by_cases h1:S<0
  ·rw[Bfc h1,Beq h1,Bfc rfl]
  ·rw[Bfb h1,Beu h1,Bfb (by decide)]
theorem Ahd{b:Nat}{f g:Int}{k:Nat}(hk:g=f-k)(hf:f<=Aw b):Gc b g=Gc b f*((2^k:Nat):Int):=by
 unfold Gc;have e:(Aw b-g).toNat=(Aw b-f).toNat+k:=by omega
 rw[e,Bfe,<- Bfg];generalize Ap b*2^(Aw b-f).toNat=m;generalize 2^k=p;unfold Il;cases Be b
 ·exact Bfa m p
 ·show -((m*p:Nat):Int)=-(m:Int)*(p:Int)
  rw[Bfa,xS]
theorem Alk{a c:Nat}(a3:Ag a≠3)(a4:Ag a≠4)(c3:Ag c≠3)(c4:Ag c≠4){g:Int}(hg:g<=min (Aw a) (Aw c)) :
 G5 (Fh a c).1=Aj7 (Gc a g+Gc c g) g:=by
 rw[S9 (fun h=>h.elim a4 c4) a3 c3,Awn];obtain⟨k,hk⟩:∃k:Nat,g=min (Aw a) (Aw c)-k:=⟨(min (Aw a) (Aw c)-g).toNat,by omega⟩
 rw[Ahd (b:=a) hk (w8 _ _),Ahd (b:=c) hk (w9 _ _),<- Int.add_mul,hk,Aqe]
def E7(a b:Nat):Nat × Nat :=
 if Ag a=4\/Ag b=4 then (P1,0)
 else if Ag a=3\/Ag b=3 then (if Ag a=0\/Ag b=0 then (P1,16) else (Bf (Be a !=Be b) Ea,0))
 else (Bf (Be a !=Be b) (B9 (Ap a*Ap b) (Aw a+Aw b)),flagsOf (Ap a*Ap b) (Aw a+Aw b))
def F4(X Y K:Nat):Nat:=2*(X*2^K / Y)+(if X*2^K%Y=0 then 0 else 1)
def Ok(a b:Nat):Nat × Nat :=
 if Ag a=4\/Ag b=4 then (P1,0)
 else if Ag a=Ag b/\(Ag a=3\/Ag a=0) then (P1,16)
 else if Ag a=3 then (Bf (Be a !=Be b) Ea,0)
 else if Ag b=3\/Ag a=0 then (Bf (Be a !=Be b) 0,0)
 else if Ag b=0 then (Bf (Be a !=Be b) Ea,8)
 else (Bf (Be a !=Be b) (B9 (F4 (Ap a) (Ap b) 120) (Aw a-Aw b-121)),flagsOf (F4 (Ap a) (Ap b) 120) (Aw a-Aw b-121))
theorem Aia(a b:Nat):E7 a b=E7 b a:=by
 have e:(Be a !=Be b)=(Be b !=Be a):=by cases Be a<;>cases Be b<;>rfl
 unfold E7;rw[e,Bfd (Ap a),Int.add_comm (Aw a)];simp only[or_comm]
theorem Aqx{V k:Nat}{E:Int}(hm:1<=V / 2^k)(hc:2^53<=V / 2^k\/E+k+1<=-1074) :
 B9 (4*(V / 2^k)+(if V%2^k=0 then 0 else 1)) (E+k-2)=B9 V E/\flagsOf (4*(V / 2^k)+(if V%2^k=0 then 0 else 1)) (E+k-2)=flagsOf V E:=by
 have hA:=Cm k;have h1:=zG V (2^k);have h2:=zv V hA;generalize hq:V / 2^k=q at *
 generalize hr:V%2^k=r at *
 by_cases h0:r=0
 ·rw[Bfc h0];obtain⟨a1,a2⟩:=D1 q k (E+k);obtain⟨b1,b2⟩:=D1 q 2 (E+k);have e1:E+(k:Int)-k=E:=by omega
  have e2:V=q*2^k:=by rw[Bfd]; omega
  have e3:q*2^2=4*q+0:=by omega
  have e4:E+(k:Int)-((2:Nat):Int)=E+k-2:=by omega
  rw[e1,<- e2] at a1 a2;rw[e3,e4] at b1 b2;rw[a1,a2,b1,b2];exact⟨rfl,rfl⟩
 ·rw[Bfb h0]
  obtain⟨d,rfl⟩:∃d,k=d+1:=by
   cases k with
   | zero=>simp only[Bfn] at h2; omega
   | succ d=>exact⟨d,rfl⟩
  have hD:2^(d+1)=2*2^d:=by rw[zD]; omega
  rw[hD] at h1 h2;generalize hc2:2^d=c at *
  have p1:(2*q+1-1)*c=2*c*q:=by rw[yE,Bfd,y4,Bfg]
  have p2:(2*q+1+1)*c=2*c*q+2*c:=by rw[show 2*q+1+1=2*(q+1) by omega,Bfg,Bft,yh,Bfd q c,Bfg]; omega
  have lt1:(2*q+1-1)*2^d<V:=by rw[hc2,p1]; omega
  have lt2:V<(2*q+1+1)*2^d:=by rw[hc2,p2]; omega
  have od:(2*q+1)%2=1:=by omega
  have lV:=Vi od (by omega) lt1 lt2;have l4:(4*q+1).log2=(2*q+1).log2+1:=Vi (d:=1) od (by omega) (by omega) (by omega)
  have hs:(2*q+1).log2>=54\/E+d+2<=-1074:=by
   rcases hc with h | h
   ·left; rw[ge_iff_le,zM (by omega)]; omega
   ·right; omega
  have hk:E+d+2<=Ca (2*q+1) (E+d):=by unfold Ca; omega
  obtain⟨a1,a2⟩:=U3 (E:=E) od lt1 lt2 (by unfold Ca; rw[lV]; omega) hk;have ee:E+((d+1:Nat):Int)-2+((1:Nat):Int)=E+d:=by omega
  obtain⟨b1,b2⟩:=U3 (V:=4*q+1) (d:=1) (E:=E+((d+1:Nat):Int)-2) od (by omega) (by omega) (by unfold Ca; rw[l4]; omega) (by rw[ee]; unfold Ca; omega);rw[ee] at b1 b2;rw[a1,a2,b1,b2];exact⟨rfl,rfl⟩
theorem Zo(n:Bool){V k:Nat}{E e:Int}{s:Bool}(he:e=E+k)(hs:s=decide (V%2^k≠0))(hm:1<=V / 2^k)(hc:2^53<=V / 2^k\/E+k+1<=-1074) :
 Ie n (V / 2^k) e s=(Bf n (B9 V E),flagsOf V E):=by
 obtain⟨a,b⟩:=Aqx hm hc
 have e1:s.toNat=if V%2^k=0 then 0 else 1:=by
  rw[hs];by_cases h:V%2^k=0
  ·rw[Beu (by omega),Bfc h]; rfl
  ·rw[Beq h,Bfb h]; rfl
 unfold Ie;rw[he,e1,a,b]
theorem Ad6{X Y K:Nat}(d:Nat)(E:Int)(hY:0<Y)(h:2^53<=X*2^K / Y) :
 B9 (F4 X Y (K+d)) (E-d)=B9 (F4 X Y K) E/\flagsOf (F4 X Y (K+d)) (E-d)=flagsOf (F4 X Y K) E:=by
 have hA:=Cm d;unfold F4;have e:X*2^(K+d)=X*2^K*2^d:=by rw[Bfe,Bfg]
 rw[e];generalize X*2^K=Z at *
 have h1:=zG Z Y;have h2:=zv Z hY;by_cases h0:Z%Y=0
 ·obtain⟨q,rfl⟩:=ud h0;have e1:Y*q*2^d=Y*(q*2^d):=Bfg _ _ _;rw[e1,Nat.mul_mod_right,Nat.mul_mod_right,ue _ hY,ue _ hY,Bfc rfl];have:=D1 (2*q+0) d E;rw[show(2*q+0)*2^d=2*(q*2^d)+0 by rw[Bfx,Bfx,Bfg]] at this;exact this
 ·have h3:=zG (Z*2^d) Y;have h4:=zv (Z*2^d) hY;rw[Bfb h0];generalize hq:Z / Y=q at *
  generalize hr:Z%Y=r at *
  generalize hc:2^d=c at *
  have hz:Z*c=Y*(q*c)+r*c:=by rw[<- h1,Bft,Bfg]
  have hrc:r*c<Y*c:=(xy hA).2 h2;have hrc0:0<r*c:=Nat.mul_pos (by omega) hA;have q1:q*c<=Z*c / Y:=by rw[y5 hY,Bfd (q*c)]; omega
  have q2:Z*c / Y<(q+1)*c:=by rw[yI hY,Bft,Bft,zC,Bfd (q*c),Bfd c Y]; omega
  have q3:Z*c / Y=q*c->Z*c%Y≠0:=fun h5 h6=>by rw[h5,h6] at h3; omega
  generalize hQ:Z*c / Y=Q at *
  have p1:(2*q+1-1)*c=2*(q*c):=by rw[yE,Bfg]
  have p2:(2*q+1+1)*c=2*((q+1)*c):=by rw[show 2*q+1+1=2*(q+1) by omega,Bfg]
  have od:(2*q+1)%2=1:=by omega
  generalize hV:2*Q+(if Z*c%Y=0 then 0 else 1)=V
  have v1:(2*q+1-1)*2^d<V:=by
   rw[hc,p1,<- hV];by_cases h5:Q=q*c
   ·rw[Bfb (q3 h5)]; omega
   ·split<;>omega
  have v2:V<(2*q+1+1)*2^d:=by rw[hc,p2,<- hV];split<;>omega
  have lV:=Vi od (by omega) v1 v2;have hs:54<=(2*q+1).log2:=by rw[zM (by omega)]; omega
  have ee:E-(d:Int)+d=E:=by omega
  have:=U3 (E:=E-d) od v1 v2 (by unfold Ca; rw[lV]; omega) (by unfold Ca; omega);rw[ee] at this;exact this
theorem Ad7{X Y K L:Nat}{E F:Int}(hY:0<Y)(h1:2^53<=X*2^K / Y)(h2:2^53<=X*2^L / Y)(he:E+K=F+L) :
 B9 (F4 X Y K) E=B9 (F4 X Y L) F/\flagsOf (F4 X Y K) E=flagsOf (F4 X Y L) F:=by
 rcases Nat.le_total K L with h | h
 ·obtain⟨d,rfl⟩:=uf h;have:=Ad6 d E hY h1;rw[show E-(d:Int)=F by omega] at this;exact⟨this.1.symm,this.2.symm⟩
 ·obtain⟨d,rfl⟩:=uf h;have:=Ad6 d F hY h2;rw[show F-(d:Int)=E by omega] at this;exact this
theorem Apq(X Y a K:Nat):F4 (X*2^a) Y K=F4 X Y (K+a):=by
 unfold F4;have:X*2^a*2^K=X*2^(K+a):=by rw[Bfg,<- Bfe,xu a K]
 rw[this]
theorem Al5(X Y b K:Nat):F4 X (Y*2^b) (K+b)=F4 X Y K:=by
 have hp:=Cm b;unfold F4;have:X*2^(K+b)=X*2^K*2^b:=by rw[Bfe,Bfg]
 rw[this,Nat.mul_div_mul_right _ _ hp,Nat.mul_mod_mul_right]
 have:(X*2^K%Y*2^b=0)↔(X*2^K%Y=0):=by
  constructor
  ·intro h;rcases xx.1 h with h | h
   ·exact h
   ·omega
  ·intro h; rw[h,zN]
 simp only[this]
theorem Azu{X Y K t:Nat}(hX:0<X)(hY0:0<Y)(hY:Y<2^t)(hK:53+t<=K):2^53<=X*2^K / Y:=by rw[y5 hY0];have h1:2^53*Y<=2^53*2^t:=yQ _ (by omega);have h2:2^(53+t)<=2^K:=Be4 (by decide) hK;have h3:1*2^K<=X*2^K:=Be1 _ (by omega);rw[Bfe] at h2;omega
theorem Awa(n:Bool){X Y K:Nat}{e E:Int}{s:Bool}(hs:s=decide (X*2^K%Y≠0))(he:E=e-1)(hq:2^53<=X*2^K / Y) :
 Ie n (X*2^K / Y) e s=(Bf n (B9 (F4 X Y K) E),flagsOf (F4 X Y K) E):=by
 have e1:F4 X Y K / 2^1=X*2^K / Y:=by unfold F4;split<;>omega
 have e2:decide (F4 X Y K%2^1≠0)=decide (X*2^K%Y≠0):=by
  unfold F4;by_cases h:X*2^K%Y=0
  ·rw[Bfc h,Beu (by omega),Beu (by omega)]
  ·rw[Bfb h,Beq (by omega),Beq h]
 have:=Zo n (V:=F4 X Y K) (k:=1) (E:=E) (e:=e) (s:=s) (by omega) (by rw[e2]; exact hs) (by omega) (.inl (by omega));rw[e1] at this;exact this
def Cv:List Int->Nat
 | []=>0
 | x::l=>x.toNat+4294967296*Cv l
def digits:Nat->Nat->List Int
 | 0,_=>[]
 | k+1,v=>((v%4294967296:Nat):Int)::digits k (v / 4294967296)
def Ek(n:Nat):Nat:=if n=0 then 0 else n.log2 / 32+1
def Uh(n:Nat):List Int:=digits (Ek n) n
def Al(v:Int):List Int:=Uh v.natAbs
def Ba(v:Int):Bool:=decide (v<0)
def wv(n:Bool)(l:List Int):Int:=Il n (Cv l)
def Z6(l:List Int):Prop:=∀x∈l,0<=x/\x<4294967296
def J8(l:List Int):Bool:=Bq (l.length<1073741824/\Z6 l)
def Nd(n:Bool)(l:List Int):Bool:=Bq (l.length<268435456/\l=Uh (Cv l)/\(n=true->l≠[]))
def okV(n:Bool)(l:List Int):Bool:=Bq (l.length<134217728/\l=Uh (Cv l)/\(n=true->l≠[]))
def A76(k:Int):Bool:=Bq (-1000000<=k/\k<=1000000)
def Aip(k:Int):Bool:=Bq (-9223372036854775808<=k/\k<=9223372036854775807)
def Je(l:List Int)(i:Int):Int:=if 0<=i then l.getD i.toNat 0 else 0
def Mw(a b:List Int):List Int:=digits (max a.length b.length+1) (Cv a+Cv b)
def Kp(a b:List Int):List Int:=digits a.length (Cv a-Cv b)
def leL(a b:List Int):Bool:=Bq (Cv a<=Cv b)
def Abw(a b:Nat):Int:=if a<b then -1 else if b<a then 1 else 0
def Abv(a b:Int):Int:=if a<b then -1 else if b<a then 1 else 0
def N7(v:Int)(j:Nat):Int:=Il (Ba v) (v.natAbs / 2^j)
def Kf(v k:Int):Int:=if 0<=k then v*((2^k.toNat:Nat):Int) else N7 v (-k).toNat
def Afg(v:Int):Int:=if v=0 then 0 else (v.natAbs.log2:Int)+1
def Avy(v:Int):Bool:=decide (v%2=1)
theorem two32:2^32=4294967296:=by decide
theorem Ps(k:Nat):2^(32*(k+1))=4294967296*2^(32*k):=by rw[yh,Bfy,Bfe,Bfd,two32]
theorem Fm:∀(k v:Nat),(digits k v).length=k
 | 0,_=>rfl
 | k+1,v=>by rw[digits,zo,Fm k]
theorem Qt:∀(k v:Nat),Z6 (digits k v)
 | 0,_=>fun x h=>by cases h
 | k+1,v=>fun x h=>by
   rw[digits,zu] at h;rcases h with rfl | h
   ·omega
   ·exact Qt k _ x h
theorem Mq:∀(k v:Nat),Cv (digits k v)=v%2^(32*k)
 | 0,v=>by rw[digits,Cv,yB,Bfn,wc]
 | k+1,v=>by rw[digits,Cv,Mq k,Ber,Ps,Nat.mod_mul]
theorem Nf:∀{l:List Int},Z6 l->Cv l<2^(32*l.length)
 | [],_=>by decide
 | x::l,h=>by have h1:=h x (Bf4 ..);have h2:=Nf (l:=l) (fun y hy=>h y (Bfu _ hy));rw[Cv,zo,Ps];omega
theorem Vr:∀{l:List Int},Z6 l->digits l.length (Cv l)=l
 | [],_=>rfl
 | x::l,h=>by
   have h1:=h x (Bf4 ..);have h2:=Vr (l:=l) (fun y hy=>h y (Bfu _ hy));rw[Cv,zo,digits];have e1:(x.toNat+4294967296*Cv l)%4294967296=x.toNat:=by omega
   have e2:(x.toNat+4294967296*Cv l) / 4294967296=Cv l:=by omega
   rw[e1,e2,h2];congr 1;omega
theorem Nt(n:Nat):n<2^(32*Ek n):=by
 unfold Ek;by_cases h:n=0
 ·rw[Bfc h,h]; decide
 ·rw[Bfb h];exact Bf0 yr (Be4 (by decide) (by omega))
theorem Ou{n k:Nat}(h:n<2^(32*k)):Ek n<=k:=by
 unfold Ek;by_cases h0:n=0
 ·rw[Bfc h0]; exact zA _
 ·rw[Bfb h0];have:=(Bf5 h0).2 h;omega
theorem A44{n k:Nat}(h:2^(32*k)<=n):k+1<=Ek n:=by have hp:=Cm (32*k);unfold Ek;rw[Bfb (by omega)];have:=(zM (by omega)).2 h;omega
theorem Qr{n m:Nat}(h:n<=m):Ek n<=Ek m:=Ou (Bfr h (Nt m))
theorem Xu(n:Nat):Cv (Uh n)=n:=by unfold Uh;rw[Mq,Be2 (Nt n)]
theorem Ip(n:Nat):(Uh n).length=Ek n:=Fm _ _
theorem Ano(n:Nat):Z6 (Uh n):=Qt _ _
theorem Aga:∀(k v i:Nat),i<k->(digits k v).getD i 0=((v / 2^(32*i)%4294967296:Nat):Int)
 | k+1,v,0,_=>by rw[digits,List.getD_cons_zero,yB,Bfn,yT]
 | k+1,v,i+1,h=>by rw[digits,List.getD_cons_succ,Aga k _ i (by omega),Ps,Bfi]
theorem R0{l:List Int}(h:Z6 l)(i:Nat):l.getD i 0=((Cv l / 2^(32*i)%4294967296:Nat):Int):=by
 by_cases hi:i<l.length
 ·have:=Aga l.length (Cv l) i hi;rw[Vr h] at this;exact this
 ·have h1:=Nf h;have h2:2^(32*l.length)<=2^(32*i):=Be4 (by decide) (by omega);rw[yc (by omega),Bez,Bf7 (by omega)];rfl
theorem Jt{l:List Int}(h:Z6 l)(i:Nat):Je l (i:Int)=((Cv l / 2^(32*i)%4294967296:Nat):Int):=by unfold Je;rw[Bfc (by omega),Ber,R0 h]
theorem M6:∀(k v:Nat),digits (k+1) v=digits k v++[((v / 2^(32*k)%4294967296:Nat):Int)]
 | 0,v=>by rw[digits,digits,digits,yB,Bfn,yT]; rfl
 | k+1,v=>by rw[digits,M6 k,Ps,<- Bfi];rfl
theorem Acp:∀(j k v:Nat),j<=k->(digits k v).take j=digits j v
 | 0,_,_,_=>by rw[List.take_zero,digits]
 | j+1,k+1,v,h=>by rw[digits,List.take_succ_cons,Acp j k _ (by omega),digits]
theorem Arc{l:List Int}(h:Z6 l):l.take (Ek (Cv l))=Uh (Cv l):=by have h1:=Acp (Ek (Cv l)) l.length (Cv l) (Ou (Nf h));rw[Vr h] at h1;exact h1
theorem L7{n:Nat}(h:n≠0):0<Ek n:=by unfold Ek; rw[Bfb h]; omega
theorem Gm(v:Int):wv (Ba v) (Al v)=v:=by
 unfold wv Ba Al Il;rw[Xu];by_cases h:v<0
 ·rw[Beq h,Bfc rfl]; omega
 ·rw[Beu h,Bfb (by decide)]; omega
theorem Nk{l:List Int}(h:l.length<1073741824)(hi:Z6 l):J8 l=true:=Ak.2 ⟨h,hi⟩
theorem Nl{l:List Int}(h:J8 l=true):l.length<1073741824/\Z6 l:=Ak.1 h
theorem Agd(v:Int):Al v=Uh (Cv (Al v))/\(Ba v=true->Al v≠[]):=by unfold Al;rw[Xu];refine⟨rfl,fun h e=>?_⟩;have h1:v<0:=Bff h;have h2:=Ip v.natAbs;rw[e] at h2;have:=L7 (n:=v.natAbs) (by omega);rw[<- h2] at this;exact absurd this (by decide)
theorem J7{v:Int}(h:Ek v.natAbs<268435456):Nd (Ba v) (Al v)=true :=Ak.2 ⟨by unfold Al; rw[Ip]; exact h,Agd v⟩
theorem Aqr{v:Int}(h:Ek v.natAbs<134217728):okV (Ba v) (Al v)=true :=Ak.2 ⟨by unfold Al; rw[Ip]; exact h,Agd v⟩
theorem Abz{n:Bool}{l:List Int}(h1:l=Uh (Cv l))(h2:n=true->l≠[]):n=Ba (wv n l)/\l=Al (wv n l):=by
 have e:(wv n l).natAbs=Cv l:=by unfold wv Il; split<;>omega
 refine⟨?_,by unfold Al; rw[e]; exact h1⟩;unfold Ba wv Il;cases n
 ·simp
 ·have h3:=h2 rfl
  have h4:Cv l≠0:=fun h=>by rw[h] at h1;exact h3 h1
  simp; omega
theorem Mf{n:Bool}{l:List Int}(h:Nd n l=true):∃v,n=Ba v/\l=Al v/\Ek v.natAbs<268435456:=by obtain⟨h0,h1,h2⟩:=Ak.1 h;obtain⟨e1,e2⟩:=Abz h1 h2;refine⟨_,e1,e2,?_⟩;have:=congrArg length e2;unfold Al at this;rw[Ip] at this;omega
theorem Tr{n:Bool}{l:List Int}(h:okV n l=true):∃v,n=Ba v/\l=Al v/\Ek v.natAbs<134217728:=by obtain⟨h0,h1,h2⟩:=Ak.1 h;obtain⟨e1,e2⟩:=Abz h1 h2;refine⟨_,e1,e2,?_⟩;have:=congrArg length e2;unfold Al at this;rw[Ip] at this;omega
theorem Sv{v:Int}(h:Ek v.natAbs<1073741824):J8 (Al v)=true :=Nk (by unfold Al; rw[Ip]; exact h) (Ano _)
theorem Fa(v:Int):Cv (Al v)=v.natAbs:=Xu _
theorem C0(v:Int):(Al v).length=Ek v.natAbs:=Ip _
theorem A6z(n:Bool)(l:List Int):wv (!n) l=- wv n l:=by unfold wv Il;cases n<;>simp
theorem Ah4{a b:List Int}(ha:Z6 a)(hb:Z6 b):Cv (Mw a b)=Cv a+Cv b:=by unfold Mw;rw[Mq,Be2];have h1:=Nf ha;have h2:=Nf hb;have h3:2^(32*a.length)<=2^(32*max a.length b.length):=Be4 (by decide) (by omega);have h4:2^(32*b.length)<=2^(32*max a.length b.length):=Be4 (by decide) (by omega);rw[Ps];omega
theorem Tk(a b:List Int):(Mw a b).length=max a.length b.length+1:=Fm _ _
theorem Aer(a b:List Int):Z6 (Mw a b):=Qt _ _
theorem Aq4{a:List Int}(b:List Int)(ha:Z6 a):Cv (Kp a b)=Cv a-Cv b:=by unfold Kp;rw[Mq,Be2];have h1:=Nf ha;omega
theorem Xi(a b:List Int):(Kp a b).length=a.length:=Fm _ _
theorem Aic(a b:List Int):Z6 (Kp a b):=Qt _ _
theorem P9(v:Int)(j:Nat):(N7 v j).natAbs=v.natAbs / 2^j:=by unfold N7;generalize v.natAbs / 2^j=m;unfold Il; split<;>omega
theorem Wd{v:Int}(h:v<0)(m:Nat):Il (Ba v) m=-(m:Int):=by unfold Il Ba; rw[Beq h,Bfc rfl]
theorem Wc{v:Int}(h:¬v<0)(m:Nat):Il (Ba v) m=(m:Int):=by unfold Il Ba; rw[Beu h,Bfb (by decide)]
theorem Ajz(v:Int)(i j:Nat):N7 (N7 v i) j=N7 v (i+j):=by
 have e:v.natAbs / 2^(i+j)=v.natAbs / 2^i / 2^j:=by rw[Bfe,Bfi]
 have h1:=P9 v i;by_cases hv:v<0
 ·have h2:N7 v i=-((v.natAbs / 2^i:Nat):Int):=Wd hv _;rw[show N7 v (i+j)=-((v.natAbs / 2^(i+j):Nat):Int) from Wd hv _,e];by_cases h0:v.natAbs / 2^i=0
  ·rw[h2,h0];show N7 0 j=_;rw[xe];show Il (Ba 0) (0 / 2^j)=_;rw[xe]; rfl
  ·have h3:N7 v i<0:=by omega
   rw[show N7 (N7 v i) j=-(((N7 v i).natAbs / 2^j:Nat):Int) from Wd h3 _,h1]
 ·have h2:N7 v i=((v.natAbs / 2^i:Nat):Int):=Wc hv _;have h3:¬N7 v i<0:=by omega
  rw[show N7 (N7 v i) j=(((N7 v i).natAbs / 2^j:Nat):Int) from Wc h3 _,h1,show N7 v (i+j)=((v.natAbs / 2^(i+j):Nat):Int) from Wc hv _,e]
theorem Amj(v:Int):N7 v 0=v:=by
 unfold N7 Il Ba;rw[Bfn,yT];by_cases h:v<0
 ·rw[Beq h,Bfc rfl]; omega
 ·rw[Beu h,Bfb (by decide)]; omega
theorem Wb(j:Nat):N7 0 j=0:=by unfold N7;rw[show(Int.natAbs 0)=0 from rfl,xe];rfl
theorem Aug{l:List Int}(h:Z6 l):Cv (l.drop 1)=Cv l / 4294967296:=by
 cases l with
 | nil=>rfl
 | cons x l =>have:=h x (Bf4 ..);show Cv l=_;rw[Cv]; omega
theorem An1{l:List Int}(h:Z6 l):Z6 (l.drop 1):=fun x hx=>h x (List.mem_of_mem_drop hx)
theorem An0{l:List Int}(h:Z6 l):Z6 ([(0:Int)]++l):=fun x hx=>by
 rcases zu.1 hx with rfl | hx
 ·omega
 ·exact h x hx
theorem A0v(n:Nat):Ek (2*n)<=Ek n+1:=by refine Ou ?_;have h:=Nt n;rw[Ps];omega
theorem A43(n:Nat):Ek (n*4294967296)<=Ek n+1:=by refine Ou ?_;have h:=Nt n;rw[Ps];omega
theorem Anl{n m:Nat}(h:2^m<=n):(n / 2^m).log2+m=n.log2:=by
 have hp:=Cm m;have h0:n≠0:=by omega
 have hm:m<=n.log2:=(zM h0).2 h
 have e:(n / 2^m).log2=n.log2-m:=by
  refine Z0 ?_ ?_
  ·rw[y5 hp,<- Bfe];exact Bfw (Be4 (by decide) (by omega)) (zS h0)
  ·rw[yI hp,<- Bfe];exact Bf0 yr (Be4 (by decide) (by omega))
 omega
def Um(n:Nat):Nat:=if h:n=0\/n%2=1 then 0 else Um (n / 2)+1
termination_by n
decreasing_by omega
def mD(v:Int):Int:=N7 v (Um v.natAbs)
def eD(v e:Int):Int:=if v=0 then 0 else e+Um v.natAbs
def Ej(v e w f:Int):Int:=if v=0 then f else if w=0 then e else min e f
def Ar8(v e w f:Int):Int:=Kf v (e-Ej v e w f)+Kf w (f-Ej v e w f)
def Ro(v e w f:Int):Int:=mD (Ar8 v e w f)
def Aoy(v e w f:Int):Int:=eD (Ar8 v e w f) (Ej v e w f)
def Ki(v e:Int):Int:=if v=0 then 0 else Afg v+e
def Rk(v:Int):Int:=if v<0 then -1 else if v=0 then 0 else 1
def Aac(v e w f:Int):Int:=Abv (Kf v (e-Ej v e w f)) (Kf w (f-Ej v e w f))
def X6(e:Int):Bool:=Bq (-2000000<=e/\e<=2000000)
def Ts(e:Int):Bool:=Bq (-400000<=e/\e<=400000)
def Avx(v e f:Int):Bool:=Bq (v=0\/(-1000000<=e-f/\e-f<=1000000))&&Bq (-400000<=e/\e<=400000/\-1000000<=f/\f<=1000000)
theorem Apf{n:Nat}(h:n=0\/n%2=1):Um n=0:=by rw[Um,dif_pos h]
theorem Asp{n:Nat}(h0:n≠0)(h:n%2=0):Um n=Um (n / 2)+1:=by rw[Um,dif_neg (by omega)]
theorem Ajm{n:Nat}(h:n≠0):∀k,Um (n*2^k)=k+Um n
 | 0=>by rw[Bfn,Bfy,Bfz]
 | k+1=>by
   have hp:=Cm k
   have h1:n*2^k≠0:=by intro e;rcases xx.1 e with e | e<;>omega
   have e:n*2^(k+1)=n*2^k*2:=by rw[zD,Bfg]
   rw[e,Asp (by omega) (by omega),wo _ (by decide),Ajm h k];omega
theorem Aso(n:Nat)(h:n≠0):∃m,n=m*2^Um n/\m%2=1:=by
 induction n using Nat.strongRecOn with
 | _ n ih =>
   by_cases h2:n%2=1
   ·refine⟨n,?_,h2⟩;rw[Apf (.inr h2),Bfn,Bfy]
   ·obtain⟨m,h3,h4⟩:=ih (n / 2) (by omega) (by omega);refine⟨m,?_,h4⟩;rw[Asp h (by omega),zD,<- Bfg,<- h3];omega
theorem Ayc{n:Nat}(h:n≠0):Um n<=n.log2:=by obtain⟨m,h1,h2⟩:=Aso n h;refine(zM h).2 ?_;have:1*2^Um n<=m*2^Um n:=Be1 _ (by omega);omega
theorem Aie{n:Nat}:n.log2<32*Ek n+1:=by
 unfold Ek;by_cases h:n=0
 ·rw[h]; decide
 ·rw[Bfb h]; omega
theorem Aq8{v:Int}{k:Nat}(h:v.natAbs%2^k=0):mD (N7 v k)=mD v:=by
 unfold mD;by_cases h0:v=0
 ·rw[h0,Wb]
 ·have hp:=Cm k;have hv:=zG v.natAbs (2^k);rw[h,Bfx,Bfd] at hv
  have hq:v.natAbs / 2^k≠0:=by intro e; rw[e] at hv; omega
  have:=Ajm hq k;rw[hv] at this;rw[P9,Ajz,this]
theorem Arl{v e:Int}{k:Nat}(h:v.natAbs%2^k=0)(h0:v≠0):eD (N7 v k) (e+k)=eD v e:=by
 unfold eD;have hp:=Cm k;have hv:=zG v.natAbs (2^k);rw[h,Bfx,Bfd] at hv
 have hq:v.natAbs / 2^k≠0:=by intro e; rw[e] at hv; omega
 have ht:=Ajm hq k;rw[hv] at ht;have ha:=P9 v k;rw[Bfb h0,Bfb (by omega),ha,ht];omega
theorem A8f{v:Int}(h:v%2=1):mD v=v:=by unfold mD;rw[Apf (.inr (by omega)),Amj]
theorem A8s{v:Int}(h:v%2=1)(e:Int):eD v e=e:=by unfold eD;rw[Apf (.inr (by omega)),Bfb (by omega)];omega
theorem Asz(v:Int)(k:Nat):N7 (v*((2^k:Nat):Int)) k=v:=by
 have hp:=Cm k;unfold N7;rw[yA,zX,wo _ hp];by_cases h:v<0
 ·have h1:v*((2^k:Nat):Int)<0:=vd h (by omega);rw[Wd h1]; omega
 ·have h1:¬v*((2^k:Nat):Int)<0:=by have:=wg (show(0:Int)<=v by omega) (xd (2^k));omega
  rw[Wc h1]; omega
theorem Zq(v:Int)(k:Nat):(v*((2^k:Nat):Int)).natAbs%2^k=0:=by rw[yA,zX,Nat.mul_mod_left]
theorem A8g(v:Int)(k:Nat):mD (v*((2^k:Nat):Int))=mD v:=by rw[<- Aq8 (Zq v k),Asz]
theorem Aqz{v:Int}(h:v≠0)(k:Nat):v*((2^k:Nat):Int)≠0:=by
 have hp:=Cm k;intro e;rcases Int.mul_eq_zero.1 e with e | e
 ·exact h e
 ·omega
theorem A8t(v e:Int)(k:Nat):eD (v*((2^k:Nat):Int)) (e-k)=eD v e:=by
 by_cases h:v=0
 ·rw[h,yC]; rfl
 ·rw[<- Arl (Zq v k) (Aqz h k),Asz];congr 1;omega
theorem Zv(v:Int):v=mD v*((2^Um v.natAbs:Nat):Int):=by
 by_cases h:v=0
 ·rw[h];show(0:Int)=N7 0 _*_;rw[Wb,yC]
 ·obtain⟨m,h1,h2⟩:=Aso v.natAbs (by omega);have hp:=Cm (Um v.natAbs);have hq:v.natAbs / 2^Um v.natAbs=m:=Nat.div_eq_of_eq_mul_left hp h1;unfold mD N7;rw[hq];by_cases hv:v<0
  ·rw[Wd hv,xS,<- Bfa,<- h1]; omega
  ·rw[Wc hv,<- Bfa,<- h1]; omega
theorem Ns{v:Int}:mD v=0↔v=0:=by
 constructor
 ·intro h;have:=Zv v;rw[h,yC] at this;exact this
 ·intro h;rw[h];exact Wb _
theorem Abm(v:Int):(mD v).natAbs<=v.natAbs:=by unfold mD;rw[P9];exact Nat.div_le_self _ _
def vAt(v e g:Int):Int:=v*((2^(e-g).toNat:Nat):Int)
theorem Jx(e g:Int):vAt 0 e g=0:=yC _
theorem Ahe{v e g h:Int}(h1:h<=e)(h2:g<=h):vAt v e g=vAt v e h*((2^(h-g).toNat:Nat):Int):=by
 unfold vAt;rw[wt,<- Bfa,<- Bfe];have:(e-h).toNat+(h-g).toNat=(e-g).toNat:=by omega
 rw[this]
theorem Asi{S l g:Int}(h:g<=l):vAt (mD S) (eD S l) g=vAt S l g:=by
 by_cases h0:S=0
 ·rw[h0,Ns.2 rfl,Jx,Jx]
 ·have e:eD S l=l+Um S.natAbs:=by unfold eD; rw[Bfb h0]
  rw[e];unfold vAt;have e1:(l+(Um S.natAbs:Int)-g).toNat=Um S.natAbs+(l-g).toNat:=by omega
  rw[e1,Bfe,Bfa,<- wt,<- Zv]
theorem Ajy{v e l:Int}(h:v≠0->l<=e):Kf v (e-l)=vAt v e l:=by
 by_cases h0:v=0
 ·rw[h0,Jx];unfold Kf;split
  ·exact yC _
  ·exact Wb _
 ·unfold Kf vAt;rw[Bfc (by have:=h h0; omega)]
theorem A0p{v e w f:Int}:(v≠0->Ej v e w f<=e)/\(w≠0->Ej v e w f<=f):=by
 unfold Ej;constructor
 ·intro h;rw[Bfb h];split<;>omega
 ·intro h;split
  ·omega
  ·omega
theorem A6x{v e g:Int}(h:g<=e)(h0:v≠0):g<=eD v e:=by unfold eD;rw[Bfb h0];omega
theorem A14(x y:Int)(k:Nat):Abv (x*((2^k:Nat):Int)) (y*((2^k:Nat):Int))=Abv x y:=by have hp:=Cm k;have h1:x*((2^k:Nat):Int)<y*((2^k:Nat):Int)↔x<y:=ug (by omega);have h2:y*((2^k:Nat):Int)<x*((2^k:Nat):Int)↔y<x:=ug (by omega);unfold Abv;simp only[h1,h2]
theorem At6{v e w f g:Int}(h1:v≠0->g<=e)(h2:w≠0->g<=f):Aac v e w f=Abv (vAt v e g) (vAt w f g):=by
 obtain⟨l1,l2⟩:=A0p (v:=v) (e:=e) (w:=w) (f:=f);unfold Aac;rw[Ajy l1,Ajy l2];by_cases h0:v=0/\w=0
 ·rw[h0.1,h0.2,Jx,Jx,Jx,Jx]
 ·have hg:g<=Ej v e w f:=by
   unfold Ej;split
   ·rename_i hv;exact h2 (fun k=>h0 ⟨hv,k⟩)
   ·split
    ·exact h1 (by assumption)
    ·have:=h1 (by assumption); have:=h2 (by assumption); omega
  have e1:vAt v e g=vAt v e (Ej v e w f)*((2^(Ej v e w f-g).toNat:Nat):Int):=by
   by_cases h0:v=0
   ·rw[h0,Jx,Jx,yC]
   ·exact Ahe (l1 h0) hg
  have e2:vAt w f g=vAt w f (Ej v e w f)*((2^(Ej v e w f-g).toNat:Nat):Int):=by
   by_cases h0:w=0
   ·rw[h0,Jx,Jx,yC]
   ·exact Ahe (l2 h0) hg
  rw[e1,e2,A14]
def Ah(l:List Int):Bool:=Bq (∀x∈l,Af x=true)
def Gf(x:Int):Int:=Il (Be x.toNat) (Ap x.toNat)
def Xe(n:Bool)(b:Int):Int:=if n then B7 b else b
theorem Xt(s:Bool){q:Nat}{L:Int}(hq:q<2^53)(hL:-1074<=L)(h:2^52<=q\/L=-1074)(hr:(L+1074).toNat*2^52+q<Ea) :
 Ap (Bf s ((L+1074).toNat*2^52+q))=q/\Aw (Bf s ((L+1074).toNat*2^52+q))=L:=by
 rw[Ft] at hr;obtain⟨t,ht⟩:∃t:Nat,L=t-1074:=⟨(L+1074).toNat,by omega⟩
 have et:(L+1074).toNat=t:=by omega
 rw[et] at hr ⊢;have hp:=Aba s (r:=t*2^52+q) (by omega);have hf:=Yd s (t*2^52+q);unfold Ap Aw;by_cases h52:2^52<=q
 ·have e1:D7 (Bf s (t*2^52+q))=t+1:=by rw[hp]; omega
  rw[e1,hf,Bfb (by omega),Bfb (by omega)];omega
 ·have t0:t=0:=by omega
  subst t0;have e1:D7 (Bf s (0*2^52+q))=0:=by rw[hp]; omega
  rw[e1,hf,Bfc rfl,Bfc rfl];omega
theorem sign_neg(s:Bool){r:Nat}(h:r<2^63):Be (Bf s r)=s:=by
 unfold Be Bf;cases s
 ·simp only[yd,if_false,Be8]; omega
 ·simp only[if_true,Bew]; omega
theorem Af0(s:Bool){V:Nat}{E:Int}(h0:V≠0)(hE:Ca V E<=E)(hi:B9 V E<Ea) :
 flagsOf V E=0/\∃k:Nat,Ap (Bf s (B9 V E))=V*2^k/\Aw (Bf s (B9 V E))=E-k:=by
 have hl2:V.log2=V.log2:=rfl
 have ek:kept V E=V*2^(E-Ca V E).toNat:=by
  unfold kept Lk;have e1:(Ca V E-E).toNat=0:=by omega
  have e2:(-(Ca V E-E)).toNat=(E-Ca V E).toNat:=by omega
  rw[e1,e2,Qp]
 have eex:exact V E=true:=by
  unfold exact Qw;have e1:(Ca V E-E).toNat=0:=by omega
  rw[e1,Bfn,wc]; rfl
 constructor
 ·unfold flagsOf flags;rw[Bfb h0,Bfb (by omega),eex]; rfl
 ·have hr:B9 V E=(Ca V E+1074).toNat*2^52+kept V E:=by unfold B9 at hi ⊢;rw[Bfb h0] at hi ⊢;omega
  have hk:kept V E<2^53:=by rw[ek,<- Bf5 (Ko h0),O9 V _ h0];unfold Ca at hE ⊢;omega
  have hb:2^52<=kept V E\/Ca V E=-1074:=by
   by_cases h:Ca V E=-1074
   ·exact .inr h
   ·left;refine Adn h0 ?_;unfold Ca at h ⊢;omega
  rw[hr] at hi;obtain⟨p1,p2⟩:=Xt s hk (by unfold Ca; omega) hb hi;refine⟨(E-Ca V E).toNat,?_,?_⟩
  ·rw[hr,p1,ek]
  ·rw[hr,p2]; omega
theorem Aci{V:Nat}{E:Int}(h:V<2^53)(hE:-1074<=E):Ca V E<=E:=by
 by_cases h0:V=0
 ·subst h0; unfold Ca; rw[Nat.log2_zero]; omega
 ·have:=(Bf5 h0).2 h;unfold Ca; omega
def Gt(x:Int):Int:=if x=0 then 0 else (x.toNat.log2:Int)+1
def Xh(x y:Int):Int:=((x.toNat*y.toNat / 18446744073709551616:Nat):Int)
def Ry(x y:Int):Int:=((x.toNat*y.toNat%18446744073709551616:Nat):Int)
def A0h(a b:Int):Bool:=decide (Bb a=4)||decide (Bb b=4)
def Cx(b:Nat):Nat:=52-(Ap b).log2
def D0(b:Int):Int:=((Ap b.toNat*2^Cx b.toNat:Nat):Int)
def Jp(b:Int):Int:=Aw b.toNat-Cx b.toNat
def Qd(b:Int):Bool:=Bq (Ap b.toNat≠0)
def Td(m e:Int):Bool:=Bq (1152921504606846976<=m/\m<4611686018427387904/\-6000<=e/\e<=6000)
def Bz(a b:Int):Int:=(E7 a.toNat b.toNat).1
def Bbl(a b:Int):Int:=(E7 a.toNat b.toNat).2
def E2(a b:Int):Int:=(Ok a.toNat b.toNat).1
def Bbv(a b:Int):Int:=(Ok a.toNat b.toNat).2
def A08(x:Int):Bool:=Bq (0<=x/\x<4294967296)
def singleL(l:List Int)(x:Int):List Int:=digits (l.length+1) (Cv l*x.toNat)
def okM(n:Bool)(l:List Int):Bool:=Bq (l.length<33554432/\l=Uh (Cv l)/\(n=true->l≠[]))
theorem Axo(a b:Nat):Fh a b=Fh b a:=by
 unfold Fh;by_cases ha:Ag a=4
 ·simp only[ha,true_or,or_true,if_true]
 ·by_cases hb:Ag b=4
  ·simp only[hb,true_or,or_true,if_true]
  ·simp only[ha,hb,or_self,if_false];by_cases ha3:Ag a=3
   ·by_cases hb3:Ag b=3
    ·simp only[ha3,hb3,if_true,true_and];by_cases e:a=b
     ·subst e; rfl
     ·rw[Bfc e,Bfc (fun h=>e h.symm)]
    ·simp only[ha3,hb3,if_true,if_false,false_and]
   ·by_cases hb3:Ag b=3
    ·simp only[ha3,hb3,if_true,if_false,false_and]
    ·simp only[ha3,hb3,if_false];rw[Bool.and_comm,Int.min_comm,Int.add_comm]
theorem Amv{Y D:Nat}(h:Y%2^D=0):Hy Y D=Y / 2^D:=by unfold Hy; rw[Bfc h]
theorem Aqf{Y D:Nat}(h:Y%2^D≠0):Hy Y D%2=1:=by unfold Hy; rw[Bfb h]; omega
theorem Amw{Y d:Nat}(hY:Y<2^62)(h:Y%2^d≠0):(Hy Y (min d 63)-1)*2^d<Y/\Y<(Hy Y (min d 63)+1)*2^d/\Hy Y (min d 63)%2=1:=by
 have hA:=Cm d;by_cases hd:d<=63
 ·rw[yw hd];refine⟨?_,?_,Aqf h⟩
  all_goals
   unfold Hy;rw[Bfb h];have h1:=zG Y (2^d);have h2:=zv Y hA;generalize Y / 2^d=q at *
   generalize Y%2^d=r at *
   generalize 2^d=c at *
   rw[Bfd] at h1
  ·have h3:(2*(q / 2)+1-1)*c<=q*c:=Be1 c (by omega);omega
  ·have h3:(q+1)*c<=(2*(q / 2)+1+1)*c:=Be1 c (by omega);rw[Bft,zC] at h3;omega
 ·rw[xN (by omega)];have h63:Y%2^63=Y:=Be2 (by omega);have hd0:Y / 2^63=0:=yc (by omega);have hY0:Y≠0:=by intro e; rw[e] at h; simp at h
  have hr:Hy Y 63=1:=by unfold Hy; rw[h63,Bfb hY0,hd0]
  have hp:2^62<=2^d:=Be4 (by decide) (by omega);rw[hr];refine⟨by simp; omega,by omega,rfl⟩
theorem Bdr{d M:Nat}(h:(M*2^9)%2^d≠0):10<=d:=by
 refine Nat.lt_of_not_le fun hle=>h ?_
 obtain⟨k,hk⟩:∃k,9=d+k:=⟨9-d,by omega⟩
 rw[hk,Bfe,Bfd (2^d),<- Bfg,Nat.mul_mod_left]
theorem S8{V m d:Nat}{e f:Int}(hd:e=f+d)(h:V=m*2^d\/(m%2=1/\(m-1)*2^d<V/\V<(m+1)*2^d/\2^60<=m)) :
 B9 m (e-9)=B9 V (f-9)/\flagsOf m (e-9)=flagsOf V (f-9):=by
 rcases h with rfl | ⟨h1,h2,h3,h4⟩
 ·have:=D1 m d (e-9);have e1:e-9-(d:Int)=f-9:=by omega
  rw[e1] at this;exact⟨this.1.symm,this.2.symm⟩
 ·have hm0:m≠0:=by omega
  have hlog:=Vi h1 (by omega) h2 h3;have hl60:60<=m.log2:=(zM hm0).2 h4;have e1:f-9+(d:Int)=e-9:=by omega
  have hle:Ca V (f-9)=Ca m (f-9+d):=by unfold Ca; rw[hlog]; congr 1; omega
  have hk:f-9+d+2<=Ca m (f-9+d):=by unfold Ca; omega
  obtain⟨a1,a2⟩:=U3 h1 h2 h3 hle hk;rw[e1] at a1 a2;exact⟨a1.symm,a2.symm⟩
theorem Ap3(V:Nat)(f:Int):B9 (V*2^9) (f-9)=B9 V f/\flagsOf (V*2^9) (f-9)=flagsOf V f:=D1 V 9 f
structure A6g(Mx My d:Nat)(e f:Int)(X r:Nat):Prop where
 plus:B9 (X+r) (e-9)=B9 (Mx*2^d+My) f/\flagsOf (X+r) (e-9)=flagsOf (Mx*2^d+My) f
 less:r<X->My<Mx*2^d/\B9 (X-r) (e-9)=B9 (Mx*2^d-My) f/\flagsOf (X-r) (e-9)=flagsOf (Mx*2^d-My) f
 Ia:X<r->Mx*2^d<My/\B9 (r-X) (e-9)=B9 (My-Mx*2^d) f/\flagsOf (r-X) (e-9)=flagsOf (My-Mx*2^d) f
 same:X=r->Mx*2^d=My
 small:r<=2^62
theorem A6c{X My r d p:Nat}{e f:Int}(hd:e=f+d)(comm:X*2^d=p*2^9)(n1:(r-1)*2^d<My*2^9)(n2:My*2^9<r*2^d+2^d)(n3:r%2=1)(hX2:X%2=0)(hX:2^61<=X)(hr:r<=2^53) :
 (B9 (X+r) (e-9)=B9 (p+My) f/\flagsOf (X+r) (e-9)=flagsOf (p+My) f)/\My<p/\B9 (X-r) (e-9)=B9 (p-My) f/\flagsOf (X-r) (e-9)=flagsOf (p-My) f:=by
 have e1:(r-1)*2^d+2^d=r*2^d:=by
  obtain⟨k,rfl⟩:∃k,r=k+1:=⟨r-1,by omega⟩
  rw[yE,Bft,zC]
 have e2:(r+1)*2^d=r*2^d+2^d:=by rw[Bft,zC]
 have hXd:(r+1)*2^d<=X*2^d:=Be1 _ (by omega);have hlt:My<p:=by rw[e2,comm] at hXd; omega
 have a1:B9 (X+r) (e-9)=B9 ((p+My)*2^9) (f-9)/\flagsOf (X+r) (e-9)=flagsOf ((p+My)*2^9) (f-9):=by
  refine S8 hd (.inr ⟨by omega,?_,?_,by omega⟩)
  ·have h1:X+r-1=X+(r-1):=by omega
   rw[h1,Bft X (r-1) (2^d),Bft p My (2^9),comm];exact uh n1 _
  ·have h1:X+r+1=X+(r+1):=by omega
   rw[h1,Bft X (r+1) (2^d),Bft p My (2^9),comm,e2];exact uh n2 _
 have a2:B9 (X-r) (e-9)=B9 ((p-My)*2^9) (f-9)/\flagsOf (X-r) (e-9)=flagsOf ((p-My)*2^9) (f-9):=by
  rw[e2,comm] at hXd;refine S8 hd (.inr ⟨by omega,?_,?_,by omega⟩)
  ·have h1:X-r-1=X-(r+1):=by omega
   rw[h1,yt X (r+1) (2^d),yt p My (2^9),comm,e2];omega
  ·have h1:X-r+1=X-(r-1):=by omega
   rw[h1,yt X (r-1) (2^d),yt p My (2^9),comm];omega
 rw[(Ap3 _ f).1,(Ap3 _ f).2] at a1 a2;exact⟨a1,hlt,a2⟩
theorem Aov{Mx My d:Nat}{e f:Int}(hd:e=f+d)(hx:Mx<2^53)(hy:My<2^53)(hbig:10<=d->2^52<=Mx) :
 A6g Mx My d e f (Mx*2^9) (Hy (My*2^9) (min d 63)):=by
 have hA:=Cm d;have hY:My*2^9<2^62:=by omega
 have comm:Mx*2^9*2^d=Mx*2^d*2^9:=by rw[Bfg,Bfd (2^9),<- Bfg]
 have s9:=fun V=>Ap3 V f
 by_cases hz:(My*2^9)%2^d=0
 ·
  have hr:∃r,Hy (My*2^9) (min d 63)=r/\My*2^9=r*2^d:=by
   by_cases hd63:d<=63
   ·rw[yw hd63];exact⟨_,rfl,by rw[Amv hz]; exact(Nat.div_mul_cancel (ud hz)).symm⟩
   ·have hp:2^62<=2^d:=Be4 (by decide) (by omega);have:My*2^9=0:=by rw[Be2 (by omega)] at hz; exact hz
    rw[xN (by omega),this];exact⟨0,by decide,by omega⟩
  obtain⟨r,hr,hYr⟩:=hr;rw[hr]
  have hle:r<=2^62:=by have:r*1<=r*2^d:=yQ r hA;omega
  have cmp:∀x y:Nat,x*2^d<y*2^d↔x<y:=fun x y=>xy hA
  refine⟨?_,fun h=>?_,fun h=>?_,fun h=>?_,hle⟩
  ·rw[<- (s9 _).1,<- (s9 _).2];exact S8 hd (.inl (by rw[Bft (Mx*2^d) My (2^9),Bft (Mx*2^9) r (2^d),comm,hYr]))
  ·have h1:=(cmp r (Mx*2^9)).2 h;refine⟨by omega,?_⟩;rw[<- (s9 _).1,<- (s9 _).2];exact S8 hd (.inl (by first | rw[yt (Mx*2^d) My (2^9),yt (Mx*2^9) r (2^d),comm,hYr] | rw[yt My (Mx*2^d) (2^9),yt r (Mx*2^9) (2^d),comm,hYr]))
  ·have h1:=(cmp (Mx*2^9) r).2 h;refine⟨by omega,?_⟩;rw[<- (s9 _).1,<- (s9 _).2];exact S8 hd (.inl (by first | rw[yt (Mx*2^d) My (2^9),yt (Mx*2^9) r (2^d),comm,hYr] | rw[yt My (Mx*2^d) (2^9),yt r (Mx*2^9) (2^d),comm,hYr]))
  ·rw[<- h] at hYr;omega
 ·
  have hd10:=Bdr hz;have hMx:=hbig hd10;obtain⟨n1,n2,n3⟩:=Amw hY hz
  have hrle:Hy (My*2^9) (min d 63)<=2^53:=by
   refine Nat.le_of_not_lt fun h=>?_
   have h1:2^53*2^d<=(Hy (My*2^9) (min d 63)-1)*2^d:=Be1 _ (by omega);have h2:2^10<=2^d:=Be4 (by decide) hd10;have h3:2^53*2^10<=2^53*2^d:=yQ _ h2;omega
  generalize Hy (My*2^9) (min d 63)=r at *
  have hr1:1<=r:=by omega
  have e1:(r-1)*2^d+2^d=r*2^d:=by
   obtain⟨k,rfl⟩:∃k,r=k+1:=⟨r-1,by omega⟩
   rw[yE,Bft,zC]
  have e2:(r+1)*2^d=r*2^d+2^d:=by rw[Bft,zC]
  rw[e2] at n2;have hXr:r<Mx*2^9:=by omega
  have hXd:(r+1)*2^d<=Mx*2^9*2^d:=Be1 _ (by omega);rw[e2,comm] at hXd;obtain⟨p1,p2,p3⟩:=A6c hd comm n1 n2 n3 (by omega) (by omega) hrle;exact⟨p1,fun _=>⟨p2,p3⟩,fun h=>by omega,fun h=>by omega,by omega⟩
theorem Acg(n:Bool)(m:Nat)(e:Int):Ie n m e false=(Bf n (B9 m e),flagsOf m e):=by
 unfold Ie;have:=D1 m 2 e;have e1:m*2^2=4*m+false.toNat:=by simp; omega
 have e2:e-((2:Nat):Int)=e-2:=by omega
 rw[e1,e2] at this;rw[this.1,this.2]
theorem Wf(E:Int):B9 0 E=0:=Bfc rfl
theorem Tx(E:Int):flagsOf 0 E=0:=Bfc rfl
theorem Kw{b:Nat}(h:Iy b=true):Ag b≠4/\Ag b≠3:=by
 unfold Iy at h;simp only[Bew] at h;unfold Ag;rw[Bfb (by omega)];split
 ·omega
 ·split<;>omega
theorem Ah6{b:Nat}(h:-1064<=Aw b):2^52<=Ap b:=by
 unfold Aw at h;unfold Ap;split at h
 ·omega
 ·rw[Bfb (by assumption)]; omega
theorem X0(z:Nat)(s:Bool){V:Nat}(hV:V≠0)(f:Int):Lp z (Il s V) f=(Bf s (B9 V f),flagsOf V f):=by
 unfold Lp Il;cases s
 ·have h1:¬(V:Int)=0:=by omega
  have h2:¬(V:Int)<0:=by omega
  simp only[yd,if_false,h1,h2,decide_false,zX]
 ·have h1:¬-(V:Int)=0:=by omega
  have h2:-(V:Int)<0:=by omega
  simp only[if_true,h1,if_false,h2,decide_true,Int.natAbs_neg,zX]
theorem A6d{p q X r:Nat}{e f:Int}(s t:Bool)
 (plus:B9 (X+r) e=B9 (p+q) f/\flagsOf (X+r) e=flagsOf (p+q) f)
 (less:r<X->q<p/\B9 (X-r) e=B9 (p-q) f/\flagsOf (X-r) e=flagsOf (p-q) f)
 (Ia:X<r->p<q/\B9 (r-X) e=B9 (q-p) f/\flagsOf (r-X) e=flagsOf (q-p) f)
 (same:X=r->p=q) :
 Lp (Bf (s&&t) 0) (Il s p+Il t q) f=(if s=t then Ie s (X+r) e false
  else if r<X then Ie s (X-r) e false
  else if X<r then Ie t (r-X) e false
  else (0,0)):=by
 simp only[Acg];by_cases hs:s=t
 ·rw[Bfc hs,<- hs];have hsum:Il s p+Il s q=Il s (p+q):=by unfold Il; cases s<;>simp<;>omega
  rw[hsum,plus.1,plus.2];by_cases h0:p+q=0
  ·rw[h0,Wf,Tx];unfold Lp;have:Il s 0=0:=by unfold Il; cases s<;>rfl
   rw[Bfc this,Bev]
  ·exact X0 _ _ h0 _
 ·rw[Bfb hs];by_cases h1:r<X
  ·obtain⟨c1,c2,c3⟩:=less h1;rw[Bfc h1,c2,c3]
   have hsum:Il s p+Il t q=Il s (p-q):=by unfold Il; cases s<;>cases t<;>simp at hs ⊢<;>omega
   rw[hsum];exact X0 _ _ (by omega) _
  ·rw[Bfb h1];by_cases h2:X<r
   ·obtain⟨c1,c2,c3⟩:=Ia h2;rw[Bfc h2,c2,c3]
    have hsum:Il s p+Il t q=Il t (q-p):=by unfold Il; cases s<;>cases t<;>simp at hs ⊢<;>omega
    rw[hsum];exact X0 _ _ (by omega) _
   ·rw[Bfb h2];have c:=same (by omega)
    have hsum:Il s p+Il t q=0:=by unfold Il; cases s<;>cases t<;>simp at hs ⊢<;>omega
    have hz:(s&&t)=false:=by cases s<;>cases t<;>simp at hs ⊢
    rw[hsum,hz];rfl
theorem A2m{a b:Nat}(ha:Iy a=true)(hb:Iy b=true) :
 Fh a b=Lp (Bf (Be a&&Be b) 0) (Gc a (min (Aw a) (Aw b))+Gc b (min (Aw a) (Aw b))) (min (Aw a) (Aw b)):=by
 have k1:=Kw ha;have k2:=Kw hb;unfold Fh;rw[Bfb (fun h=>h.elim k1.1 k2.1),Bfb k1.2,Bfb k2.2]
theorem Apa(b:Nat):Gc b (Aw b)=Il (Be b) (Ap b):=by unfold Gc; rw[Int.sub_self,Int.toNat_zero,Bfn,Bfy]
theorem Ax0{b:Nat}{f:Int}{d:Nat}(h:Aw b=f+d):Gc b f=Il (Be b) (Ap b*2^d):=by
 unfold Gc;have:(Aw b-f).toNat=d:=by omega
 rw[this]
theorem Aou{a b:Nat}(ha:Iy a=true)(hb:Iy b=true){d:Nat}(hd:Aw a=Aw b+d) :
 Fh a b=(if Be a=Be b then Ie (Be a) (Ap a*2^9+Hy (Ap b*2^9) (min d 63)) (Aw a-9) false
  else if Hy (Ap b*2^9) (min d 63)<Ap a*2^9 then Ie (Be a) (Ap a*2^9-Hy (Ap b*2^9) (min d 63)) (Aw a-9) false
  else if Ap a*2^9<Hy (Ap b*2^9) (min d 63) then Ie (Be b) (Hy (Ap b*2^9) (min d 63)-Ap a*2^9) (Aw a-9) false
  else (0,0)):=by
 have hx:=F8 a;have hy:=F8 b;have C:=Aov (Mx:=Ap a) (My:=Ap b) hd hx hy (fun h=>Ah6 (by have:=Da b; omega));rw[A2m ha hb,Int.min_eq_right (by omega),Apa,Ax0 hd];exact A6d _ _ C.plus C.less C.Ia C.same
theorem Abk{b:Nat}(h:b<2^64):Fz b<2^64:=by unfold Fz; split<;>omega
theorem Arj(m:Nat)(e:Int):flagsOf m e<32:=by
 unfold flagsOf flags;split
 ·decide
 ·split
  ·decide
  ·split
   ·decide
   ·split<;>decide
theorem W2{a b:Nat}(ha:a<2^64)(hb:b<2^64):(Fh a b).1<2^64/\(Fh a b).2<32:=by
 unfold Fh;split
 ·exact⟨by decide,by decide⟩
 ·split
  ·split
   ·decide
   ·exact⟨ha,(by decide:0<32)⟩
  ·split
   ·exact⟨hb,(by decide:0<32)⟩
   ·unfold Lp;split
    ·refine⟨?_,(by decide:0<32)⟩;unfold Bf; split<;>decide
    ·exact⟨U2 _ _ _,Arj _ _⟩
end Go.Ct
end
