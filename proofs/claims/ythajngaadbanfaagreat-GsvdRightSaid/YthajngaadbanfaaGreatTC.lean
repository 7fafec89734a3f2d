/- A verified evaluator of the program's form and its use for this seat: Den21, Den22, Den23, Den24, Den25, Den26, Den27, Den28, Den29, Den30, Den31. -/
import Derived.Orders
import Derived.Test.YthajngaadbanfaaGreatTB
import Derived.Laws.CopyRow
import Derived.Laws.IdiomCopy
import Derived.LoopN
import Derived.Scope
set_option linter.unusedVariables false
set_option linter.unusedSimpArgs false
open Option renaming some->xQ,none->xY
open Bool renaming true->xZ,false->x5
open Bool renaming false_or->yO,not_eq_true->zE,false_eq_true->zW,or_eq_true->zK,not_eq_true'->yw
open Array renaming getD_eq_getD_getElem?->ya,length_toList->z5,mem_toList_iff->wG,eq_empty_of_size_eq_zero->xg,toList_inj->yh,getElem?_setIfInBounds_ne->vI,getElem?_eq_none->vJ,getElem?_replicate->wH
open List renaming all_eq_true->zB,mem_append->zA,mem_filterMap->vF,isEmpty_iff->wE,map_cons->yq,mem_cons->zF,mem_singleton->ze,length_take->zM,length_drop->zP,mem_map->zh,take->zL,drop->zN,mem_range->zT,nodup_cons->xz,getD_cons_succ->xR,drop_zero->zY,take_length->z9
open Option renaming isNone_iff_eq_none->wF,map_some->yn
open Nat renaming min_le_right->xO,zero_le->zo,blt->yK,beq->zg,add_assoc->yg,add_comm->xi
open Classical renaming byContradiction->yG
noncomputable section
namespace Go.Den
open Go.RowKit (Below)
def Ig(P:Program)(ops:Array Oper)(o:Oper)(a:Act)(w:World)(Q:Exit->Act->World->Prop)(G:Value->World->Prop):Prop:=
 ∀K:Act->World->Prop,(∀v w',G v w'->K (a.put o.dst v) w') ->
  if Region.wanted o (yielded ops a.tmps) then o.wp P a w K Q else K (a.put o.dst undef) w
theorem Ig.mono{P:Program}{ops:Array Oper}{o:Oper}{a:Act}{w:World}{Q:Exit->Act->World->Prop}{G G':Value->World->Prop}(h:Ig P ops o a w Q G)(hg:∀v w',G v w'->G' v w'):Ig P ops o a w Q G' :=fun K hK=>h K fun v w' hh=>hK v w' (hg v w' hh)
theorem EA.wp{P:Program}{o:Oper}{a:Act}{w:World}{K:Act->World->Prop}{Q:Exit->Act->World->Prop}{K':Value->World->Prop}(h:EA P (execOp a.eval o) w K')(hK:∀v w',K' v w'->K (a.put o.dst v) w'):o.wp P a w K Q:=by
 unfold EA at h;unfold Oper.wp;split at h
 ·rename_i v w' hr;rw[hr,Oper.upon_value]; exact hK _ _ h
 ·rename_i f args w' hr;rw[hr,Oper.upon_enter];refine Calls.mono h fun e w'' ⟨v,he,hk⟩=>?_
  subst he; exact hK _ _ hk
 ·exact h.elim
section
variable{P:Program}{E:Env}{I0:Nat->Prop}{B:Nat}{A:Nat->Option Place}{h:DG}{w:World}
theorem Kk{c:Ctx}{g:Bool}{d:DV}{v:Value}(hv:B0 c w d v)(hg:g=xZ)(hs:(Gw g d).2=xZ):B0 c w (Gw g d).1 v:=by
 subst hg;cases d<;>try exact hv
 rename_i c' d';simp only[Gw,AH,yO] at hs ⊢;simp only[B0] at hv;exact hv.1 hs
theorem Ac1{c:Ctx}{ops:Array Oper}{l:List DV}{o:Oper}{a:Act}(hsz:a.tmps.size=l.length)
 (hrd:∀t∈o.looksAt ops,B0 c w (l.getD t .undef) (a.tmps.getD t undef)) {g?:Option Bool} (hc:LY ops l o=xQ g?):
 (g?=xY/\o.guard=xY)\/∃b,g?=xQ b/\Region.wanted o (yielded ops a.tmps)=b:=by
 unfold LY at hc;split at hc
 ·rename_i hg;cases hc; exact .inl ⟨rfl,hg⟩
 ·rename_i j want hg;cases hd:(ops[j]?).bind (·.dst) with
  | none=>simp[hd] at hc
  | some d =>
    simp only[hd] at hc;have hv:=hrd d (by unfold Oper.looksAt; simp[hg,hd])
    have hlt:∀{x:DV},l.getD d .undef=x->x≠.undef->d<a.tmps.size:=fun {x} hx hne=>by
     rw[hsz];refine Nat.lt_of_not_le fun hle=>hne ?_
     rw[<- hx,Al,Bb hle]; rfl
    have hy:∀{u:Value},d<a.tmps.size->a.tmps.getD d undef=u->yielded ops a.tmps j=match u with | .bool b=>xQ b | _=>xY:=fun {u} hl hu=>by
     unfold yielded;rw[hd,Aj]
     have:a.tmps[d]?=xQ u:=by rw[Aw hl];rw[ya,Aw hl] at hu;exact congrArg xQ hu
     rw[this];cases u<;>rfl
    split at hc
    ·rename_i b hb;cases hc;rw[hb] at hv; simp only[B0] at hv;refine .inr ⟨_,rfl,?_⟩;unfold Region.wanted; rw[hg]; simp only;rw[hy (hlt hb (by simp)) hv];cases b<;>cases want<;>rfl
    ·rename_i c' b hb;cases hc;rw[hb] at hv; simp only[B0] at hv;refine .inr ⟨_,rfl,?_⟩;unfold Region.wanted; rw[hg]; simp only;cases c' with
     | true =>rw[hy (hlt hb (by simp)) (hv.1 rfl)];cases b<;>cases want<;>rfl
     | false =>rw[hy (hlt hb (by simp)) (hv.2 rfl)];cases want<;>rfl
    ·cases hc
def Nb(g?:Option Bool)(v:DV):DV:=match g? with | some c=>.gd c v | none=>v
theorem XJ{c:Ctx}{g?:Option Bool}{d:DV}{v:Value}(hg:g?.getD xZ=xZ)(hv:B0 c w d v):B0 c w (Nb g? d) v:=by
 cases g? with
 | none=>exact hv
 | some b =>simp only[Be] at hg; subst hg;simp only[Nb,B0];exact⟨fun _=>hv,fun e=>by cases e⟩
theorem Af7(he:He P E)(hm:Mem I0 B A h w){ops:Array Oper}{l:List DV}{o:Oper}{a:Act}
 (hops:∀x∈o.op.operands.toList,B0 (Cc I0 B A w) w (Gn l x) (a.eval x))
 {g?:Option Bool} (hg:(g?=xY/\o.guard=xY)\/∃b,g?=xQ b/\Region.wanted o (yielded ops a.tmps)=b)
 {nm:Nat} {r:R2} (hq:E7 E h nm (fun x=>(Gw (g?.getD xZ) (Gn l x)).1) o.op=xQ r)
 (hreq:(!(g?.getD xZ)||(Pk (g?.getD xZ) (Gn l) o.op.operands.toList&&r.Om))=xZ)
 (hfrz:r.GJ=[]\/g?.getD xZ=xZ)
 (hnew:∀n ob,(n,ob)∈r.Cg->A n=xY) (hnd:(r.Cg.map (·.1)).Nodup) {Q:Exit->Act->World->Prop}:
 Ig P ops o a w Q fun v w'=>∃A',HY I0 B A w r.Cg r.GJ A' w'/\B0 (Cc I0 B A' w') w' (Nb g? r.v) v:=by
 intro K hK
 have hwant:Region.wanted o (yielded ops a.tmps)=g?.getD xZ:=by
  rcases hg with ⟨rfl,hg⟩ | ⟨b,rfl,hg⟩
  ·simp[Region.wanted,hg]
  ·simpa using hg
 rw[hwant];by_cases hgt:g?.getD xZ=xZ
 ·rw[Az hgt];rw[hgt] at hreq hq;simp only[AH,yO,Am] at hreq
  have hops':Ops (Cc I0 B A w) w (fun x=>(Gw xZ (Gn l x)).1) a.eval o.op:=fun x hx=>by refine Kk (hops x hx) rfl ?_;have:=hreq.1;unfold Pk at this;rw[zB] at this;exact this x hx
  exact EA.wp (K':=fun v w'=>∃A',HY I0 B A w r.Cg r.GJ A' w'/\B0 (Cc I0 B A' w') w' (Nb g? r.v) v)
   (Adl he hm hops' hq hreq.2 hnew hnd fun v w' A' h1 h2=>⟨A',h1,XJ hgt h2⟩) hK
 ·rw[Ay hgt]
  have hgf:g?=xQ x5:=by
   cases g? with
   | none=>simp at hgt
   | some b=>simp only[Be,zE] at hgt; rw[hgt]
  have h2:r.GJ=[]:=hfrz.resolve_right hgt;subst hgf;refine hK undef w ⟨A,by rw[h2]; exact HY.idle _,?_⟩;simp only[Nb,B0];exact⟨fun e=>(by cases e),fun _=>trivial⟩
theorem Aik{ops:Array Oper}{l:List DV}{dst:Option Tmp}{c x y:Operand}{ty:TypeId}{pos:String}{after:Array Edge}{guard:Option (Nat × Bool)}{a:Act}{cx:Ctx}
 (hc:B0 cx w (Gn l c) (a.eval c)) (hx:B0 cx w (Gn l x) (a.eval x)) (hy:B0 cx w (Gn l y) (a.eval y))
 {g?:Option Bool} (hg:(g?=xY/\guard=xY)\/∃b,g?=xQ b/\Region.wanted ⟨dst,.pick c x y,ty,pos,after,guard⟩ (yielded ops a.tmps)=b)
 {c' r:Bool} {v:DV} (hsc:(Gw (g?.getD xZ) (Gn l c)).1=.bool c') (hp:AbS c' (Gn l x) (Gn l y)=xQ (r,v))
 (hreq:(!(g?.getD xZ)||((Gw (g?.getD xZ) (Gn l c)).2&&r))=xZ) {Q:Exit->Act->World->Prop}:
 Ig P ops ⟨dst,.pick c x y,ty,pos,after,guard⟩ a w Q fun u w'=>w'=w/\B0 cx w (Nb g? v) u:=by
 intro K hK
 have hwant:Region.wanted ⟨dst,.pick c x y,ty,pos,after,guard⟩ (yielded ops a.tmps)=g?.getD xZ:=by
  rcases hg with ⟨rfl,hg⟩ | ⟨b,rfl,hg⟩
  ·simp[Region.wanted,hg]
  ·simpa using hg
 rw[hwant];by_cases hgt:g?.getD xZ=xZ
 ·rw[Az hgt];rw[hgt] at hreq hsc;simp only[AH,yO,Am] at hreq;have hcv:=Kk hc rfl hreq.1;rw[hsc] at hcv; simp only[B0] at hcv;refine EA.wp (K':=fun u w'=>w'=w/\B0 cx w (Nb g? v) u) (EA.value (v:=if c' then a.eval x else a.eval y) (w':=w) ?_ ⟨rfl,XJ hgt ?_⟩) hK
  ·simp[execOp,hcv,asBool]
  ·have h2:=hreq.2;unfold AbS at hp;cases c' with
   | true =>
     simp only[if_true];split at hp
     ·rename_i p q e1 e2;simp only[Ae,Ak] at hp;obtain⟨rfl,rfl⟩:=hp;simp only[Am] at h2;have:=Kk hx rfl h2.1;rw[e1] at this; exact this
     ·rename_i k p k' q e1 e2;by_cases hk:k=k'
      ·simp only[hk,decide_true,Aa,Ae,Ak] at hp;obtain⟨rfl,rfl⟩:=hp;simp only[Am] at h2;have:=Kk hx rfl h2.1;rw[e1] at this; subst hk; exact this
      ·simp[hk] at hp
     ·cases hp
   | false =>
     simp only[zW,if_false];split at hp
     ·rename_i p q e1 e2;simp only[Ae,Ak] at hp;obtain⟨rfl,rfl⟩:=hp;simp only[Am] at h2;have:=Kk hy rfl h2.2;rw[show(!x5)=xZ from rfl] at e2;rw[e2] at this; exact this
     ·rename_i k p k' q e1 e2;by_cases hk:k=k'
      ·simp only[hk,decide_true,Aa,Ae,Ak] at hp;obtain⟨rfl,rfl⟩:=hp;simp only[Am] at h2;have:=Kk hy rfl h2.2;rw[show(!x5)=xZ from rfl] at e2;rw[e2] at this; exact this
      ·simp[hk] at hp
     ·cases hp
 ·rw[Ay hgt]
  have hgf:g?=xQ x5:=by
   cases g? with
   | none=>simp at hgt
   | some b=>simp only[Be,zE] at hgt; rw[hgt]
  subst hgf;refine hK undef w ⟨rfl,?_⟩;simp only[Nb,B0];exact⟨fun e=>(by cases e),fun _=>trivial⟩
theorem Aga{ops:Array Oper}{o:Oper}{t:Tmp}(h:Operand.tmp t∈o.op.operands.toList):t∈o.looksAt ops:=by unfold Oper.looksAt;exact zA.2 (.inl (vF.2 ⟨_,h,rfl⟩))
theorem VO{c:Ctx}(v:Value):B0 c w (AaX v) v:=by unfold AaX;split<;>simp only[B0];exact⟨_,rfl,.inl rfl⟩
theorem Qb{c:Ctx}{ops:Array Oper}{l:List DV}{o:Oper}{a:Act}
 (hrd:∀t∈o.looksAt ops,B0 c w (l.getD t .undef) (a.tmps.getD t undef)):∀x∈o.op.operands.toList,B0 c w (Gn l x) (a.eval x):=by
 intro x hx;cases x with
 | tmp t=>exact hrd t (Aga hx)
 | const v=>exact VO v
 | global g=>simp only[Gn,B0]
 | func f=>simp[Gn,B0,Act.eval,BM]
theorem Aml(he:He P E){ops:Array Oper}{draw:Bool}{st st':St}{o:Oper}(hs:JG E ops draw st o=xQ (xZ,st'))(hmut:OP o.op=x5)
 (hsp:∀g?,LY ops st.tmps o=xQ g?->(cond draw xY (Ld E st.heap (Gn st.tmps) g? o.op))=xY):
 ∃d Cg GJ,st'.tmps=Pe st.tmps o.dst d/\st'.heap=Cg.map (fun(x:Nat × OB)=>(x.1,x5,x.2))++I3 st.heap GJ /\
  (∀n ob,(n,ob)∈Cg->look st.heap n=xY)/\(Cg.map (·.1)).Nodup/\(F6 E ops st o=GJ/\∀n∈GJ,look st.heap n≠xY) /\
  ∀{I0:Nat->Prop} {B:Nat} {A:Nat->Option Place} {w:World} {a:Act} {Q:Exit->Act->World->Prop},Mem I0 B A st.heap w->a.tmps.size=st.tmps.length ->
   (∀t∈o.looksAt ops,B0 (Cc I0 B A w) w (st.tmps.getD t .undef) (a.tmps.getD t undef))->(∀n ob,(n,ob)∈Cg->A n=xY) ->
   Ig P ops o a w Q fun v w'=>∃A',HY I0 B A w Cg GJ A' w'/\B0 (Cc I0 B A' w') w' d v:=by
 obtain⟨dst,op,ty,pos,after,guard⟩:=o;unfold JG at hs;cases hc:LY ops st.tmps ⟨dst,op,ty,pos,after,guard⟩ with
 | none=>simp[hc] at hs
 | some g? =>
 simp only[hc,Aj] at hs;dsimp only at hmut;replace hsp:=hsp g? hc;dsimp only at hsp
 have quiet:∀(hs:((E7 E st.heap (dst.getD 0) (fun x=>(Gw (g?.getD xZ) (Gn st.tmps x)).1) op).bind fun r =>
  bif (r.Cg.all fun(n,_)=>(look st.heap n).isNone)&&JI (r.Cg.map (·.1))&&(r.Cg.isEmpty||dst.isSome)&&(r.GJ.isEmpty||r.GJ.all fun n=>(look st.heap n).isSome) then
   xQ (cond r.GJ.isEmpty (!(g?.getD xZ)||(Pk (g?.getD xZ) (Gn st.tmps) op.operands.toList&&r.Om)) (g?.getD xZ&&(Pk (g?.getD xZ) (Gn st.tmps) op.operands.toList&&r.Om)),
    ({ tmps:=Pe st.tmps dst (Nb g? r.v),heap:=(r.Cg.map fun(n,ob)=>(n,x5,ob))++I3 st.heap r.GJ }:St))
  else xY)=xQ (xZ,st')),∃d Cg GJ,st'.tmps=Pe st.tmps dst d/\st'.heap=Cg.map (fun(x:Nat × OB)=>(x.1,x5,x.2))++I3 st.heap GJ /\
  (∀n ob,(n,ob)∈Cg->look st.heap n=xY)/\(Cg.map (·.1)).Nodup/\(F6 E ops st ⟨dst,op,ty,pos,after,guard⟩=GJ/\∀n∈GJ,look st.heap n≠xY) /\
  ∀{I0:Nat->Prop} {B:Nat} {A:Nat->Option Place} {w:World} {a:Act} {Q:Exit->Act->World->Prop},Mem I0 B A st.heap w->a.tmps.size=st.tmps.length ->
   (∀t∈Oper.looksAt ops ⟨dst,op,ty,pos,after,guard⟩,B0 (Cc I0 B A w) w (st.tmps.getD t .undef) (a.tmps.getD t undef))->(∀n ob,(n,ob)∈Cg->A n=xY) ->
   Ig P ops ⟨dst,op,ty,pos,after,guard⟩ a w Q fun v w'=>∃A',HY I0 B A w Cg GJ A' w'/\B0 (Cc I0 B A' w') w' d v:=by
  intro hs;cases hq:E7 E st.heap (dst.getD 0) (fun x=>(Gw (g?.getD xZ) (Gn st.tmps x)).1) op with
  | none=>simp[hq] at hs
  | some r =>
    simp only[hq,Aj] at hs;by_cases hcc:((r.Cg.all fun(n,_)=>(look st.heap n).isNone)&&JI (r.Cg.map (·.1))&&(r.Cg.isEmpty||dst.isSome)&&(r.GJ.isEmpty||r.GJ.all fun n=>(look st.heap n).isSome))=xZ
    ·rw[hcc,Aa,Ae,Ak] at hs;obtain⟨hreq,rfl⟩:=hs;simp only[Am,zK,wE,wF,zB] at hcc;obtain⟨⟨⟨h1,h2⟩,h3⟩,h4⟩:=hcc
     replace hreq:(!(g?.getD xZ)||(Pk (g?.getD xZ) (Gn st.tmps) op.operands.toList&&r.Om))=xZ/\(r.GJ=[]\/g?.getD xZ=xZ):=by
      cases ho:r.GJ.isEmpty with
      | true =>rw[ho,Aa] at hreq;exact⟨hreq,.inl (wE.1 ho)⟩
      | false =>rw[ho,Af,Am] at hreq;exact⟨by rw[hreq.2,AV],.inr hreq.1⟩
     refine⟨Nb g? r.v,r.Cg,r.GJ,rfl,rfl,fun n ob hn=>h1 (n,ob) hn,Iz h2,⟨by unfold F6; dsimp only; rw[hmut,hc]; simp only[Af,hq],fun n hn e=>?_⟩,?_⟩
     ·rcases h4 with h4 | h4
      ·rw[h4] at hn; cases hn
      ·have:=h4 n hn; rw[e] at this; cases this
     intro I0 B A w a Q hm hsz hrd hnew;exact Af7 he hm (Qb hrd) (Ac1 hsz hrd hc) hq hreq.1 hreq.2 hnew (Iz h2)
    ·simp only[zE] at hcc; rw[hcc] at hs; cases hs
 cases op
 case pick c x y =>
  simp only at hs;split at hs
  ·rename_i c' hsc;cases hp:AbS c' (Gn st.tmps x) (Gn st.tmps y) with
   | none=>simp[hp] at hs
   | some rv =>
     obtain⟨r,v⟩:=rv;simp only[hp,Aj,Ae,Ak] at hs;obtain⟨hreq,rfl⟩:=hs;refine⟨Nb g? v,[],[],rfl,rfl,fun n ob hn=>(by cases hn),List.nodup_nil,⟨by unfold F6; dsimp only[OP]; rw[hc]; rfl,fun n hn=>(by cases hn)⟩,?_⟩;intro I0 B A w a Q hm hsz hrd hnew;have hr:=Qb (w:=w) hrd;refine Ig.mono (Aik (hr c (by simp[Op.operands])) (hr x (by simp[Op.operands])) (hr y (by simp[Op.operands])) (Ac1 hsz hrd hc) hsc hp hreq) ?_
     rintro u w' ⟨rfl,hu⟩
     exact⟨A,HY.refl (.inl rfl),hu⟩
  ·cases hs
 case store=>simp[OP] at hmut
 case call c =>
  obtain⟨callee,args,ts⟩:=c;cases callee
  case builtin b =>
   cases b
   case append=>simp[OP] at hmut
   all_goals (dsimp only at hs; rw[hsp] at hs; exact quiet hs)
  all_goals (dsimp only at hs; rw[hsp] at hs; exact quiet hs)
 all_goals (dsimp only at hs; rw[hsp] at hs; exact quiet hs)
end
open Go.RowKit (Below)
theorem Lj(a b:DG)(n:Nat):look (a++b) n=match look a n with | some x=>xQ x | none=>look b n:=by
 induction a with
 | nil=>rfl
 | cons x a ih =>obtain⟨m,y⟩:=x;simp only[List.cons_append,look];cases m==n<;>simp[ih]
theorem WZ(h:DG)(m n:Nat):look (match look h m with | some (_,o)=>UR h m (xZ,o) | none=>h) n=(look h n).map fun x=>(x.1||decide (n=m),x.2):=by
 cases hm:look h m with
 | none =>
   simp only;cases hn:look h n with
   | none=>rfl
   | some x =>
     have:n≠m:=fun e=>by rw[e,hm] at hn; cases hn
     simp[this]
 | some x =>
   obtain⟨f,o⟩:=x;simp only;rw[F1 hm];by_cases e:n=m
   ·subst e; simp[hm]
   ·rw[Ay e];cases look h n with
    | none=>rfl
    | some x=>simp[e]
theorem NA:∀(ns:List Nat) (h:DG) (n:Nat),look (I3 h ns) n=(look h n).map fun x=>(x.1||decide (n∈ns),x.2)
 | [],h,n=>by unfold I3;simp
 | m::ns,h,n=>by
   have e:I3 h (m::ns)=I3 (match look h m with | some (_,o)=>UR h m (xZ,o) | none=>h) ns:=rfl;rw[e,NA ns,WZ];cases look h n with
   | none=>rfl
   | some x=>simp[Bool.or_assoc]
theorem Rj{Cg:List (Nat × OB)}:∀{n:Nat} {x:Bool × OB},look (Cg.map (fun(x:Nat × OB)=>(x.1,x5,x.2))) n=xQ x->∃ob,(n,ob)∈Cg/\x=(x5,ob):=by
 induction Cg with
 | nil=>intro n x h; cases h
 | cons y l ih =>
   intro n x h;simp only[yq,look] at h;by_cases e:y.1=n
   ·rw[show(y.1==n)=xZ by simpa using e] at h;simp only[Aa,Ae] at h;exact⟨y.2,by rw[<- e]; exact AY,h.symm⟩
   ·rw[show(y.1==n)=x5 by simpa using e] at h;obtain⟨ob,h1,h2⟩:=ih h;exact⟨ob,AN _ h1,h2⟩
theorem TH{Cg:List (Nat × OB)}{n:Nat}(h:look (Cg.map (fun(x:Nat × OB)=>(x.1,x5,x.2))) n=xY):∀ob,(n,ob) ∉ Cg:=by
 induction Cg with
 | nil=>intro ob h; cases h
 | cons y l ih =>
   intro ob hm;simp only[yq,look] at h;by_cases e:y.1=n
   ·rw[show(y.1==n)=xZ by simpa using e] at h; simp at h
   ·rw[show(y.1==n)=x5 by simpa using e] at h;rcases zF.1 hm with rfl | hm
    ·exact e rfl
    ·exact ih h ob hm
theorem Adv{α:Type}{l:List (Nat × α)}(h:(l.map (·.1)).Nodup){n:Nat}{x y:α}(h1:(n,x)∈l)(h2:(n,y)∈l):x=y:=by have e1:=Ov h h1;have e2:=Ov h h2;rw[e1] at e2; exact Option.some.inj e2
structure NV(P:Program)(E:Env)(ops:Array Oper)(draw:Bool)(st:St)(o:Oper)(st':St)(d:DV):Prop where
 free:∀t,o.dst=xQ t->E.np<=t
 tmps:st'.tmps=Pe st.tmps o.dst d
 there:draw=xZ->∀n,n∈F6 E ops st o->look st.heap n≠xY
 stays:∀n,look st.heap n≠xY->look st'.heap n≠xY
 same:draw=xZ->∀n,n ∉ F6 E ops st o->look st.heap n≠xY->look st'.heap n=look st.heap n
 run:∀{I0:Nat->Prop} {B:Nat} {A:Nat->Option Place} {w:World} {a:Act} {Q:Exit->Act->World->Prop},Mem I0 B A st.heap w->a.tmps.size=st.tmps.length ->
  (∀t∈o.looksAt ops,B0 (Cc I0 B A w) w (st.tmps.getD t .undef) (a.tmps.getD t undef))->(∀n,look st.heap n=xY->look st'.heap n≠xY->A n=xY) ->
  Ig P ops o a w Q fun v w'=>∃A',Mem I0 B A' st'.heap w'/\Hd A w A' w'/\Below B w w'/\B0 (Cc I0 B A' w') w' d v /\
   (∀n p,A' n=xQ p->A n=xY->look st.heap n=xY/\look st'.heap n≠xY) /\
   (draw=xZ->O5 (F6 E ops st o) A w w'/\∀m q,m ∉ F6 E ops st o->A m=xQ q->A' m=xQ q)
section
variable{P:Program}{E:Env}
theorem Ya(he:He P E){ops:Array Oper}{draw:Bool}{st st':St}{o:Oper}(hs:JG E ops draw st o=xQ (xZ,st'))(hfree:∀t,o.dst=xQ t->E.np<=t)(hmut:OP o.op=x5)
 (hsp:∀g?,LY ops st.tmps o=xQ g?->(cond draw xY (Ld E st.heap (Gn st.tmps) g? o.op))=xY):
 ∃d,NV P E ops draw st o st' d:=by
 obtain⟨d,Cg,GJ,h1,h2,h3,h4,h5,h6⟩:=Aml he hs hmut hsp;obtain⟨hm0,h5'⟩:=h5
 have hlk:∀n,look st'.heap n=match look (Cg.map (fun(x:Nat × OB)=>(x.1,x5,x.2))) n with | some x=>xQ x | none=>(look st.heap n).map fun x=>(x.1||decide (n∈GJ),x.2):=by intro n; rw[h2,Lj,NA]
 have hold:∀n,look st.heap n≠xY->look st'.heap n=(look st.heap n).map fun x=>(x.1||decide (n∈GJ),x.2):=by
  intro n hn;rw[hlk];cases hq:look (Cg.map (fun(x:Nat × OB)=>(x.1,x5,x.2))) n with
  | none=>rfl
  | some x =>obtain⟨ob,hob,_⟩:=Rj hq;exact absurd (h3 n ob hob) hn
 have hobj:∀n ob,(n,ob)∈Cg->look st'.heap n=xQ (x5,ob):=by
  intro n ob hob;rw[hlk];cases hq:look (Cg.map (fun(x:Nat × OB)=>(x.1,x5,x.2))) n with
  | none=>exact absurd hob (TH hq ob)
  | some x =>obtain⟨ob',hob',rfl⟩:=Rj hq;rw[Adv h4 hob hob']
 refine⟨d,hfree,h1,fun _ n hn=>h5' n (hm0 ▸ hn),fun n hn=>?_,fun hd n hf hn=>?_,?_⟩
 ·rw[hold n hn];cases hq:look st.heap n with
  | none=>exact absurd hq hn
  | some x=>simp
 ·rw[hm0] at hf;rw[hold n hn];cases look st.heap n with
  | none=>rfl
  | some x=>simp[hf]
 ·intro I0 B A w a Q hm hsz hrd hnew;have hnew':∀n ob,(n,ob)∈Cg->A n=xY:=fun n ob hob=>hnew n (h3 n ob hob) (by rw[hobj n ob hob]; simp)
  refine(h6 hm hsz hrd hnew').mono ?_
  rintro v w' ⟨A',hg,hv⟩
  have hmem:Mem I0 B A' st'.heap w':=by
   refine hg.mem hm (fun n p fo' hp hl=>?_) (fun n ob fo' hob hn hl=>?_)
   ·rw[hlk] at hl;cases hq:look (Cg.map (fun(x:Nat × OB)=>(x.1,x5,x.2))) n with
    | some x =>obtain⟨ob,hob,_⟩:=Rj hq;rw[hnew' n ob hob] at hp; cases hp
    | none =>
      rw[hq] at hl;cases hf:look st.heap n with
      | none=>rw[hf] at hl; cases hl
      | some fo=>rw[hf] at hl; cases hl; exact⟨fo,rfl,rfl⟩
   ·rw[hobj n ob hob] at hl; cases hl; rfl
  refine⟨A',hmem,hg.Aj3,hg.below.mono hm.hB,hv,fun n p hp hn=>?_,fun hd=>⟨fun m q b _ hq hqd hqb=>hg.below.block b (hm.Gz m q b hq hqd hqb).2,fun m q hmf hq=>?_⟩⟩
  ·obtain⟨_,_,ob,hob,_⟩:=hg.new n p hn hp;exact⟨h3 n ob hob,by rw[hobj n ob hob]; simp⟩
  ·have:=hg.MV m q hq;rw[this];rw[hm0] at hmf;cases q;simp[UG,hmf]
end
section
variable{P:Program}{E:Env}
theorem J0{o:Oper}{y:Nat->Option Bool}(h:o.guard=xY):Region.wanted o y=xZ:=by unfold Region.wanted; rw[h]
theorem Pz{ops:Array Oper}{l:List DV}{o:Oper}(h:LY ops l o=xQ xY):o.guard=xY:=by
 unfold LY at h;split at h
 ·assumption
 ·split at h
  ·split at h<;>cases h
  ·cases h
structure NX(ns:List Nat)(nm:Option Nat)(h h':DG):Prop where
 there:∀m,m∈ns->look h m≠xY
 stays:∀m,look h m≠xY->look h' m≠xY
 same:∀m,m ∉ ns->xQ m≠nm->look h' m=look h m
theorem Kz{h:DG}{n:Nat}{x y:Bool × OB}(hl:look h n=xQ x):NX [n] xY h (UR h n y) where
 there:=fun m hm=>by rw[ze.1 hm,hl]; simp
 stays:=fun m hm=>by rw[F1 hl]; split<;>simp_all
 same:=fun m hm _=>by rw[F1 hl,Ay (fun e=>hm (by rw[e]; exact ze.2 rfl))]
theorem Oa{h:DG}{nm:Nat}{x:Bool × OB}:NX [] (xQ nm) h ((nm,x)::h) where
 there:=fun m hm=>by cases hm
 stays:=fun m hm=>by simp only[look]; cases nm==m<;>simp[hm]
 same:=fun m _ hne=>by simp only[look];rw[show(nm==m)=x5 by simpa using fun e:nm=m=>hne (by rw[e])]; rfl
theorem UU{h:DG}{n nm:Nat}{x y z:Bool × OB}(hl:look h n=xQ x):NX [n] (xQ nm) h ((nm,z)::UR h n y) where
 there:=(Kz (y:=y) hl).there
 stays:=fun m hm=>Oa.stays m ((Kz (y:=y) hl).stays m hm)
 same:=fun m hm hne=>by rw[Oa.same m (by simp) hne,(Kz (y:=y) hl).same m hm (by simp)]
theorem XW{h h':DG}{t:TypeId}{a v:DV}{r:Bool}(hs:QI E h t a v=xQ (r,h')):NX (AfR a) xY h h':=by
 unfold QI at hs;cases hT:E.ty t with
 | none=>simp[hT] at hs
 | some ti =>
 simp only[hT,Aj] at hs;cases hc:(Lx v&&(cells v).length==ti.size&&(cells v).all OT) with
 | false=>rw[hc] at hs; simp at hs
 | true =>
 rw[hc,Aa] at hs;split at hs
 ·rename_i n i j;split at hs
  ·rename_i cs hlk;cases hq:(i==0&&decide (j+ti.size<=cs.length)) with
   | false=>rw[hq] at hs; simp at hs
   | true =>rw[hq,Aa,Ae,Ak] at hs;obtain⟨_,rfl⟩:=hs;exact Kz hlk
  ·rename_i e k l hlk;split at hs
   ·rename_i k' x;cases hq:(j==0&&decide (k=k')) with
    | false=>rw[hq] at hs; simp at hs
    | true =>rw[hq,Aa,Ae,Ak] at hs;obtain⟨_,rfl⟩:=hs;exact Kz hlk
   ·cases hs
  ·rename_i e sz l hlk;cases hlow:Hp h (cells v) with
   | none=>simp[hlow] at hs
   | some q =>
   obtain⟨vs,ns⟩:=q;simp only[hlow,Aj] at hs;cases hq:(decide (j+ti.size<=sz)&&ns.isEmpty) with
   | false=>rw[hq] at hs; simp at hs
   | true =>rw[hq,Aa,Ae,Ak] at hs;obtain⟨_,rfl⟩:=hs;exact Kz hlk
  ·cases hs
 ·cases hs
theorem X6{h h':DG}{nm:Nat}{t:TypeId}{s x v:DV}{r:Bool}(ha:Lv E h nm t s x=xQ (r,v,h')):NX (WV s) (xQ nm) h h'/\look h nm=xY:=by
 unfold Lv at ha;split at ha
 ·rename_i e _ hT;cases hE:E.ty e with
  | none=>simp[hE] at ha
  | some ei =>
  simp only[hE,Aj] at ha;cases hq:(decide (ei.bytes<=128)&&decide (0<ei.size)&&(look h nm).isNone) with
  | false=>rw[hq] at ha; simp at ha
  | true =>
  rw[hq,Aa] at ha;simp only[Am,Ai,wF] at hq;refine⟨?_,hq.2⟩;split at ha
  ·split at ha
   ·rename_i k hk;cases hs1:(ei.size==1) with
    | false=>rw[hs1] at ha; simp at ha
    | true =>
    rw[hs1,Aa] at ha;cases hel:Jr h k x with
    | none=>simp[hel] at ha
    | some l =>simp only[hel,Aj,Ae,Ak] at ha;obtain⟨_,_,rfl⟩:=ha;exact Oa
   ·cases hel:L9 h ei.size x with
    | none=>simp[hel] at ha
    | some l =>simp only[hel,Aj,Ae,Ak] at ha;obtain⟨_,_,rfl⟩:=ha;exact Oa
  ·rename_i n;split at ha
   ·rename_i e' k l' hlo;cases hel:Jr h k x with
    | none=>simp[hel] at ha
    | some l =>
      simp only[hel,Aj] at ha;cases hc:(e==e'&&ei.size==1) with
      | false=>rw[hc] at ha; simp at ha
      | true =>rw[hc,Aa] at ha;simp only[Ae,Ak] at ha;obtain⟨_,_,rfl⟩:=ha;exact UU hlo
   ·rename_i e' sz l' hlo;cases hel:L9 h sz x with
    | none=>simp[hel] at ha
    | some l =>
      simp only[hel,Aj] at ha;cases hc:(e==e'&&sz==ei.size) with
      | false=>rw[hc] at ha; simp at ha
      | true =>rw[hc,Aa] at ha;simp only[Ae,Ak] at ha;obtain⟨_,_,rfl⟩:=ha;exact UU hlo
   ·cases ha
  ·cases ha
 ·cases ha
theorem RT{h h':DG}{nm:Nat}{t:TypeId}{s x v:DV}{r:Bool}(ha:Lv E h nm t s x=xQ (r,v,h')):(look h' nm).isSome=xZ:=by
 have push:∀{y:Bool × OB} {k:DG},(look ((nm,y)::k) nm).isSome=xZ:=by intro y k; simp[look]
 unfold Lv at ha;split at ha
 ·rename_i e _ hT;cases hE:E.ty e with
  | none=>simp[hE] at ha
  | some ei =>
  simp only[hE,Aj] at ha;cases hq:(decide (ei.bytes<=128)&&decide (0<ei.size)&&(look h nm).isNone) with
  | false=>rw[hq] at ha; simp at ha
  | true =>
  rw[hq,Aa] at ha;split at ha
  ·split at ha
   ·rename_i k hk;cases hs1:(ei.size==1) with
    | false=>rw[hs1] at ha; simp at ha
    | true =>
    rw[hs1,Aa] at ha;cases hel:Jr h k x with
    | none=>simp[hel] at ha
    | some l =>simp only[hel,Aj,Ae,Ak] at ha;obtain⟨_,_,rfl⟩:=ha;exact push
   ·cases hel:L9 h ei.size x with
    | none=>simp[hel] at ha
    | some l =>simp only[hel,Aj,Ae,Ak] at ha;obtain⟨_,_,rfl⟩:=ha;exact push
  ·rename_i n;split at ha
   ·rename_i e' k l' hlo;cases hel:Jr h k x with
    | none=>simp[hel] at ha
    | some l =>
      simp only[hel,Aj] at ha;cases hc:(e==e'&&ei.size==1) with
      | false=>rw[hc] at ha; simp at ha
      | true =>rw[hc,Aa] at ha;simp only[Ae,Ak] at ha;obtain⟨_,_,rfl⟩:=ha;exact push
   ·rename_i e' sz l' hlo;cases hel:L9 h sz x with
    | none=>simp[hel] at ha
    | some l =>
      simp only[hel,Aj] at ha;cases hc:(e==e'&&sz==ei.size) with
      | false=>rw[hc] at ha; simp at ha
      | true =>rw[hc,Aa] at ha;simp only[Ae,Ak] at ha;obtain⟨_,_,rfl⟩:=ha;exact push
   ·cases ha
  ·cases ha
 ·cases ha
theorem XZ(he:He P E){ops:Array Oper}{draw:Bool}{st st':St}{dst:Option Tmp}{t:TypeId}{x y:Operand}{ty:TypeId}{pos:String}{after:Array Edge}{guard:Option (Nat × Bool)}
 (hs:JG E ops draw st ⟨dst,.store t x y,ty,pos,after,guard⟩=xQ (xZ,st')) (hfree:∀u,dst=xQ u->E.np<=u):∃d,NV P E ops draw st ⟨dst,.store t x y,ty,pos,after,guard⟩ st' d:=by
 unfold JG at hs;cases hc:LY ops st.tmps ⟨dst,.store t x y,ty,pos,after,guard⟩ with
 | none=>simp[hc] at hs
 | some g? =>
 cases g? with
 | some b=>simp[hc] at hs
 | none =>
 have hg:=Pz hc;dsimp only at hg;simp only[hc,Aj] at hs;cases hst:QI E st.heap t (Gn st.tmps x) (Gn st.tmps y) with
 | none=>simp[hst] at hs
 | some rh =>
 obtain⟨r,h'⟩:=rh;simp only[hst,Aj,Ae,Ak] at hs;obtain⟨rfl,rfl⟩:=hs;have ht:=XW hst;refine⟨.undef,hfree,rfl,fun _=>ht.there,ht.stays,fun _ n hn _=>ht.same n hn (by simp),?_⟩;intro I0 B A w a Q hm hsz hrd hnew;have hr:=Qb (w:=w) hrd;obtain⟨w',hrun,h1,h2,h3,h4,h5,h6,h7⟩:=AcO he.ty hm (hr x (by simp[Op.operands])) (hr y (by simp[Op.operands])) hst rfl;intro K hK;rw[Az (J0 hg)];unfold Oper.wp execOp;simp only[Sem.run_bind,Sem.run_pure,Result.andThen_ok,hrun];rw[Oper.upon_skip];refine hK undef w' ⟨A,h1,h2,h3,by simp[B0],fun n p hp hn=>(by rw[hn] at hp; cases hp),fun _=>⟨h5,fun m q _ hq=>hq⟩⟩
theorem Wx(he:He P E){ops:Array Oper}{draw:Bool}{st st':St}{dst:Option Tmp}{args:Array Operand}{ts:Array TypeId}{ty:TypeId}{pos:String}{after:Array Edge}{guard:Option (Nat × Bool)}
 (hs:JG E ops draw st ⟨dst,.call ⟨.builtin .append,args,ts⟩,ty,pos,after,guard⟩=xQ (xZ,st')) (hfree:∀u,dst=xQ u->E.np<=u):∃d,NV P E ops draw st ⟨dst,.call ⟨.builtin .append,args,ts⟩,ty,pos,after,guard⟩ st' d:=by
 unfold JG at hs;cases hc:LY ops st.tmps ⟨dst,.call ⟨.builtin .append,args,ts⟩,ty,pos,after,guard⟩ with
 | none=>simp[hc] at hs
 | some g? =>
 simp only[hc,Aj] at hs;split at hs
 ·rename_i s x t t' hargs hts;have hg:=Pz hc;dsimp only at hg;cases hq:(t==t'&&dst.isSome) with
  | false=>rw[hq] at hs; simp at hs
  | true =>
  rw[hq,Aa] at hs;simp only[Am,beq_iff_eq] at hq;obtain⟨rfl,hdst⟩:=hq;cases hap:Lv E st.heap (dst.getD 0) t (Gn st.tmps s) (Gn st.tmps x) with
  | none=>simp[hap] at hs
  | some rh =>
  obtain⟨r,v,h'⟩:=rh;simp only[hap,Aj,Ae,Ak] at hs;obtain⟨rfl,rfl⟩:=hs;obtain⟨ht,hnone⟩:=X6 hap
  have hmut:F6 E ops st ⟨dst,.call ⟨.builtin .append,args,ts⟩,ty,pos,after,guard⟩=WV (Gn st.tmps s):=by unfold F6 Amt; simp only[hargs,OP,Aa]
  obtain rfl:args=#[s,x]:=by cases args with | mk l=>simp only at hargs; rw[hargs]
  obtain rfl:ts=#[t,t]:=by cases ts with | mk l=>simp only at hts; rw[hts]
  refine⟨v,hfree,rfl,fun _ n hn=>ht.there n (hmut ▸ hn),ht.stays,fun _ n hn hl=>ht.same n (hmut ▸ hn) (fun e=>hl ?_),?_⟩
  ·cases dst with
   | none=>cases hdst
   | some d=>simp only[Be] at e hnone; cases e; exact hnone
  ·intro I0 B A w a Q hm hsz hrd hnew;have hr:=Qb (w:=w) hrd
   have hnm:A (dst.getD 0)=xY:=hnew _ hnone (by have:=RT hap;exact fun e=>by rw[e] at this; cases this)
   obtain⟨v',w',A',hrun,h1,h2,h3,h4,h5,h6,h7,h8,_⟩:=Abo (ty:=ty) he.ty hm hnm (hr s (by simp[Op.operands,Call.operands])) (hr x (by simp[Op.operands,Call.operands])) hap rfl;intro K hK;rw[Az (J0 hg)];unfold Oper.wp execOp;simp only[resolve,invoke,builtin,Sem.run_bind,Sem.run_pure,Result.andThen_ok,List.map_toArray,yq,List.map_nil,hrun];rw[Oper.upon_value];refine hK v' w' ⟨A',h1,h2,h3,h4,fun n p hp hn=>?_,fun _=>⟨hmut ▸ h7,fun m q hmn hq=>h8 m q (hmut ▸ hmn) hq⟩⟩;have:=h5 n p hp hn;subst this;exact⟨hnone,fun e=>by have:=RT hap; rw[e] at this; cases this⟩
 ·cases hs
theorem Le{c c':Ctx}{w w':World}(h:JF c w c' w'){p:Place}(hb:p.st≠.dead->∀b,p.FP=xQ b->w'.heap[b]?=w.heap[b]?){fo:Bool × OB}(hr:Dy c w p fo):Dy c' w' p fo:=by
 by_cases hd:p.st=.dead
 ·obtain⟨fz,ob⟩:=fo;cases ob with
  | dead=>exact hd
  | box cs=>exact absurd hd (Cm hr.1)
  | Bj e k l=>exact absurd hd (Cm hr.1)
  | Cu e sz l=>exact absurd hd (Cm hr.1)
 ·exact Dy.DD h rfl rfl (hb hd) fo hr
inductive XB(E:Env)(h:DG)(ρ:Operand->DV)(op:Op)(n:Nat)(r:Bool)(v:DV)(ob:OB):Prop
 | LH (f:Operand) (args:Array Operand) (ts:Array TypeId) (g:FuncId) (x:Operand) (a c:Int) (e:TypeId) (l:Bf):op=.call ⟨.value f,args,ts⟩->args.toList=[x]->ρ f=.fn g [] []->E.LH g=xQ e ->
  ρ x=.agg [.int .i64 a,.int .i64 c,.Dh n]->look h n=xQ (x5,.Bj e .u64 l)->v=.undef->ob=.dead->XB E h ρ op n r v ob
 | wr (f:Operand) (args:Array Operand) (ts:Array TypeId) (g:FuncId) (x:Operand) (xs:List Operand) (W:Writer) (l:Bf) (ds:List DV) (ns:List Nat):op=.call ⟨.value f,args,ts⟩->args.toList=x::xs->ρ f=.fn g [] []->E.wr g=xQ W ->
  ρ x=.Dh n->look h n=xQ (x5,.Bj W.elem W.kind l)->Hp h (xs.map ρ)=xQ (ds,ns)->n ∉ ns->W.pre l ds=r->v=.undef->ob=.Bj W.elem W.kind (W.out l ds)->XB E h ρ op n r v ob
 | copy (args:Array Operand) (ts:Array TypeId) (x y:Operand) (t t':TypeId) (ti ei:TI) (e:TypeId) (k:IntKind) (l z:Bf):op=.call ⟨.builtin .copy,args,ts⟩->args.toList=[x,y]->ts.toList=[t,t']->ρ x=.Dh n->E.ty t=xQ ti->ti.kind=.slice e ->
  E.ty e=xQ ei->ei.size=1->look h n=xQ (x5,.Bj e k l)->Jr h k (ρ y)=xQ z->v=.int .i64 (min z.length l.length:Nat)->ob=.Bj e k (MP l z)->XB E h ρ op n r v ob
theorem Yx{h:DG}{ρ:Operand->DV}{g?:Option Bool}{op:Op}{n:Nat}{r:Bool}{v:DV}{ob:OB}(hh:Ld E h ρ g? op=xQ (n,r,v,ob)):g?=xY/\XB E h ρ op n r v ob:=by
 unfold Ld at hh;split at hh
 ·rename_i f args ts;split at hh
  ·rename_i g x xs hf ha;split at hh
   ·rename_i W hW;split at hh
    ·rename_i m hx;split at hh
     ·rename_i e k l hl;cases hlo:Hp h (xs.map ρ) with
      | none=>simp[hlo] at hh
      | some dn =>
        obtain⟨ds,ns⟩:=dn;simp only[hlo,Aj] at hh;cases hc:(e==W.elem&&decide (k=W.kind)&&!(ns.contains m)) with
        | false=>rw[hc] at hh; simp at hh
        | true =>rw[hc,Aa] at hh;simp only[Ae,Ak] at hh;simp only[Am,beq_iff_eq,Ai,yw] at hc;obtain⟨⟨rfl,rfl⟩,hns⟩:=hc;obtain⟨rfl,h1,h2,h3⟩:=hh;exact⟨rfl,.wr f args ts g x xs W l ds ns rfl ha hf hW hx hl hlo (fun k=>by simp[List.contains_iff_mem,k] at hns) h1 h2.symm h3.symm⟩
     ·cases hh
    ·cases hh
   ·split at hh
    ·rename_i e a c m hE hx;split at hh
     ·rename_i e' l hl;cases hc:(e==e') with
      | false=>rw[hc] at hh; simp at hh
      | true =>
        rw[hc,Aa] at hh;simp only[Ae,Ak] at hh;obtain rfl:e=e':=by simpa using hc
        obtain⟨rfl,_,h2,h3⟩:=hh;exact⟨rfl,.LH f args ts g x a c e l rfl ha hf hE hx hl h2.symm h3.symm⟩
     ·cases hh
    ·cases hh
  ·cases hh
 ·rename_i args ts;split at hh
  ·rename_i x y t t' ha ht;split at hh
   ·rename_i m sz by_ e zr hx hT;split at hh
    ·rename_i e' k l ei hl hE;cases hz:Jr h k (ρ y) with
     | none=>simp[hz] at hh
     | some z =>
       simp only[hz,Aj] at hh;cases hc:(e==e'&&ei.size==1) with
       | false=>rw[hc] at hh; simp at hh
       | true =>rw[hc,Aa] at hh;simp only[Ae,Ak] at hh;simp only[Am,beq_iff_eq] at hc;obtain⟨rfl,hs⟩:=hc;obtain⟨rfl,_,h2,h3⟩:=hh;exact⟨rfl,.copy args ts x y t t' _ ei e k l z rfl ha ht hx hT rfl hE hs hl hz h2.symm h3.symm⟩
    ·cases hh
   ·cases hh
  ·cases hh
 ·cases hh
theorem UD{w w':World}{B:Nat}{e e':TypeId}{s s' n n':Nat}{v:Value}{xs xs':List Value}(h:w.ownsRow B e s v n xs)(h':w'.ownsRow 0 e' s' v n' xs'):w'.ownsRow B e' s' v n' xs':=by
 refine⟨h'.1,?_⟩;rcases h'.2 with h2 | ⟨g,cap,cur,hv,_,r⟩
 ·exact .inl h2
 ·rcases h.2 with ⟨hv0,_⟩ | ⟨g2,cap2,cur2,hv2,hB,_⟩
  ·rw[hv] at hv0; cases hv0
  ·rw[hv] at hv2;cases hv2;exact .inr ⟨g,cap,cur,hv,hB,r⟩
theorem Y4{I0:Nat->Prop}{B:Nat}{A:Nat->Option Place}{h:DG}{w w':World}(hm:Mem I0 B A h w){n:Nat}{p:Place}{e:TypeId}{k:IntKind}{l l':Bf}{sv:Value}(hp:A n=xQ p)(hlk:look h n=xQ (x5,.Bj e k l))(hlive:p.st=.live)(hkind:p.kind=.row sv 1)
 (hown:w.ownsRow B e 1 sv l.length (l.map (Value.int k))) (hown':w'.ownsRow 0 e 1 sv l'.length (l'.map (Value.int k))) (hb:Below 0 w w') (hk:∀b,b<w.heap.size->sv.ownBlock≠xQ b->w'.heap[b]?=w.heap[b]?):
 Mem I0 B A (UR h n (x5,.Bj e k l')) w'/\Hd A w A w'/\Below B w w':=by
 have hblk:p.FP=sv.ownBlock:=by unfold Place.FP; rw[hkind]
 have hmv:Hd A w A w':=⟨hb.size,fun m q hq=>⟨q,hq,by by_cases hd:q.st=.dead; exact .inl hd; exact .inr ⟨hd,rfl⟩⟩,fun m q b hq hql hqb _=>⟨m,q,hq,hql,hqb⟩,fun b hlt hno=>hk b hlt (fun h=>hno n p hp hlive (by rw[hblk]; exact h))⟩
 refine⟨⟨AP hm.hB hb.size,hm.QF,fun m q fo hq hlo=>?_,fun m q b hq hqd hqb=>?_,hm.inj⟩,hmv,⟨hb.os,hb.tape,hb.output,hb.size,fun b hlt=>hk b (AU hlt hm.hB) fun h=>?_⟩⟩
 ·rw[F1 hlk] at hlo;by_cases hmn:m=n
  ·subst hmn;rw[Az rfl] at hlo; cases hlo;rw[hp] at hq; cases hq;exact⟨hlive,sv,hkind,UD hown hown'⟩
  ·rw[Ay hmn] at hlo;exact Le hmv.DD (fun hd b hb'=>hk b (hm.Gz m q b hq hd hb').2 fun h=>hmn (hm.inj m n q p b hq hp hd (by rw[hlive]; simp) hb' (by rw[hblk]; exact h))) (hm.obj m q fo hq hlo)
 ·have:=hm.Gz m q b hq hqd hqb;exact⟨this.1,AU this.2 hb.size⟩
 ·have:=(hm.Gz n p b hp (by rw[hlive]; simp) (by rw[hblk]; exact h)).1;omega
theorem AgW{w:World}{dT sT ty elem:TypeId}(hu:P.underlying dT=xQ (.slice elem))(hs:(P.info? elem).map (·.size)=xQ 1){e:TypeId}{k:IntKind}{l z:Bf}{v vy:Value}
 (hown:w.ownsRow 0 e 1 v l.length (l.map (Value.int k))) (hy:∃a m c,vy=.slice a m c/\m=z.length/\(m=0\/∃b o,a=xQ ⟨b,o,xY⟩/\Fu w b o (z.map (Value.int k)))):
 ∃w',(Builtin.copy_ #[dT,sT] ty #[v,vy]).run P w=.ok (goInt ((min z.length l.length:Nat):Int)) w'/\w'.ownsRow 0 e 1 v (MP l z).length ((MP l z).map (Value.int k))/\Below 0 w w'/\∀b,b<w.heap.size->v.ownBlock≠xQ b->w'.heap[b]?=w.heap[b]?:=by
 obtain⟨a,m,c,rfl,rfl,hy⟩:=hy
 have hlen:(MP l z).length=l.length:=by unfold MP;rw[A8,zM,zP]; omega
 have nothing:min z.length l.length=0->MP l z=l:=fun h=>by
  unfold MP;rcases(show z.length=0\/l.length=0 by omega) with h | h
  ·rw[AJ h]; simp
  ·rw[AJ h]; simp
 by_cases h0:min z.length l.length=0
 ·obtain⟨dp,dl,dc,hv,hdl⟩:∃dp dl dc,v=.slice dp dl dc/\dl=l.length:=by
   rcases hown.2 with ⟨hv,hn⟩ | ⟨g,cap,cur,hv,_⟩
   ·exact⟨xY,0,0,hv,hn.symm⟩
   ·exact⟨_,_,cap,hv,rfl⟩
  subst hv hdl;refine⟨w,?_,by rw[nothing h0]; exact hown,Below.refl _ _,fun _ _ _=>rfl⟩;rw[h0];exact run_copy_none w dT sT ty elem dp a l.length dc z.length c hu hs h0
 ·rcases hown.2 with ⟨hv,hn⟩ | ⟨g,cap,cur,hv,_,hg,hnc,hm,hcs,htake⟩
  ·omega
  ·subst hv;rcases hy with hy | ⟨b,o,rfl,hr⟩
   ·omega
   ·let cs:List Value:=(z.take l.length).map (Value.int k)
    have hcl:cs.length=Nat.min z.length l.length:=by show((z.take l.length).map (Value.int k)).length=_;rw[AO,zM];exact Nat.min_comm _ _
    have hcs1:cs.length<=l.length:=by rw[hcl]; exact xO _ _
    have hrun:=run_copy_row (P:=P) w dT sT ty elem g 0 l.length cap ⟨b,o,xY⟩ z.length c cur e cs hu hs hg hcl (fun j u hu=>by
     have hj:(z.map (Value.int k))[j]?=xQ u:=by
      have:cs[j]?=xQ u:=hu;rw[show cs=(z.map (Value.int k)).take l.length from List.map_take.symm ▸ rfl] at this;rw[List.getElem?_take] at this;split at this
      ·exact this
      ·cases this
     have:=hr j u hj;unfold Addr.add;split
     ·rename_i h0; rw[h0] at this; exact this
     ·exact this) (by omega) (fun u hu=>by obtain⟨x,_,rfl⟩:=zh.1 hu;rfl)
    have hsz:g<w.heap.size:=(Array.getElem?_eq_some_iff.1 hg).1;refine⟨w.setRow g (zL 0 cur.toList++cs++zN (0+cs.length) cur.toList).toArray,hrun.trans (congrArg (fun q:Nat=>Result.ok (goInt (q:Int)) _) hcl),?_,?_,?_⟩
    ·refine⟨by rw[AO,hlen]; omega,.inr ⟨g,cap,_,by rw[hlen],zo _,setRow_heap w g cur _ e _ hg,by rw[hlen]; exact hnc,hm,?_,?_⟩⟩
     ·rw[List.size_toArray,A8,A8,zM,zP,hcl,z5]
      have:Nat.min z.length l.length<=cur.size:=by have:=xO z.length l.length;omega
      omega
     ·rw[hlen];show zL (l.length*1) (zL 0 cur.toList++cs++zN (0+cs.length) cur.toList)=_;rw[List.take_zero,List.nil_append,AR,AS];rw[AR] at htake;have h1:cs.length<=l.length:=by rw[hcl]; exact xO _ _
      rw[List.take_append,List.take_of_length_le h1,List.take_drop,show cs.length+(l.length-cs.length)=l.length by omega,htake];unfold MP;rw[List.map_append,List.map_drop];congr 1;by_cases hzl:z.length<=l.length
      ·rw[hcl,show Nat.min z.length l.length=z.length from Nat.min_eq_left hzl]
      ·rw[hcl,show Nat.min z.length l.length=l.length from Nat.min_eq_right (by omega),Ap (by rw[AO]; exact AB _),Ap (by rw[AO]; omega)]
    ·exact⟨rfl,rfl,rfl,by simp[World.setRow],fun b hb=>by omega⟩
    ·intro b _ hbn;exact setRow_other w g b _ (fun e=>hbn (by rw[e]; rfl))
theorem Aaa(he:He P E){ops:Array Oper}{draw:Bool}{st st':St}{o:Oper}(hs:JG E ops draw st o=xQ (xZ,st'))(hfree:∀t,o.dst=xQ t->E.np<=t)(hmut:OP o.op=x5)
 (hsp:¬∀g?,LY ops st.tmps o=xQ g?->(cond draw xY (Ld E st.heap (Gn st.tmps) g? o.op))=xY):∃d,NV P E ops draw st o st' d:=by
 obtain⟨dst,op,ty,pos,after,guard⟩:=o;rw[Classical.not_forall] at hsp;obtain⟨g?,hsp⟩:=hsp;rw[Classical.not_imp] at hsp;obtain⟨hc,hsp⟩:=hsp;cases draw with
 | true=>exact absurd rfl hsp
 | false =>
 dsimp only at hsp hmut;rw[Af] at hsp;cases hsa:Ld E st.heap (Gn st.tmps) g? op with
 | none=>exact absurd hsa hsp
 | some x4 =>
 obtain⟨n,r,d,ob⟩:=x4;obtain⟨rfl,ho⟩:=Yx hsa;have hg:=Pz hc;dsimp only at hg
 have hst:r=xZ/\st'={ tmps:=Pe st.tmps dst d,heap:=UR st.heap n (x5,ob) }:=by
  cases ho with
  | LH f args ts g x a c e l hop =>subst hop;unfold JG at hs;simp only[hc,Aj,Af,hsa,Ae,Ak] at hs;exact⟨hs.1,hs.2.symm⟩
  | wr f args ts g x xs W l ds ns hop =>subst hop;unfold JG at hs;simp only[hc,Aj,Af,hsa,Ae,Ak] at hs;exact⟨hs.1,hs.2.symm⟩
  | copy args ts x y t t' ti ei e k l z hop =>subst hop;unfold JG at hs;simp only[hc,Aj,Af,hsa,Ae,Ak] at hs;exact⟨hs.1,hs.2.symm⟩
 obtain⟨rfl,rfl⟩:=hst
 have hlk:∃x,look st.heap n=xQ x:=by
  cases ho with
  | LH _ _ _ _ _ _ _ _ _ _ _ _ _ _ h=>exact⟨_,h⟩
  | wr _ _ _ _ _ _ _ _ _ _ _ _ _ _ _ h=>exact⟨_,h⟩
  | copy _ _ _ _ _ _ _ _ _ _ _ _ _ _ _ _ _ _ _ _ h=>exact⟨_,h⟩
 obtain⟨x0,hlk⟩:=hlk;have ht:=Kz (y:=(x5,ob)) hlk;refine⟨d,hfree,rfl,fun h=>(by cases h),ht.stays,fun h=>(by cases h),?_⟩;intro I0 B A w a Q hm hsz hrd hnew;have hr:=Qb (w:=w) hrd
 have own:∀{e:TypeId} {k:IntKind} {l:Bf} {v:Value},look st.heap n=xQ (x5,.Bj e k l)->B0 (Cc I0 B A w) w (.Dh n) v ->
  ∃p,A n=xQ p/\p.st=.live/\p.kind=.row v 1/\w.ownsRow B e 1 v l.length (l.map (Value.int k)):=by
  intro e k l v hlk hv;simp only[B0] at hv;obtain⟨_,p,hp,hpd⟩:=hv;have hp:A n=xQ p:=hp;obtain⟨hlive,sv,hkind,hown⟩:=Em hm hp hlk;simp only[zW,if_false] at hlive
  have hsv:v=sv:=by
   rcases hpd with hpd | ⟨size,hk⟩
   ·rw[hlive] at hpd; cases hpd
   ·rw[hkind] at hk; cases hk; rfl
  subst hsv;exact⟨p,hp,hlive,hkind,hown⟩
 cases ho with
 | LH f args ts g x r c e l hop hargs hf hE hx hlk hd hob =>
   subst hop hd hob;have hf':=hr f (by simp[Op.operands,Call.operands]);have hx':=hr x (by simp[Op.operands,Call.operands]; exact .inr (by rw[<- wG,hargs]; simp));rw[hf] at hf';rw[hx] at hx';simp only[B0] at hf' hx';obtain⟨fs,cs,hfv,hfs,hcs⟩:=hf';obtain⟨vs,hxv,hvs⟩:=hx'
   have e1:fs=#[]:=by have:=hfs.length; simp at this; exact xg this.symm
   have e2:cs=#[]:=by have:=hcs.length; simp at this; exact xg this.symm
   subst e1; subst e2;simp only[BM,B0] at hvs;obtain⟨u1,us1,h1,rfl,u2,us2,rfl,rfl,v,us3,rfl,⟨hcell,p,hp,hpd⟩,rfl⟩:=hvs;have hp:A n=xQ p:=hp;have hvs':vs=#[.int .i64 r,.int .i64 c,v]:=yh.1 (by simpa using h1);subst hvs';obtain⟨hlive,sv,hkind,hown⟩:=Em hm hp hlk;simp only[zW,if_false] at hlive
   have hsv:v=sv:=by
    rcases hpd with hpd | ⟨size,hk⟩
    ·rw[hlive] at hpd; cases hpd
    ·rw[hkind] at hk; cases hk; rfl
   subst hsv;have hblk:p.FP=v.ownBlock:=by unfold Place.FP; rw[hkind]
   have hrun:=(he.LH g e hE).run w r c v l (K9 hown (zo _))
   let A':Nat->Option Place:=fun m=>if m=n then xQ ⟨.dead,p.kind⟩ else A m
   have hA':∀{m:Nat} {q:Place},A' m=xQ q->q.st≠.dead->m≠n/\A m=xQ q:=by
    intro m q hq hqd;by_cases hmn:m=n
    ·have hq:(if m=n then xQ ⟨.dead,p.kind⟩ else A m)=xQ q:=hq;rw[Az hmn] at hq; cases hq; exact absurd rfl hqd
    ·have hq:(if m=n then xQ ⟨.dead,p.kind⟩ else A m)=xQ q:=hq;rw[Ay hmn] at hq; exact⟨hmn,hq⟩
   intro K hK;rw[Az (J0 hg)]
   obtain rfl:args=#[x]:=by cases args with | mk l=>simp only at hargs; rw[hargs]
   refine EA.wp (K':=fun _ w'=>Below 0 w w'/\∀b,b<w.heap.size->v.ownBlock≠xQ b->w'.heap[b]?=w.heap[b]?) ?_ ?_
   ·unfold EA
    have hexec:(execOp a.eval ⟨dst,.call ⟨.value f,#[x],ts⟩,ty,pos,after,guard⟩).run P w=.ok (.enter g #[.agg #[.int .i64 r,.int .i64 c,v]]) w:=by
     simp only[execOp,resolve,hfv,Deferred.ofValue,Sem.run_bind,Sem.run_pure,Result.andThen_ok,invoke];have:(#[]++Array.map a.eval #[x]++#[]:Array Value)=#[.agg #[.int .i64 r,.int .i64 c,v]]:=by simp[hxv]
     rw[this];exact(he.LH g e hE).call _ _
    rw[hexec];exact hrun.mono fun en w' ⟨⟨u,hu⟩,hb,hk⟩=>⟨u,hu,hb,hk⟩
   ·rintro u w' ⟨hb,hk⟩
    have hmv:Hd A w A' w':=by
     refine⟨hb.size,fun m q hq=>?_,fun m q b hq hql hqb _=>?_,fun b hlt hno=>hk b hlt (fun h=>hno n p hp hlive (by rw[hblk]; exact h))⟩
     ·by_cases hmn:m=n
      ·subst hmn;exact⟨⟨.dead,p.kind⟩,Az rfl,.inl rfl⟩
      ·refine⟨q,(Ay hmn).trans hq,?_⟩;by_cases hd:q.st=.dead
       ·exact .inl hd
       ·exact .inr ⟨hd,rfl⟩
     ·obtain⟨_,hq⟩:=hA' hq (by rw[hql]; simp);exact⟨m,q,hq,hql,hqb⟩
    refine hK u w' ⟨A',⟨AP hm.hB hb.size,hm.QF,fun m q fo hq hlo=>?_,fun m q b hq hqd hqb=>?_,fun m m' q q' b hq hq' hqd hqd' hqb hqb'=>?_⟩,hmv,⟨hb.os,hb.tape,hb.output,hb.size,fun b hlt=>hk b (AU hlt hm.hB) fun h=>?_⟩,by simp[B0],fun m q hq hn=>?_,fun h=>(by cases h)⟩
    ·rw[F1 hlk] at hlo;by_cases hmn:m=n
     ·rw[Az hmn] at hlo; cases hlo;have hq:(if m=n then xQ ⟨.dead,p.kind⟩ else A m)=xQ q:=hq;rw[Az hmn] at hq; cases hq;rfl
     ·rw[Ay hmn] at hlo;have hq:(if m=n then xQ ⟨.dead,p.kind⟩ else A m)=xQ q:=hq;rw[Ay hmn] at hq;refine Le hmv.DD (fun hd b hb'=>hk b (hm.Gz m q b hq hd hb').2 fun h=>hmn (hm.inj m n q p b hq hp hd (by rw[hlive]; simp) hb' (by rw[hblk]; exact h))) (hm.obj m q fo hq hlo)
    ·obtain⟨_,hq⟩:=hA' hq hqd;have:=hm.Gz m q b hq hqd hqb;exact⟨this.1,AU this.2 hb.size⟩
    ·obtain⟨_,hq⟩:=hA' hq hqd;obtain⟨_,hq'⟩:=hA' hq' hqd';exact hm.inj m m' q q' b hq hq' hqd hqd' hqb hqb'
    ·have:=(hm.Gz n p b hp (by rw[hlive]; simp) (by rw[hblk]; exact h)).1;omega
    ·by_cases hmn:m=n
     ·subst hmn; rw[hp] at hn; cases hn
     ·have hq:(if m=n then xQ ⟨.dead,p.kind⟩ else A m)=xQ q:=hq;rw[Ay hmn,hn] at hq; cases hq
 | wr f args ts g x xs W l ds ns hop hargs hf hE hx hlk hlo hns hpre hd hob =>
   subst hop hd hob;have hf':=hr f (by simp[Op.operands,Call.operands]);rw[hf] at hf';simp only[B0] at hf';obtain⟨fs,cs,hfv,hfs,hcs⟩:=hf'
   have e1:fs=#[]:=by have:=hfs.length; simp at this; exact xg this.symm
   have e2:cs=#[]:=by have:=hcs.length; simp at this; exact xg this.symm
   subst e1; subst e2;have hmem:∀y∈args.toList,B0 (Cc I0 B A w) w (Gn st.tmps y) (a.eval y):=fun y hy=>hr y (by simp[Op.operands,Call.operands]; exact .inr (wG.1 hy))
   have hx':=hmem x (by rw[hargs]; exact AY);rw[hx] at hx';obtain⟨p,hp,hlive,hkind,hown⟩:=own hlk hx';have hblk:p.FP=(a.eval x).ownBlock:=by unfold Place.FP; rw[hkind]
   have hrest:BM (Cc I0 B A w) w (xs.map (Gn st.tmps)) (xs.map a.eval):=by
    have:∀ys:List Operand,(∀y∈ys,y∈args.toList)->BM (Cc I0 B A w) w (ys.map (Gn st.tmps)) (ys.map a.eval):=by
     intro ys
     induction ys with
     | nil=>intro _; simp[BM]
     | cons y ys ih =>intro hys;rw[yq,yq,BM.CW];exact⟨_,_,rfl,hmem y (hys y AY),ih fun z hz=>hys z (AN _ hz)⟩
    exact this xs fun y hy=>by rw[hargs]; exact AN _ hy
   have hlow:=Ks (Qj hm 8) _ _ ds ns hlo hrest
   have hseen:∀b,seen I0 B A w ns b->b<w.heap.size/\(a.eval x).ownBlock≠xQ b:=by
    intro b hb;rcases hb with hb | ⟨m,q,hmn,hq,hqd,hqb⟩
    ·exact⟨hb.1,fun h=>hb.2.2 n p hp hlive (by rw[hblk]; exact h)⟩
    ·exact⟨(hm.Gz m q b hq hqd hqb).2,fun h=>hns (by rw[<- hm.inj m n q p b hq hp hqd (by rw[hlive]; simp) hqb (by rw[hblk]; exact h)]; exact hmn)⟩
   have hrun:=(he.wr g W hE).run w (a.eval x) l ds (xs.map a.eval) (K9 hown (zo _)) (BM.Fg (Kj hseen) _ _ hlow) hpre;intro K hK;rw[Az (J0 hg)]
   have hav:Array.map a.eval args=(a.eval x::xs.map a.eval).toArray:=by apply yh.1;rw[Array.toList_map,hargs]; rfl
   refine EA.wp (K':=fun _ w'=>w'.ownsRow 0 W.elem 1 (a.eval x) (W.out l ds).length ((W.out l ds).map (Value.int W.kind))/\Below 0 w w'/\∀b,b<w.heap.size->(a.eval x).ownBlock≠xQ b->w'.heap[b]?=w.heap[b]?) ?_ ?_
   ·unfold EA
    have hexec:(execOp a.eval ⟨dst,.call ⟨.value f,args,ts⟩,ty,pos,after,guard⟩).run P w=.ok (.enter g (a.eval x::xs.map a.eval).toArray) w:=by
     simp only[execOp,resolve,hfv,Deferred.ofValue,Sem.run_bind,Sem.run_pure,Result.andThen_ok,invoke];have:(#[]++Array.map a.eval args++#[]:Array Value)=(a.eval x::xs.map a.eval).toArray:=by rw[hav]; simp
     rw[this];exact(he.wr g W hE).call _ _
    rw[hexec];exact hrun.mono fun en w' ⟨⟨u,hu⟩,ho,hb,hk⟩=>⟨u,hu,ho,hb,hk⟩
   ·rintro u w' ⟨ho,hb,hk⟩
    obtain⟨m1,m2,m3⟩:=Y4 hm hp hlk hlive hkind hown ho hb hk;exact hK u w' ⟨A,m1,m2,m3,by simp[B0],fun m q hq hn=>(by rw[hn] at hq; cases hq),fun h=>(by cases h)⟩
 | copy args ts x y t t' ti ei e k l z hop hargs hts hx hT hti hE hei hlk hz hd hob =>
   subst hop hd hob
   obtain rfl:args=#[x,y]:=by cases args with | mk l=>simp only at hargs; rw[hargs]
   obtain rfl:ts=#[t,t']:=by cases ts with | mk l=>simp only at hts; rw[hts]
   have hx':=hr x (by simp[Op.operands,Call.operands]);have hy':=hr y (by simp[Op.operands,Call.operands]);rw[hx] at hx';obtain⟨p,hp,hlive,hkind,hown⟩:=own hlk hx';have hu:=(he.ty t ti hT).desc;rw[hti] at hu;simp only[CV] at hu
   have hs:(P.info? e).map (·.size)=xQ 1:=by obtain⟨i,zz,hi,hsz,_⟩:=(he.ty e ei hE).info;rw[hi,yn,hsz,hei]
   obtain⟨w',hrun,ho,hb,hk⟩:=AgW (sT:=t') (ty:=ty) hu hs (K9 hown (zo _)) (Ro hm hy' hz);intro K hK;rw[Az (J0 hg)];obtain⟨m1,m2,m3⟩:=Y4 hm hp hlk hlive hkind hown ho hb hk;unfold Oper.wp;simp[execOp,resolve,invoke,builtin,hrun,Result.andThen];exact hK _ w' ⟨A,m1,m2,m3,by simp[B0,goInt],fun m q hq hn=>(by rw[hn] at hq; cases hq),fun h=>(by cases h)⟩
theorem Ta(he:He P E){ops:Array Oper}{draw:Bool}{st st':St}{o:Oper}(hs:R8 E ops draw st o=xQ (xZ,st')):∃d,NV P E ops draw st o st' d:=by
 unfold R8 at hs;cases hp:Aki E o with
 | true=>rw[hp] at hs; cases hs
 | false =>
 rw[hp,Af] at hs
 have hfree:∀t,o.dst=xQ t->E.np<=t:=fun t ht=>by
  unfold Aki at hp;rw[ht] at hp;rcases AF t E.np with h | h
  ·have hp:yK t E.np=x5:=hp;rw[show yK t E.np=xZ by rw[Nat.blt_eq]; exact h] at hp; cases hp
  ·exact h
 cases hmut:OP o.op with
 | false =>
   by_cases hsp:∀g?,LY ops st.tmps o=xQ g?->(cond draw xY (Ld E st.heap (Gn st.tmps) g? o.op))=xY
   ·exact Ya he hs hfree hmut hsp
   ·exact Aaa he hs hfree hmut hsp
 | true =>
   obtain⟨dst,op,ty,pos,after,guard⟩:=o;dsimp only at hmut;unfold OP at hmut;split at hmut
   ·exact XZ he hs hfree
   ·exact Wx he hs hfree
   ·cases hmut
end
structure UJ(E:Env) where
 FP:Nat->Prop
 val:Nat->Value
structure Ir{E:Env}(S:UJ E)(I0:Nat->Prop)(B:Nat)(w0:World)(A:Nat->Option Place)(f:Nat->Option (Bool × OB))(g:Nat->DV)(len:Nat)(a:Act)(w:World):Prop where
 defers:a.defers=[]
 size:a.tmps.size=len
 below:Below B w0 w
 hB:B<=w.heap.size
 QF:∀b,I0 b->b<B
 obj:∀n p,A n=xQ p->∃fo,f n=xQ fo/\Dy (Cc I0 B A w) w p fo
 Gz:∀n p b,A n=xQ p->p.st≠.dead->p.FP=xQ b->B<=b/\b<w.heap.size
 inj:∀n m p q b,A n=xQ p->A m=xQ q->p.st≠.dead->q.st≠.dead->p.FP=xQ b->q.FP=xQ b->n=m
 tmps:∀t,B0 (Cc I0 B A w) w (g t) (a.tmps.getD t undef)
 kept:∀b,S.FP b->b<w.heap.size/\w.heap[b]?=w0.heap[b]?/\∀n p,A n=xQ p->p.st=.live->p.FP≠xQ b
 pin:∀t,t<E.np->a.tmps.getD t undef=S.val t
theorem VC{S:Nat->Prop}{A A':Nat->Option Place}{w0 w w':World}(h:∀b,S b->b<w.heap.size/\w.heap[b]?=w0.heap[b]?/\∀n p,A n=xQ p->p.st=.live->p.FP≠xQ b)(hm:Hd A w A' w'):
 ∀b,S b->b<w'.heap.size/\w'.heap[b]?=w0.heap[b]?/\∀n p,A' n=xQ p->p.st=.live->p.FP≠xQ b:=fun b hb=>by
 obtain⟨k1,k2,k3⟩:=h b hb;refine⟨AU k1 hm.size,(hm.kept b k1 k3).trans k2,fun n p hp hl hbk=>?_⟩;obtain⟨m,q,hq,hql,hqb⟩:=hm.live n p b hp hl hbk k1;exact k3 m q hq hql hqb
section
variable{P:Program}{E:Env}{S:UJ E}{I0:Nat->Prop}{B:Nat}{w0:World}{A:Nat->Option Place}{f f':Nat->Option (Bool × OB)}{g g':Nat->DV}{len:Nat}{a:Act}{w:World}
theorem Ir.mem(h:Ir S I0 B w0 A f g len a w){hp:DG}(hf:∀n p fo,A n=xQ p->look hp n=xQ fo->f n=xQ fo):Mem I0 B A hp w :=⟨h.hB,h.QF,fun n p fo hn hl=>by obtain⟨fo',h1,h2⟩:=h.obj n p hn;rw[hf n p fo hn hl] at h1; cases h1; exact h2,h.Gz,h.inj⟩
theorem Qv{dst:Option Tmp}{v:Value}{t:Nat}:(a.put dst v).tmps.getD t undef=if dst=xQ t/\t<a.tmps.size then v else a.tmps.getD t undef:=by
 cases dst with
 | none=>simp[Act.put]
 | some d =>
   simp only[Act.put,Ae,ya];by_cases h:d=t
   ·subst h;by_cases h2:d<a.tmps.size
    ·simp[h2]
    ·simp[h2]
   ·rw[vI h,Ay (fun e=>h e.1)]
theorem VI{l:List DV}{dst:Option Nat}{d:DV}{t:Nat}:(Pe l dst d).getD t .undef=if dst=xQ t/\t<l.length then d else l.getD t .undef:=by
 cases dst with
 | none=>simp[Pe]
 | some e =>
   simp only[Pe,Ae,Al];by_cases h:e=t
   ·subst h;by_cases h2:e<l.length
    ·simp[h2]
    ·simp[h2]
   ·rw[List.getElem?_set_ne h,Ay (fun e=>h e.1)]
theorem Ys{dst:Option Tmp}{v:Value}:(a.put dst v).tmps.size=a.tmps.size:=by cases dst<;>simp[Act.put]
theorem put_defers{dst:Option Tmp}{v:Value}:(a.put dst v).defers=a.defers:=by cases dst<;>rfl
theorem RA{l:List DV}{dst:Option Nat}{d:DV}:(Pe l dst d).length=l.length:=by cases dst<;>simp[Pe]
theorem Ir.step{ops:Array Oper}{st st':St}{o:Oper}{d:DV}(h:Ir S I0 B w0 A f g len a w)(hk:NV P E ops xZ st o st' d)
 (h1:∀n,A n≠xY->look st.heap n≠xY->look st.heap n=f n)
 (h2:∀t∈o.looksAt ops,st.tmps.getD t .undef=g t) (h3:st.tmps.length=len)
 (h4:∀n,look st.heap n=xY->look st'.heap n≠xY->f n=xY)
 (h5:∀n,look st'.heap n≠xY->(n∈F6 E ops st o\/look st.heap n=xY)->f' n=look st'.heap n)
 (h6:∀n,n ∉ F6 E ops st o->¬(look st.heap n=xY/\look st'.heap n≠xY)->f' n=f n)
 (h7:∀t,g' t=if o.dst=xQ t/\t<len then d else g t) {Q:Exit->Act->World->Prop}:
 Ig P ops o a w Q fun v w'=>∃A',Ir S I0 B w0 A' f' g' len (a.put o.dst v) w':=by
 have hm:Mem I0 B A st.heap w:=h.mem fun n p fo hn hl=>by rw[<- h1 n (by rw[hn]; simp) (by rw[hl]; simp)]; exact hl
 refine(hk.run hm (h.size.trans h3.symm) (fun t ht=>by rw[h2 t ht]; exact h.tmps t) (fun n hn hn'=>?_)).mono ?_
 ·cases hA:A n with
  | none=>rfl
  | some p =>obtain⟨fo,hfo,_⟩:=h.obj n p hA;rw[h4 n hn hn'] at hfo; cases hfo
 ·rintro v w' ⟨A',hm',hmv,hb,hv,hnew,hdr⟩
  obtain⟨hkept,hsame⟩:=hdr rfl;have hlater:=hmv.DD (I0:=I0) (B:=B)
  refine⟨A',put_defers.trans h.defers,Ys.trans h.size,h.below.trans hb,hm'.hB,hm'.QF,fun n p hp=>?_,hm'.Gz,hm'.inj,fun t=>?_,VC h.kept hmv,fun t ht=>by rw[Qv,Ay (fun e=>by have:=hk.free t e.1; omega)]; exact h.pin t ht⟩
  ·have JW:look st'.heap n≠xY->(n∈F6 E ops st o\/look st.heap n=xY)->∃fo,f' n=xQ fo/\Dy (Cc I0 B A' w') w' p fo:=by
    intro hl ht;cases hq:look st'.heap n with
    | none=>exact absurd hq hl
    | some fo=>exact⟨fo,by rw[h5 n hl ht,hq],hm'.obj n p fo hp hq⟩
   cases hA:A n with
   | none =>obtain⟨e1,e2⟩:=hnew n p hp hA;exact JW e2 (.inr e1)
   | some q =>
     obtain⟨fo,hfo,hr⟩:=h.obj n q hA;by_cases hmu:n∈F6 E ops st o
     ·exact JW (hk.stays n (hk.there rfl n hmu)) (.inl hmu)
     ·have hs:=hsame n q hmu hA;rw[hp] at hs; cases hs;refine⟨fo,?_,Le hlater (fun hd b hb=>hkept n _ b hmu hA hd hb) hr⟩;rw[h6 n hmu (fun e=>by rw[h4 n e.1 e.2] at hfo; cases hfo)]; exact hfo
  ·rw[Qv,h7,h.size];split
   ·exact hv
   ·exact B0.DD hlater _ _ (h.tmps t)
def Fa{E:Env}(S:UJ E)(I0:Nat->Prop)(B:Nat)(w0:World)(st:St)(a:Act)(w:World):Prop:=∃A,Ir S I0 B w0 A (look st.heap) (fun t=>st.tmps.getD t .undef) st.tmps.length a w
theorem Fa.step{ops:Array Oper}{draw:Bool}{st st':St}{o:Oper}{d:DV}(h:Fa S I0 B w0 st a w)(hk:NV P E ops draw st o st' d){Q:Exit->Act->World->Prop}:
 Ig P ops o a w Q fun v w'=>Fa S I0 B w0 st' (a.put o.dst v) w':=by
 obtain⟨A,h⟩:=h;have hm:Mem I0 B A st.heap w:=h.mem fun n p fo hn hl=>hl
 refine(hk.run hm h.size (fun t _=>h.tmps t) (fun n hn _=>?_)).mono ?_
 ·cases hA:A n with
  | none=>rfl
  | some p =>obtain⟨fo,hfo,_⟩:=h.obj n p hA;rw[hn] at hfo; cases hfo
 ·rintro v w' ⟨A',hm',hmv,hb,hv,hnew,_⟩
  have hlater:=hmv.DD (I0:=I0) (B:=B)
  refine⟨A',put_defers.trans h.defers,Ys.trans (h.size.trans (by rw[hk.tmps,RA])),h.below.trans hb,hm'.hB,hm'.QF,fun n p hp=>?_,hm'.Gz,hm'.inj,fun t=>?_,VC h.kept hmv,fun t ht=>by rw[Qv,Ay (fun e=>by have:=hk.free t e.1; omega)]; exact h.pin t ht⟩
  ·have hl:look st'.heap n≠xY:=by
    cases hA:A n with
    | none=>exact(hnew n p hp hA).2
    | some q =>obtain⟨fo,hfo,_⟩:=h.obj n q hA;exact hk.stays n (by rw[hfo]; simp)
   cases hq:look st'.heap n with
   | none=>exact absurd hq hl
   | some fo=>exact⟨fo,rfl,hm'.obj n p fo hp hq⟩
  ·rw[Qv,hk.tmps,VI,h.size];split
   ·exact hv
   ·exact B0.DD hlater _ _ (h.tmps t)
end
theorem J5{n:Nat}:∀{l:List Nat},JK n l=xZ↔n∈l
 | []=>by simp[JK]
 | m::l=>by
   simp only[JK,zF];by_cases h:n=m
   ·subst h; simp
   ·rw[show zg n m=x5 from by cases hb:zg n m with | false=>rfl | true=>exact absurd (Au hb) h];simp only[Af,J5,h,false_or]
theorem Pu{n:Nat}{l:List Nat}:JK n l=x5↔n ∉ l:=by rw[<- J5]; simp
section
variable{α:Type}{val:Nat->α}{touch S S':Nat->Prop}
open Classical in
def after(val:Nat->α)(touch S:Nat->Prop):Nat->α
 | 0=>val 0
 | k+1=>if S k/\touch k then val (k+1) else after val touch S k
theorem Lw{N:Nat}(h:∀j,j<N->touch j->(S j↔S' j)):after val touch S N=after val touch S' N:=by
 induction N with
 | zero=>rfl
 | succ k ih =>
   simp only[after];by_cases ht:touch k
   ·rw[ih fun j hj=>h j (by omega)];by_cases hs:S k
    ·rw[Az ⟨hs,ht⟩,Az ⟨(h k (by omega) ht).1 hs,ht⟩]
    ·rw[Ay (fun e=>hs e.1),Ay (fun e=>hs ((h k (by omega) ht).2 e.1))]
   ·rw[Ay (fun e=>ht e.2),Ay (fun e=>ht e.2)];exact ih fun j hj=>h j (by omega)
theorem Wc:∀{k:Nat},(∀j,j<k->¬touch j->val (j+1)=val j)->(∀j,j<k->touch j->S j)->after val touch S k=val k
 | 0,_,_=>rfl
 | k+1,hv,h=>by
   simp only[after];by_cases ht:touch k
   ·rw[Az ⟨h k (by omega) ht,ht⟩]
   ·rw[Ay (fun e=>ht e.2),Wc (fun j hj=>hv j (by omega)) (fun j hj=>h j (by omega)),hv k (by omega) ht]
theorem P4{k:Nat}:∀{N:Nat},k<=N->(∀j,k<=j->j<N->touch j->¬S j)->after val touch S N=after val touch S k
 | 0,hk,_=>by obtain rfl:k=0:=by omega
              rfl
 | N+1,hk,h=>by
   by_cases e:k=N+1
   ·rw[e]
   ·simp only[after];rw[Ay (fun e'=>h N (by omega) (by omega) e'.2 e'.1)];exact P4 (by omega) fun j h1 h2=>h j h1 (by omega)
theorem JE{k N:Nat}(hv:∀j,j<N->¬touch j->val (j+1)=val j)(hk:k<=N)(h:∀j,j<N->touch j->(S j↔j<k)):after val touch S N=val k:=by rw[P4 hk fun j h1 h2 h3 h4=>by have:=(h j h2 h3).1 h4; omega];exact Wc (fun j hj=>hv j (by omega)) fun j h1 h2=>(h j (by omega) h2).2 h1
theorem U0{k N:Nat}(hk:k<N)(ht:touch k)(hs:S k)(h:∀j,k<j->j<N->touch j->¬S j):after val touch S N=val (k+1):=by rw[P4 (k:=k+1) (by omega) fun j h1 h2=>h j (by omega) h2];simp only[after];rw[Az ⟨hs,ht⟩]
end
theorem J7{p:Nat->Bool}:∀{h:DG} {n:Nat},look (h.filter fun x=>p x.1) n=bif p n then look h n else xY
 | [],n=>by simp[look]
 | (m,x)::h,n=>by
   simp only[List.filter_cons,look];by_cases e:m=n
   ·subst e;cases hp:p m<;>simp[look,J7,hp]
   ·rw[show(m==n)=x5 by simpa using e];cases hp:p m
    ·simpa using J7
    ·simp only[if_true,look,Af,show(m==n)=x5 by simpa using e];exact J7
theorem AdB{ms:List Nat}{h:DG}{n:Nat}:look (Y7 ms h) n=if n∈ms then xY else look h n:=by
 unfold Y7;rw[J7 (p:=fun m=>!(JK m ms))];by_cases hn:n∈ms
 ·rw[J5.2 hn,Az hn]; rfl
 ·rw[Pu.2 hn,Ay hn]; rfl
theorem Agc{ms:List Nat}{h:DG}{n:Nat}:look (AiF ms h) n=if n∈ms then look h n else xY:=by
 unfold AiF;rw[J7 (p:=fun m=>JK m ms)];by_cases hn:n∈ms
 ·rw[J5.2 hn,Az hn]; rfl
 ·rw[Pu.2 hn,Ay hn]; rfl
theorem Agb{h:DG}{n:Nat}{x:Bool × OB}(hl:look h n=xQ x):(n,x)∈h:=by
 induction h with
 | nil=>cases hl
 | cons y h ih =>
   obtain⟨m,z⟩:=y;simp only[look] at hl;by_cases e:m=n
   ·subst e; simp at hl; subst hl; exact AY
   ·rw[show(m==n)=x5 by simpa using e] at hl;exact AN _ (ih hl)
structure Saw(P:Program)(E:Env)(ops:Array Oper)(ms:List Nat)(st:St)(o:Oper)(st':St)(mk mk':St)(d:DV):Prop where
 ok:NV P E ops xZ mk o mk' d
 seen:mk=L7 ms st
 tmps:mk.tmps=st.tmps
 tmps':st'.tmps=mk'.tmps
 mask:∀n,look mk.heap n=if n∈ms then xY else look st.heap n
 out:∀n,look mk'.heap n≠xY->n ∉ ms
 heap:∀n,look st'.heap n=if n∈ms then look st.heap n else look mk'.heap n
theorem Aff{P:Program}{E:Env}(he:He P E){ops:Array Oper}{ms:List Nat}{st st':St}{o:Oper}(h:XY E ops ms st o=xQ (xZ,st')):∃mk mk' d,Saw P E ops ms st o st' mk mk' d:=by
 cases ms with
 | nil =>simp only[XY] at h;obtain⟨d,hd⟩:=Ta he h;exact⟨st,st',d,hd,rfl,rfl,rfl,fun n=>by simp,fun n _=>by simp,fun n=>by simp⟩
 | cons m ms =>
   simp only[XY] at h;cases hs:R8 E ops xZ ⟨st.tmps,Y7 (m::ms) st.heap⟩ o with
   | none=>rw[hs] at h; cases h
   | some r =>
     obtain⟨r,mk'⟩:=r;rw[hs] at h;simp only at h;cases hc:(mk'.heap.all fun x=>!(JK x.1 (m::ms))) with
     | false=>rw[hc] at h; cases h
     | true =>
       rw[hc,Aa,Ae,Ak] at h;obtain⟨rfl,rfl⟩:=h;obtain⟨d,hd⟩:=Ta he hs
       have hout:∀n,look mk'.heap n≠xY->n ∉ m::ms:=by
        intro n hn;cases hq:look mk'.heap n with
        | none=>exact absurd hq hn
        | some x =>have:=zB.1 hc _ (Agb hq);rw[yw] at this;exact Pu.1 this
       refine⟨_,mk',d,hd,rfl,rfl,rfl,fun n=>AdB,hout,fun n=>?_⟩;show look (mk'.heap++AiF (m::ms) st.heap) n=_;rw[Lj,Agc];by_cases hn:n∈m::ms
       ·rw[Az hn];cases hq:look mk'.heap n with
        | none=>simp[hn]
        | some x=>exact absurd hn (hout n (by rw[hq]; simp))
       ·rw[Ay hn,Ay hn];cases look mk'.heap n<;>rfl
section
variable{P:Program}{E:Env}{ops:Array Oper}{ms:List Nat}{st st' mk mk':St}{o:Oper}{d:DV}(h:Saw P E ops ms st o st' mk mk' d)
include h
theorem Saw.Akq{n:Nat}(hn:n∈F6 E ops (L7 ms st) o):look st.heap n≠xY/\n ∉ ms:=by
 have h1:=h.ok.there rfl n (by rw[h.seen]; exact hn);rw[h.mask] at h1;by_cases hm:n∈ms
 ·rw[Az hm] at h1; exact absurd rfl h1
 ·rw[Ay hm] at h1; exact⟨h1,hm⟩
theorem Saw.stays{n:Nat}(hn:look st.heap n≠xY):look st'.heap n≠xY:=by
 rw[h.heap];by_cases hm:n∈ms
 ·rw[Az hm]; exact hn
 ·rw[Ay hm];exact h.ok.stays n (by rw[h.mask,Ay hm]; exact hn)
theorem Saw.same{n:Nat}(hn:n ∉ F6 E ops (L7 ms st) o)(hc:¬(look st.heap n=xY/\look st'.heap n≠xY)):look st'.heap n=look st.heap n:=by
 cases hq:look st.heap n with
 | none =>
   cases hq':look st'.heap n with
   | none=>rfl
   | some x=>exact absurd ⟨hq,by rw[hq']; simp⟩ hc
 | some x =>
   rw[h.heap];by_cases hm:n∈ms
   ·rw[Az hm,hq]
   ·rw[Ay hm];have h1:look mk.heap n=xQ x:=by rw[h.mask,Ay hm,hq]
    rw[h.ok.same rfl n (by rw[h.seen]; exact hn) (by rw[h1]; simp),h1]
theorem Saw.made{n:Nat}(h1:look st.heap n=xY)(h2:look st'.heap n≠xY):n ∉ ms:=by intro hm;rw[h.heap,Az hm] at h2;exact h2 h1
theorem Saw.getD{t:Nat}:st'.tmps.getD t .undef=if o.dst=xQ t/\t<st.tmps.length then d else st.tmps.getD t .undef:=by rw[h.tmps',h.ok.tmps,h.tmps,VI]
theorem Saw.length:st'.tmps.length=st.tmps.length:=by rw[h.tmps',h.ok.tmps,RA,h.tmps]
end
structure Trace(P:Program)(E:Env)(ops:Array Oper)(D:List (List Nat))(M:List (Nat × List Nat))(tr:Nat->St):Prop where
 saw:∀k o,ops[k]?=xQ o->∃mk mk' d,Saw P E ops (GD D k M) (tr k) o (tr (k+1)) mk mk' d
 Akq:∀k o,ops[k]?=xQ o->N9 D k=xZ->∀n,n∈F6 E ops (L7 (GD D k M) (tr k)) o->n∈Kf k M
theorem RE{β:Type}{P:Program}{E:Env}(he:He P E){ops:Array Oper}{D:List (List Nat)}{M:List (Nat × List Nat)}{K:St->Option β}{b:β}:
 ∀(l:List Oper) (k:Nat) (st:St),(∀j,l[j]?=ops[k+j]?)->AbT E ops D M k l st K=xQ b ->
 ∃tr:Nat->St,tr 0=st/\K (tr l.length)=xQ b/\∀j o,l[j]?=xQ o->(∃mk mk' d,Saw P E ops (GD D (k+j) M) (tr j) o (tr (j+1)) mk mk' d)/\(N9 D (k+j)=xZ->∀n,n∈F6 E ops (L7 (GD D (k+j) M) (tr j)) o->n∈Kf (k+j) M)
 | [],k,st,_,h=>⟨fun _=>st,rfl,h,fun j o hj=>(by cases hj)⟩
 | o::l,k,st,hl,h=>by
   simp only[AbT] at h;cases hs:XY E ops (GD D k M) st o with
   | none=>rw[hs] at h; cases h
   | some r =>
     obtain⟨r,st'⟩:=r;rw[hs] at h;simp only at h;cases hc:(r&&(!(N9 D k)||(F6 E ops (L7 (GD D k M) st) o).all fun n=>JK n (Kf k M))) with
     | false=>rw[hc] at h; cases h
     | true =>
       rw[hc,Aa] at h;simp only[Am,zK,yw,zB] at hc;obtain⟨rfl,hc⟩:=hc;obtain⟨tr,h1,h2,h3⟩:=RE he l (k+1) st' (fun j=>by have:=hl (j+1); simpa[yg,xi 1 j] using this) h;refine⟨fun j=>match j with | 0=>st | j+1=>tr j,rfl,h2,fun j p hj=>?_⟩;cases j with
       | zero =>
         simp only[List.getElem?_cons_zero,Ae] at hj;subst hj;refine⟨by show ∃mk mk' d,Saw P E ops (GD D k M) st o (tr 0) mk mk' d; rw[h1]; exact Aff he hs,fun hlo n hn=>?_⟩;rcases hc with hc | hc
         ·have hlo':N9 D k=xZ:=hlo;rw[hc] at hlo'; cases hlo'
         ·exact J5.1 (hc n hn)
       | succ j =>rw[List.getElem?_cons_succ] at hj;have:=h3 j p hj;rw[show k+(j+1)=k+1+j by omega];exact this
theorem OQ{ops:Array Oper}{k:Nat}{o:Oper}(h:ops[k]?=xQ o):(ops.toList.map Hr).getD k []=Hr o:=by
 have:ops.toList[k]?=xQ o:=by simpa using h
 simp[Al,this]
theorem Fs{ops:Array Oper}{k i:Nat}(h:i∈(ops.toList.map Hr).getD k []):∃o,ops[k]?=xQ o/\i∈Hr o:=by
 cases hk:ops[k]? with
 | none =>
   have:ops.toList[k]?=xY:=by simpa using hk
   simp[Al,this] at h
 | some o=>rw[OQ hk] at h; exact⟨o,rfl,h⟩
theorem Y5{o:Oper}{i:Nat}:i∈Hr o↔∃e∈o.after,Region.binds .any e=xZ/\e.on=i:=by
 unfold Hr;simp only[vF,wG];constructor
 ·rintro ⟨e,he,h⟩
  cases hb:Region.binds .any e with
  | false=>rw[hb] at h; simp at h
  | true=>rw[hb] at h; simp at h; exact⟨e,he,hb,h⟩
 ·rintro ⟨e,he,hb,rfl⟩
  exact⟨e,he,by rw[hb]; rfl⟩
structure P7(ops:Array Oper):Prop where
 lt:∀(k:Nat) o,ops[k]?=xQ o->∀i∈Hr o,i<k
 once:∀(k j:Nat) o p t,ops[k]?=xQ o->ops[j]?=xQ p->p.dst=xQ t->o.dst=xQ t->j=k
 told:∀(k j:Nat) o p t,ops[k]?=xQ o->ops[j]?=xQ p->p.dst=xQ t->t∈o.looksAt ops->Se (ops.toList.map Hr) j k=xZ\/Se (ops.toList.map Hr) k j=xZ
theorem lt_size{ops:Array Oper}{k:Nat}{o:Oper}(h:ops[k]?=xQ o):k<ops.size:=by
 rcases AF k ops.size with h' | h'
 ·exact h'
 ·rw[vJ h'] at h; cases h
theorem Zp{ops:Array Oper}(h:Xo ops (ops.toList.map Hr)=xZ):P7 ops:=by
 unfold Xo at h;simp only[zB,zT,AO,z5] at h;refine⟨fun k o hk i hi=>?_,fun k j o p t hk hj hp ho=>?_,fun k j o p t hk hj hp ht=>?_⟩
 ·have h1:=h k (lt_size hk);rw[Am,zB] at h1;have:=h1.1 i (by rw[OQ hk]; exact hi);simpa[Nat.blt_eq] using this
 ·have h1:=h k (lt_size hk);rw[Am,hk] at h1;have h2:=h1.2;simp only[zB,zT] at h2;have h3:=h2 j (lt_size hj);rw[hj] at h3;simp only[hp,Am,zK] at h3;rcases h3.1 with h4 | h4
  ·exact Au h4
  ·rw[ho] at h4; simp at h4
 ·have h1:=h k (lt_size hk);rw[Am,hk] at h1;have h2:=h1.2;simp only[zB,zT] at h2;have h3:=h2 j (lt_size hj);rw[hj] at h3;simp only[hp,Am,zK] at h3;rcases h3.2 with h4 | h4
  ·rw[J5.2 ht] at h4; simp at h4
  ·exact h4
theorem VX{D:List (List Nat)}{i j:Nat}(h:Se D i j=xZ):i∈D.getD j []\/∃m∈D.getD j [],i∈D.getD m []:=by unfold Se at h;simp only[zK,List.any_eq_true] at h;exact h.imp J5.1 fun⟨m,h1,h2⟩=>⟨m,h1,J5.1 h2⟩
section
variable{ops:Array Oper}(hd:P7 ops)
include hd
theorem P7.Uw{i j:Nat}(h:Se (ops.toList.map Hr) i j=xZ):i<j:=by
 rcases VX h with h | ⟨m,h1,h2⟩
 ·obtain⟨o,ho,hi⟩:=Fs h;exact hd.lt j o ho i hi
 ·obtain⟨o,ho,hi⟩:=Fs h1;obtain⟨p,hp,hj⟩:=Fs h2;have:=hd.lt j o ho m hi;have:=hd.lt m p hp i hj;omega
end
def R3(ops:Array Oper)(S:Nat->Prop):Prop:=∀k o,ops[k]?=xQ o->S k->∀i∈Hr o,S i
theorem R3.bef{ops:Array Oper}{S:Nat->Prop}(hc:R3 ops S){k:Nat}(hk:∀o,ops[k]?=xQ o->∀i∈Hr o,S i){i:Nat}(h:Se (ops.toList.map Hr) i k=xZ):S i:=by
 rcases VX h with h | ⟨m,h1,h2⟩
 ·obtain⟨o,ho,hi⟩:=Fs h;exact hk o ho i hi
 ·obtain⟨o,ho,hi⟩:=Fs h1;obtain⟨p,hp,hj⟩:=Fs h2;exact hc m p hp (hk o ho m hi) i hj
theorem Rx{D:List (List Nat)}{i j:Nat}(h1:i≠j)(h2:Se D i j≠xZ)(h3:Se D j i≠xZ):KK D i j=xZ:=by
 unfold KK
 have e1:zg i j=x5:=by
  cases hb:zg i j with
  | false=>rfl
  | true=>exact absurd (Au hb) h1
 rw[e1,zE _ |>.mp h2,zE _ |>.mp h3]; rfl
theorem Ps{D:List (List Nat)}{s k n:Nat}(ha:KK D s k=xZ):∀{M:List (Nat × List Nat)},n∈Kf s M->n∈GD D k M
 | [],h=>by simp[Kf] at h
 | (s',ns)::M,h=>by
   simp only[Kf] at h;simp only[GD];cases hb:zg s' s with
   | true =>have:=Au hb;subst this;rw[hb] at h;rw[ha];simp only[Aa,zA] at h ⊢;exact h.imp id (Ps ha)
   | false =>
     rw[hb] at h;simp only[Af] at h;have:=Ps ha h;cases KK D s' k
     ·exact this
     ·exact zA.2 (.inr this)
theorem AdA{D:List (List Nat)}{s k:Nat}(ha:KK D s k=xZ)(hk:k<D.length):N9 D s=xZ:=by unfold N9;exact List.any_eq_true.2 ⟨k,zT.2 hk,ha⟩
def Wv(E:Env)(ops:Array Oper)(M:List (Nat × List Nat))(tr:Nat->St)(n:Nat)(k:Nat):Prop :=∃o,ops[k]?=xQ o/\(n∈F6 E ops (L7 (GD (ops.toList.map Hr) k M) (tr k)) o\/(look (tr k).heap n=xY/\look (tr (k+1)).heap n≠xY))
def AeT(ops:Array Oper)(len:Nat)(t:Nat)(k:Nat):Prop:=t<len/\∃o,ops[k]?=xQ o/\o.dst=xQ t
def NG(E:Env)(ops:Array Oper)(M:List (Nat × List Nat))(tr:Nat->St)(S:Nat->Prop)(n:Nat):Option (Bool × OB):=after (fun k=>look (tr k).heap n) (Wv E ops M tr n) S ops.size
def UZ(ops:Array Oper)(tr:Nat->St)(S:Nat->Prop)(t:Nat):DV:=after (fun k=>(tr k).tmps.getD t .undef) (AeT ops (tr 0).tmps.length t) S ops.size
section
variable{P:Program}{E:Env}{ops:Array Oper}{M:List (Nat × List Nat)}{tr:Nat->St}(hd:P7 ops)(T:Trace P E ops (ops.toList.map Hr) M tr)
include T
theorem Trace.len{k:Nat}(h:k<=ops.size):(tr k).tmps.length=(tr 0).tmps.length:=by
 induction k with
 | zero=>rfl
 | succ k ih =>obtain⟨mk,mk',d,hs⟩:=T.saw k ops[k] (Aw (by omega));rw[hs.length,ih (by omega)]
theorem Trace.stays{n j k:Nat}(hj:look (tr j).heap n≠xY)(hjk:j<=k)(hk:k<=ops.size):look (tr k).heap n≠xY:=by
 induction k with
 | zero=>obtain rfl:j=0:=by omega
         exact hj
 | succ k ih =>
   by_cases e:j=k+1
   ·rw[<- e]; exact hj
   ·obtain⟨mk,mk',d,hs⟩:=T.saw k ops[k] (Aw (by omega));exact hs.stays (ih (by omega) (by omega))
theorem Trace.Ae4{n j:Nat}(hj:j<ops.size)(ht:¬Wv E ops M tr n j):look (tr (j+1)).heap n=look (tr j).heap n:=by obtain⟨mk,mk',d,hs⟩:=T.saw j ops[j] (Aw hj);exact hs.same (fun h=>ht ⟨_,Aw hj,.inl h⟩) (fun h=>ht ⟨_,Aw hj,.inr h⟩)
theorem Trace.AjF{t j:Nat}(hj:j<ops.size)(ht:¬AeT ops (tr 0).tmps.length t j):(tr (j+1)).tmps.getD t .undef=(tr j).tmps.getD t .undef:=by obtain⟨mk,mk',d,hs⟩:=T.saw j ops[j] (Aw hj);rw[hs.getD,T.len (by omega),Ay (fun e=>ht ⟨e.2,_,Aw hj,e.1⟩)]
theorem Trace.JW{n j:Nat}{o:Oper}(ho:ops[j]?=xQ o)(ht:Wv E ops M tr n j):(n∈F6 E ops (L7 (GD (ops.toList.map Hr) j M) (tr j)) o/\look (tr j).heap n≠xY)\/(look (tr j).heap n=xY/\look (tr (j+1)).heap n≠xY):=by
 obtain⟨o',ho',h⟩:=ht;rw[ho] at ho'; cases ho';rcases h with h | h
 ·obtain⟨mk,mk',d,hs⟩:=T.saw j o ho;exact .inl ⟨h,(hs.Akq h).1⟩
 ·exact .inr h
theorem Trace.Agu{s k n:Nat}{o:Oper}(hs:ops[s]?=xQ o)(hk:k<ops.size)(ha:KK (ops.toList.map Hr) s k=xZ)(hn:n∈F6 E ops (L7 (GD (ops.toList.map Hr) s M) (tr s)) o):n∈GD (ops.toList.map Hr) k M :=Ps ha (T.Akq s o hs (AdA ha (by simpa using hk)) n hn)
omit T in
theorem NQ{S:Nat->Prop}(hd:P7 ops)(hc:R3 ops S){k:Nat}(hk:¬S k){j:Nat}(hj:S j)(hlt:k<j):KK (ops.toList.map Hr) j k=xZ:=by
 refine Rx (by omega) (fun e=>?_) (fun e=>?_)
 ·have:=hd.Uw e; omega
 ·exact hk (hc.bef (fun p hp=>hc j p hp hj) e)
omit T in
theorem X7{S:Nat->Prop}(hd:P7 ops)(hc:R3 ops S){k:Nat}{o:Oper}(ho:ops[k]?=xQ o)(hr:∀i∈Hr o,S i){j:Nat}(hj:¬S j)(hlt:j<k):KK (ops.toList.map Hr) j k=xZ:=by
 refine Rx (by omega) (fun e=>?_) (fun e=>?_)
 ·exact hj (hc.bef (fun p hp=>by rw[ho] at hp; cases hp; exact hr) e)
 ·have:=hd.Uw e; omega
include hd
variable{S:Nat->Prop}(hc:R3 ops S){k:Nat}{o:Oper}(ho:ops[k]?=xQ o)(hk:¬S k)(hr:∀i∈Hr o,S i)
include hc ho hk hr
theorem Trace.Ai5{n:Nat}(hm:n ∉ GD (ops.toList.map Hr) k M)(h1:look (tr k).heap n≠xY)(h2:NG E ops M tr S n≠xY):NG E ops M tr S n=look (tr k).heap n:=by
 have hkN:=lt_size ho;refine JE (val:=fun k=>look (tr k).heap n) (fun j hj ht=>T.Ae4 hj ht) (by omega) fun j hj ht=>?_
 have hoj:ops[j]?=xQ ops[j]:=Aw hj;constructor
 ·intro hS;rcases AF j k with h | h
  ·exact h
  ·have hne:j≠k:=fun e=>hk (e ▸ hS)
   have ha:=NQ hd hc hk hS (by omega);rcases T.JW hoj ht with ⟨h3,_⟩ | ⟨h3,_⟩
   ·exact absurd (T.Agu hoj hkN ha h3) hm
   ·exact absurd h3 (T.stays h1 (by omega) (by omega))
 ·intro hlt;refine yG fun hS=>?_
  have ha:=X7 hd hc ho hr hS hlt;rcases T.JW hoj ht with ⟨h3,_⟩ | ⟨h3,h4⟩
  ·exact hm (T.Agu hoj hkN ha h3)
  ·
   refine h2 ?_
   have:NG E ops M tr S n=look (tr 0).heap n:=by
    refine JE (k:=0) (val:=fun k=>look (tr k).heap n) (fun j hj ht=>T.Ae4 hj ht) (by omega) fun i hi hti=>⟨fun hSi=>?_,fun h=>by omega⟩
    exfalso;have hoi:ops[i]?=xQ ops[i]:=Aw hi;have hij:i≠j:=fun e=>hS (e ▸ hSi)
    have hji:j<i:=by
     rcases T.JW hoi hti with ⟨_,h5⟩ | ⟨h5,h6⟩
     ·rcases AF j i with h | h
      ·exact h
      ·exact absurd h3 (T.stays h5 h (by omega))
     ·rcases AF j i with h | h
      ·exact h
      ·exact absurd h3 (T.stays h6 (by omega) (by omega))
    have hap:KK (ops.toList.map Hr) i j=xZ:=by
     refine Rx hij (fun e=>?_) (fun e=>?_)
     ·have:=hd.Uw e; omega
     ·exact hS (hc.bef (fun p hp=>hc i p hp hSi) e)
    rcases T.JW hoi hti with ⟨h5,_⟩ | ⟨h5,_⟩
    ·obtain⟨mk,mk',d,hsj⟩:=T.saw j _ hoj;exact hsj.made h3 h4 (T.Agu hoi hj hap h5)
    ·exact absurd h5 (T.stays h4 (by omega) (by omega))
   rw[this];cases hq:look (tr 0).heap n with
   | none=>rfl
   | some x=>exact absurd h3 (T.stays (j:=0) (by rw[hq]; simp) (by omega) (by omega))
theorem Trace.AjS{t:Nat}(ht:t∈o.looksAt ops):UZ ops tr S t=(tr k).tmps.getD t .undef:=by
 have hkN:=lt_size ho;refine JE (val:=fun k=>(tr k).tmps.getD t .undef) (fun j hj h=>T.AjF hj h) (by omega) fun j hj hj'=>?_
 obtain⟨_,p,hp,hdst⟩:=hj';rcases hd.told k j o p t ho hp hdst ht with h | h
 ·have:=hd.Uw h;exact⟨fun _=>this,fun _=>hc.bef (fun p hp=>by rw[ho] at hp; cases hp; exact hr) h⟩
 ·have:=hd.Uw h;exact⟨fun hS=>absurd (hc.bef (fun p hp=>hc j p hp hS) h) hk,fun h=>by omega⟩
theorem Trace.step{S0:UJ E}{I0:Nat->Prop}{B:Nat}{w0:World}{A:Nat->Option Place}{a:Act}{w:World}(h:Ir S0 I0 B w0 A (NG E ops M tr S) (UZ ops tr S) (tr 0).tmps.length a w){Q:Exit->Act->World->Prop}:
 Ig P ops o a w Q fun v w'=>∃A',Ir S0 I0 B w0 A' (NG E ops M tr fun j=>S j\/j=k) (UZ ops tr fun j=>S j\/j=k) (tr 0).tmps.length (a.put o.dst v) w':=by
 have hkN:=lt_size ho;obtain⟨mk,mk',d,hs⟩:=T.saw k o ho
 have hout:∀{n},look mk'.heap n≠xY->look mk'.heap n=look (tr (k+1)).heap n:=by intro n hn;rw[hs.heap,Ay (hs.out n hn)]
 refine h.step hs.ok (fun n hA hl=>?_) (fun t ht=>?_) (by rw[hs.tmps,T.len (by omega)]) (fun n h1 h2=>?_) (fun n h1 h2=>?_) (fun n h1 h2=>?_) (fun t=>?_)
 ·have hm:n ∉ GD (ops.toList.map Hr) k M:=fun e=>hl (by rw[hs.mask,Az e])
  rw[hs.mask,Ay hm] at hl ⊢;refine(T.Ai5 hd hc ho hk hr hm hl ?_).symm;cases hA':A n with
  | none=>exact absurd hA' hA
  | some p =>obtain⟨fo,hfo,_⟩:=h.obj n p hA';rw[hfo]; simp
 ·rw[hs.tmps]; exact(T.AjS hd hc ho hk hr ht).symm
 ·
  have hm:=hs.out n h2;rw[hs.mask,Ay hm] at h1;rw[hout h2] at h2
  have:NG E ops M tr S n=look (tr 0).heap n:=by
   refine JE (k:=0) (val:=fun k=>look (tr k).heap n) (fun j hj ht=>T.Ae4 hj ht) (by omega) fun i hi hti=>⟨fun hSi=>?_,fun h=>by omega⟩
   exfalso;have hoi:ops[i]?=xQ ops[i]:=Aw hi;have hik:i≠k:=fun e=>hk (e ▸ hSi)
   rcases T.JW hoi hti with ⟨h5,h6⟩ | ⟨h5,h6⟩
   ·rcases AF i k with hlt | hge
    ·exact absurd h1 (T.stays h6 (by omega) (by omega))
    ·exact hm (T.Agu hoi hkN (NQ hd hc hk hSi (by omega)) h5)
   ·rcases AF i k with hlt | hge
    ·exact absurd h1 (T.stays h6 (by omega) (by omega))
    ·exact absurd h5 (T.stays h2 (by omega) (by omega))
  rw[this];cases hq:look (tr 0).heap n with
  | none=>rfl
  | some x=>exact absurd h1 (T.stays (j:=0) (by rw[hq]; simp) (by omega) (by omega))
 ·have hm:=hs.out n h1;rw[hs.mask,Ay hm,hs.seen] at h2;have e1:=hout h1;rw[e1] at h1 ⊢;have ht:Wv E ops M tr n k:=⟨o,ho,h2.imp id fun e=>⟨e,h1⟩⟩
  refine U0 (val:=fun k=>look (tr k).heap n) hkN ht (.inr rfl) fun i hlt hi hti hSi=>?_
  have hSi:=hSi.resolve_right (by omega);have hoi:ops[i]?=xQ ops[i]:=Aw hi;rcases T.JW hoi hti with ⟨h5,_⟩ | ⟨h5,_⟩
  ·exact hm (T.Agu hoi hkN (NQ hd hc hk hSi hlt) h5)
  ·exact absurd h5 (T.stays h1 (by omega) (by omega))
 ·rw[hs.seen] at h1;refine Lw fun j hj ht=>⟨fun h=>h.resolve_right fun e=>?_,.inl⟩
  subst e;obtain⟨o',ho',h3⟩:=ht;rw[ho] at ho'; cases ho';rcases h3 with h3 | ⟨h3,h4⟩
  ·exact h1 h3
  ·have hm:=hs.made h3 h4;refine h2 ⟨by rw[hs.mask,Ay hm]; exact h3,?_⟩;rw[hs.heap,Ay hm] at h4; exact h4
 ·split
  ·rename_i ht
   have h1:UZ ops tr (fun j=>S j\/j=k) t=(tr (k+1)).tmps.getD t .undef:=by
    refine U0 (val:=fun k=>(tr k).tmps.getD t .undef) hkN ⟨ht.2,o,ho,ht.1⟩ (.inr rfl) fun i hlt hi hti hSi=>?_
    obtain⟨_,p,hp,hdst⟩:=hti;have:=hd.once i k p o t hp ho ht.1 hdst;omega
   rw[h1,hs.getD,Az ⟨ht.1,by rw[T.len (by omega)]; exact ht.2⟩]
  ·rename_i ht;refine Lw fun j hj hj'=>⟨fun h=>h.resolve_right fun e=>?_,.inl⟩
   subst e;obtain⟨h1,p,hp,hdst⟩:=hj';rw[ho] at hp; cases hp;exact ht ⟨hdst,h1⟩
end
section
variable{P:Program}{E:Env}{S:UJ E}{I0:Nat->Prop}{B:Nat}{w0:World}
theorem AbV{β:Type}(he:He P E){ops:Array Oper}{draw:Bool}{Q:Exit->Act->World->Prop}{K:St->Option β}{r:β}:
 ∀(l:List Oper) (k:Nat) (st:St),(∀j,l[j]?=ops[k+j]?)->Aio E ops draw l st K=xQ r->∀a w,Fa S I0 B w0 st a w ->
 (∀st a w,K st=xQ r->Fa S I0 B w0 st a w->Q .normal a w)->wpOps P ops Q (List.range' k l.length) a w
 | [],k,st,_,h,a,w,hh,hQ=>hQ st a w h hh
 | o::l,k,st,hl,h,a,w,hh,hQ=>by
   simp only[Aio] at h;cases hs:R8 E ops draw st o with
   | none=>rw[hs] at h; cases h
   | some x =>
     obtain⟨b,st'⟩:=x;rw[hs] at h;simp only at h;cases b with
     | false=>cases h
     | true =>
       simp only[Aa] at h;obtain⟨d,hd⟩:=Ta he hs;have ho:ops[k]?=xQ o:=by simpa using(hl 0).symm
       rw[List.length_cons,List.range'_succ];simp only[wpOps,ho];have:=hh.step hd (Q:=Q) (wpOps P ops Q (List.range' (k+1) l.length)) (fun v w' hv=>AbV he l (k+1) st' (fun j=>by have:=hl (j+1); simpa[yg,xi 1 j] using this) h _ _ hv hQ);split
       ·rename_i hw; rw[Az hw] at this; exact .inl this
       ·rename_i hw; rw[Ay hw] at this; exact this
theorem Ir.congr{A:Nat->Option Place}{f f':Nat->Option (Bool × OB)}{g g':Nat->DV}{len len':Nat}{a:Act}{w:World}(h:Ir S I0 B w0 A f g len a w)(hf:∀n,f n=f' n)(hg:∀t,g t=g' t)(hl:len=len'):Ir S I0 B w0 A f' g' len' a w:=by obtain rfl:f=f':=funext hf;obtain rfl:g=g':=funext hg;subst hl; exact h
def JP(listed:Array Bool)(j:Nat):Prop:=listed.getD j x5=xZ
theorem MO{l:Array Bool}{j:Nat}(h:l.getD j xZ=x5):j<l.size/\l.getD j x5=x5:=by
 rcases AF j l.size with h' | h'
 ·refine⟨h',?_⟩;simp only[ya,Aw h',Be] at h ⊢; exact h
 ·simp[ya,vJ h'] at h
theorem Rq{listed:Array Bool}{k:Nat}(hk:k<listed.size)(j:Nat):JP (listed.setIfInBounds k xZ) j↔JP listed j\/j=k:=by
 unfold JP;simp only[ya];by_cases e:k=j
 ·subst e; simp[hk]
 ·rw[vI e];exact⟨.inl,fun h=>h.resolve_right (fun h=>e h.symm)⟩
theorem count_set{listed:Array Bool}{k:Nat}(h:listed.getD k xZ=x5):(listed.setIfInBounds k xZ).toList.count x5+1=listed.toList.count x5:=by
 obtain⟨hk,h2⟩:=MO h;have hk':k<listed.toList.length:=by simpa using hk
 have hv:listed.toList[k]=x5:=by simpa[ya,Aw hk] using h2
 have hp:0<List.count x5 listed.toList:=List.count_pos_iff.2 (hv ▸ List.getElem_mem hk');rw[Array.toList_setIfInBounds,List.count_set hk',hv,Az (AI _),Ay (by simp)];omega
theorem AkQ{ops:Array Oper}{M:List (Nat × List Nat)}{tr:Nat->St}(hd:P7 ops)(T:Trace P E ops (ops.toList.map Hr) M tr){Q:Exit->Act->World->Prop}
 (hQ:∀a w,Fa S I0 B w0 (tr ops.size) a w->Q .normal a w):∀(fuel:Nat) (listed:Array Bool) (a:Act) (w:World),listed.size=ops.size->R3 ops (JP listed)->listed.toList.count x5=fuel ->
 (∃A,Ir S I0 B w0 A (NG E ops M tr (JP listed)) (UZ ops tr (JP listed)) (tr 0).tmps.length a w)->wpAny P .any ops Q fuel listed a w:=by
 have last:∀(listed:Array Bool) (a:Act) (w:World),listed.size=ops.size->Region.ready .any ops listed=[]->(∃A,Ir S I0 B w0 A (NG E ops M tr (JP listed)) (UZ ops tr (JP listed)) (tr 0).tmps.length a w)->Q .normal a w:=by
  rintro listed a w hsz hr ⟨A,h⟩
  have all:∀k,k<ops.size->JP listed k:=by
   intro k
   induction k using Nat.strongRecOn with
   | _ k ih =>
     intro hk;refine yG fun hn=>?_
     have:k∈Region.ready .any ops listed:=mem_ready.2 ⟨?_,ops[k],Aw hk,fun e he hb=>?_⟩
     ·rw[hr] at this; cases this
     ·unfold JP at hn;have hk':k<listed.size:=by omega
      simp only[ya,Aw hk',Be,zE] at hn ⊢;exact hn
     ·have hlt:=hd.lt k ops[k] (Aw hk) e.on (Y5.2 ⟨e,he,hb,rfl⟩);exact ih e.on hlt (by omega)
  refine hQ a w ⟨A,h.congr (fun n=>?_) (fun t=>?_) (T.len (AB _)).symm⟩
  ·exact JE (val:=fun k=>look (tr k).heap n) (fun j hj ht=>T.Ae4 hj ht) (AB _) fun j hj _=>⟨fun _=>hj,fun _=>all j hj⟩
  ·exact JE (val:=fun k=>(tr k).tmps.getD t .undef) (fun j hj ht=>T.AjF hj ht) (AB _) fun j hj _=>⟨fun _=>hj,fun _=>all j hj⟩
 intro fuel
 induction fuel with
 | zero =>
   intro listed a w hsz hc hf h
   have hr:Region.ready .any ops listed=[]:=by
    refine List.eq_nil_iff_forall_not_mem.2 fun k hk=>?_
    have h1:=count_set (mem_ready.1 hk).1;omega
   exact⟨hr,last listed a w hsz hr h⟩
 | succ fuel ih =>
   intro listed a w hsz hc hf h;refine⟨fun hr=>last listed a w hsz hr h,fun k hk=>?_⟩;obtain⟨hun,o,ho,hall⟩:=mem_ready.1 hk;obtain⟨hks,hkf⟩:=MO hun;have hkS:¬JP listed k:=by unfold JP; rw[hkf]; simp
   have hrS:∀i∈Hr o,JP listed i:=fun i hi=>by obtain⟨e,he,hb,rfl⟩:=Y5.1 hi;exact hall e he hb
   obtain⟨A,h⟩:=h
   have hstep:=T.step hd hc ho hkS hrS h (Q:=Q) (wpAny P .any ops Q fuel (listed.setIfInBounds k xZ)) (fun v w' hv=>by
    obtain⟨A',hv⟩:=hv;refine ih _ _ _ (by simp[hsz]) ?_ ?_ ⟨A',hv.congr (fun n=>?_) (fun t=>?_) rfl⟩
    ·intro j p hp hj i hi;rw[Rq hks] at hj ⊢;rcases hj with hj | rfl
     ·exact .inl (hc j p hp hj i hi)
     ·rw[ho] at hp; cases hp;exact .inl (hrS i hi)
    ·have:=count_set hun; omega
    ·exact Lw fun j _ _=>(Rq hks j).symm
    ·exact Lw fun j _ _=>(Rq hks j).symm)
   unfold wpOp;rw[ho];simp only;split
   ·rename_i hw; rw[Az hw] at hstep; exact .inl hstep
   ·rename_i hw; rw[Ay hw] at hstep; exact hstep
theorem Fa.drew{st:St}{a:Act}{w:World}(h:Fa S I0 B w0 st a w):Fa S I0 B w0 st a { w with drawn:=w.drawn+1 }:=by
 obtain⟨A,h⟩:=h;have hmv:Hd A w A { w with drawn:=w.drawn+1 }:=⟨AB _,(Hd.refl A w).names,(Hd.refl A w).live,fun _ _ _=>rfl⟩
 have hl:=hmv.DD (I0:=I0) (B:=B)
 exact⟨A,h.defers,h.size,h.below.trans ⟨rfl,rfl,rfl,AB _,fun _ _=>rfl⟩,h.hB,h.QF,fun n p hp=>by obtain⟨fo,h1,h2⟩:=h.obj n p hp;exact⟨fo,h1,Le hl (fun _ _ _=>rfl) h2⟩,h.Gz,h.inj,fun t=>B0.DD hl _ _ (h.tmps t),h.kept,h.pin⟩
theorem AgK{β:Type}(he:He P E){id:Nat}{ops:Array Oper}{Q:Exit->Act->World->Prop}{K:St->Option β}{r:β}{st:St}(h:AgL E ops st K=xQ r){a:Act}{w:World}(hh:Fa S I0 B w0 st a w)
 (hQ:∀st a w,K st=xQ r->Fa S I0 B w0 st a w->Q .normal a w):(Code.region id ops xZ).wp P Q a w:=by
 unfold AgL at h;cases hc:Xo ops (ops.toList.map Hr) with
 | false=>rw[hc] at h; cases h
 | true =>
   rw[hc,Aa] at h;have hd:=Zp hc;generalize (cond (AaD ops (ops.toList.map Hr) 0 ops.toList) (Xf E ops 0 ops.toList st) ([]))=M at h;obtain⟨tr,h0,h1,h2⟩:=RE he ops.toList 0 st (fun j=>by simp) h
   have T:Trace P E ops (ops.toList.map Hr) M tr:=⟨fun k o ho=>by
    have:=(h2 k o (by simpa using ho)).1;rw[AS] at this; exact this,fun k o ho hlo=>by
    have:=(h2 k o (by simpa using ho)).2;rw[AS] at this; exact this hlo⟩
   refine wp_region_any he.mixed (AkQ hd T (fun a w hw=>hQ _ a w (by simpa using h1) hw) _ _ _ _ (by simp) ?_ (by simp) ?_)
   ·intro k o _ hk;unfold JP at hk;simp only[ya,wH] at hk;split at hk<;>cases hk
   ·obtain⟨A,hA⟩:=hh.drew;subst h0;refine⟨A,hA.congr (fun n=>?_) (fun t=>?_) rfl⟩
    ·refine(JE (k:=0) (val:=fun k=>look (tr k).heap n) (fun j hj ht=>T.Ae4 hj ht) (by omega) fun j hj _=>⟨fun hk=>?_,fun h=>by omega⟩).symm;unfold JP at hk;simp only[ya,wH] at hk;split at hk<;>cases hk
    ·refine(JE (k:=0) (val:=fun k=>(tr k).tmps.getD t .undef) (fun j hj ht=>T.AjF hj ht) (by omega) fun j hj _=>⟨fun hk=>?_,fun h=>by omega⟩).symm;unfold JP at hk;simp only[ya,wH] at hk;split at hk<;>cases hk
end
def Ctx.only(c:Ctx)(ns:List Nat):Ctx:={ c with at_:=fun n=>if n∈ns then c.at_ n else xY }
theorem M4{n:Nat}{l:List Nat}(h:l.contains n=xZ):n∈l:=by simpa using h
theorem WM{c:Ctx}{w:World}(ns:List Nat):∀(f:Nat) (d:DV) (v:Value),EK f ns d=xZ->B0 c w d v->B0 (c.only ns) w d v:=by
 intro f
 induction f with
 | zero=>intro d v h; simp[EK] at h
 | succ f ih =>
   have all:∀(l:List DV) (vs:List Value),l.all (EK f ns)=xZ->BM c w l vs->BM (c.only ns) w l vs:=by
    intro l
    induction l with
    | nil=>intro vs _ h; rw[BM.Gj] at h ⊢; exact h
    | cons d l ihl =>intro vs h hv;simp only[List.all_cons,Am] at h;rw[BM.CW] at hv ⊢;obtain⟨u,us,e,h1,h2⟩:=hv;exact⟨u,us,e,ih d u h.1 h1,ihl us h.2 h2⟩
   intro d v h hv;cases d with
   | agg l =>simp only[EK] at h;simp only[B0] at hv ⊢;obtain⟨vs,e,hl⟩:=hv;exact⟨vs,e,all l _ h hl⟩
   | CR l =>simp only[EK] at h;simp only[B0] at hv ⊢;obtain⟨vs,e,hl⟩:=hv;exact⟨vs,e,all l _ h hl⟩
   | fn g a b =>simp only[EK,Am] at h;simp only[B0] at hv ⊢;obtain⟨fs,cs,e,h1,h2⟩:=hv;exact⟨fs,cs,e,all a _ h.1 h1,all b _ h.2 h2⟩
   | gd g d =>simp only[EK] at h;simp only[B0] at hv ⊢;exact⟨fun e=>ih d v h (hv.1 e),hv.2⟩
   | Dh n =>simp only[EK] at h;simp only[B0] at hv ⊢;obtain⟨h1,p,hp,hd⟩:=hv;exact⟨h1,p,by simp only[Ctx.only,M4 h,if_true]; exact hp,hd⟩
   | JX n o m =>simp only[EK] at h;simp only[B0] at hv ⊢;obtain⟨h1,p,hp,hd⟩:=hv;exact⟨h1,p,by simp only[Ctx.only,M4 h,if_true]; exact hp,hd⟩
   | ptr n i j =>simp only[EK] at h;simp only[B0] at hv ⊢;obtain⟨h1,p,hp,hd⟩:=hv;exact⟨h1,p,by simp only[Ctx.only,M4 h,if_true]; exact hp,hd⟩
   | Bj g k l=>cases g<;>(simp only[B0] at hv ⊢; exact hv)
   | Cu g k l=>cases g<;>(simp only[B0] at hv ⊢; exact hv)
   | undef=>simp only[B0]
   | _=>simp only[B0] at hv ⊢; exact hv
def Ue(n:Nat):List (Nat × Nat × Nat × OB)->Option (Nat × Nat × Nat × OB)
 | []=>xY
 | x::xs=>if x.2.2.1=n then xQ x else Ue n xs
theorem Rl{n:Nat}:∀{l:List (Nat × Nat × Nat × OB)} {x},Ue n l=xQ x->x∈l/\x.2.2.1=n
 | [],x,h=>by cases h
 | y::l,x,h=>by
   simp only[Ue] at h;split at h
   ·cases h; exact⟨AY,‹_›⟩
   ·exact⟨AN _ (Rl h).1,(Rl h).2⟩
theorem Qx:∀{l:List (Nat × Nat × Nat × OB)} {x},(l.map (·.2.2.1)).Nodup->x∈l->Ue x.2.2.1 l=xQ x
 | [],x,_,h=>by cases h
 | y::l,x,hn,h=>by
   simp only[yq,xz] at hn;simp only[Ue];rcases zF.1 h with rfl | h
   ·rw[Az rfl]
   ·rw[Ay (fun e=>hn.1 (by rw[e]; exact zh.2 ⟨x,h,rfl⟩))];exact Qx hn.2 h
theorem Pp{b j nm:Nat}:∀{l:List (Nat × Nat × Nat × OB)},Jm b j l=xQ nm->∃ob,(b,j,nm,ob)∈l
 | [],h=>by cases h
 | (b',j',nm',ob)::l,h=>by
   simp only[Jm] at h;cases hb:(zg b b'&&zg j j') with
   | true =>rw[hb] at h;simp only[Aa,Ae] at h;simp only[Am] at hb;have e1:=Au hb.1;have e2:=Au hb.2;subst e1 e2 h;exact⟨ob,AY⟩
   | false =>rw[hb] at h;obtain⟨ob',h'⟩:=Pp h;exact⟨ob',AN _ h'⟩
theorem T3{st:St}:∀{l:List (Nat × Nat × Nat × OB)} {h:DG} {ns:List Nat},T4 st l=xQ (h,ns)->(l.map (·.2.2.1)).Nodup->ns.Nodup ->
 (∀x∈l,∃s ob,WS st x=xQ (s,ob)/\look h x.2.2.1=xQ (x5,ob)/\∀n,s=xQ n->n∈ns) /\
 (∀n fo,look h n=xQ fo->∃x∈l,x.2.2.1=n) /\
 (∀x∈l,∀y∈l,∀n ob ob',WS st x=xQ (xQ n,ob)->WS st y=xQ (xQ n,ob')->x=y)
 | [],h,ns,hs,_,_=>by simp only[T4,Ae,Ak] at hs;obtain⟨rfl,rfl⟩:=hs;exact⟨fun x hx=>(by cases hx),fun n fo hl=>(by cases hl),fun x hx=>(by cases hx)⟩
 | x::l,h,ns,hs,hn,hns=>by
   simp only[T4] at hs;cases ho:WS st x with
   | none=>simp[ho] at hs
   | some r =>
     obtain⟨s,ob⟩:=r;cases hl:T4 st l with
     | none=>simp[ho,hl] at hs
     | some r =>
       obtain⟨h',ns'⟩:=r;simp only[ho,hl,Ae,Ak] at hs;obtain⟨rfl,rfl⟩:=hs;simp only[yq,xz] at hn;rw[List.nodup_append] at hns;obtain⟨i1,i2,i3⟩:=T3 hl hn.2 hns.2.1;have hx:∀y∈l,x.2.2.1≠y.2.2.1:=fun y hy e=>hn.1 (by rw[e]; exact zh.2 ⟨y,hy,rfl⟩)
       have cross:∀y∈l,∀n ob ob',WS st x=xQ (xQ n,ob)->WS st y=xQ (xQ n,ob')->False:=by intro y hy n o1 o2 h1 h2;rw[ho] at h1; cases h1;obtain⟨s',ob',h3,_,h4⟩:=i1 y hy;rw[h2] at h3; cases h3;exact hns.2.2 n (by simp) n (h4 n rfl) rfl
       refine⟨fun y hy=>?_,fun n fo hl'=>?_,fun y hy z hz n o1 o2 h1 h2=>?_⟩
       ·rcases zF.1 hy with rfl | hy
        ·exact⟨s,ob,ho,by simp[look],fun n e=>by rw[e]; simp⟩
        ·obtain⟨s',ob',h1,h2,h3⟩:=i1 y hy;refine⟨s',ob',h1,?_,fun n e=>zA.2 (.inr (h3 n e))⟩;simp only[look,show(x.2.2.1==y.2.2.1)=x5 by simpa using hx y hy,Af];exact h2
       ·simp only[look] at hl';by_cases e:x.2.2.1=n
        ·exact⟨x,AY,e⟩
        ·rw[show(x.2.2.1==n)=x5 by simpa using e] at hl';obtain⟨y,hy,hyn⟩:=i2 n fo hl';exact⟨y,AN _ hy,hyn⟩
       ·rcases zF.1 hy with e1 | hy2
        ·rcases zF.1 hz with e2 | hz2
         ·rw[e1,e2]
         ·exact(cross z hz2 n o1 o2 (e1 ▸ h1) h2).elim
        ·rcases zF.1 hz with e2 | hz2
         ·exact(cross y hy2 n o2 o1 (e2 ▸ h2) h1).elim
         ·exact i3 y hy2 z hz2 n o1 o2 h1 h2
theorem RP{st:St}{H:BN}:∀{bs:List Nat} {h:DG},P2 st H bs=xQ h->bs.Nodup ->
 (∀b∈bs,∃f cs,look st.heap b=xQ (f,.box cs)/\Oo H.Cg H.Cr (b+1) 0 cs=xZ/\look h b=xQ (f,.box (P1 H.Cg (b+1) 0 cs)))/\(∀n fo,look h n=xQ fo->n∈bs)
 | [],h,hs,_=>by simp only[P2,Ae] at hs;subst hs;exact⟨fun x hx=>(by cases hx),fun n fo hl=>(by cases hl)⟩
 | b::bs,h,hs,hn=>by
   simp only[P2] at hs;split at hs
   ·rename_i f cs hl;cases hc:Oo H.Cg H.Cr (b+1) 0 cs with
    | false=>rw[hc] at hs; cases hs
    | true =>
      rw[hc,Aa] at hs;cases hb:P2 st H bs with
      | none=>rw[hb] at hs; cases hs
      | some h' =>
        rw[hb] at hs;simp only[Ae] at hs;subst hs;simp only[xz] at hn;obtain⟨i1,i2⟩:=RP hb hn.2;refine⟨fun c hc'=>?_,fun n fo hl'=>?_⟩
        ·rcases zF.1 hc' with rfl | hc'
         ·exact⟨f,cs,hl,hc,by simp[look]⟩
         ·obtain⟨f',cs',h1,h2,h3⟩:=i1 c hc';refine⟨f',cs',h1,h2,?_⟩;have:b≠c:=fun e=>hn.1 (e ▸ hc')
          simp only[look,show(b==c)=x5 by simpa using this,Af];exact h3
        ·simp only[look] at hl';by_cases e:b=n
         ·rw[e]; exact AY
         ·rw[show(b==n)=x5 by simpa using e] at hl';exact AN _ (i2 n fo hl')
   ·cases hs
theorem UY{H:BN}:∀(l:List DV) (k i:Nat),i<l.length->(SV H k l).getD i .undef=(match Jm 0 (k+i) H.Cg with | some nm=>.Dh nm | none=>bif JK (k+i) H.Df then l.getD i .undef else .undef)
 | [],k,i,h=>by simp at h
 | d::l,k,i,h=>by
   cases i with
   | zero =>simp only[SV,List.getD_cons_zero,AQ];cases Jm 0 k H.Cg<;>rfl
   | succ i =>have:=UY (H:=H) l (k+1) i (by simpa using h);simp only[SV,xR,this];rw[show k+1+i=k+(i+1) by omega]
theorem Mc{H:BN}:∀(l:List DV) (k:Nat),(SV H k l).length=l.length
 | [],k=>rfl
 | d::l,k=>by simp[SV,Mc l]
theorem Tz{H:BN}:∀{l:List DV} {k i:Nat},T1 H k l=xZ->i<l.length->Jm 0 (k+i) H.Cg=xY->JK (k+i) H.Df=xZ->EK 8 H.Cr (l.getD i .undef)=xZ
 | [],k,i,_,h,_,_=>by simp at h
 | d::l,k,i,h,hi,h1,h2=>by
   simp only[T1,Am,zK,yw] at h;cases i with
   | zero =>
     rcases h.1 with h | h | h
     ·rw[AQ] at h1; rw[h1] at h; cases h
     ·rw[AQ] at h2; rw[h2] at h; cases h
     ·exact h
   | succ i =>rw[xR];exact Tz (k:=k+1) h.2 (by simpa using hi) (by rw[show k+1+i=k+(i+1) by omega]; exact h1) (by rw[show k+1+i=k+(i+1) by omega]; exact h2)
theorem Ur{c c':Ctx}{w:World}{Cg:List (Nat × Nat × Nat × OB)}{Cr:List Nat}{b:Nat}:
 ∀(l:List DV) (vs:List Value) (k:Nat),Oo Cg Cr b k l=xZ->BM c w l vs ->
 (∀d v,EK 8 Cr d=xZ->B0 c w d v->B0 c' w d v)->(∀i nm d v,l[i]?=xQ d->Jm b (k+i) Cg=xQ nm->B0 c w d v->B0 c' w (.Dh nm) v)->BM c' w (P1 Cg b k l) vs
 | [],vs,k,_,h,_,_=>by rw[BM.Gj] at h; subst h; simp[P1,BM]
 | d::l,vs,k,hok,h,h1,h2=>by
   simp only[Oo,Am,zK] at hok;rw[BM.CW] at h;obtain⟨u,us,rfl,hu,hus⟩:=h;simp only[P1];rw[BM.CW];refine⟨u,us,rfl,?_,Ur l us (k+1) hok.2 hus h1 fun i nm e v hi hn=>h2 (i+1) nm e v hi (by rw[show k+(i+1)=k+1+i by omega]; exact hn)⟩;cases hn:Jm b k Cg with
   | some nm=>exact h2 0 nm d u rfl hn hu
   | none =>rw[hn] at hok;exact h1 d u (hok.1.resolve_left (by simp)) hu
def Akp:OB->Nat
 | .Cu _ sz _=>sz
 | _=>1
def IH(ob:OB):Place:=⟨.live,.row (.slice xY 0 0) (Akp ob)⟩
open Classical in
def LR(st:St)(H:BN)(A:Nat->Option Place)(n:Nat):Option Place:=
 if n∈H.Cr then A n else
 match Ue n H.Cg with
 | some x=>match PJ st x with
   | .nil=>xQ (IH x.2.2.2)
   | .Dh m=>A m
   | _=>xY
 | none=>xY
theorem Jo{st:St}{H:BN}{A:Nat->Option Place}{n:Nat}{p:Place}(h:LR st H A n=xQ p):
 (n∈H.Cr/\A n=xQ p)\/(n ∉ H.Cr/\∃x∈H.Cg,x.2.2.1=n/\((PJ st x=.nil/\p=IH x.2.2.2)\/∃m,PJ st x=.Dh m/\A m=xQ p)):=by
 unfold LR at h;by_cases hb:n∈H.Cr
 ·rw[Az hb] at h; exact .inl ⟨hb,h⟩
 ·rw[Ay hb] at h;refine .inr ⟨hb,?_⟩;cases hf:Ue n H.Cg with
  | none=>rw[hf] at h; cases h
  | some x =>
    rw[hf] at h;obtain⟨hx,hn⟩:=Rl hf;refine⟨x,hx,hn,?_⟩;simp only at h;split at h
    ·rename_i e; cases h; exact .inl ⟨e,rfl⟩
    ·rename_i m e; exact .inr ⟨m,e,h⟩
    ·cases h
theorem N2{st:St}{x:Nat × Nat × Nat × OB}{s:Option Nat}{ob:OB}(h:WS st x=xQ (s,ob)):
 (PJ st x=.nil/\s=xY/\ob=x.2.2.2/\((∃e k,ob=.Bj e k [])\/∃e sz,0<sz/\ob=.Cu e sz [])) \/
 (∃m,PJ st x=.Dh m/\s=xQ m/\look st.heap m=xQ (x5,ob)/\((∃e k l,ob=.Bj e k l)\/∃e sz l,ob=.Cu e sz l)):=by
 unfold WS at h;split at h
 ·rename_i hs;left;split at h
  ·rename_i e k hx;simp only[Ae,Ak] at h;exact⟨hs,h.1.symm,by rw[hx]; exact h.2.symm,.inl ⟨e,k,h.2.symm⟩⟩
  ·rename_i e sz hx;cases hb:yK 0 sz with
   | false=>rw[hb] at h; cases h
   | true =>rw[hb] at h;simp only[Aa,Ae,Ak] at h;exact⟨hs,h.1.symm,by rw[hx]; exact h.2.symm,.inr ⟨e,sz,by simpa[Nat.blt_eq] using hb,h.2.symm⟩⟩
  ·cases h
 ·rename_i m hs;right;split at h
  ·rename_i e k l hl;simp only[Ae,Ak] at h;exact⟨m,hs,h.1.symm,by rw[hl,h.2],.inl ⟨e,k,l,h.2.symm⟩⟩
  ·rename_i e sz l hl;simp only[Ae,Ak] at h;exact⟨m,hs,h.1.symm,by rw[hl,h.2],.inr ⟨e,sz,l,h.2.symm⟩⟩
  ·cases h
 ·cases h
section
variable{E:Env}{S:UJ E}{I0:Nat->Prop}{B:Nat}{w0:World}
theorem Aei{H:BN}{st st1:St}(h:Abf (xQ H) st=xQ st1){a:Act}{w:World}(hh:Fa S I0 B w0 st a w):Fa S I0 B w0 st1 a w:=by
 obtain⟨A,hA⟩:=hh;simp only[Abf] at h;cases hbd:P2 st H H.Cr with
 | none=>rw[hbd] at h; cases h
 | some hb =>
 cases hod:T4 st H.Cg with
 | none=>rw[hbd,hod] at h; cases h
 | some r =>
 obtain⟨ho,ns⟩:=r;rw[hbd,hod] at h;simp only at h;cases hc:(JI (H.Cr++H.Cg.map (·.2.2.1))&&JI ns&&T1 H 0 st.tmps) with
 | false=>rw[hc] at h; cases h
 | true =>
 rw[hc,Aa,Ae] at h;subst h;simp only[Am] at hc;obtain⟨⟨hn,hns⟩,hok⟩:=hc;have hnd:=Iz hn;rw[List.nodup_append] at hnd;obtain⟨hnb,hno,hdis⟩:=hnd;obtain⟨o1,o2,o3⟩:=T3 hod hno (Iz hns);obtain⟨b1,b2⟩:=RP hbd hnb;have hnin:∀x∈H.Cg,x.2.2.1 ∉ H.Cr:=fun x hx e=>hdis _ e _ (zh.2 ⟨x,hx,rfl⟩) rfl
 have hat:∀x∈H.Cg,LR st H A x.2.2.1=match PJ st x with | .nil=>xQ (IH x.2.2.2) | .Dh m=>A m | _=>xY:=by intro x hx;unfold LR;rw[Ay (hnin x hx),Qx hno hx]
 have hokc:∀b,(Cc I0 B A w).ok b->(Cc I0 B (LR st H A) w).ok b:=by
  rintro b ⟨h1,h2,h3⟩
  refine⟨h1,h2,fun n p hp hl=>?_⟩;rcases Jo hp with ⟨_,hp⟩ | ⟨_,x,_,_,⟨_,rfl⟩ | ⟨m,_,hp⟩⟩
  ·exact h3 n p hp hl
  ·simp[IH,Place.FP,Value.ownBlock]
  ·exact h3 m p hp hl
 have hrefs:∀d v,EK 8 H.Cr d=xZ->B0 (Cc I0 B A w) w d v->B0 (Cc I0 B (LR st H A) w) w d v:=by
  intro d v hd hv
  have hl:JF ((Cc I0 B A w).only H.Cr) w (Cc I0 B (LR st H A) w) w:=by
   refine⟨hokc,rfl,rfl,fun _ _ h=>(by cases h),fun n p hp=>?_,fun _ _ _=>rfl,fun _ _ h=>(by cases h)⟩;simp only[Ctx.only] at hp;split at hp
   ·rename_i hnb';refine⟨p,?_,?_⟩
    ·show LR st H A n=xQ p;unfold LR;rw[Az hnb']; exact hp
    ·by_cases hpd:p.st=.dead
     ·exact .inl hpd
     ·exact .inr ⟨hpd,rfl⟩
   ·cases hp
  exact B0.DD hl d v (WM H.Cr 8 d v hd hv)
 have hbare:∀l rows,Dx (Cc I0 B A w).bare w l rows->Dx (Cc I0 B (LR st H A) w).bare w l rows:=fun l rows =>
  Dx.DD (c:=(Cc I0 B A w).bare) (c':=(Cc I0 B (LR st H A) w).bare) (w:=w) (w':=w) ⟨hokc,rfl,rfl,fun _ _ h=>(by cases h),fun _ _ h=>(by cases h),fun _ _ _=>rfl,fun _ _ h=>(by cases h)⟩ l rows
 have hnamed:∀x∈H.Cg,∀v,B0 (Cc I0 B A w) w (PJ st x) v->B0 (Cc I0 B (LR st H A) w) w (.Dh x.2.2.1) v:=by
  intro x hx v hv;obtain⟨s,ob,h1,_,_⟩:=o1 x hx;have hax:=hat x hx;rcases N2 h1 with ⟨e,_⟩ | ⟨m,e,_⟩
  ·rw[e] at hv hax;simp only[B0] at hv ⊢;subst hv;exact⟨rfl,_,hax,.inr ⟨_,rfl⟩⟩
  ·rw[e] at hv hax;simp only[B0] at hv ⊢;obtain⟨h1,p,hp,hd⟩:=hv;exact⟨h1,p,hax.trans hp,hd⟩
 refine⟨LR st H A,hA.defers,hA.size.trans (Mc _ _).symm,hA.below,hA.hB,hA.QF,fun n p hp=>?_,fun n p b hp hd hpb=>?_,fun n m p q b hp hq hpd hqd hpb hqb=>?_,fun t=>?_,fun b hb=>⟨(hA.kept b hb).1,(hA.kept b hb).2.1,fun n p hp hl hbk=>by
  rcases Jo hp with ⟨_,hp⟩ | ⟨_,x,_,_,⟨_,rfl⟩ | ⟨m,_,hp⟩⟩
  ·exact(hA.kept b hb).2.2 n p hp hl hbk
  ·simp[IH,Place.FP,Value.ownBlock] at hbk
  ·exact(hA.kept b hb).2.2 m p hp hl hbk⟩,hA.pin⟩
 ·rcases Jo hp with ⟨hnb',hp⟩ | ⟨hnb',x,hx,rfl,hsrc⟩
  ·obtain⟨f,cs,h1,h2,h3⟩:=b1 n hnb';obtain⟨fo,h4,h5⟩:=hA.obj n p hp;rw[h1] at h4; cases h4;refine⟨(f,.box (P1 H.Cg (n+1) 0 cs)),by rw[Lj,h3],?_⟩;obtain⟨hst,b,e,cells,hk,hh,hl⟩:=h5;refine⟨hst,b,e,cells,hk,hh,Ur cs _ 0 h2 hl hrefs fun i nm d v hi hnm hv=>?_⟩;obtain⟨ob,hx⟩:=Pp hnm;refine hnamed _ hx v ?_
   have:PJ st (n+1,0+i,nm,ob)=d:=by simp[PJ,h1,Al,hi]
   rw[this]; exact hv
  ·obtain⟨s,ob,h1,h2,_⟩:=o1 x hx
   have hl:look (hb++ho) x.2.2.1=xQ (x5,ob):=by
    rw[Lj];cases hq:look hb x.2.2.1 with
    | none=>exact h2
    | some fo=>exact absurd (b2 _ _ hq) hnb'
   refine⟨_,hl,?_⟩;rcases N2 h1 with ⟨e,_,e2,hob⟩ | ⟨m,e,_,hlm,hob⟩
   ·rcases hsrc with ⟨_,rfl⟩ | ⟨m,e',_⟩
    ·rw[<- e2];rcases hob with ⟨e,k,rfl⟩ | ⟨e,sz,hsz,rfl⟩
     ·exact⟨rfl,_,rfl,World.ownsRow_nil w B e 1⟩
     ·exact⟨rfl,hsz,_,[],rfl,by simp[Dx],fun r hr=>(by cases hr),World.ownsRow_nil w B e sz⟩
    ·rw[e] at e'; cases e'
   ·rcases hsrc with ⟨e',_⟩ | ⟨m',e',hp'⟩
    ·rw[e] at e'; cases e'
    ·rw[e] at e'; cases e';obtain⟨fo,h4,h5⟩:=hA.obj m p hp';rw[hlm] at h4; cases h4;rcases hob with ⟨e,k,l,rfl⟩ | ⟨e,sz,l,rfl⟩
     ·exact h5
     ·obtain⟨i1,i2,sv,rows,i3,i4,i5,i6⟩:=h5;exact⟨i1,i2,sv,rows,i3,hbare _ _ i4,i5,i6⟩
 ·rcases Jo hp with ⟨_,hp⟩ | ⟨_,x,hx,rfl,⟨_,rfl⟩ | ⟨m,_,hp⟩⟩
  ·exact hA.Gz n p b hp hd hpb
  ·simp[IH,Place.FP,Value.ownBlock] at hpb
  ·exact hA.Gz m p b hp hd hpb
 ·have isBox:∀n p,n∈H.Cr->A n=xQ p->∃b,p.kind=.box b:=by intro n p hnb' hp;obtain⟨f,cs,h1,_,_⟩:=b1 n hnb';obtain⟨fo,h4,h5⟩:=hA.obj n p hp;rw[h1] at h4; cases h4;obtain⟨_,b,_,_,hk,_⟩:=h5;exact⟨b,hk⟩
  have isRow:∀x∈H.Cg,∀m p,PJ st x=.Dh m->A m=xQ p->∃sv sz,p.kind=.row sv sz:=by
   intro x hx m p e hp;obtain⟨s,ob,h1,_,_⟩:=o1 x hx;rcases N2 h1 with ⟨e',_⟩ | ⟨m',e',_,hlm,hob⟩
   ·rw[e] at e'; cases e'
   ·rw[e] at e'; cases e';obtain⟨fo,h4,h5⟩:=hA.obj m p hp;rw[hlm] at h4; cases h4;rcases hob with ⟨e,k,l,rfl⟩ | ⟨e,sz,l,rfl⟩
    ·obtain⟨_,sv,hk,_⟩:=h5; exact⟨sv,1,hk⟩
    ·obtain⟨_,_,sv,_,hk,_⟩:=h5; exact⟨sv,sz,hk⟩
  have same:∀m m':Nat,∀p q:Place,A m=xQ p->A m'=xQ q->p.st≠.dead->q.st≠.dead->p.FP=xQ b->q.FP=xQ b->m=m':=fun m m' p q h1 h2 h3 h4 h5 h6=>hA.inj m m' p q b h1 h2 h3 h4 h5 h6
  rcases Jo hp with ⟨hnb',hp⟩ | ⟨_,x,hx,rfl,⟨_,rfl⟩ | ⟨i,hi,hp⟩⟩
  ·rcases Jo hq with ⟨_,hq⟩ | ⟨_,y,hy,rfl,⟨_,rfl⟩ | ⟨j,hj,hq⟩⟩
   ·exact same n m p q hp hq hpd hqd hpb hqb
   ·simp[IH,Place.FP,Value.ownBlock] at hqb
   ·have e:=same n j p q hp hq hpd hqd hpb hqb;subst e;rw[hp] at hq; cases hq;obtain⟨b',hk⟩:=isBox n p hnb' hp;obtain⟨sv,sz,hk'⟩:=isRow y hy n p hj hp;rw[hk] at hk'; cases hk'
  ·simp[IH,Place.FP,Value.ownBlock] at hpb
  ·rcases Jo hq with ⟨hmb,hq⟩ | ⟨_,y,hy,rfl,⟨_,rfl⟩ | ⟨j,hj,hq⟩⟩
   ·have e:=same i m p q hp hq hpd hqd hpb hqb;subst e;rw[hp] at hq; cases hq;obtain⟨b',hk⟩:=isBox i p hmb hp;obtain⟨sv,sz,hk'⟩:=isRow x hx i p hi hp;rw[hk] at hk'; cases hk'
   ·simp[IH,Place.FP,Value.ownBlock] at hqb
   ·have e:=same i j p q hp hq hpd hqd hpb hqb;subst e;obtain⟨s,ob,h1,_,_⟩:=o1 x hx;obtain⟨s',ob',h1',_,_⟩:=o1 y hy
    have hs:s=xQ i:=by
     rcases N2 h1 with ⟨e',_⟩ | ⟨m',e',e2,_⟩
     ·rw[hi] at e'; cases e'
     ·rw[hi] at e'; cases e'; exact e2
    have hs':s'=xQ i:=by
     rcases N2 h1' with ⟨e',_⟩ | ⟨m',e',e2,_⟩
     ·rw[hj] at e'; cases e'
     ·rw[hj] at e'; cases e'; exact e2
    subst hs hs';rw[o3 x hx y hy i ob ob' h1 h1']
 ·rcases AF t st.tmps.length with hlt | hge
  ·rw[UY st.tmps 0 t hlt];cases hnm:Jm 0 (0+t) H.Cg with
   | some nm =>
     obtain⟨ob,hx⟩:=Pp hnm;refine hnamed _ hx _ ?_;have:PJ st (0,0+t,nm,ob)=st.tmps.getD t .undef:=by simp[PJ]
     rw[this]; exact hA.tmps t
   | none =>
     simp only;cases hk:JK (0+t) H.Df with
     | true=>exact hrefs _ _ (Tz hok hlt hnm hk) (hA.tmps t)
     | false=>simp only[Af,B0]
  ·rw[Al,Bb (by rw[Mc]; exact hge)];simp only[Option.getD_none,B0]
theorem AhQ{st:St}{a:Act}{w:World}(hh:Fa S I0 B w0 st a w):Fa S I0 B w0 (ZV st) a w:=by
 obtain⟨A,hA⟩:=hh;refine⟨A,hA.defers,hA.size.trans (by unfold ZV; rw[AO]),hA.below,hA.hB,hA.QF,hA.obj,hA.Gz,hA.inj,fun t=>?_,hA.kept,hA.pin⟩;have ht:=hA.tmps t
 have e:(ZV st).tmps.getD t .undef=Afa st.heap (st.tmps.getD t .undef):=by
  unfold ZV;rw[Al,Al,Ba];cases st.tmps[t]? with
  | none=>rfl
  | some d=>rfl
 rw[e];generalize st.tmps.getD t .undef=d at ht;cases d with
 | Dh n =>
   have e2:Afa st.heap (.Dh n)=(match look st.heap n with
    | some (true,.Bj _ k l)=>.Bj .BE k l
    | some (true,.Cu _ sz l)=>.Cu .BE sz l
    | _=>.Dh n):=rfl
   rw[e2];have hm:Mem I0 B A st.heap w:=hA.mem fun n p fo hn hl=>hl
   have seen:∀p,A n=xQ p->p.st=.frozen->∀b,p.FP=xQ b->(Cc I0 B A w).FP .BE b:=fun p hp hf b hb=>by obtain⟨h1,h2⟩:=hA.Gz n p b hp (by rw[hf]; simp) hb;refine⟨⟨h2,.inr h1,fun m q hq hl hqb=>?_⟩,rfl,h1⟩;have:=hA.inj n m p q b hp hq (by rw[hf]; simp) (by rw[hl]; simp) hb hqb;subst this;rw[hp] at hq; cases hq;rw[hf] at hl; cases hl
   have hv:=ht;simp only[B0] at hv;obtain⟨hone,p,hp,hd⟩:=hv;split
   ·rename_i e k l hl;obtain⟨hst,sv,hk,ho⟩:=Em hm hp hl;have hst':p.st=.frozen:=hst;obtain⟨size,hk'⟩:=hd.resolve_left (by rw[hst']; simp);rw[hk] at hk'; cases hk';have:=Iw hk ho (ER ho) (ok:=(Cc I0 B A w).FP .BE) (seen p hp hst');simp only[zY,z9] at this;simp only[B0];exact this
   ·rename_i e sz l hl;obtain⟨hst,hsz,sv,rows,hk,hrr,hlen,ho⟩:=EE hm hp hl;have hst':p.st=.frozen:=hst;obtain⟨size,hk'⟩:=hd.resolve_left (by rw[hst']; simp);rw[hk] at hk'; cases hk';have:=Iv hk hrr hlen ho (ER ho) (ok:=(Cc I0 B A w).FP .BE) (seen p hp hst');simp only[zY,z9] at this;simp only[B0];exact this
   ·exact ht
 | _=>exact ht
theorem Ahe{H:BN}{st st1:St}(h:canon (xQ H) st=xQ st1){a:Act}{w:World}(hh:Fa S I0 B w0 st a w):Fa S I0 B w0 st1 a w:=Aei (H:=Aj2 (ZV st) H) h (AhQ hh)
end
section
variable{P:Program}{E:Env}{S:UJ E}{I0:Nat->Prop}{B:Nat}{w0:World}
theorem AaL{Df:Option (List Nat)}{st:St}(t:Nat):(forget Df st).tmps.getD t .undef=st.tmps.getD t .undef\/(forget Df st).tmps.getD t .undef=.undef:=by
 cases Df with
 | none=>exact .inl rfl
 | some ks =>
   simp only[forget,Al,Ba,List.getElem?_zipIdx];cases st.tmps[t]? with
   | none=>exact .inl rfl
   | some d =>
     simp only[yn,Be];cases ks.contains (0+t)
     ·exact .inr rfl
     ·exact .inl rfl
theorem UH{Df:Option (List Nat)}{st:St}:(forget Df st).tmps.length=st.tmps.length:=by cases Df<;>simp[forget]
theorem YU{Df:Option (List Nat)}{st:St}:(forget Df st).heap=st.heap:=by cases Df<;>rfl
theorem Fa.forget{Df:Option (List Nat)}{st:St}{a:Act}{w:World}(h:Fa S I0 B w0 st a w):Fa S I0 B w0 (forget Df st) a w:=by
 obtain⟨A,h⟩:=h;refine⟨A,h.defers,h.size.trans UH.symm,h.below,h.hB,h.QF,by rw[YU]; exact h.obj,h.Gz,h.inj,fun t=>?_,h.kept,h.pin⟩;rcases AaL (Df:=Df) (st:=st) t with e | e
 ·rw[e]; exact h.tmps t
 ·rw[e]; simp only[B0]
def Ahx{β:Type}{E:Env}(P:Program)(S:UJ E)(I0:Nat->Prop)(B:Nat)(w0:World)(r:β)(c:Code)(body:St->(St->Option β)->(Nat->St->Option β)->(St->Option β)->Option β):Prop:=
 ∀(st:St) (Kn:St->Option β) (Kx:Nat->St->Option β) (Kr:St->Option β),body st Kn Kx Kr=xQ r->∀(a:Act) (w:World),Fa S I0 B w0 st a w->∀Q:Exit->Act->World->Prop,
  (∀st a w,Kn st=xQ r->Fa S I0 B w0 st a w->Q .normal a w)->(∀id st a w,Kx id st=xQ r->Fa S I0 B w0 st a w->Q (.exit id) a w) ->
  (∀st a w,Kr st=xQ r->Fa S I0 B w0 st a w->Q .ret a w)->c.wp P Q a w
theorem VS{H:Option BN}{st st1:St}(hc:canon H st=xQ st1){a:Act}{w:World}(hh:Fa S I0 B w0 st a w):Fa S I0 B w0 st1 a w:=by
 cases H with
 | none=>simp only[canon,Ae] at hc; subst hc; exact hh
 | some H=>exact Ahe hc hh
theorem YL{β:Type}{r:β}{c:Code}{body:St->(St->Option β)->(Nat->St->Option β)->(St->Option β)->Option β}(hb:Ahx P S I0 B w0 r c body){H:Option BN}{Kx:Nat->St->Option β}{Kr:St->Option β}
 {Q:Exit->Act->World->Prop} (hx:∀id st a w,Kx id st=xQ r->Fa S I0 B w0 st a w->Q (.exit id) a w) (hr:∀st a w,Kr st=xQ r->Fa S I0 B w0 st a w->Q .ret a w):
 ∀(n:Nat) (st:St),Qr H body n st Kx Kr=xQ r->∀a w,Fa S I0 B w0 st a w->Code.rounds P c Q n a w
 | 0,st,h,_,_,_=>by simp[Qr] at h
 | n+1,st,h,a,w,hh=>by
   simp only[Qr] at h;rw[rounds_succ];refine hb st _ Kx Kr h a w hh _ (fun st2 a2 w2 hk hh2=>?_) (fun id st2 a2 w2 hk hh2=>hx id st2 a2 w2 hk hh2) (fun st2 a2 w2 hk hh2=>hr st2 a2 w2 hk hh2);cases hc:canon H st2 with
   | none=>rw[hc] at hk; cases hk
   | some st3 =>rw[hc] at hk;exact YL hb hx hr n st3 hk a2 w2 (VS hc hh2)
theorem AiD{β:Type}{r:β}{c:Code}{body:St->(St->Option β)->(Nat->St->Option β)->(St->Option β)->Option β}(hb:Ahx P S I0 B w0 r c body){H:Option BN}{Kx:Nat->St->Option β}{Kr:St->Option β}
 {Q:Exit->Act->World->Prop} (hx:∀id st a w,Kx id st=xQ r->Fa S I0 B w0 st a w->Q (.exit id) a w) (hr:∀st a w,Kr st=xQ r->Fa S I0 B w0 st a w->Q .ret a w)
 (n:Nat) (st:St) (h:iter H body n st Kx Kr=xQ r) (a:Act) (w:World) (hh:Fa S I0 B w0 st a w):Code.rounds P c Q n a w:=by
 unfold iter at h;cases hc:canon H st with
 | none=>rw[hc] at h; cases h
 | some st1 =>rw[hc] at h;exact YL hb hx hr n st1 h a w (VS hc hh)
theorem Mz{β:Type}(he:He P E)(fuel:Nat)(r:β):∀(c:Code) (b:Nat),Ahx P S I0 B w0 r c (den E fuel b c)
 | .skip,b=>fun st Kn Kx Kr h a w hh Q hn hx hr=>by simp only[den] at h;exact wp_skip (hn st a w h hh)
 | .label l,b=>fun st Kn Kx Kr h a w hh Q hn hx hr=>by simp only[den] at h;exact wp_label (hn st a w h hh)
 | .region id ops draw,b=>fun st Kn Kx Kr h a w hh Q hn hx hr=>by
   simp only[den] at h
   have reg:∀st,Yp E ops draw Kn st=xQ r->Fa S I0 B w0 st a w->(Code.region id ops draw).wp P Q a w:=by
    intro st h hh;cases draw with
    | true=>exact AgK he h hh hn
    | false =>simp only[Yp,Af] at h;have:=AbV he ops.toList 0 _ (fun j=>by simp) h a w hh hn;rw[z5,<- List.range_eq_range'] at this;exact wp_region this
   cases hl:E.live id with
   | none=>rw[hl] at h; exact reg st h hh
   | some ks =>rw[hl] at h;simp only[Vc] at h;exact reg _ h hh.forget
 | .seq x y,b=>fun st Kn Kx Kr h a w hh Q hn hx hr=>by simp only[den] at h;refine wp_seq (Mz he fuel r x b st _ Kx Kr h a w hh _ (fun st' a' w' hk hh'=>?_) (fun id st' a' w' hk hh'=>hx id st' a' w' hk hh') (fun st' a' w' hk hh'=>hr st' a' w' hk hh'));exact Mz he fuel r y b st' Kn Kx Kr hk a' w' hh' Q hn hx hr
 | .cond c x y,b=>fun st Kn Kx Kr h a w hh Q hn hx hr=>by
   simp only[den] at h;cases hv:Gn st.tmps c with
   | bool t =>
     rw[hv] at h;simp only at h
     have hev:a.eval c=.bool t:=by
      obtain⟨A,hA⟩:=hh
      have:B0 (Cc I0 B A w) w (Gn st.tmps c) (a.eval c):=by
       cases c with
       | tmp t=>exact hA.tmps t
       | const v=>exact VO v
       | global g=>simp only[Gn,B0]
       | func f=>simp[Gn] at hv
      rw[hv] at this;simpa only[B0] using this
     refine wp_cond hev ?_;cases t with
     | true=>exact Mz he fuel r x b st Kn Kx Kr h a w hh Q hn hx hr
     | false=>exact Mz he fuel r y b st Kn Kx Kr h a w hh Q hn hx hr
   | _=>rw[hv] at h; cases h
 | .block id c,b=>fun st Kn Kx Kr h a w hh Q hn hx hr=>by
   simp only[den] at h;refine wp_block (Mz he fuel r c id st Kn _ Kr h a w hh _ (fun st' a' w' hk hh'=>hn st' a' w' hk hh') (fun id' st' a' w' hk hh'=>?_) (fun st' a' w' hk hh'=>hr st' a' w' hk hh'));simp only[Exit.inBlock];by_cases e:id'=id
   ·rw[Az e];rw[show(id'==id)=xZ by simpa using e] at hk;exact hn st' a' w' hk hh'
   ·rw[Ay e];rw[show(id'==id)=x5 by simpa using e] at hk;exact hx id' st' a' w' hk hh'
 | .loop c,b=>fun st Kn Kx Kr h a w hh Q hn hx hr=>by simp only[den] at h;exact wp_loop_rounds fuel (AiD (Mz he fuel r c b) hx hr fuel st h a w hh)
 | .scope c,b=>fun st Kn Kx Kr h a w hh Q hn hx hr=>by simp only[den] at h;exact wp_scope_straight (Mz he fuel r c b st Kn Kx Kr h a w hh _ (fun st' a' w' hk hh'=>hn st' a' w' hk hh') (fun id st' a' w' hk hh'=>hx id st' a' w' hk hh') (fun st' a' w' hk hh'=>hr st' a' w' hk hh'))
 | .exit id,b=>fun st Kn Kx Kr h a w hh Q hn hx hr=>by simp only[den] at h;exact wp_exit (hx id st a w h hh)
 | .ret,b=>fun st Kn Kx Kr h a w hh Q hn hx hr=>by simp only[den] at h;exact wp_ret (hr st a w h hh)
 | .rangeFunc ..,b=>fun st Kn Kx Kr h=>by simp[den] at h
 | .goto l,b=>fun st Kn Kx Kr h=>by simp[den] at h
 | .refuse s,b=>fun st Kn Kx Kr h=>by simp[den] at h
end
def AfE:List Value->Value
 | [v]=>v
 | vs=>.tuple vs.toArray
def QQ(tmps:Array Value):ResultVar->Sem Value
 | .tmp t=>pure (tmps.getD t undef)
 | .cell a t=>do loadVar t (<- asAddr (tmps.getD a undef))
section
variable{P:Program}{E:Env}{S:UJ E}{I0:Nat->Prop}{B:Nat}{w0:World}{A:Nat->Option Place}
theorem Aam{t:TypeId}{va v:Value}{w:World}(h:(Instr.loadAt t va).run P w=.ok v w):(do loadVar t (<- asAddr va):Sem Value).run P w=.ok v w:=by
 unfold Instr.loadAt at h;cases va with
 | pointer a =>
   cases a with
   | none=>simp[Instr.sureAddr] at h
   | some a =>simp only[Instr.sureAddr,asAddr] at h ⊢;exact h
 | _=>simp[Instr.sureAddr] at h
theorem Adh(hty:∀t ti,E.ty t=xQ ti->CI P t ti){st:St}{a:Act}{w:World}(hA:Ir S I0 B w0 A (look st.heap) (fun t=>st.tmps.getD t .undef) st.tmps.length a w)
 {r:ResultVar} {d:DV} (h1:Tu E st r=xQ d):∃v,B0 (Cc I0 B A w) w d v/\(QQ a.tmps r).run P w=.ok v w:=by
 cases r with
 | tmp t =>simp only[Tu,Ae] at h1;subst h1;exact⟨_,hA.tmps t,by simp[QQ]⟩
 | cell x t =>
   simp only[Tu] at h1;cases hT:E.ty t with
   | none=>simp[hT] at h1
   | some ti =>
     rw[hT,Aj] at h1;cases hl:V8 st.heap ti (st.tmps.getD x .undef) with
     | none=>rw[hl] at h1; cases h1
     | some q =>
       rw[hl,Aj] at h1;cases hq:q.Om with
       | false=>rw[hq] at h1; cases h1
       | true =>
         rw[hq,Aa,Ae] at h1;subst h1;have hm:Mem I0 B A st.heap w:=hA.mem fun n p fo _ hl=>hl
         obtain⟨v,hr,hv⟩:=YC hm (hty _ _ hT) (hA.tmps x) hl hq;exact⟨v,hv,Aam hr⟩
theorem QR(hty:∀t ti,E.ty t=xQ ti->CI P t ti){st:St}{a:Act}{w:World}(hA:Ir S I0 B w0 A (look st.heap) (fun t=>st.tmps.getD t .undef) st.tmps.length a w):
 ∀(rs:List ResultVar) (ds:List DV),Pj E st rs=xQ ds->∃vs:List Value,BM (Cc I0 B A w) w ds vs/\(rs.mapM (QQ a.tmps)).run P w=.ok vs w
 | [],ds,h=>by simp only[Pj,Ae] at h; subst h;exact⟨[],by simp[BM],rfl⟩
 | r::rs,ds,h=>by
   simp only[Pj] at h;cases h1:Tu E st r with
   | none=>simp[h1] at h
   | some d =>
     cases h2:Pj E st rs with
     | none=>simp[h1,h2] at h
     | some ds' =>simp only[h1,h2,Aj,Ae] at h;subst h;obtain⟨vs,i1,i2⟩:=QR hty hA rs ds' h2;obtain⟨v,hv,hr⟩:=Adh hty hA h1;refine⟨v::vs,by rw[BM.CW]; exact⟨v,vs,rfl,hv,i1⟩,?_⟩;simp only[List.mapM_cons,Sem.run_bind,hr,Result.andThen_ok,i2,Sem.run_pure]
theorem RC{fn:Func}{tmps:Array Value}{w:World}{vs:List Value}(h:(fn.results.toList.mapM (QQ tmps)).run P w=.ok vs w):
 (results fn tmps).run P w=.ok (AfE vs) w:=by
 have h':(fn.results.mapM (QQ tmps)).run P w=.ok vs.toArray w:=by rw[Array.mapM_eq_mapM_toList];simp only[Sem.run_map,h,Result.andThen_ok]
 have e:results fn tmps=(do let vs<-fn.results.mapM (QQ tmps); pure (if h:vs.size=1 then vs[0] else .tuple vs)):=by unfold results;congr 2
 rw[e];simp only[Sem.run_bind,h',Result.andThen_ok,Sem.run_pure];congr 1
 match vs with
 | []=>rfl
 | [v]=>rfl
 | v::u::us=>simp[AfE]
def K7(h:DG)(f:Nat)(l:List DV):Option (List DV × List Nat × List Nat) :=l.foldr (fun d acc=>(FR h f d).bind fun(x,ns,os)=>acc.bind fun(xs,ms,ps)=>xQ (x::xs,ns++ms,os++ps)) (xQ ([],[],[]))
theorem QV{h:DG}{f:Nat}{d:DV}{l:List DV}{r:List DV × List Nat × List Nat}(hh:K7 h f (d::l)=xQ r):
 ∃x ns os xs ms ps,FR h f d=xQ (x,ns,os)/\K7 h f l=xQ (xs,ms,ps)/\r=(x::xs,ns++ms,os++ps):=by
 have e:K7 h f (d::l)=(FR h f d).bind fun(x,ns,os)=>(K7 h f l).bind fun(xs,ms,ps)=>xQ (x::xs,ns++ms,os++ps):=rfl
 rw[e] at hh;cases h1:FR h f d with
 | none=>simp[h1] at hh
 | some a =>
   obtain⟨x,ns,os⟩:=a;cases h2:K7 h f l with
   | none=>simp[h1,h2] at hh
   | some b =>obtain⟨xs,ms,ps⟩:=b;simp only[h1,h2,Aj,Ae] at hh;exact⟨x,ns,os,xs,ms,ps,rfl,rfl,hh.symm⟩
def J3(A:Nat->Option Place)(OS:List Nat)(i:Nat):Option Nat:=
 if i∈OS then match A i with
  | some p=>if p.st=.live then p.FP else xY
  | none=>xY
 else xY
theorem LM{OS:List Nat}{i b:Nat}(h:J3 A OS i=xQ b):i∈OS/\∃p,A i=xQ p/\p.st=.live/\p.FP=xQ b:=by
 unfold J3 at h;split at h
 ·cases hA:A i with
  | none=>rw[hA] at h; cases h
  | some p =>
    rw[hA] at h;simp only at h;split at h
    ·exact⟨‹_›,p,rfl,‹_›,h⟩
    ·cases h
 ·cases h
theorem Yw{OS:List Nat}{i b:Nat}{p:Place}(h:i∈OS)(hp:A i=xQ p)(hl:p.st=.live)(hb:p.FP=xQ b):J3 A OS i=xQ b:=by unfold J3;rw[Az h,hp];simp only[hl,if_true,hb]
theorem Af5{h:DG}{w w':World}(hm:Mem I0 w.heap.size A h w'){NS OS:List Nat}(hdis:∀n∈NS,n ∉ OS):
 ∀(f:Nat) (d:DV) (v:Value) d' ns os,FR h f d=xQ (d',ns,os)->(∀n∈ns,n∈NS)->(∀n∈os,n∈OS)->B0 (Cc I0 w.heap.size A w') w' d v->B0 (DW I0 (J3 A OS) w w') w' d' v:=by
 have hok:∀b,(Cc I0 w.heap.size A w').ok b->(DW I0 (J3 A OS) w w').ok b:=by
  rintro b ⟨h1,h2,h3⟩
  refine⟨h1,h2,fun i hi=>?_⟩;obtain⟨_,p,hp,hl,hb⟩:=LM hi;exact h3 i p hp hl hb
 have hbare:∀l rows,Dx (Cc I0 w.heap.size A w').bare w' l rows->Dx (DW I0 (J3 A OS) w w').bare w' l rows:=fun l rows =>
  Dx.DD (c:=(Cc I0 w.heap.size A w').bare) (c':=(DW I0 (J3 A OS) w w').bare) (w:=w') (w':=w') ⟨hok,rfl,rfl,fun _ _ h=>(by cases h),fun _ _ h=>(by cases h),fun _ _ _=>rfl,fun _ _ h=>(by cases h)⟩ l rows
 have hleaf:∀d v,EK 1 [] d=xZ->B0 (Cc I0 w.heap.size A w') w' d v->B0 (DW I0 (J3 A OS) w w') w' d v:=by
  intro d v hd hv
  have hl:JF ((Cc I0 w.heap.size A w').only []) w' (DW I0 (J3 A OS) w w') w' :=⟨hok,rfl,rfl,fun _ _ h=>(by cases h),fun n p hp=>(by simp[Ctx.only] at hp),fun _ _ _=>rfl,fun _ _ h=>(by cases h)⟩
  exact B0.DD hl d v (WM [] 1 d v hd hv)
 have frozenBlk:∀n p,A n=xQ p->p.st≠.dead->(p.st≠.live\/n ∉ OS)->∀b,p.FP=xQ b->(DW I0 (J3 A OS) w w').FP .BE b:=by
  intro n p hp hd hc b hb;obtain⟨h1,h2⟩:=hm.Gz n p b hp hd hb;refine⟨⟨h2,.inr h1,fun i hi=>?_⟩,rfl,h1⟩;obtain⟨hio,q,hq,hl,hqb⟩:=LM hi;have e:=hm.inj n i p q b hp hq hd (by rw[hl]; simp) hb hqb;subst e;rw[hp] at hq; cases hq;rcases hc with hc | hc
  ·exact hc hl
  ·exact hc hio
 intro f
 induction f with
 | zero=>intro d v d' ns os h; simp[FR] at h
 | succ f ih =>
   have all:∀(l:List DV) (vs:List Value) l' ns os,K7 h f l=xQ (l',ns,os)->(∀n∈ns,n∈NS)->(∀n∈os,n∈OS)->BM (Cc I0 w.heap.size A w') w' l vs->BM (DW I0 (J3 A OS) w w') w' l' vs:=by
    intro l
    induction l with
    | nil =>intro vs l' ns os hr _ _ hv;simp only[K7,List.foldr_nil,Ae,Ak] at hr;obtain⟨rfl,_,_⟩:=hr;rw[BM.Gj] at hv ⊢; exact hv
    | cons d l ihl =>
      intro vs l' ns os hr h1 h2 hv;obtain⟨x,n1,o1,xs,ms,ps,e1,e2,e⟩:=QV hr;cases e;rw[BM.CW] at hv ⊢;obtain⟨u,us,e,hu,hus⟩:=hv
      exact⟨u,us,e,ih d u x n1 o1 e1 (fun n hn=>h1 n (zA.2 (.inl hn))) (fun n hn=>h2 n (zA.2 (.inl hn))) hu,
       ihl us xs ms ps e2 (fun n hn=>h1 n (zA.2 (.inr hn))) (fun n hn=>h2 n (zA.2 (.inr hn))) hus⟩
   intro d v d' ns os hr hns hos hv;cases d with
   | agg l =>
     have hr:(K7 h f l).bind (fun(l,ns,os)=>xQ (DV.agg l,ns,os))=xQ (d',ns,os):=hr;cases hl:K7 h f l with
     | none=>rw[hl] at hr; cases hr
     | some r =>obtain⟨l',ns',os'⟩:=r;rw[hl] at hr;simp only[Aj,Ae,Ak] at hr;obtain⟨rfl,rfl,rfl⟩:=hr;simp only[B0] at hv ⊢;obtain⟨vs,e,h1⟩:=hv;exact⟨vs,e,all l _ l' _ _ hl hns hos h1⟩
   | CR l =>
     have hr:(K7 h f l).bind (fun(l,ns,os)=>xQ (DV.CR l,ns,os))=xQ (d',ns,os):=hr;cases hl:K7 h f l with
     | none=>rw[hl] at hr; cases hr
     | some r =>obtain⟨l',ns',os'⟩:=r;rw[hl] at hr;simp only[Aj,Ae,Ak] at hr;obtain⟨rfl,rfl,rfl⟩:=hr;simp only[B0] at hv ⊢;obtain⟨vs,e,h1⟩:=hv;exact⟨vs,e,all l _ l' _ _ hl hns hos h1⟩
   | Dh n =>
     simp only[B0] at hv;obtain⟨hone,p,hp,hd⟩:=hv;simp only[FR] at hr;split at hr
     ·rename_i e k l hl;simp only[Ae,Ak] at hr;obtain⟨rfl,rfl,rfl⟩:=hr;obtain⟨hst,sv,hk,ho⟩:=Em hm hp hl;obtain⟨size,hk'⟩:=hd.resolve_left (Cm hst);rw[hk] at hk'; cases hk';simp only[B0];exact⟨ho,fun b hb=>Yw (hos n (by simp)) hp hst (by unfold Place.FP; rw[hk]; exact hb)⟩
     ·rename_i e sz l hl;simp only[Ae,Ak] at hr;obtain⟨rfl,rfl,rfl⟩:=hr;obtain⟨hst,hsz,sv,rows,hk,hrr,hlen,ho⟩:=EE hm hp hl;obtain⟨size,hk'⟩:=hd.resolve_left (Cm hst);rw[hk] at hk'; cases hk';simp only[B0];exact⟨rows,hbare _ _ hrr,hlen,ho,fun b hb=>Yw (hos n (by simp)) hp hst (by unfold Place.FP; rw[hk]; exact hb)⟩
     ·rename_i e k l hl;simp only[Ae,Ak] at hr;obtain⟨rfl,rfl,rfl⟩:=hr;obtain⟨hst,sv,hk,ho⟩:=Em hm hp hl;obtain⟨size,hk'⟩:=hd.resolve_left (Cm hst);rw[hk] at hk'; cases hk';have hst':p.st=.frozen:=hst;have:=Iw hk ho (ER ho) (ok:=(DW I0 (J3 A OS) w w').FP .BE) (frozenBlk n p hp (Cm hst) (.inl (by rw[hst']; simp)));simp only[zY,z9] at this;simp only[B0];exact this
     ·rename_i e sz l hl;simp only[Ae,Ak] at hr;obtain⟨rfl,rfl,rfl⟩:=hr;obtain⟨hst,hsz,sv,rows,hk,hrr,hlen,ho⟩:=EE hm hp hl;obtain⟨size,hk'⟩:=hd.resolve_left (Cm hst);rw[hk] at hk'; cases hk';have hst':p.st=.frozen:=hst;have:=Iv hk (hbare _ _ hrr) hlen ho (ER ho) (ok:=(DW I0 (J3 A OS) w w').FP .BE) (frozenBlk n p hp (Cm hst) (.inl (by rw[hst']; simp)));simp only[zY,z9] at this;simp only[B0];exact this
     ·cases hr
   | JX n off len =>
     simp only[B0] at hv;obtain⟨hone,p,hp,hd⟩:=hv;simp only[FR] at hr;split at hr
     ·rename_i fz e k l hl;simp only[Ae,Ak] at hr;obtain⟨rfl,rfl,rfl⟩:=hr;obtain⟨hst,sv,hk,ho⟩:=Em hm hp hl;obtain⟨sv',size,hk',hs⟩:=hd.resolve_left (Cm hst);rw[hk] at hk'; cases hk';have:=Iw hk ho hs (ok:=(DW I0 (J3 A OS) w w').FP .BE) (frozenBlk n p hp (Cm hst) (.inr (hdis n (hns n (by simp)))));simp only[B0];exact this
     ·rename_i fz e sz l hl;simp only[Ae,Ak] at hr;obtain⟨rfl,rfl,rfl⟩:=hr;obtain⟨hst,hsz,sv,rows,hk,hrr,hlen,ho⟩:=EE hm hp hl;obtain⟨sv',size,hk',hs⟩:=hd.resolve_left (Cm hst);rw[hk] at hk'; cases hk';have:=Iv hk (hbare _ _ hrr) hlen ho hs (ok:=(DW I0 (J3 A OS) w w').FP .BE) (frozenBlk n p hp (Cm hst) (.inr (hdis n (hns n (by simp)))));simp only[B0];exact this
     ·cases hr
   | ptr n i j=>simp[FR] at hr
   | fn g a b=>simp[FR] at hr
   | gd g d=>simp[FR] at hr
   | undef=>simp[FR] at hr
   | CS cs=>simp[FR] at hr
   | nil=>simp only[FR,Ae,Ak] at hr; obtain⟨rfl,_,_⟩:=hr; exact hleaf _ _ rfl hv
   | bool b=>simp only[FR,Ae,Ak] at hr; obtain⟨rfl,_,_⟩:=hr; exact hleaf _ _ rfl hv
   | int k n=>simp only[FR,Ae,Ak] at hr; obtain⟨rfl,_,_⟩:=hr; exact hleaf _ _ rfl hv
   | fl n=>simp only[FR,Ae,Ak] at hr; obtain⟨rfl,_,_⟩:=hr; exact hleaf _ _ rfl hv
   | nb n=>simp only[FR,Ae,Ak] at hr; obtain⟨rfl,_,_⟩:=hr; exact hleaf _ _ rfl hv
   | Bj g k l=>simp only[FR,Ae,Ak] at hr; obtain⟨rfl,_,_⟩:=hr; exact hleaf _ _ rfl hv
   | Cu g k l=>simp only[FR,Ae,Ak] at hr; obtain⟨rfl,_,_⟩:=hr; exact hleaf _ _ rfl hv
end
end Go.Den
end
