/- A verified evaluator of the program's form and its use for this seat: Den21, Den22, Den23, Den24, Den25, Den26, Den27, Den28, Den29, Den30, Den31. -/
import Derived.Orders
import Derived.Test.YtfpbkmeodcgcbaaGreatTB
import Derived.Laws.CopyRow
import Derived.Laws.IdiomCopy
import Derived.LoopN
import Derived.Scope
set_option linter.unusedVariables false
set_option linter.unusedSimpArgs false
open Option renaming some->xM,none->xN
open Bool renaming true->wg,false->wy
open Bool renaming false_or->yr,not_eq_true->zD,false_eq_true->ye,or_eq_true->zN,not_eq_true'->yK
open Array renaming getD_eq_getD_getElem?->yt,length_toList->z7,mem_toList_iff->wG,eq_empty_of_size_eq_zero->xn,toList_inj->yh,getElem?_setIfInBounds_ne->vO,getElem?_eq_none->vP,getElem?_replicate->wI
open List renaming all_eq_true->zE,mem_append->zQ,mem_filterMap->vL,isEmpty_iff->wE,map_cons->yq,mem_cons->zL,mem_singleton->zh,length_take->zV,length_drop->zW,mem_map->zu,take->zC,drop->zM,mem_range->zO,any_eq_true->wH,nodup_cons->xF,getD_cons_succ->xX,drop_zero->zJ,take_length->yo
open Option renaming isNone_iff_eq_none->wF,map_some->z5
open Nat renaming min_le_right->xV,zero_le->zF,blt->yQ,beq->zj,add_assoc->yf,add_comm->xp
open Classical renaming not_forall->vN,byContradiction->vS
noncomputable section
namespace Go.Den
open Go.RowKit (Below)
def Iz(P:Program)(ops:Array Oper)(o:Oper)(a:Act)(w:World)(Q:Exit->Act->World->Prop)(G:Value->World->Prop):Prop:=
 ∀K:Act->World->Prop,(∀v w',G v w'->K (a.put o.dst v) w') ->
  if Region.wanted o (yielded ops a.tmps) then o.wp P a w K Q else K (a.put o.dst undef) w
theorem Iz.mono{P:Program}{ops:Array Oper}{o:Oper}{a:Act}{w:World}{Q:Exit->Act->World->Prop}{G G':Value->World->Prop}(h:Iz P ops o a w Q G)(hg:∀v w',G v w'->G' v w'):Iz P ops o a w Q G' :=fun K hK=>h K fun v w' hh=>hK v w' (hg v w' hh)
theorem E2.wp{P:Program}{o:Oper}{a:Act}{w:World}{K:Act->World->Prop}{Q:Exit->Act->World->Prop}{K':Value->World->Prop}(h:E2 P (execOp a.eval o) w K')(hK:∀v w',K' v w'->K (a.put o.dst v) w'):o.wp P a w K Q:=by
 unfold E2 at h;unfold Oper.wp;split at h
 ·rename_i v w' hr;rw[hr,Oper.upon_value]; exact hK _ _ h
 ·rename_i f args w' hr;rw[hr,Oper.upon_enter];refine Calls.mono h fun e w'' ⟨v,he,hk⟩=>?_
  subst he; exact hK _ _ hk
 ·exact h.elim
section
variable{P:Program}{E:Env}{I0:Nat->Prop}{B:Nat}{A:Nat->Option Place}{h:DB}{w:World}
theorem KE{c:Ctx}{g:Bool}{d:DV}{v:Value}(hv:Bz c w d v)(hg:g=wg)(hs:(G8 g d).2=wg):Bz c w (G8 g d).1 v:=by
 subst hg;cases d<;>try exact hv
 rename_i c' d';simp only[G8,AD,yr] at hs ⊢;simp only[Bz] at hv;exact hv.1 hs
theorem Adj{c:Ctx}{ops:Array Oper}{l:List DV}{o:Oper}{a:Act}(hsz:a.tmps.size=l.length)
 (hrd:∀t∈o.looksAt ops,Bz c w (l.getD t .undef) (a.tmps.getD t undef)) {g?:Option Bool} (hc:MA ops l o=xM g?):
 (g?=xN/\o.guard=xN)\/∃b,g?=xM b/\Region.wanted o (yielded ops a.tmps)=b:=by
 unfold MA at hc;split at hc
 ·rename_i hg;cases hc; exact .inl ⟨rfl,hg⟩
 ·rename_i j want hg;cases hd:(ops[j]?).bind (·.dst) with
  | none=>simp[hd] at hc
  | some d =>
    simp only[hd] at hc;have hv:=hrd d (by unfold Oper.looksAt; simp[hg,hd])
    have hlt:∀{x:DV},l.getD d .undef=x->x≠.undef->d<a.tmps.size:=fun {x} hx hne=>by
     rw[hsz];refine Nat.lt_of_not_le fun hle=>hne ?_
     rw[<- hx,Al,AY hle]; rfl
    have hy:∀{u:Value},d<a.tmps.size->a.tmps.getD d undef=u->yielded ops a.tmps j=match u with | .bool b=>xM b | _=>xN:=fun {u} hl hu=>by
     unfold yielded;rw[hd,Aj]
     have:a.tmps[d]?=xM u:=by rw[Aw hl];rw[yt,Aw hl] at hu;exact congrArg xM hu
     rw[this];cases u<;>rfl
    split at hc
    ·rename_i b hb;cases hc;rw[hb] at hv; simp only[Bz] at hv;refine .inr ⟨_,rfl,?_⟩;unfold Region.wanted; rw[hg]; simp only;rw[hy (hlt hb (by simp)) hv];cases b<;>cases want<;>rfl
    ·rename_i c' b hb;cases hc;rw[hb] at hv; simp only[Bz] at hv;refine .inr ⟨_,rfl,?_⟩;unfold Region.wanted; rw[hg]; simp only;cases c' with
     | true =>rw[hy (hlt hb (by simp)) (hv.1 rfl)];cases b<;>cases want<;>rfl
     | false =>rw[hy (hlt hb (by simp)) (hv.2 rfl)];cases want<;>rfl
    ·cases hc
def NF(g?:Option Bool)(v:DV):DV:=match g? with | some c=>.gd c v | none=>v
theorem Yw{c:Ctx}{g?:Option Bool}{d:DV}{v:Value}(hg:g?.getD wg=wg)(hv:Bz c w d v):Bz c w (NF g? d) v:=by
 cases g? with
 | none=>exact hv
 | some b =>simp only[Ba] at hg; subst hg;simp only[NF,Bz];exact⟨fun _=>hv,fun e=>by cases e⟩
theorem Agz(he:Ix P E)(hm:Mem I0 B A h w){ops:Array Oper}{l:List DV}{o:Oper}{a:Act}
 (hops:∀x∈o.op.operands.toList,Bz (Cd I0 B A w) w (Gp l x) (a.eval x))
 {g?:Option Bool} (hg:(g?=xN/\o.guard=xN)\/∃b,g?=xM b/\Region.wanted o (yielded ops a.tmps)=b)
 {nm:Nat} {r:R2} (hq:Ez E h nm (fun x=>(G8 (g?.getD wg) (Gp l x)).1) o.op=xM r)
 (hreq:(!(g?.getD wg)||(PF (g?.getD wg) (Gp l) o.op.operands.toList&&r.OE))=wg)
 (hfrz:r.GV=[]\/g?.getD wg=wg)
 (hnew:∀n ob,(n,ob)∈r.BW->A n=xN) (hnd:(r.BW.map (·.1)).Nodup) {Q:Exit->Act->World->Prop}:
 Iz P ops o a w Q fun v w'=>∃A',Iw I0 B A w r.BW r.GV A' w'/\Bz (Cd I0 B A' w') w' (NF g? r.v) v:=by
 intro K hK
 have hwant:Region.wanted o (yielded ops a.tmps)=g?.getD wg:=by
  rcases hg with ⟨rfl,hg⟩ | ⟨b,rfl,hg⟩
  ·simp[Region.wanted,hg]
  ·simpa using hg
 rw[hwant];by_cases hgt:g?.getD wg=wg
 ·rw[Az hgt];rw[hgt] at hreq hq;simp only[AD,yr,Am] at hreq
  have hops':Ops (Cd I0 B A w) w (fun x=>(G8 wg (Gp l x)).1) a.eval o.op:=fun x hx=>by refine KE (hops x hx) rfl ?_;have:=hreq.1;unfold PF at this;rw[zE] at this;exact this x hx
  exact E2.wp (K':=fun v w'=>∃A',Iw I0 B A w r.BW r.GV A' w'/\Bz (Cd I0 B A' w') w' (NF g? r.v) v)
   (Aec he hm hops' hq hreq.2 hnew hnd fun v w' A' h1 h2=>⟨A',h1,Yw hgt h2⟩) hK
 ·rw[Ay hgt]
  have hgf:g?=xM wy:=by
   cases g? with
   | none=>simp at hgt
   | some b=>simp only[Ba,zD] at hgt; rw[hgt]
  have h2:r.GV=[]:=hfrz.resolve_right hgt;subst hgf;refine hK undef w ⟨A,by rw[h2]; exact Iw.idle _,?_⟩;simp only[NF,Bz];exact⟨fun e=>(by cases e),fun _=>trivial⟩
theorem Aju{ops:Array Oper}{l:List DV}{dst:Option Tmp}{c x y:Operand}{ty:TypeId}{pos:String}{after:Array Edge}{guard:Option (Nat × Bool)}{a:Act}{cx:Ctx}
 (hc:Bz cx w (Gp l c) (a.eval c)) (hx:Bz cx w (Gp l x) (a.eval x)) (hy:Bz cx w (Gp l y) (a.eval y))
 {g?:Option Bool} (hg:(g?=xN/\guard=xN)\/∃b,g?=xM b/\Region.wanted ⟨dst,.pick c x y,ty,pos,after,guard⟩ (yielded ops a.tmps)=b)
 {c' r:Bool} {v:DV} (hsc:(G8 (g?.getD wg) (Gp l c)).1=.bool c') (hp:Ac0 c' (Gp l x) (Gp l y)=xM (r,v))
 (hreq:(!(g?.getD wg)||((G8 (g?.getD wg) (Gp l c)).2&&r))=wg) {Q:Exit->Act->World->Prop}:
 Iz P ops ⟨dst,.pick c x y,ty,pos,after,guard⟩ a w Q fun u w'=>w'=w/\Bz cx w (NF g? v) u:=by
 intro K hK
 have hwant:Region.wanted ⟨dst,.pick c x y,ty,pos,after,guard⟩ (yielded ops a.tmps)=g?.getD wg:=by
  rcases hg with ⟨rfl,hg⟩ | ⟨b,rfl,hg⟩
  ·simp[Region.wanted,hg]
  ·simpa using hg
 rw[hwant];by_cases hgt:g?.getD wg=wg
 ·rw[Az hgt];rw[hgt] at hreq hsc;simp only[AD,yr,Am] at hreq;have hcv:=KE hc rfl hreq.1;rw[hsc] at hcv; simp only[Bz] at hcv;refine E2.wp (K':=fun u w'=>w'=w/\Bz cx w (NF g? v) u) (E2.value (v:=if c' then a.eval x else a.eval y) (w':=w) ?_ ⟨rfl,Yw hgt ?_⟩) hK
  ·simp[execOp,hcv,asBool]
  ·have h2:=hreq.2;unfold Ac0 at hp;cases c' with
   | true =>
     simp only[if_true];split at hp
     ·rename_i p q e1 e2;simp only[Ae,Ak] at hp;obtain⟨rfl,rfl⟩:=hp;simp only[Am] at h2;have:=KE hx rfl h2.1;rw[e1] at this; exact this
     ·rename_i k p k' q e1 e2;by_cases hk:k=k'
      ·simp only[hk,decide_true,Aa,Ae,Ak] at hp;obtain⟨rfl,rfl⟩:=hp;simp only[Am] at h2;have:=KE hx rfl h2.1;rw[e1] at this; subst hk; exact this
      ·simp[hk] at hp
     ·cases hp
   | false =>
     simp only[ye,if_false];split at hp
     ·rename_i p q e1 e2;simp only[Ae,Ak] at hp;obtain⟨rfl,rfl⟩:=hp;simp only[Am] at h2;have:=KE hy rfl h2.2;rw[show(!wy)=wg from rfl] at e2;rw[e2] at this; exact this
     ·rename_i k p k' q e1 e2;by_cases hk:k=k'
      ·simp only[hk,decide_true,Aa,Ae,Ak] at hp;obtain⟨rfl,rfl⟩:=hp;simp only[Am] at h2;have:=KE hy rfl h2.2;rw[show(!wy)=wg from rfl] at e2;rw[e2] at this; exact this
      ·simp[hk] at hp
     ·cases hp
 ·rw[Ay hgt]
  have hgf:g?=xM wy:=by
   cases g? with
   | none=>simp at hgt
   | some b=>simp only[Ba,zD] at hgt; rw[hgt]
  subst hgf;refine hK undef w ⟨rfl,?_⟩;simp only[NF,Bz];exact⟨fun e=>(by cases e),fun _=>trivial⟩
theorem Ahi{ops:Array Oper}{o:Oper}{t:Tmp}(h:Operand.tmp t∈o.op.operands.toList):t∈o.looksAt ops:=by unfold Oper.looksAt;exact zQ.2 (.inl (vL.2 ⟨_,h,rfl⟩))
theorem Wy{c:Ctx}(v:Value):Bz c w (AbB v) v:=by unfold AbB;split<;>simp only[Bz];exact⟨_,rfl,.inl rfl⟩
theorem Q3{c:Ctx}{ops:Array Oper}{l:List DV}{o:Oper}{a:Act}
 (hrd:∀t∈o.looksAt ops,Bz c w (l.getD t .undef) (a.tmps.getD t undef)):∀x∈o.op.operands.toList,Bz c w (Gp l x) (a.eval x):=by
 intro x hx;cases x with
 | tmp t=>exact hrd t (Ahi hx)
 | const v=>exact Wy v
 | global g=>simp only[Gp,Bz]
 | func f=>simp[Gp,Bz,Act.eval,BN]
theorem Anp(he:Ix P E){ops:Array Oper}{draw:Bool}{st st':St}{o:Oper}(hs:Kc E ops draw st o=xM (wg,st'))(hmut:Pz o.op=wy)
 (hsp:∀g?,MA ops st.tmps o=xM g?->(cond draw xN (LD E st.heap (Gp st.tmps) g? o.op))=xN):
 ∃d BW GV,st'.tmps=PC st.tmps o.dst d/\st'.heap=BW.map (fun(x:Nat × OB)=>(x.1,wy,x.2))++IL st.heap GV /\
  (∀n ob,(n,ob)∈BW->look st.heap n=xN)/\(BW.map (·.1)).Nodup/\(F5 E ops st o=GV/\∀n∈GV,look st.heap n≠xN) /\
  ∀{I0:Nat->Prop} {B:Nat} {A:Nat->Option Place} {w:World} {a:Act} {Q:Exit->Act->World->Prop},Mem I0 B A st.heap w->a.tmps.size=st.tmps.length ->
   (∀t∈o.looksAt ops,Bz (Cd I0 B A w) w (st.tmps.getD t .undef) (a.tmps.getD t undef))->(∀n ob,(n,ob)∈BW->A n=xN) ->
   Iz P ops o a w Q fun v w'=>∃A',Iw I0 B A w BW GV A' w'/\Bz (Cd I0 B A' w') w' d v:=by
 obtain⟨dst,op,ty,pos,after,guard⟩:=o;unfold Kc at hs;cases hc:MA ops st.tmps ⟨dst,op,ty,pos,after,guard⟩ with
 | none=>simp[hc] at hs
 | some g? =>
 simp only[hc,Aj] at hs;dsimp only at hmut;replace hsp:=hsp g? hc;dsimp only at hsp
 have quiet:∀(hs:((Ez E st.heap (dst.getD 0) (fun x=>(G8 (g?.getD wg) (Gp st.tmps x)).1) op).bind fun r =>
  bif (r.BW.all fun(n,_)=>(look st.heap n).isNone)&&Kf (r.BW.map (·.1))&&(r.BW.isEmpty||dst.isSome)&&(r.GV.isEmpty||r.GV.all fun n=>(look st.heap n).isSome) then
   xM (cond r.GV.isEmpty (!(g?.getD wg)||(PF (g?.getD wg) (Gp st.tmps) op.operands.toList&&r.OE)) (g?.getD wg&&(PF (g?.getD wg) (Gp st.tmps) op.operands.toList&&r.OE)),
    ({ tmps:=PC st.tmps dst (NF g? r.v),heap:=(r.BW.map fun(n,ob)=>(n,wy,ob))++IL st.heap r.GV }:St))
  else xN)=xM (wg,st')),∃d BW GV,st'.tmps=PC st.tmps dst d/\st'.heap=BW.map (fun(x:Nat × OB)=>(x.1,wy,x.2))++IL st.heap GV /\
  (∀n ob,(n,ob)∈BW->look st.heap n=xN)/\(BW.map (·.1)).Nodup/\(F5 E ops st ⟨dst,op,ty,pos,after,guard⟩=GV/\∀n∈GV,look st.heap n≠xN) /\
  ∀{I0:Nat->Prop} {B:Nat} {A:Nat->Option Place} {w:World} {a:Act} {Q:Exit->Act->World->Prop},Mem I0 B A st.heap w->a.tmps.size=st.tmps.length ->
   (∀t∈Oper.looksAt ops ⟨dst,op,ty,pos,after,guard⟩,Bz (Cd I0 B A w) w (st.tmps.getD t .undef) (a.tmps.getD t undef))->(∀n ob,(n,ob)∈BW->A n=xN) ->
   Iz P ops ⟨dst,op,ty,pos,after,guard⟩ a w Q fun v w'=>∃A',Iw I0 B A w BW GV A' w'/\Bz (Cd I0 B A' w') w' d v:=by
  intro hs;cases hq:Ez E st.heap (dst.getD 0) (fun x=>(G8 (g?.getD wg) (Gp st.tmps x)).1) op with
  | none=>simp[hq] at hs
  | some r =>
    simp only[hq,Aj] at hs;by_cases hcc:((r.BW.all fun(n,_)=>(look st.heap n).isNone)&&Kf (r.BW.map (·.1))&&(r.BW.isEmpty||dst.isSome)&&(r.GV.isEmpty||r.GV.all fun n=>(look st.heap n).isSome))=wg
    ·rw[hcc,Aa,Ae,Ak] at hs;obtain⟨hreq,rfl⟩:=hs;simp only[Am,zN,wE,wF,zE] at hcc;obtain⟨⟨⟨h1,h2⟩,h3⟩,h4⟩:=hcc
     replace hreq:(!(g?.getD wg)||(PF (g?.getD wg) (Gp st.tmps) op.operands.toList&&r.OE))=wg/\(r.GV=[]\/g?.getD wg=wg):=by
      cases ho:r.GV.isEmpty with
      | true =>rw[ho,Aa] at hreq;exact⟨hreq,.inl (wE.1 ho)⟩
      | false =>rw[ho,Af,Am] at hreq;exact⟨by rw[hreq.2,AQ],.inr hreq.1⟩
     refine⟨NF g? r.v,r.BW,r.GV,rfl,rfl,fun n ob hn=>h1 (n,ob) hn,II h2,⟨by unfold F5; dsimp only; rw[hmut,hc]; simp only[Af,hq],fun n hn e=>?_⟩,?_⟩
     ·rcases h4 with h4 | h4
      ·rw[h4] at hn; cases hn
      ·have:=h4 n hn; rw[e] at this; cases this
     intro I0 B A w a Q hm hsz hrd hnew;exact Agz he hm (Q3 hrd) (Adj hsz hrd hc) hq hreq.1 hreq.2 hnew (II h2)
    ·simp only[zD] at hcc; rw[hcc] at hs; cases hs
 cases op
 case pick c x y =>
  simp only at hs;split at hs
  ·rename_i c' hsc;cases hp:Ac0 c' (Gp st.tmps x) (Gp st.tmps y) with
   | none=>simp[hp] at hs
   | some rv =>
     obtain⟨r,v⟩:=rv;simp only[hp,Aj,Ae,Ak] at hs;obtain⟨hreq,rfl⟩:=hs;refine⟨NF g? v,[],[],rfl,rfl,fun n ob hn=>(by cases hn),List.nodup_nil,⟨by unfold F5; dsimp only[Pz]; rw[hc]; rfl,fun n hn=>(by cases hn)⟩,?_⟩;intro I0 B A w a Q hm hsz hrd hnew;have hr:=Q3 (w:=w) hrd;refine Iz.mono (Aju (hr c (by simp[Op.operands])) (hr x (by simp[Op.operands])) (hr y (by simp[Op.operands])) (Adj hsz hrd hc) hsc hp hreq) ?_
     rintro u w' ⟨rfl,hu⟩
     exact⟨A,Iw.refl (.inl rfl),hu⟩
  ·cases hs
 case store=>simp[Pz] at hmut
 case call c =>
  obtain⟨callee,args,ts⟩:=c;cases callee
  case builtin b =>
   cases b
   case append=>simp[Pz] at hmut
   all_goals (dsimp only at hs; rw[hsp] at hs; exact quiet hs)
  all_goals (dsimp only at hs; rw[hsp] at hs; exact quiet hs)
 all_goals (dsimp only at hs; rw[hsp] at hs; exact quiet hs)
end
open Go.RowKit (Below)
theorem LM(a b:DB)(n:Nat):look (a++b) n=match look a n with | some x=>xM x | none=>look b n:=by
 induction a with
 | nil=>rfl
 | cons x a ih =>obtain⟨m,y⟩:=x;simp only[List.cons_append,look];cases m==n<;>simp[ih]
theorem XE(h:DB)(m n:Nat):look (match look h m with | some (_,o)=>V4 h m (wg,o) | none=>h) n=(look h n).map fun x=>(x.1||decide (n=m),x.2):=by
 cases hm:look h m with
 | none =>
   simp only;cases hn:look h n with
   | none=>rfl
   | some x =>
     have:n≠m:=fun e=>by rw[e,hm] at hn; cases hn
     simp[this]
 | some x =>
   obtain⟨f,o⟩:=x;simp only;rw[F0 hm];by_cases e:n=m
   ·subst e; simp[hm]
   ·rw[Ay e];cases look h n with
    | none=>rfl
    | some x=>simp[e]
theorem Oa:∀(ns:List Nat) (h:DB) (n:Nat),look (IL h ns) n=(look h n).map fun x=>(x.1||decide (n∈ns),x.2)
 | [],h,n=>by unfold IL;simp
 | m::ns,h,n=>by
   have e:IL h (m::ns)=IL (match look h m with | some (_,o)=>V4 h m (wg,o) | none=>h) ns:=rfl;rw[e,Oa ns,XE];cases look h n with
   | none=>rfl
   | some x=>simp[Bool.or_assoc]
theorem RN{BW:List (Nat × OB)}:∀{n:Nat} {x:Bool × OB},look (BW.map (fun(x:Nat × OB)=>(x.1,wy,x.2))) n=xM x->∃ob,(n,ob)∈BW/\x=(wy,ob):=by
 induction BW with
 | nil=>intro n x h; cases h
 | cons y l ih =>
   intro n x h;simp only[yq,look] at h;by_cases e:y.1=n
   ·rw[show(y.1==n)=wg by simpa using e] at h;simp only[Aa,Ae] at h;exact⟨y.2,by rw[<- e]; exact AU,h.symm⟩
   ·rw[show(y.1==n)=wy by simpa using e] at h;obtain⟨ob,h1,h2⟩:=ih h;exact⟨ob,AJ _ h1,h2⟩
theorem Um{BW:List (Nat × OB)}{n:Nat}(h:look (BW.map (fun(x:Nat × OB)=>(x.1,wy,x.2))) n=xN):∀ob,(n,ob) ∉ BW:=by
 induction BW with
 | nil=>intro ob h; cases h
 | cons y l ih =>
   intro ob hm;simp only[yq,look] at h;by_cases e:y.1=n
   ·rw[show(y.1==n)=wg by simpa using e] at h; simp at h
   ·rw[show(y.1==n)=wy by simpa using e] at h;rcases zL.1 hm with rfl | hm
    ·exact e rfl
    ·exact ih h ob hm
theorem Aen{α:Type}{l:List (Nat × α)}(h:(l.map (·.1)).Nodup){n:Nat}{x y:α}(h1:(n,x)∈l)(h2:(n,y)∈l):x=y:=by have e1:=ON h h1;have e2:=ON h h2;rw[e1] at e2; exact Option.some.inj e2
structure Ow(P:Program)(E:Env)(ops:Array Oper)(draw:Bool)(st:St)(o:Oper)(st':St)(d:DV):Prop where
 free:∀t,o.dst=xM t->E.np<=t
 tmps:st'.tmps=PC st.tmps o.dst d
 there:draw=wg->∀n,n∈F5 E ops st o->look st.heap n≠xN
 stays:∀n,look st.heap n≠xN->look st'.heap n≠xN
 same:draw=wg->∀n,n ∉ F5 E ops st o->look st.heap n≠xN->look st'.heap n=look st.heap n
 run:∀{I0:Nat->Prop} {B:Nat} {A:Nat->Option Place} {w:World} {a:Act} {Q:Exit->Act->World->Prop},Mem I0 B A st.heap w->a.tmps.size=st.tmps.length ->
  (∀t∈o.looksAt ops,Bz (Cd I0 B A w) w (st.tmps.getD t .undef) (a.tmps.getD t undef))->(∀n,look st.heap n=xN->look st'.heap n≠xN->A n=xN) ->
  Iz P ops o a w Q fun v w'=>∃A',Mem I0 B A' st'.heap w'/\Hu A w A' w'/\Below B w w'/\Bz (Cd I0 B A' w') w' d v /\
   (∀n p,A' n=xM p->A n=xN->look st.heap n=xN/\look st'.heap n≠xN) /\
   (draw=wg->Pf (F5 E ops st o) A w w'/\∀m q,m ∉ F5 E ops st o->A m=xM q->A' m=xM q)
section
variable{P:Program}{E:Env}
theorem YA(he:Ix P E){ops:Array Oper}{draw:Bool}{st st':St}{o:Oper}(hs:Kc E ops draw st o=xM (wg,st'))(hfree:∀t,o.dst=xM t->E.np<=t)(hmut:Pz o.op=wy)
 (hsp:∀g?,MA ops st.tmps o=xM g?->(cond draw xN (LD E st.heap (Gp st.tmps) g? o.op))=xN):
 ∃d,Ow P E ops draw st o st' d:=by
 obtain⟨d,BW,GV,h1,h2,h3,h4,h5,h6⟩:=Anp he hs hmut hsp;obtain⟨hm0,h5'⟩:=h5
 have hlk:∀n,look st'.heap n=match look (BW.map (fun(x:Nat × OB)=>(x.1,wy,x.2))) n with | some x=>xM x | none=>(look st.heap n).map fun x=>(x.1||decide (n∈GV),x.2):=by intro n; rw[h2,LM,Oa]
 have hold:∀n,look st.heap n≠xN->look st'.heap n=(look st.heap n).map fun x=>(x.1||decide (n∈GV),x.2):=by
  intro n hn;rw[hlk];cases hq:look (BW.map (fun(x:Nat × OB)=>(x.1,wy,x.2))) n with
  | none=>rfl
  | some x =>obtain⟨ob,hob,_⟩:=RN hq;exact absurd (h3 n ob hob) hn
 have hobj:∀n ob,(n,ob)∈BW->look st'.heap n=xM (wy,ob):=by
  intro n ob hob;rw[hlk];cases hq:look (BW.map (fun(x:Nat × OB)=>(x.1,wy,x.2))) n with
  | none=>exact absurd hob (Um hq ob)
  | some x =>obtain⟨ob',hob',rfl⟩:=RN hq;rw[Aen h4 hob hob']
 refine⟨d,hfree,h1,fun _ n hn=>h5' n (hm0 ▸ hn),fun n hn=>?_,fun hd n hf hn=>?_,?_⟩
 ·rw[hold n hn];cases hq:look st.heap n with
  | none=>exact absurd hq hn
  | some x=>simp
 ·rw[hm0] at hf;rw[hold n hn];cases look st.heap n with
  | none=>rfl
  | some x=>simp[hf]
 ·intro I0 B A w a Q hm hsz hrd hnew;have hnew':∀n ob,(n,ob)∈BW->A n=xN:=fun n ob hob=>hnew n (h3 n ob hob) (by rw[hobj n ob hob]; simp)
  refine(h6 hm hsz hrd hnew').mono ?_
  rintro v w' ⟨A',hg,hv⟩
  have hmem:Mem I0 B A' st'.heap w':=by
   refine hg.mem hm (fun n p fo' hp hl=>?_) (fun n ob fo' hob hn hl=>?_)
   ·rw[hlk] at hl;cases hq:look (BW.map (fun(x:Nat × OB)=>(x.1,wy,x.2))) n with
    | some x =>obtain⟨ob,hob,_⟩:=RN hq;rw[hnew' n ob hob] at hp; cases hp
    | none =>
      rw[hq] at hl;cases hf:look st.heap n with
      | none=>rw[hf] at hl; cases hl
      | some fo=>rw[hf] at hl; cases hl; exact⟨fo,rfl,rfl⟩
   ·rw[hobj n ob hob] at hl; cases hl; rfl
  refine⟨A',hmem,hg.AkM,hg.below.mono hm.hB,hv,fun n p hp hn=>?_,fun hd=>⟨fun m q b _ hq hqd hqb=>hg.below.block b (hm.GF m q b hq hqd hqb).2,fun m q hmf hq=>?_⟩⟩
  ·obtain⟨_,_,ob,hob,_⟩:=hg.new n p hn hp;exact⟨h3 n ob hob,by rw[hobj n ob hob]; simp⟩
  ·have:=hg.ND m q hq;rw[this];rw[hm0] at hmf;cases q;simp[Vu,hmf]
end
section
variable{P:Program}{E:Env}
theorem JF{o:Oper}{y:Nat->Option Bool}(h:o.guard=xN):Region.wanted o y=wg:=by unfold Region.wanted; rw[h]
theorem PW{ops:Array Oper}{l:List DV}{o:Oper}(h:MA ops l o=xM xN):o.guard=xN:=by
 unfold MA at h;split at h
 ·assumption
 ·split at h
  ·split at h<;>cases h
  ·cases h
structure Ox(ns:List Nat)(nm:Option Nat)(h h':DB):Prop where
 there:∀m,m∈ns->look h m≠xN
 stays:∀m,look h m≠xN->look h' m≠xN
 same:∀m,m ∉ ns->xM m≠nm->look h' m=look h m
theorem KS{h:DB}{n:Nat}{x y:Bool × OB}(hl:look h n=xM x):Ox [n] xN h (V4 h n y) where
 there:=fun m hm=>by rw[zh.1 hm,hl]; simp
 stays:=fun m hm=>by rw[F0 hl]; split<;>simp_all
 same:=fun m hm _=>by rw[F0 hl,Ay (fun e=>hm (by rw[e]; exact zh.2 rfl))]
theorem O0{h:DB}{nm:Nat}{x:Bool × OB}:Ox [] (xM nm) h ((nm,x)::h) where
 there:=fun m hm=>by cases hm
 stays:=fun m hm=>by simp only[look]; cases nm==m<;>simp[hm]
 same:=fun m _ hne=>by simp only[look];rw[show(nm==m)=wy by simpa using fun e:nm=m=>hne (by rw[e])]; rfl
theorem V7{h:DB}{n nm:Nat}{x y z:Bool × OB}(hl:look h n=xM x):Ox [n] (xM nm) h ((nm,z)::V4 h n y) where
 there:=(KS (y:=y) hl).there
 stays:=fun m hm=>O0.stays m ((KS (y:=y) hl).stays m hm)
 same:=fun m hm hne=>by rw[O0.same m (by simp) hne,(KS (y:=y) hl).same m hm (by simp)]
theorem Y6{h h':DB}{t:TypeId}{a v:DV}{r:Bool}(hs:Rz E h t a v=xM (r,h')):Ox (AgT a) xN h h':=by
 unfold Rz at hs;cases hT:E.ty t with
 | none=>simp[hT] at hs
 | some ti =>
 simp only[hT,Aj] at hs;cases hc:(LX v&&(cells v).length==ti.size&&(cells v).all P3) with
 | false=>rw[hc] at hs; simp at hs
 | true =>
 rw[hc,Aa] at hs;split at hs
 ·rename_i n i j;split at hs
  ·rename_i cs hlk;cases hq:(i==0&&decide (j+ti.size<=cs.length)) with
   | false=>rw[hq] at hs; simp at hs
   | true =>rw[hq,Aa,Ae,Ak] at hs;obtain⟨_,rfl⟩:=hs;exact KS hlk
  ·rename_i e k l hlk;split at hs
   ·rename_i k' x;cases hq:(j==0&&decide (k=k')) with
    | false=>rw[hq] at hs; simp at hs
    | true =>rw[hq,Aa,Ae,Ak] at hs;obtain⟨_,rfl⟩:=hs;exact KS hlk
   ·cases hs
  ·rename_i e sz l hlk;cases hlow:H4 h (cells v) with
   | none=>simp[hlow] at hs
   | some q =>
   obtain⟨vs,ns⟩:=q;simp only[hlow,Aj] at hs;cases hq:(decide (j+ti.size<=sz)&&ns.isEmpty) with
   | false=>rw[hq] at hs; simp at hs
   | true =>rw[hq,Aa,Ae,Ak] at hs;obtain⟨_,rfl⟩:=hs;exact KS hlk
  ·cases hs
 ·cases hs
theorem Yl{h h':DB}{nm:Nat}{t:TypeId}{s x v:DV}{r:Bool}(ha:LS E h nm t s x=xM (r,v,h')):Ox (X9 s) (xM nm) h h'/\look h nm=xN:=by
 unfold LS at ha;split at ha
 ·rename_i e _ hT;cases hE:E.ty e with
  | none=>simp[hE] at ha
  | some ei =>
  simp only[hE,Aj] at ha;cases hq:(decide (ei.bytes<=128)&&decide (0<ei.size)&&(look h nm).isNone) with
  | false=>rw[hq] at ha; simp at ha
  | true =>
  rw[hq,Aa] at ha;simp only[Am,Ai,wF] at hq;refine⟨?_,hq.2⟩;split at ha
  ·split at ha
   ·rename_i k hk;cases hs1:(ei.size==1) with
    | false=>rw[hs1] at ha; simp at ha
    | true =>
    rw[hs1,Aa] at ha;cases hel:J2 h k x with
    | none=>simp[hel] at ha
    | some l =>simp only[hel,Aj,Ae,Ak] at ha;obtain⟨_,_,rfl⟩:=ha;exact O0
   ·cases hel:Md h ei.size x with
    | none=>simp[hel] at ha
    | some l =>simp only[hel,Aj,Ae,Ak] at ha;obtain⟨_,_,rfl⟩:=ha;exact O0
  ·rename_i n;split at ha
   ·rename_i e' k l' hlo;cases hel:J2 h k x with
    | none=>simp[hel] at ha
    | some l =>
      simp only[hel,Aj] at ha;cases hc:(e==e'&&ei.size==1) with
      | false=>rw[hc] at ha; simp at ha
      | true =>rw[hc,Aa] at ha;simp only[Ae,Ak] at ha;obtain⟨_,_,rfl⟩:=ha;exact V7 hlo
   ·rename_i e' sz l' hlo;cases hel:Md h sz x with
    | none=>simp[hel] at ha
    | some l =>
      simp only[hel,Aj] at ha;cases hc:(e==e'&&sz==ei.size) with
      | false=>rw[hc] at ha; simp at ha
      | true =>rw[hc,Aa] at ha;simp only[Ae,Ak] at ha;obtain⟨_,_,rfl⟩:=ha;exact V7 hlo
   ·cases ha
  ·cases ha
 ·cases ha
theorem SA{h h':DB}{nm:Nat}{t:TypeId}{s x v:DV}{r:Bool}(ha:LS E h nm t s x=xM (r,v,h')):(look h' nm).isSome=wg:=by
 have push:∀{y:Bool × OB} {k:DB},(look ((nm,y)::k) nm).isSome=wg:=by intro y k; simp[look]
 unfold LS at ha;split at ha
 ·rename_i e _ hT;cases hE:E.ty e with
  | none=>simp[hE] at ha
  | some ei =>
  simp only[hE,Aj] at ha;cases hq:(decide (ei.bytes<=128)&&decide (0<ei.size)&&(look h nm).isNone) with
  | false=>rw[hq] at ha; simp at ha
  | true =>
  rw[hq,Aa] at ha;split at ha
  ·split at ha
   ·rename_i k hk;cases hs1:(ei.size==1) with
    | false=>rw[hs1] at ha; simp at ha
    | true =>
    rw[hs1,Aa] at ha;cases hel:J2 h k x with
    | none=>simp[hel] at ha
    | some l =>simp only[hel,Aj,Ae,Ak] at ha;obtain⟨_,_,rfl⟩:=ha;exact push
   ·cases hel:Md h ei.size x with
    | none=>simp[hel] at ha
    | some l =>simp only[hel,Aj,Ae,Ak] at ha;obtain⟨_,_,rfl⟩:=ha;exact push
  ·rename_i n;split at ha
   ·rename_i e' k l' hlo;cases hel:J2 h k x with
    | none=>simp[hel] at ha
    | some l =>
      simp only[hel,Aj] at ha;cases hc:(e==e'&&ei.size==1) with
      | false=>rw[hc] at ha; simp at ha
      | true =>rw[hc,Aa] at ha;simp only[Ae,Ak] at ha;obtain⟨_,_,rfl⟩:=ha;exact push
   ·rename_i e' sz l' hlo;cases hel:Md h sz x with
    | none=>simp[hel] at ha
    | some l =>
      simp only[hel,Aj] at ha;cases hc:(e==e'&&sz==ei.size) with
      | false=>rw[hc] at ha; simp at ha
      | true =>rw[hc,Aa] at ha;simp only[Ae,Ak] at ha;obtain⟨_,_,rfl⟩:=ha;exact push
   ·cases ha
  ·cases ha
 ·cases ha
theorem Y9(he:Ix P E){ops:Array Oper}{draw:Bool}{st st':St}{dst:Option Tmp}{t:TypeId}{x y:Operand}{ty:TypeId}{pos:String}{after:Array Edge}{guard:Option (Nat × Bool)}
 (hs:Kc E ops draw st ⟨dst,.store t x y,ty,pos,after,guard⟩=xM (wg,st')) (hfree:∀u,dst=xM u->E.np<=u):∃d,Ow P E ops draw st ⟨dst,.store t x y,ty,pos,after,guard⟩ st' d:=by
 unfold Kc at hs;cases hc:MA ops st.tmps ⟨dst,.store t x y,ty,pos,after,guard⟩ with
 | none=>simp[hc] at hs
 | some g? =>
 cases g? with
 | some b=>simp[hc] at hs
 | none =>
 have hg:=PW hc;dsimp only at hg;simp only[hc,Aj] at hs;cases hst:Rz E st.heap t (Gp st.tmps x) (Gp st.tmps y) with
 | none=>simp[hst] at hs
 | some rh =>
 obtain⟨r,h'⟩:=rh;simp only[hst,Aj,Ae,Ak] at hs;obtain⟨rfl,rfl⟩:=hs;have ht:=Y6 hst;refine⟨.undef,hfree,rfl,fun _=>ht.there,ht.stays,fun _ n hn _=>ht.same n hn (by simp),?_⟩;intro I0 B A w a Q hm hsz hrd hnew;have hr:=Q3 (w:=w) hrd;obtain⟨w',hrun,h1,h2,h3,h4,h5,h6,h7⟩:=AdF he.ty hm (hr x (by simp[Op.operands])) (hr y (by simp[Op.operands])) hst rfl;intro K hK;rw[Az (JF hg)];unfold Oper.wp execOp;simp only[Sem.run_bind,Sem.run_pure,Result.andThen_ok,hrun];rw[Oper.upon_skip];refine hK undef w' ⟨A,h1,h2,h3,by simp[Bz],fun n p hp hn=>(by rw[hn] at hp; cases hp),fun _=>⟨h5,fun m q _ hq=>hq⟩⟩
theorem WU(he:Ix P E){ops:Array Oper}{draw:Bool}{st st':St}{dst:Option Tmp}{args:Array Operand}{ts:Array TypeId}{ty:TypeId}{pos:String}{after:Array Edge}{guard:Option (Nat × Bool)}
 (hs:Kc E ops draw st ⟨dst,.call ⟨.builtin .append,args,ts⟩,ty,pos,after,guard⟩=xM (wg,st')) (hfree:∀u,dst=xM u->E.np<=u):∃d,Ow P E ops draw st ⟨dst,.call ⟨.builtin .append,args,ts⟩,ty,pos,after,guard⟩ st' d:=by
 unfold Kc at hs;cases hc:MA ops st.tmps ⟨dst,.call ⟨.builtin .append,args,ts⟩,ty,pos,after,guard⟩ with
 | none=>simp[hc] at hs
 | some g? =>
 simp only[hc,Aj] at hs;split at hs
 ·rename_i s x t t' hargs hts;have hg:=PW hc;dsimp only at hg;cases hq:(t==t'&&dst.isSome) with
  | false=>rw[hq] at hs; simp at hs
  | true =>
  rw[hq,Aa] at hs;simp only[Am,beq_iff_eq] at hq;obtain⟨rfl,hdst⟩:=hq;cases hap:LS E st.heap (dst.getD 0) t (Gp st.tmps s) (Gp st.tmps x) with
  | none=>simp[hap] at hs
  | some rh =>
  obtain⟨r,v,h'⟩:=rh;simp only[hap,Aj,Ae,Ak] at hs;obtain⟨rfl,rfl⟩:=hs;obtain⟨ht,hnone⟩:=Yl hap
  have hmut:F5 E ops st ⟨dst,.call ⟨.builtin .append,args,ts⟩,ty,pos,after,guard⟩=X9 (Gp st.tmps s):=by unfold F5 An0; simp only[hargs,Pz,Aa]
  obtain rfl:args=#[s,x]:=by cases args with | mk l=>simp only at hargs; rw[hargs]
  obtain rfl:ts=#[t,t]:=by cases ts with | mk l=>simp only at hts; rw[hts]
  refine⟨v,hfree,rfl,fun _ n hn=>ht.there n (hmut ▸ hn),ht.stays,fun _ n hn hl=>ht.same n (hmut ▸ hn) (fun e=>hl ?_),?_⟩
  ·cases dst with
   | none=>cases hdst
   | some d=>simp only[Ba] at e hnone; cases e; exact hnone
  ·intro I0 B A w a Q hm hsz hrd hnew;have hr:=Q3 (w:=w) hrd
   have hnm:A (dst.getD 0)=xN:=hnew _ hnone (by have:=SA hap;exact fun e=>by rw[e] at this; cases this)
   obtain⟨v',w',A',hrun,h1,h2,h3,h4,h5,h6,h7,h8,_⟩:=AbO (ty:=ty) he.ty hm hnm (hr s (by simp[Op.operands,Call.operands])) (hr x (by simp[Op.operands,Call.operands])) hap rfl;intro K hK;rw[Az (JF hg)];unfold Oper.wp execOp;simp only[resolve,invoke,builtin,Sem.run_bind,Sem.run_pure,Result.andThen_ok,List.map_toArray,yq,List.map_nil,hrun];rw[Oper.upon_value];refine hK v' w' ⟨A',h1,h2,h3,h4,fun n p hp hn=>?_,fun _=>⟨hmut ▸ h7,fun m q hmn hq=>h8 m q (hmut ▸ hmn) hq⟩⟩;have:=h5 n p hp hn;subst this;exact⟨hnone,fun e=>by have:=SA hap; rw[e] at this; cases this⟩
 ·cases hs
theorem LG{c c':Ctx}{w w':World}(h:JZ c w c' w'){p:Place}(hb:p.st≠.dead->∀b,p.FK=xM b->w'.heap[b]?=w.heap[b]?){fo:Bool × OB}(hr:Dr c w p fo):Dr c' w' p fo:=by
 by_cases hd:p.st=.dead
 ·obtain⟨fz,ob⟩:=fo;cases ob with
  | dead=>exact hd
  | box cs=>exact absurd hd (Cn hr.1)
  | Bh e k l=>exact absurd hd (Cn hr.1)
  | C3 e sz l=>exact absurd hd (Cn hr.1)
 ·exact Dr.D4 h rfl rfl (hb hd) fo hr
inductive Yq(E:Env)(h:DB)(ρ:Operand->DV)(op:Op)(n:Nat)(r:Bool)(v:DV)(ob:OB):Prop
 | Ny (f:Operand) (args:Array Operand) (ts:Array TypeId) (g:FuncId) (x:Operand) (a c:Int) (e:TypeId) (l:Bb):op=.call ⟨.value f,args,ts⟩->args.toList=[x]->ρ f=.fn g [] []->E.Ny g=xM e ->
  ρ x=.agg [.int .i64 a,.int .i64 c,.De n]->look h n=xM (wy,.Bh e .u64 l)->v=.undef->ob=.dead->Yq E h ρ op n r v ob
 | wr (f:Operand) (args:Array Operand) (ts:Array TypeId) (g:FuncId) (x:Operand) (xs:List Operand) (W:Writer) (l:Bb) (ds:List DV) (ns:List Nat):op=.call ⟨.value f,args,ts⟩->args.toList=x::xs->ρ f=.fn g [] []->E.wr g=xM W ->
  ρ x=.De n->look h n=xM (wy,.Bh W.elem W.kind l)->H4 h (xs.map ρ)=xM (ds,ns)->n ∉ ns->W.pre l ds=r->v=.undef->ob=.Bh W.elem W.kind (W.out l ds)->Yq E h ρ op n r v ob
 | copy (args:Array Operand) (ts:Array TypeId) (x y:Operand) (t t':TypeId) (ti ei:TI) (e:TypeId) (k:IntKind) (l z:Bb):op=.call ⟨.builtin .copy,args,ts⟩->args.toList=[x,y]->ts.toList=[t,t']->ρ x=.De n->E.ty t=xM ti->ti.kind=.slice e ->
  E.ty e=xM ei->ei.size=1->look h n=xM (wy,.Bh e k l)->J2 h k (ρ y)=xM z->v=.int .i64 (min z.length l.length:Nat)->ob=.Bh e k (QZ l z)->Yq E h ρ op n r v ob
theorem Za{h:DB}{ρ:Operand->DV}{g?:Option Bool}{op:Op}{n:Nat}{r:Bool}{v:DV}{ob:OB}(hh:LD E h ρ g? op=xM (n,r,v,ob)):g?=xN/\Yq E h ρ op n r v ob:=by
 unfold LD at hh;split at hh
 ·rename_i f args ts;split at hh
  ·rename_i g x xs hf ha;split at hh
   ·rename_i W hW;split at hh
    ·rename_i m hx;split at hh
     ·rename_i e k l hl;cases hlo:H4 h (xs.map ρ) with
      | none=>simp[hlo] at hh
      | some dn =>
        obtain⟨ds,ns⟩:=dn;simp only[hlo,Aj] at hh;cases hc:(e==W.elem&&decide (k=W.kind)&&!(ns.contains m)) with
        | false=>rw[hc] at hh; simp at hh
        | true =>rw[hc,Aa] at hh;simp only[Ae,Ak] at hh;simp only[Am,beq_iff_eq,Ai,yK] at hc;obtain⟨⟨rfl,rfl⟩,hns⟩:=hc;obtain⟨rfl,h1,h2,h3⟩:=hh;exact⟨rfl,.wr f args ts g x xs W l ds ns rfl ha hf hW hx hl hlo (fun k=>by simp[List.contains_iff_mem,k] at hns) h1 h2.symm h3.symm⟩
     ·cases hh
    ·cases hh
   ·split at hh
    ·rename_i e a c m hE hx;split at hh
     ·rename_i e' l hl;cases hc:(e==e') with
      | false=>rw[hc] at hh; simp at hh
      | true =>
        rw[hc,Aa] at hh;simp only[Ae,Ak] at hh;obtain rfl:e=e':=by simpa using hc
        obtain⟨rfl,_,h2,h3⟩:=hh;exact⟨rfl,.Ny f args ts g x a c e l rfl ha hf hE hx hl h2.symm h3.symm⟩
     ·cases hh
    ·cases hh
  ·cases hh
 ·rename_i args ts;split at hh
  ·rename_i x y t t' ha ht;split at hh
   ·rename_i m sz by_ e zr hx hT;split at hh
    ·rename_i e' k l ei hl hE;cases hz:J2 h k (ρ y) with
     | none=>simp[hz] at hh
     | some z =>
       simp only[hz,Aj] at hh;cases hc:(e==e'&&ei.size==1) with
       | false=>rw[hc] at hh; simp at hh
       | true =>rw[hc,Aa] at hh;simp only[Ae,Ak] at hh;simp only[Am,beq_iff_eq] at hc;obtain⟨rfl,hs⟩:=hc;obtain⟨rfl,_,h2,h3⟩:=hh;exact⟨rfl,.copy args ts x y t t' _ ei e k l z rfl ha ht hx hT rfl hE hs hl hz h2.symm h3.symm⟩
    ·cases hh
   ·cases hh
  ·cases hh
 ·cases hh
theorem Vn{w w':World}{B:Nat}{e e':TypeId}{s s' n n':Nat}{v:Value}{xs xs':List Value}(h:w.ownsRow B e s v n xs)(h':w'.ownsRow 0 e' s' v n' xs'):w'.ownsRow B e' s' v n' xs':=by
 refine⟨h'.1,?_⟩;rcases h'.2 with h2 | ⟨g,cap,cur,hv,_,r⟩
 ·exact .inl h2
 ·rcases h.2 with ⟨hv0,_⟩ | ⟨g2,cap2,cur2,hv2,hB,_⟩
  ·rw[hv] at hv0; cases hv0
  ·rw[hv] at hv2;cases hv2;exact .inr ⟨g,cap,cur,hv,hB,r⟩
theorem Zf{I0:Nat->Prop}{B:Nat}{A:Nat->Option Place}{h:DB}{w w':World}(hm:Mem I0 B A h w){n:Nat}{p:Place}{e:TypeId}{k:IntKind}{l l':Bb}{sv:Value}(hp:A n=xM p)(hlk:look h n=xM (wy,.Bh e k l))(hlive:p.st=.live)(hkind:p.kind=.row sv 1)
 (hown:w.ownsRow B e 1 sv l.length (l.map (Value.int k))) (hown':w'.ownsRow 0 e 1 sv l'.length (l'.map (Value.int k))) (hb:Below 0 w w') (hk:∀b,b<w.heap.size->sv.ownBlock≠xM b->w'.heap[b]?=w.heap[b]?):
 Mem I0 B A (V4 h n (wy,.Bh e k l')) w'/\Hu A w A w'/\Below B w w':=by
 have hblk:p.FK=sv.ownBlock:=by unfold Place.FK; rw[hkind]
 have hmv:Hu A w A w':=⟨hb.size,fun m q hq=>⟨q,hq,by by_cases hd:q.st=.dead; exact .inl hd; exact .inr ⟨hd,rfl⟩⟩,fun m q b hq hql hqb _=>⟨m,q,hq,hql,hqb⟩,fun b hlt hno=>hk b hlt (fun h=>hno n p hp hlive (by rw[hblk]; exact h))⟩
 refine⟨⟨AL hm.hB hb.size,hm.Rp,fun m q fo hq hlo=>?_,fun m q b hq hqd hqb=>?_,hm.inj⟩,hmv,⟨hb.os,hb.tape,hb.output,hb.size,fun b hlt=>hk b (AP hlt hm.hB) fun h=>?_⟩⟩
 ·rw[F0 hlk] at hlo;by_cases hmn:m=n
  ·subst hmn;rw[Az rfl] at hlo; cases hlo;rw[hp] at hq; cases hq;exact⟨hlive,sv,hkind,Vn hown hown'⟩
  ·rw[Ay hmn] at hlo;exact LG hmv.D4 (fun hd b hb'=>hk b (hm.GF m q b hq hd hb').2 fun h=>hmn (hm.inj m n q p b hq hp hd (by rw[hlive]; simp) hb' (by rw[hblk]; exact h))) (hm.obj m q fo hq hlo)
 ·have:=hm.GF m q b hq hqd hqb;exact⟨this.1,AP this.2 hb.size⟩
 ·have:=(hm.GF n p b hp (by rw[hlive]; simp) (by rw[hblk]; exact h)).1;omega
theorem Aih{w:World}{dT sT ty elem:TypeId}(hu:P.underlying dT=xM (.slice elem))(hs:(P.info? elem).map (·.size)=xM 1){e:TypeId}{k:IntKind}{l z:Bb}{v vy:Value}
 (hown:w.ownsRow 0 e 1 v l.length (l.map (Value.int k))) (hy:∃a m c,vy=.slice a m c/\m=z.length/\(m=0\/∃b o,a=xM ⟨b,o,xN⟩/\Fp w b o (z.map (Value.int k)))):
 ∃w',(Builtin.copy_ #[dT,sT] ty #[v,vy]).run P w=.ok (goInt ((min z.length l.length:Nat):Int)) w'/\w'.ownsRow 0 e 1 v (QZ l z).length ((QZ l z).map (Value.int k))/\Below 0 w w'/\∀b,b<w.heap.size->v.ownBlock≠xM b->w'.heap[b]?=w.heap[b]?:=by
 obtain⟨a,m,c,rfl,rfl,hy⟩:=hy
 have hlen:(QZ l z).length=l.length:=by unfold QZ;rw[A5,zV,zW]; omega
 have nothing:min z.length l.length=0->QZ l z=l:=fun h=>by
  unfold QZ;rcases(show z.length=0\/l.length=0 by omega) with h | h
  ·rw[AF h]; simp
  ·rw[AF h]; simp
 by_cases h0:min z.length l.length=0
 ·obtain⟨dp,dl,dc,hv,hdl⟩:∃dp dl dc,v=.slice dp dl dc/\dl=l.length:=by
   rcases hown.2 with ⟨hv,hn⟩ | ⟨g,cap,cur,hv,_⟩
   ·exact⟨xN,0,0,hv,hn.symm⟩
   ·exact⟨_,_,cap,hv,rfl⟩
  subst hv hdl;refine⟨w,?_,by rw[nothing h0]; exact hown,Below.refl _ _,fun _ _ _=>rfl⟩;rw[h0];exact run_copy_none w dT sT ty elem dp a l.length dc z.length c hu hs h0
 ·rcases hown.2 with ⟨hv,hn⟩ | ⟨g,cap,cur,hv,_,hg,hnc,hm,hcs,htake⟩
  ·omega
  ·subst hv;rcases hy with hy | ⟨b,o,rfl,hr⟩
   ·omega
   ·let cs:List Value:=(z.take l.length).map (Value.int k)
    have hcl:cs.length=Nat.min z.length l.length:=by show((z.take l.length).map (Value.int k)).length=_;rw[AK,zV];exact Nat.min_comm _ _
    have hcs1:cs.length<=l.length:=by rw[hcl]; exact xV _ _
    have hrun:=run_copy_row (P:=P) w dT sT ty elem g 0 l.length cap ⟨b,o,xN⟩ z.length c cur e cs hu hs hg hcl (fun j u hu=>by
     have hj:(z.map (Value.int k))[j]?=xM u:=by
      have:cs[j]?=xM u:=hu;rw[show cs=(z.map (Value.int k)).take l.length from List.map_take.symm ▸ rfl] at this;rw[List.getElem?_take] at this;split at this
      ·exact this
      ·cases this
     have:=hr j u hj;unfold Addr.add;split
     ·rename_i h0; rw[h0] at this; exact this
     ·exact this) (by omega) (fun u hu=>by obtain⟨x,_,rfl⟩:=zu.1 hu;rfl)
    have hsz:g<w.heap.size:=(Array.getElem?_eq_some_iff.1 hg).1;refine⟨w.setRow g (zC 0 cur.toList++cs++zM (0+cs.length) cur.toList).toArray,hrun.trans (congrArg (fun q:Nat=>Result.ok (goInt (q:Int)) _) hcl),?_,?_,?_⟩
    ·refine⟨by rw[AK,hlen]; omega,.inr ⟨g,cap,_,by rw[hlen],zF _,setRow_heap w g cur _ e _ hg,by rw[hlen]; exact hnc,hm,?_,?_⟩⟩
     ·rw[List.size_toArray,A5,A5,zV,zW,hcl,z7]
      have:Nat.min z.length l.length<=cur.size:=by have:=xV z.length l.length;omega
      omega
     ·rw[hlen];show zC (l.length*1) (zC 0 cur.toList++cs++zM (0+cs.length) cur.toList)=_;rw[List.take_zero,List.nil_append,AN,AO];rw[AN] at htake;have h1:cs.length<=l.length:=by rw[hcl]; exact xV _ _
      rw[List.take_append,List.take_of_length_le h1,List.take_drop,show cs.length+(l.length-cs.length)=l.length by omega,htake];unfold QZ;rw[List.map_append,List.map_drop];congr 1;by_cases hzl:z.length<=l.length
      ·rw[hcl,show Nat.min z.length l.length=z.length from Nat.min_eq_left hzl]
      ·rw[hcl,show Nat.min z.length l.length=l.length from Nat.min_eq_right (by omega),Ap (by rw[AK]; exact A7 _),Ap (by rw[AK]; omega)]
    ·exact⟨rfl,rfl,rfl,by simp[World.setRow],fun b hb=>by omega⟩
    ·intro b _ hbn;exact setRow_other w g b _ (fun e=>hbn (by rw[e]; rfl))
theorem Aa0(he:Ix P E){ops:Array Oper}{draw:Bool}{st st':St}{o:Oper}(hs:Kc E ops draw st o=xM (wg,st'))(hfree:∀t,o.dst=xM t->E.np<=t)(hmut:Pz o.op=wy)
 (hsp:¬∀g?,MA ops st.tmps o=xM g?->(cond draw xN (LD E st.heap (Gp st.tmps) g? o.op))=xN):∃d,Ow P E ops draw st o st' d:=by
 obtain⟨dst,op,ty,pos,after,guard⟩:=o;rw[vN] at hsp;obtain⟨g?,hsp⟩:=hsp;rw[Classical.not_imp] at hsp;obtain⟨hc,hsp⟩:=hsp;cases draw with
 | true=>exact absurd rfl hsp
 | false =>
 dsimp only at hsp hmut;rw[Af] at hsp;cases hsa:LD E st.heap (Gp st.tmps) g? op with
 | none=>exact absurd hsa hsp
 | some x4 =>
 obtain⟨n,r,d,ob⟩:=x4;obtain⟨rfl,ho⟩:=Za hsa;have hg:=PW hc;dsimp only at hg
 have hst:r=wg/\st'={ tmps:=PC st.tmps dst d,heap:=V4 st.heap n (wy,ob) }:=by
  cases ho with
  | Ny f args ts g x a c e l hop =>subst hop;unfold Kc at hs;simp only[hc,Aj,Af,hsa,Ae,Ak] at hs;exact⟨hs.1,hs.2.symm⟩
  | wr f args ts g x xs W l ds ns hop =>subst hop;unfold Kc at hs;simp only[hc,Aj,Af,hsa,Ae,Ak] at hs;exact⟨hs.1,hs.2.symm⟩
  | copy args ts x y t t' ti ei e k l z hop =>subst hop;unfold Kc at hs;simp only[hc,Aj,Af,hsa,Ae,Ak] at hs;exact⟨hs.1,hs.2.symm⟩
 obtain⟨rfl,rfl⟩:=hst
 have hlk:∃x,look st.heap n=xM x:=by
  cases ho with
  | Ny _ _ _ _ _ _ _ _ _ _ _ _ _ _ h=>exact⟨_,h⟩
  | wr _ _ _ _ _ _ _ _ _ _ _ _ _ _ _ h=>exact⟨_,h⟩
  | copy _ _ _ _ _ _ _ _ _ _ _ _ _ _ _ _ _ _ _ _ h=>exact⟨_,h⟩
 obtain⟨x0,hlk⟩:=hlk;have ht:=KS (y:=(wy,ob)) hlk;refine⟨d,hfree,rfl,fun h=>(by cases h),ht.stays,fun h=>(by cases h),?_⟩;intro I0 B A w a Q hm hsz hrd hnew;have hr:=Q3 (w:=w) hrd
 have own:∀{e:TypeId} {k:IntKind} {l:Bb} {v:Value},look st.heap n=xM (wy,.Bh e k l)->Bz (Cd I0 B A w) w (.De n) v ->
  ∃p,A n=xM p/\p.st=.live/\p.kind=.row v 1/\w.ownsRow B e 1 v l.length (l.map (Value.int k)):=by
  intro e k l v hlk hv;simp only[Bz] at hv;obtain⟨_,p,hp,hpd⟩:=hv;have hp:A n=xM p:=hp;obtain⟨hlive,sv,hkind,hown⟩:=Ej hm hp hlk;simp only[ye,if_false] at hlive
  have hsv:v=sv:=by
   rcases hpd with hpd | ⟨size,hk⟩
   ·rw[hlive] at hpd; cases hpd
   ·rw[hkind] at hk; cases hk; rfl
  subst hsv;exact⟨p,hp,hlive,hkind,hown⟩
 cases ho with
 | Ny f args ts g x r c e l hop hargs hf hE hx hlk hd hob =>
   subst hop hd hob;have hf':=hr f (by simp[Op.operands,Call.operands]);have hx':=hr x (by simp[Op.operands,Call.operands]; exact .inr (by rw[<- wG,hargs]; simp));rw[hf] at hf';rw[hx] at hx';simp only[Bz] at hf' hx';obtain⟨fs,cs,hfv,hfs,hcs⟩:=hf';obtain⟨vs,hxv,hvs⟩:=hx'
   have e1:fs=#[]:=by have:=hfs.length; simp at this; exact xn this.symm
   have e2:cs=#[]:=by have:=hcs.length; simp at this; exact xn this.symm
   subst e1; subst e2;simp only[BN,Bz] at hvs;obtain⟨u1,us1,h1,rfl,u2,us2,rfl,rfl,v,us3,rfl,⟨hcell,p,hp,hpd⟩,rfl⟩:=hvs;have hp:A n=xM p:=hp;have hvs':vs=#[.int .i64 r,.int .i64 c,v]:=yh.1 (by simpa using h1);subst hvs';obtain⟨hlive,sv,hkind,hown⟩:=Ej hm hp hlk;simp only[ye,if_false] at hlive
   have hsv:v=sv:=by
    rcases hpd with hpd | ⟨size,hk⟩
    ·rw[hlive] at hpd; cases hpd
    ·rw[hkind] at hk; cases hk; rfl
   subst hsv;have hblk:p.FK=v.ownBlock:=by unfold Place.FK; rw[hkind]
   have hrun:=(he.Ny g e hE).run w r c v l (Lb hown (zF _))
   let A':Nat->Option Place:=fun m=>if m=n then xM ⟨.dead,p.kind⟩ else A m
   have hA':∀{m:Nat} {q:Place},A' m=xM q->q.st≠.dead->m≠n/\A m=xM q:=by
    intro m q hq hqd;by_cases hmn:m=n
    ·have hq:(if m=n then xM ⟨.dead,p.kind⟩ else A m)=xM q:=hq;rw[Az hmn] at hq; cases hq; exact absurd rfl hqd
    ·have hq:(if m=n then xM ⟨.dead,p.kind⟩ else A m)=xM q:=hq;rw[Ay hmn] at hq; exact⟨hmn,hq⟩
   intro K hK;rw[Az (JF hg)]
   obtain rfl:args=#[x]:=by cases args with | mk l=>simp only at hargs; rw[hargs]
   refine E2.wp (K':=fun _ w'=>Below 0 w w'/\∀b,b<w.heap.size->v.ownBlock≠xM b->w'.heap[b]?=w.heap[b]?) ?_ ?_
   ·unfold E2
    have hexec:(execOp a.eval ⟨dst,.call ⟨.value f,#[x],ts⟩,ty,pos,after,guard⟩).run P w=.ok (.enter g #[.agg #[.int .i64 r,.int .i64 c,v]]) w:=by
     simp only[execOp,resolve,hfv,Deferred.ofValue,Sem.run_bind,Sem.run_pure,Result.andThen_ok,invoke];have:(#[]++Array.map a.eval #[x]++#[]:Array Value)=#[.agg #[.int .i64 r,.int .i64 c,v]]:=by simp[hxv]
     rw[this];exact(he.Ny g e hE).call _ _
    rw[hexec];exact hrun.mono fun en w' ⟨⟨u,hu⟩,hb,hk⟩=>⟨u,hu,hb,hk⟩
   ·rintro u w' ⟨hb,hk⟩
    have hmv:Hu A w A' w':=by
     refine⟨hb.size,fun m q hq=>?_,fun m q b hq hql hqb _=>?_,fun b hlt hno=>hk b hlt (fun h=>hno n p hp hlive (by rw[hblk]; exact h))⟩
     ·by_cases hmn:m=n
      ·subst hmn;exact⟨⟨.dead,p.kind⟩,Az rfl,.inl rfl⟩
      ·refine⟨q,(Ay hmn).trans hq,?_⟩;by_cases hd:q.st=.dead
       ·exact .inl hd
       ·exact .inr ⟨hd,rfl⟩
     ·obtain⟨_,hq⟩:=hA' hq (by rw[hql]; simp);exact⟨m,q,hq,hql,hqb⟩
    refine hK u w' ⟨A',⟨AL hm.hB hb.size,hm.Rp,fun m q fo hq hlo=>?_,fun m q b hq hqd hqb=>?_,fun m m' q q' b hq hq' hqd hqd' hqb hqb'=>?_⟩,hmv,⟨hb.os,hb.tape,hb.output,hb.size,fun b hlt=>hk b (AP hlt hm.hB) fun h=>?_⟩,by simp[Bz],fun m q hq hn=>?_,fun h=>(by cases h)⟩
    ·rw[F0 hlk] at hlo;by_cases hmn:m=n
     ·rw[Az hmn] at hlo; cases hlo;have hq:(if m=n then xM ⟨.dead,p.kind⟩ else A m)=xM q:=hq;rw[Az hmn] at hq; cases hq;rfl
     ·rw[Ay hmn] at hlo;have hq:(if m=n then xM ⟨.dead,p.kind⟩ else A m)=xM q:=hq;rw[Ay hmn] at hq;refine LG hmv.D4 (fun hd b hb'=>hk b (hm.GF m q b hq hd hb').2 fun h=>hmn (hm.inj m n q p b hq hp hd (by rw[hlive]; simp) hb' (by rw[hblk]; exact h))) (hm.obj m q fo hq hlo)
    ·obtain⟨_,hq⟩:=hA' hq hqd;have:=hm.GF m q b hq hqd hqb;exact⟨this.1,AP this.2 hb.size⟩
    ·obtain⟨_,hq⟩:=hA' hq hqd;obtain⟨_,hq'⟩:=hA' hq' hqd';exact hm.inj m m' q q' b hq hq' hqd hqd' hqb hqb'
    ·have:=(hm.GF n p b hp (by rw[hlive]; simp) (by rw[hblk]; exact h)).1;omega
    ·by_cases hmn:m=n
     ·subst hmn; rw[hp] at hn; cases hn
     ·have hq:(if m=n then xM ⟨.dead,p.kind⟩ else A m)=xM q:=hq;rw[Ay hmn,hn] at hq; cases hq
 | wr f args ts g x xs W l ds ns hop hargs hf hE hx hlk hlo hns hpre hd hob =>
   subst hop hd hob;have hf':=hr f (by simp[Op.operands,Call.operands]);rw[hf] at hf';simp only[Bz] at hf';obtain⟨fs,cs,hfv,hfs,hcs⟩:=hf'
   have e1:fs=#[]:=by have:=hfs.length; simp at this; exact xn this.symm
   have e2:cs=#[]:=by have:=hcs.length; simp at this; exact xn this.symm
   subst e1; subst e2;have hmem:∀y∈args.toList,Bz (Cd I0 B A w) w (Gp st.tmps y) (a.eval y):=fun y hy=>hr y (by simp[Op.operands,Call.operands]; exact .inr (wG.1 hy))
   have hx':=hmem x (by rw[hargs]; exact AU);rw[hx] at hx';obtain⟨p,hp,hlive,hkind,hown⟩:=own hlk hx';have hblk:p.FK=(a.eval x).ownBlock:=by unfold Place.FK; rw[hkind]
   have hrest:BN (Cd I0 B A w) w (xs.map (Gp st.tmps)) (xs.map a.eval):=by
    have:∀ys:List Operand,(∀y∈ys,y∈args.toList)->BN (Cd I0 B A w) w (ys.map (Gp st.tmps)) (ys.map a.eval):=by
     intro ys
     induction ys with
     | nil=>intro _; simp[BN]
     | cons y ys ih =>intro hys;rw[yq,yq,BN.CS];exact⟨_,_,rfl,hmem y (hys y AU),ih fun z hz=>hys z (AJ _ hz)⟩
    exact this xs fun y hy=>by rw[hargs]; exact AJ _ hy
   have hlow:=KK (QG hm 8) _ _ ds ns hlo hrest
   have hseen:∀b,seen I0 B A w ns b->b<w.heap.size/\(a.eval x).ownBlock≠xM b:=by
    intro b hb;rcases hb with hb | ⟨m,q,hmn,hq,hqd,hqb⟩
    ·exact⟨hb.1,fun h=>hb.2.2 n p hp hlive (by rw[hblk]; exact h)⟩
    ·exact⟨(hm.GF m q b hq hqd hqb).2,fun h=>hns (by rw[<- hm.inj m n q p b hq hp hqd (by rw[hlive]; simp) hqb (by rw[hblk]; exact h)]; exact hmn)⟩
   have hrun:=(he.wr g W hE).run w (a.eval x) l ds (xs.map a.eval) (Lb hown (zF _)) (BN.Fa (KD hseen) _ _ hlow) hpre;intro K hK;rw[Az (JF hg)]
   have hav:Array.map a.eval args=(a.eval x::xs.map a.eval).toArray:=by apply yh.1;rw[Array.toList_map,hargs]; rfl
   refine E2.wp (K':=fun _ w'=>w'.ownsRow 0 W.elem 1 (a.eval x) (W.out l ds).length ((W.out l ds).map (Value.int W.kind))/\Below 0 w w'/\∀b,b<w.heap.size->(a.eval x).ownBlock≠xM b->w'.heap[b]?=w.heap[b]?) ?_ ?_
   ·unfold E2
    have hexec:(execOp a.eval ⟨dst,.call ⟨.value f,args,ts⟩,ty,pos,after,guard⟩).run P w=.ok (.enter g (a.eval x::xs.map a.eval).toArray) w:=by
     simp only[execOp,resolve,hfv,Deferred.ofValue,Sem.run_bind,Sem.run_pure,Result.andThen_ok,invoke];have:(#[]++Array.map a.eval args++#[]:Array Value)=(a.eval x::xs.map a.eval).toArray:=by rw[hav]; simp
     rw[this];exact(he.wr g W hE).call _ _
    rw[hexec];exact hrun.mono fun en w' ⟨⟨u,hu⟩,ho,hb,hk⟩=>⟨u,hu,ho,hb,hk⟩
   ·rintro u w' ⟨ho,hb,hk⟩
    obtain⟨m1,m2,m3⟩:=Zf hm hp hlk hlive hkind hown ho hb hk;exact hK u w' ⟨A,m1,m2,m3,by simp[Bz],fun m q hq hn=>(by rw[hn] at hq; cases hq),fun h=>(by cases h)⟩
 | copy args ts x y t t' ti ei e k l z hop hargs hts hx hT hti hE hei hlk hz hd hob =>
   subst hop hd hob
   obtain rfl:args=#[x,y]:=by cases args with | mk l=>simp only at hargs; rw[hargs]
   obtain rfl:ts=#[t,t']:=by cases ts with | mk l=>simp only at hts; rw[hts]
   have hx':=hr x (by simp[Op.operands,Call.operands]);have hy':=hr y (by simp[Op.operands,Call.operands]);rw[hx] at hx';obtain⟨p,hp,hlive,hkind,hown⟩:=own hlk hx';have hu:=(he.ty t ti hT).desc;rw[hti] at hu;simp only[Da] at hu
   have hs:(P.info? e).map (·.size)=xM 1:=by obtain⟨i,zz,hi,hsz,_⟩:=(he.ty e ei hE).info;rw[hi,z5,hsz,hei]
   obtain⟨w',hrun,ho,hb,hk⟩:=Aih (sT:=t') (ty:=ty) hu hs (Lb hown (zF _)) (RS hm hy' hz);intro K hK;rw[Az (JF hg)];obtain⟨m1,m2,m3⟩:=Zf hm hp hlk hlive hkind hown ho hb hk;unfold Oper.wp;simp[execOp,resolve,invoke,builtin,hrun,Result.andThen];exact hK _ w' ⟨A,m1,m2,m3,by simp[Bz,goInt],fun m q hq hn=>(by rw[hn] at hq; cases hq),fun h=>(by cases h)⟩
theorem Ty(he:Ix P E){ops:Array Oper}{draw:Bool}{st st':St}{o:Oper}(hs:Sn E ops draw st o=xM (wg,st')):∃d,Ow P E ops draw st o st' d:=by
 unfold Sn at hs;cases hp:AlF E o with
 | true=>rw[hp] at hs; cases hs
 | false =>
 rw[hp,Af] at hs
 have hfree:∀t,o.dst=xM t->E.np<=t:=fun t ht=>by
  unfold AlF at hp;rw[ht] at hp;rcases AA t E.np with h | h
  ·have hp:yQ t E.np=wy:=hp;rw[show yQ t E.np=wg by rw[Nat.blt_eq]; exact h] at hp; cases hp
  ·exact h
 cases hmut:Pz o.op with
 | false =>
   by_cases hsp:∀g?,MA ops st.tmps o=xM g?->(cond draw xN (LD E st.heap (Gp st.tmps) g? o.op))=xN
   ·exact YA he hs hfree hmut hsp
   ·exact Aa0 he hs hfree hmut hsp
 | true =>
   obtain⟨dst,op,ty,pos,after,guard⟩:=o;dsimp only at hmut;unfold Pz at hmut;split at hmut
   ·exact Y9 he hs hfree
   ·exact WU he hs hfree
   ·cases hmut
end
structure Vx(E:Env) where
 FK:Nat->Prop
 val:Nat->Value
structure I8{E:Env}(S:Vx E)(I0:Nat->Prop)(B:Nat)(w0:World)(A:Nat->Option Place)(f:Nat->Option (Bool × OB))(g:Nat->DV)(len:Nat)(a:Act)(w:World):Prop where
 defers:a.defers=[]
 size:a.tmps.size=len
 below:Below B w0 w
 hB:B<=w.heap.size
 Rp:∀b,I0 b->b<B
 obj:∀n p,A n=xM p->∃fo,f n=xM fo/\Dr (Cd I0 B A w) w p fo
 GF:∀n p b,A n=xM p->p.st≠.dead->p.FK=xM b->B<=b/\b<w.heap.size
 inj:∀n m p q b,A n=xM p->A m=xM q->p.st≠.dead->q.st≠.dead->p.FK=xM b->q.FK=xM b->n=m
 tmps:∀t,Bz (Cd I0 B A w) w (g t) (a.tmps.getD t undef)
 kept:∀b,S.FK b->b<w.heap.size/\w.heap[b]?=w0.heap[b]?/\∀n p,A n=xM p->p.st=.live->p.FK≠xM b
 pin:∀t,t<E.np->a.tmps.getD t undef=S.val t
theorem Wi{S:Nat->Prop}{A A':Nat->Option Place}{w0 w w':World}(h:∀b,S b->b<w.heap.size/\w.heap[b]?=w0.heap[b]?/\∀n p,A n=xM p->p.st=.live->p.FK≠xM b)(hm:Hu A w A' w'):
 ∀b,S b->b<w'.heap.size/\w'.heap[b]?=w0.heap[b]?/\∀n p,A' n=xM p->p.st=.live->p.FK≠xM b:=fun b hb=>by
 obtain⟨k1,k2,k3⟩:=h b hb;refine⟨AP k1 hm.size,(hm.kept b k1 k3).trans k2,fun n p hp hl hbk=>?_⟩;obtain⟨m,q,hq,hql,hqb⟩:=hm.live n p b hp hl hbk k1;exact k3 m q hq hql hqb
section
variable{P:Program}{E:Env}{S:Vx E}{I0:Nat->Prop}{B:Nat}{w0:World}{A:Nat->Option Place}{f f':Nat->Option (Bool × OB)}{g g':Nat->DV}{len:Nat}{a:Act}{w:World}
theorem I8.mem(h:I8 S I0 B w0 A f g len a w){hp:DB}(hf:∀n p fo,A n=xM p->look hp n=xM fo->f n=xM fo):Mem I0 B A hp w :=⟨h.hB,h.Rp,fun n p fo hn hl=>by obtain⟨fo',h1,h2⟩:=h.obj n p hn;rw[hf n p fo hn hl] at h1; cases h1; exact h2,h.GF,h.inj⟩
theorem QT{dst:Option Tmp}{v:Value}{t:Nat}:(a.put dst v).tmps.getD t undef=if dst=xM t/\t<a.tmps.size then v else a.tmps.getD t undef:=by
 cases dst with
 | none=>simp[Act.put]
 | some d =>
   simp only[Act.put,Ae,yt];by_cases h:d=t
   ·subst h;by_cases h2:d<a.tmps.size
    ·simp[h2]
    ·simp[h2]
   ·rw[vO h,Ay (fun e=>h e.1)]
theorem Wo{l:List DV}{dst:Option Nat}{d:DV}{t:Nat}:(PC l dst d).getD t .undef=if dst=xM t/\t<l.length then d else l.getD t .undef:=by
 cases dst with
 | none=>simp[PC]
 | some e =>
   simp only[PC,Ae,Al];by_cases h:e=t
   ·subst h;by_cases h2:e<l.length
    ·simp[h2]
    ·simp[h2]
   ·rw[List.getElem?_set_ne h,Ay (fun e=>h e.1)]
theorem YY{dst:Option Tmp}{v:Value}:(a.put dst v).tmps.size=a.tmps.size:=by cases dst<;>simp[Act.put]
theorem put_defers{dst:Option Tmp}{v:Value}:(a.put dst v).defers=a.defers:=by cases dst<;>rfl
theorem Sq{l:List DV}{dst:Option Nat}{d:DV}:(PC l dst d).length=l.length:=by cases dst<;>simp[PC]
theorem I8.step{ops:Array Oper}{st st':St}{o:Oper}{d:DV}(h:I8 S I0 B w0 A f g len a w)(hk:Ow P E ops wg st o st' d)
 (h1:∀n,A n≠xN->look st.heap n≠xN->look st.heap n=f n)
 (h2:∀t∈o.looksAt ops,st.tmps.getD t .undef=g t) (h3:st.tmps.length=len)
 (h4:∀n,look st.heap n=xN->look st'.heap n≠xN->f n=xN)
 (h5:∀n,look st'.heap n≠xN->(n∈F5 E ops st o\/look st.heap n=xN)->f' n=look st'.heap n)
 (h6:∀n,n ∉ F5 E ops st o->¬(look st.heap n=xN/\look st'.heap n≠xN)->f' n=f n)
 (h7:∀t,g' t=if o.dst=xM t/\t<len then d else g t) {Q:Exit->Act->World->Prop}:
 Iz P ops o a w Q fun v w'=>∃A',I8 S I0 B w0 A' f' g' len (a.put o.dst v) w':=by
 have hm:Mem I0 B A st.heap w:=h.mem fun n p fo hn hl=>by rw[<- h1 n (by rw[hn]; simp) (by rw[hl]; simp)]; exact hl
 refine(hk.run hm (h.size.trans h3.symm) (fun t ht=>by rw[h2 t ht]; exact h.tmps t) (fun n hn hn'=>?_)).mono ?_
 ·cases hA:A n with
  | none=>rfl
  | some p =>obtain⟨fo,hfo,_⟩:=h.obj n p hA;rw[h4 n hn hn'] at hfo; cases hfo
 ·rintro v w' ⟨A',hm',hmv,hb,hv,hnew,hdr⟩
  obtain⟨hkept,hsame⟩:=hdr rfl;have hlater:=hmv.D4 (I0:=I0) (B:=B)
  refine⟨A',put_defers.trans h.defers,YY.trans h.size,h.below.trans hb,hm'.hB,hm'.Rp,fun n p hp=>?_,hm'.GF,hm'.inj,fun t=>?_,Wi h.kept hmv,fun t ht=>by rw[QT,Ay (fun e=>by have:=hk.free t e.1; omega)]; exact h.pin t ht⟩
  ·have Kw:look st'.heap n≠xN->(n∈F5 E ops st o\/look st.heap n=xN)->∃fo,f' n=xM fo/\Dr (Cd I0 B A' w') w' p fo:=by
    intro hl ht;cases hq:look st'.heap n with
    | none=>exact absurd hq hl
    | some fo=>exact⟨fo,by rw[h5 n hl ht,hq],hm'.obj n p fo hp hq⟩
   cases hA:A n with
   | none =>obtain⟨e1,e2⟩:=hnew n p hp hA;exact Kw e2 (.inr e1)
   | some q =>
     obtain⟨fo,hfo,hr⟩:=h.obj n q hA;by_cases hmu:n∈F5 E ops st o
     ·exact Kw (hk.stays n (hk.there rfl n hmu)) (.inl hmu)
     ·have hs:=hsame n q hmu hA;rw[hp] at hs; cases hs;refine⟨fo,?_,LG hlater (fun hd b hb=>hkept n _ b hmu hA hd hb) hr⟩;rw[h6 n hmu (fun e=>by rw[h4 n e.1 e.2] at hfo; cases hfo)]; exact hfo
  ·rw[QT,h7,h.size];split
   ·exact hv
   ·exact Bz.D4 hlater _ _ (h.tmps t)
def Fi{E:Env}(S:Vx E)(I0:Nat->Prop)(B:Nat)(w0:World)(st:St)(a:Act)(w:World):Prop:=∃A,I8 S I0 B w0 A (look st.heap) (fun t=>st.tmps.getD t .undef) st.tmps.length a w
theorem Fi.step{ops:Array Oper}{draw:Bool}{st st':St}{o:Oper}{d:DV}(h:Fi S I0 B w0 st a w)(hk:Ow P E ops draw st o st' d){Q:Exit->Act->World->Prop}:
 Iz P ops o a w Q fun v w'=>Fi S I0 B w0 st' (a.put o.dst v) w':=by
 obtain⟨A,h⟩:=h;have hm:Mem I0 B A st.heap w:=h.mem fun n p fo hn hl=>hl
 refine(hk.run hm h.size (fun t _=>h.tmps t) (fun n hn _=>?_)).mono ?_
 ·cases hA:A n with
  | none=>rfl
  | some p =>obtain⟨fo,hfo,_⟩:=h.obj n p hA;rw[hn] at hfo; cases hfo
 ·rintro v w' ⟨A',hm',hmv,hb,hv,hnew,_⟩
  have hlater:=hmv.D4 (I0:=I0) (B:=B)
  refine⟨A',put_defers.trans h.defers,YY.trans (h.size.trans (by rw[hk.tmps,Sq])),h.below.trans hb,hm'.hB,hm'.Rp,fun n p hp=>?_,hm'.GF,hm'.inj,fun t=>?_,Wi h.kept hmv,fun t ht=>by rw[QT,Ay (fun e=>by have:=hk.free t e.1; omega)]; exact h.pin t ht⟩
  ·have hl:look st'.heap n≠xN:=by
    cases hA:A n with
    | none=>exact(hnew n p hp hA).2
    | some q =>obtain⟨fo,hfo,_⟩:=h.obj n q hA;exact hk.stays n (by rw[hfo]; simp)
   cases hq:look st'.heap n with
   | none=>exact absurd hq hl
   | some fo=>exact⟨fo,rfl,hm'.obj n p fo hp hq⟩
  ·rw[QT,hk.tmps,Wo,h.size];split
   ·exact hv
   ·exact Bz.D4 hlater _ _ (h.tmps t)
end
theorem JM{n:Nat}:∀{l:List Nat},K7 n l=wg↔n∈l
 | []=>by simp[K7]
 | m::l=>by
   simp only[K7,zL];by_cases h:n=m
   ·subst h; simp
   ·rw[show zj n m=wy from by cases hb:zj n m with | false=>rfl | true=>exact absurd (Au hb) h];simp only[Af,JM,h,false_or]
theorem PN{n:Nat}{l:List Nat}:K7 n l=wy↔n ∉ l:=by rw[<- JM]; simp
section
variable{α:Type}{val:Nat->α}{touch S S':Nat->Prop}
open Classical in
def after(val:Nat->α)(touch S:Nat->Prop):Nat->α
 | 0=>val 0
 | k+1=>if S k/\touch k then val (k+1) else after val touch S k
theorem LU{N:Nat}(h:∀j,j<N->touch j->(S j↔S' j)):after val touch S N=after val touch S' N:=by
 induction N with
 | zero=>rfl
 | succ k ih =>
   simp only[after];by_cases ht:touch k
   ·rw[ih fun j hj=>h j (by omega)];by_cases hs:S k
    ·rw[Az ⟨hs,ht⟩,Az ⟨(h k (by omega) ht).1 hs,ht⟩]
    ·rw[Ay (fun e=>hs e.1),Ay (fun e=>hs ((h k (by omega) ht).2 e.1))]
   ·rw[Ay (fun e=>ht e.2),Ay (fun e=>ht e.2)];exact ih fun j hj=>h j (by omega)
theorem W9:∀{k:Nat},(∀j,j<k->¬touch j->val (j+1)=val j)->(∀j,j<k->touch j->S j)->after val touch S k=val k
 | 0,_,_=>rfl
 | k+1,hv,h=>by
   simp only[after];by_cases ht:touch k
   ·rw[Az ⟨h k (by omega) ht,ht⟩]
   ·rw[Ay (fun e=>ht e.2),W9 (fun j hj=>hv j (by omega)) (fun j hj=>h j (by omega)),hv k (by omega) ht]
theorem Qb{k:Nat}:∀{N:Nat},k<=N->(∀j,k<=j->j<N->touch j->¬S j)->after val touch S N=after val touch S k
 | 0,hk,_=>by obtain rfl:k=0:=by omega
              rfl
 | N+1,hk,h=>by
   by_cases e:k=N+1
   ·rw[e]
   ·simp only[after];rw[Ay (fun e'=>h N (by omega) (by omega) e'.2 e'.1)];exact Qb (by omega) fun j h1 h2=>h j h1 (by omega)
theorem JY{k N:Nat}(hv:∀j,j<N->¬touch j->val (j+1)=val j)(hk:k<=N)(h:∀j,j<N->touch j->(S j↔j<k)):after val touch S N=val k:=by rw[Qb hk fun j h1 h2 h3 h4=>by have:=(h j h2 h3).1 h4; omega];exact W9 (fun j hj=>hv j (by omega)) fun j h1 h2=>(h j (by omega) h2).2 h1
theorem Vb{k N:Nat}(hk:k<N)(ht:touch k)(hs:S k)(h:∀j,k<j->j<N->touch j->¬S j):after val touch S N=val (k+1):=by rw[Qb (k:=k+1) (by omega) fun j h1 h2=>h j (by omega) h2];simp only[after];rw[Az ⟨hs,ht⟩]
end
theorem JO{p:Nat->Bool}:∀{h:DB} {n:Nat},look (h.filter fun x=>p x.1) n=bif p n then look h n else xN
 | [],n=>by simp[look]
 | (m,x)::h,n=>by
   simp only[List.filter_cons,look];by_cases e:m=n
   ·subst e;cases hp:p m<;>simp[look,JO,hp]
   ·rw[show(m==n)=wy by simpa using e];cases hp:p m
    ·simpa using JO
    ·simp only[if_true,look,Af,show(m==n)=wy by simpa using e];exact JO
theorem Ae3{ms:List Nat}{h:DB}{n:Nat}:look (Zi ms h) n=if n∈ms then xN else look h n:=by
 unfold Zi;rw[JO (p:=fun m=>!(K7 m ms))];by_cases hn:n∈ms
 ·rw[JM.2 hn,Az hn]; rfl
 ·rw[PN.2 hn,Ay hn]; rfl
theorem Ahk{ms:List Nat}{h:DB}{n:Nat}:look (Akb ms h) n=if n∈ms then look h n else xN:=by
 unfold Akb;rw[JO (p:=fun m=>K7 m ms)];by_cases hn:n∈ms
 ·rw[JM.2 hn,Az hn]; rfl
 ·rw[PN.2 hn,Ay hn]; rfl
theorem Ahj{h:DB}{n:Nat}{x:Bool × OB}(hl:look h n=xM x):(n,x)∈h:=by
 induction h with
 | nil=>cases hl
 | cons y h ih =>
   obtain⟨m,z⟩:=y;simp only[look] at hl;by_cases e:m=n
   ·subst e; simp at hl; subst hl; exact AU
   ·rw[show(m==n)=wy by simpa using e] at hl;exact AJ _ (ih hl)
structure Saw(P:Program)(E:Env)(ops:Array Oper)(ms:List Nat)(st:St)(o:Oper)(st':St)(mk mk':St)(d:DV):Prop where
 ok:Ow P E ops wg mk o mk' d
 seen:mk=Mb ms st
 tmps:mk.tmps=st.tmps
 tmps':st'.tmps=mk'.tmps
 mask:∀n,look mk.heap n=if n∈ms then xN else look st.heap n
 out:∀n,look mk'.heap n≠xN->n ∉ ms
 heap:∀n,look st'.heap n=if n∈ms then look st.heap n else look mk'.heap n
theorem AfU{P:Program}{E:Env}(he:Ix P E){ops:Array Oper}{ms:List Nat}{st st':St}{o:Oper}(h:Y8 E ops ms st o=xM (wg,st')):∃mk mk' d,Saw P E ops ms st o st' mk mk' d:=by
 cases ms with
 | nil =>simp only[Y8] at h;obtain⟨d,hd⟩:=Ty he h;exact⟨st,st',d,hd,rfl,rfl,rfl,fun n=>by simp,fun n _=>by simp,fun n=>by simp⟩
 | cons m ms =>
   simp only[Y8] at h;cases hs:Sn E ops wg ⟨st.tmps,Zi (m::ms) st.heap⟩ o with
   | none=>rw[hs] at h; cases h
   | some r =>
     obtain⟨r,mk'⟩:=r;rw[hs] at h;simp only at h;cases hc:(mk'.heap.all fun x=>!(K7 x.1 (m::ms))) with
     | false=>rw[hc] at h; cases h
     | true =>
       rw[hc,Aa,Ae,Ak] at h;obtain⟨rfl,rfl⟩:=h;obtain⟨d,hd⟩:=Ty he hs
       have hout:∀n,look mk'.heap n≠xN->n ∉ m::ms:=by
        intro n hn;cases hq:look mk'.heap n with
        | none=>exact absurd hq hn
        | some x =>have:=zE.1 hc _ (Ahj hq);rw[yK] at this;exact PN.1 this
       refine⟨_,mk',d,hd,rfl,rfl,rfl,fun n=>Ae3,hout,fun n=>?_⟩;show look (mk'.heap++Akb (m::ms) st.heap) n=_;rw[LM,Ahk];by_cases hn:n∈m::ms
       ·rw[Az hn];cases hq:look mk'.heap n with
        | none=>simp[hn]
        | some x=>exact absurd hn (hout n (by rw[hq]; simp))
       ·rw[Ay hn,Ay hn];cases look mk'.heap n<;>rfl
section
variable{P:Program}{E:Env}{ops:Array Oper}{ms:List Nat}{st st' mk mk':St}{o:Oper}{d:DV}(h:Saw P E ops ms st o st' mk mk' d)
include h
theorem Saw.AlP{n:Nat}(hn:n∈F5 E ops (Mb ms st) o):look st.heap n≠xN/\n ∉ ms:=by
 have h1:=h.ok.there rfl n (by rw[h.seen]; exact hn);rw[h.mask] at h1;by_cases hm:n∈ms
 ·rw[Az hm] at h1; exact absurd rfl h1
 ·rw[Ay hm] at h1; exact⟨h1,hm⟩
theorem Saw.stays{n:Nat}(hn:look st.heap n≠xN):look st'.heap n≠xN:=by
 rw[h.heap];by_cases hm:n∈ms
 ·rw[Az hm]; exact hn
 ·rw[Ay hm];exact h.ok.stays n (by rw[h.mask,Ay hm]; exact hn)
theorem Saw.same{n:Nat}(hn:n ∉ F5 E ops (Mb ms st) o)(hc:¬(look st.heap n=xN/\look st'.heap n≠xN)):look st'.heap n=look st.heap n:=by
 cases hq:look st.heap n with
 | none =>
   cases hq':look st'.heap n with
   | none=>rfl
   | some x=>exact absurd ⟨hq,by rw[hq']; simp⟩ hc
 | some x =>
   rw[h.heap];by_cases hm:n∈ms
   ·rw[Az hm,hq]
   ·rw[Ay hm];have h1:look mk.heap n=xM x:=by rw[h.mask,Ay hm,hq]
    rw[h.ok.same rfl n (by rw[h.seen]; exact hn) (by rw[h1]; simp),h1]
theorem Saw.made{n:Nat}(h1:look st.heap n=xN)(h2:look st'.heap n≠xN):n ∉ ms:=by intro hm;rw[h.heap,Az hm] at h2;exact h2 h1
theorem Saw.getD{t:Nat}:st'.tmps.getD t .undef=if o.dst=xM t/\t<st.tmps.length then d else st.tmps.getD t .undef:=by rw[h.tmps',h.ok.tmps,h.tmps,Wo]
theorem Saw.length:st'.tmps.length=st.tmps.length:=by rw[h.tmps',h.ok.tmps,Sq,h.tmps]
end
structure Trace(P:Program)(E:Env)(ops:Array Oper)(D:List (List Nat))(M:List (Nat × List Nat))(tr:Nat->St):Prop where
 saw:∀k o,ops[k]?=xM o->∃mk mk' d,Saw P E ops (GP D k M) (tr k) o (tr (k+1)) mk mk' d
 AlP:∀k o,ops[k]?=xM o->NZ D k=wg->∀n,n∈F5 E ops (Mb (GP D k M) (tr k)) o->n∈K4 k M
theorem Su{β:Type}{P:Program}{E:Env}(he:Ix P E){ops:Array Oper}{D:List (List Nat)}{M:List (Nat × List Nat)}{K:St->Option β}{b:β}:
 ∀(l:List Oper) (k:Nat) (st:St),(∀j,l[j]?=ops[k+j]?)->Ac1 E ops D M k l st K=xM b ->
 ∃tr:Nat->St,tr 0=st/\K (tr l.length)=xM b/\∀j o,l[j]?=xM o->(∃mk mk' d,Saw P E ops (GP D (k+j) M) (tr j) o (tr (j+1)) mk mk' d)/\(NZ D (k+j)=wg->∀n,n∈F5 E ops (Mb (GP D (k+j) M) (tr j)) o->n∈K4 (k+j) M)
 | [],k,st,_,h=>⟨fun _=>st,rfl,h,fun j o hj=>(by cases hj)⟩
 | o::l,k,st,hl,h=>by
   simp only[Ac1] at h;cases hs:Y8 E ops (GP D k M) st o with
   | none=>rw[hs] at h; cases h
   | some r =>
     obtain⟨r,st'⟩:=r;rw[hs] at h;simp only at h;cases hc:(r&&(!(NZ D k)||(F5 E ops (Mb (GP D k M) st) o).all fun n=>K7 n (K4 k M))) with
     | false=>rw[hc] at h; cases h
     | true =>
       rw[hc,Aa] at h;simp only[Am,zN,yK,zE] at hc;obtain⟨rfl,hc⟩:=hc;obtain⟨tr,h1,h2,h3⟩:=Su he l (k+1) st' (fun j=>by have:=hl (j+1); simpa[yf,xp 1 j] using this) h;refine⟨fun j=>match j with | 0=>st | j+1=>tr j,rfl,h2,fun j p hj=>?_⟩;cases j with
       | zero =>
         simp only[List.getElem?_cons_zero,Ae] at hj;subst hj;refine⟨by show ∃mk mk' d,Saw P E ops (GP D k M) st o (tr 0) mk mk' d; rw[h1]; exact AfU he hs,fun hlo n hn=>?_⟩;rcases hc with hc | hc
         ·have hlo':NZ D k=wg:=hlo;rw[hc] at hlo'; cases hlo'
         ·exact JM.1 (hc n hn)
       | succ j =>rw[List.getElem?_cons_succ] at hj;have:=h3 j p hj;rw[show k+(j+1)=k+1+j by omega];exact this
theorem P0{ops:Array Oper}{k:Nat}{o:Oper}(h:ops[k]?=xM o):(ops.toList.map H7).getD k []=H7 o:=by
 have:ops.toList[k]?=xM o:=by simpa using h
 simp[Al,this]
theorem Fm{ops:Array Oper}{k i:Nat}(h:i∈(ops.toList.map H7).getD k []):∃o,ops[k]?=xM o/\i∈H7 o:=by
 cases hk:ops[k]? with
 | none =>
   have:ops.toList[k]?=xN:=by simpa using hk
   simp[Al,this] at h
 | some o=>rw[P0 hk] at h; exact⟨o,rfl,h⟩
theorem Zg{o:Oper}{i:Nat}:i∈H7 o↔∃e∈o.after,Region.binds .any e=wg/\e.on=i:=by
 unfold H7;simp only[vL,wG];constructor
 ·rintro ⟨e,he,h⟩
  cases hb:Region.binds .any e with
  | false=>rw[hb] at h; simp at h
  | true=>rw[hb] at h; simp at h; exact⟨e,he,hb,h⟩
 ·rintro ⟨e,he,hb,rfl⟩
  exact⟨e,he,by rw[hb]; rfl⟩
structure Qc(ops:Array Oper):Prop where
 lt:∀(k:Nat) o,ops[k]?=xM o->∀i∈H7 o,i<k
 once:∀(k j:Nat) o p t,ops[k]?=xM o->ops[j]?=xM p->p.dst=xM t->o.dst=xM t->j=k
 told:∀(k j:Nat) o p t,ops[k]?=xM o->ops[j]?=xM p->p.dst=xM t->t∈o.looksAt ops->SF (ops.toList.map H7) j k=wg\/SF (ops.toList.map H7) k j=wg
theorem lt_size{ops:Array Oper}{k:Nat}{o:Oper}(h:ops[k]?=xM o):k<ops.size:=by
 rcases AA k ops.size with h' | h'
 ·exact h'
 ·rw[vP h'] at h; cases h
theorem ZL{ops:Array Oper}(h:XU ops (ops.toList.map H7)=wg):Qc ops:=by
 unfold XU at h;simp only[zE,zO,AK,z7] at h;refine⟨fun k o hk i hi=>?_,fun k j o p t hk hj hp ho=>?_,fun k j o p t hk hj hp ht=>?_⟩
 ·have h1:=h k (lt_size hk);rw[Am,zE] at h1;have:=h1.1 i (by rw[P0 hk]; exact hi);simpa[Nat.blt_eq] using this
 ·have h1:=h k (lt_size hk);rw[Am,hk] at h1;have h2:=h1.2;simp only[zE,zO] at h2;have h3:=h2 j (lt_size hj);rw[hj] at h3;simp only[hp,Am,zN] at h3;rcases h3.1 with h4 | h4
  ·exact Au h4
  ·rw[ho] at h4; simp at h4
 ·have h1:=h k (lt_size hk);rw[Am,hk] at h1;have h2:=h1.2;simp only[zE,zO] at h2;have h3:=h2 j (lt_size hj);rw[hj] at h3;simp only[hp,Am,zN] at h3;rcases h3.2 with h4 | h4
  ·rw[JM.2 ht] at h4; simp at h4
  ·exact h4
theorem W4{D:List (List Nat)}{i j:Nat}(h:SF D i j=wg):i∈D.getD j []\/∃m∈D.getD j [],i∈D.getD m []:=by unfold SF at h;simp only[zN,wH] at h;exact h.imp JM.1 fun⟨m,h1,h2⟩=>⟨m,h1,JM.1 h2⟩
section
variable{ops:Array Oper}(hd:Qc ops)
include hd
theorem Qc.UX{i j:Nat}(h:SF (ops.toList.map H7) i j=wg):i<j:=by
 rcases W4 h with h | ⟨m,h1,h2⟩
 ·obtain⟨o,ho,hi⟩:=Fm h;exact hd.lt j o ho i hi
 ·obtain⟨o,ho,hi⟩:=Fm h1;obtain⟨p,hp,hj⟩:=Fm h2;have:=hd.lt j o ho m hi;have:=hd.lt m p hp i hj;omega
end
def Sl(ops:Array Oper)(S:Nat->Prop):Prop:=∀k o,ops[k]?=xM o->S k->∀i∈H7 o,S i
theorem Sl.bef{ops:Array Oper}{S:Nat->Prop}(hc:Sl ops S){k:Nat}(hk:∀o,ops[k]?=xM o->∀i∈H7 o,S i){i:Nat}(h:SF (ops.toList.map H7) i k=wg):S i:=by
 rcases W4 h with h | ⟨m,h1,h2⟩
 ·obtain⟨o,ho,hi⟩:=Fm h;exact hk o ho i hi
 ·obtain⟨o,ho,hi⟩:=Fm h1;obtain⟨p,hp,hj⟩:=Fm h2;exact hc m p hp (hk o ho m hi) i hj
theorem Sg{D:List (List Nat)}{i j:Nat}(h1:i≠j)(h2:SF D i j≠wg)(h3:SF D j i≠wg):Lp D i j=wg:=by
 unfold Lp
 have e1:zj i j=wy:=by
  cases hb:zj i j with
  | false=>rfl
  | true=>exact absurd (Au hb) h1
 rw[e1,zD _ |>.mp h2,zD _ |>.mp h3]; rfl
theorem PM{D:List (List Nat)}{s k n:Nat}(ha:Lp D s k=wg):∀{M:List (Nat × List Nat)},n∈K4 s M->n∈GP D k M
 | [],h=>by simp[K4] at h
 | (s',ns)::M,h=>by
   simp only[K4] at h;simp only[GP];cases hb:zj s' s with
   | true =>have:=Au hb;subst this;rw[hb] at h;rw[ha];simp only[Aa,zQ] at h ⊢;exact h.imp id (PM ha)
   | false =>
     rw[hb] at h;simp only[Af] at h;have:=PM ha h;cases Lp D s' k
     ·exact this
     ·exact zQ.2 (.inr this)
theorem Ae2{D:List (List Nat)}{s k:Nat}(ha:Lp D s k=wg)(hk:k<D.length):NZ D s=wg:=by unfold NZ;exact wH.2 ⟨k,zO.2 hk,ha⟩
def WR(E:Env)(ops:Array Oper)(M:List (Nat × List Nat))(tr:Nat->St)(n:Nat)(k:Nat):Prop :=∃o,ops[k]?=xM o/\(n∈F5 E ops (Mb (GP (ops.toList.map H7) k M) (tr k)) o\/(look (tr k).heap n=xN/\look (tr (k+1)).heap n≠xN))
def AfP(ops:Array Oper)(len:Nat)(t:Nat)(k:Nat):Prop:=t<len/\∃o,ops[k]?=xM o/\o.dst=xM t
def Oh(E:Env)(ops:Array Oper)(M:List (Nat × List Nat))(tr:Nat->St)(S:Nat->Prop)(n:Nat):Option (Bool × OB):=after (fun k=>look (tr k).heap n) (WR E ops M tr n) S ops.size
def V9(ops:Array Oper)(tr:Nat->St)(S:Nat->Prop)(t:Nat):DV:=after (fun k=>(tr k).tmps.getD t .undef) (AfP ops (tr 0).tmps.length t) S ops.size
section
variable{P:Program}{E:Env}{ops:Array Oper}{M:List (Nat × List Nat)}{tr:Nat->St}(hd:Qc ops)(T:Trace P E ops (ops.toList.map H7) M tr)
include T
theorem Trace.len{k:Nat}(h:k<=ops.size):(tr k).tmps.length=(tr 0).tmps.length:=by
 induction k with
 | zero=>rfl
 | succ k ih =>obtain⟨mk,mk',d,hs⟩:=T.saw k ops[k] (Aw (by omega));rw[hs.length,ih (by omega)]
theorem Trace.stays{n j k:Nat}(hj:look (tr j).heap n≠xN)(hjk:j<=k)(hk:k<=ops.size):look (tr k).heap n≠xN:=by
 induction k with
 | zero=>obtain rfl:j=0:=by omega
         exact hj
 | succ k ih =>
   by_cases e:j=k+1
   ·rw[<- e]; exact hj
   ·obtain⟨mk,mk',d,hs⟩:=T.saw k ops[k] (Aw (by omega));exact hs.stays (ih (by omega) (by omega))
theorem Trace.Afz{n j:Nat}(hj:j<ops.size)(ht:¬WR E ops M tr n j):look (tr (j+1)).heap n=look (tr j).heap n:=by obtain⟨mk,mk',d,hs⟩:=T.saw j ops[j] (Aw hj);exact hs.same (fun h=>ht ⟨_,Aw hj,.inl h⟩) (fun h=>ht ⟨_,Aw hj,.inr h⟩)
theorem Trace.Ala{t j:Nat}(hj:j<ops.size)(ht:¬AfP ops (tr 0).tmps.length t j):(tr (j+1)).tmps.getD t .undef=(tr j).tmps.getD t .undef:=by obtain⟨mk,mk',d,hs⟩:=T.saw j ops[j] (Aw hj);rw[hs.getD,T.len (by omega),Ay (fun e=>ht ⟨e.2,_,Aw hj,e.1⟩)]
theorem Trace.Kw{n j:Nat}{o:Oper}(ho:ops[j]?=xM o)(ht:WR E ops M tr n j):(n∈F5 E ops (Mb (GP (ops.toList.map H7) j M) (tr j)) o/\look (tr j).heap n≠xN)\/(look (tr j).heap n=xN/\look (tr (j+1)).heap n≠xN):=by
 obtain⟨o',ho',h⟩:=ht;rw[ho] at ho'; cases ho';rcases h with h | h
 ·obtain⟨mk,mk',d,hs⟩:=T.saw j o ho;exact .inl ⟨h,(hs.AlP h).1⟩
 ·exact .inr h
theorem Trace.Ah8{s k n:Nat}{o:Oper}(hs:ops[s]?=xM o)(hk:k<ops.size)(ha:Lp (ops.toList.map H7) s k=wg)(hn:n∈F5 E ops (Mb (GP (ops.toList.map H7) s M) (tr s)) o):n∈GP (ops.toList.map H7) k M :=PM ha (T.AlP s o hs (Ae2 ha (by simpa using hk)) n hn)
omit T in
theorem Ot{S:Nat->Prop}(hd:Qc ops)(hc:Sl ops S){k:Nat}(hk:¬S k){j:Nat}(hj:S j)(hlt:k<j):Lp (ops.toList.map H7) j k=wg:=by
 refine Sg (by omega) (fun e=>?_) (fun e=>?_)
 ·have:=hd.UX e; omega
 ·exact hk (hc.bef (fun p hp=>hc j p hp hj) e)
omit T in
theorem Ym{S:Nat->Prop}(hd:Qc ops)(hc:Sl ops S){k:Nat}{o:Oper}(ho:ops[k]?=xM o)(hr:∀i∈H7 o,S i){j:Nat}(hj:¬S j)(hlt:j<k):Lp (ops.toList.map H7) j k=wg:=by
 refine Sg (by omega) (fun e=>?_) (fun e=>?_)
 ·exact hj (hc.bef (fun p hp=>by rw[ho] at hp; cases hp; exact hr) e)
 ·have:=hd.UX e; omega
include hd
variable{S:Nat->Prop}(hc:Sl ops S){k:Nat}{o:Oper}(ho:ops[k]?=xM o)(hk:¬S k)(hr:∀i∈H7 o,S i)
include hc ho hk hr
theorem Trace.AjJ{n:Nat}(hm:n ∉ GP (ops.toList.map H7) k M)(h1:look (tr k).heap n≠xN)(h2:Oh E ops M tr S n≠xN):Oh E ops M tr S n=look (tr k).heap n:=by
 have hkN:=lt_size ho;refine JY (val:=fun k=>look (tr k).heap n) (fun j hj ht=>T.Afz hj ht) (by omega) fun j hj ht=>?_
 have hoj:ops[j]?=xM ops[j]:=Aw hj;constructor
 ·intro hS;rcases AA j k with h | h
  ·exact h
  ·have hne:j≠k:=fun e=>hk (e ▸ hS)
   have ha:=Ot hd hc hk hS (by omega);rcases T.Kw hoj ht with ⟨h3,_⟩ | ⟨h3,_⟩
   ·exact absurd (T.Ah8 hoj hkN ha h3) hm
   ·exact absurd h3 (T.stays h1 (by omega) (by omega))
 ·intro hlt;refine vS fun hS=>?_
  have ha:=Ym hd hc ho hr hS hlt;rcases T.Kw hoj ht with ⟨h3,_⟩ | ⟨h3,h4⟩
  ·exact hm (T.Ah8 hoj hkN ha h3)
  ·
   refine h2 ?_
   have:Oh E ops M tr S n=look (tr 0).heap n:=by
    refine JY (k:=0) (val:=fun k=>look (tr k).heap n) (fun j hj ht=>T.Afz hj ht) (by omega) fun i hi hti=>⟨fun hSi=>?_,fun h=>by omega⟩
    exfalso;have hoi:ops[i]?=xM ops[i]:=Aw hi;have hij:i≠j:=fun e=>hS (e ▸ hSi)
    have hji:j<i:=by
     rcases T.Kw hoi hti with ⟨_,h5⟩ | ⟨h5,h6⟩
     ·rcases AA j i with h | h
      ·exact h
      ·exact absurd h3 (T.stays h5 h (by omega))
     ·rcases AA j i with h | h
      ·exact h
      ·exact absurd h3 (T.stays h6 (by omega) (by omega))
    have hap:Lp (ops.toList.map H7) i j=wg:=by
     refine Sg hij (fun e=>?_) (fun e=>?_)
     ·have:=hd.UX e; omega
     ·exact hS (hc.bef (fun p hp=>hc i p hp hSi) e)
    rcases T.Kw hoi hti with ⟨h5,_⟩ | ⟨h5,_⟩
    ·obtain⟨mk,mk',d,hsj⟩:=T.saw j _ hoj;exact hsj.made h3 h4 (T.Ah8 hoi hj hap h5)
    ·exact absurd h5 (T.stays h4 (by omega) (by omega))
   rw[this];cases hq:look (tr 0).heap n with
   | none=>rfl
   | some x=>exact absurd h3 (T.stays (j:=0) (by rw[hq]; simp) (by omega) (by omega))
theorem Trace.Alw{t:Nat}(ht:t∈o.looksAt ops):V9 ops tr S t=(tr k).tmps.getD t .undef:=by
 have hkN:=lt_size ho;refine JY (val:=fun k=>(tr k).tmps.getD t .undef) (fun j hj h=>T.Ala hj h) (by omega) fun j hj hj'=>?_
 obtain⟨_,p,hp,hdst⟩:=hj';rcases hd.told k j o p t ho hp hdst ht with h | h
 ·have:=hd.UX h;exact⟨fun _=>this,fun _=>hc.bef (fun p hp=>by rw[ho] at hp; cases hp; exact hr) h⟩
 ·have:=hd.UX h;exact⟨fun hS=>absurd (hc.bef (fun p hp=>hc j p hp hS) h) hk,fun h=>by omega⟩
theorem Trace.step{S0:Vx E}{I0:Nat->Prop}{B:Nat}{w0:World}{A:Nat->Option Place}{a:Act}{w:World}(h:I8 S0 I0 B w0 A (Oh E ops M tr S) (V9 ops tr S) (tr 0).tmps.length a w){Q:Exit->Act->World->Prop}:
 Iz P ops o a w Q fun v w'=>∃A',I8 S0 I0 B w0 A' (Oh E ops M tr fun j=>S j\/j=k) (V9 ops tr fun j=>S j\/j=k) (tr 0).tmps.length (a.put o.dst v) w':=by
 have hkN:=lt_size ho;obtain⟨mk,mk',d,hs⟩:=T.saw k o ho
 have hout:∀{n},look mk'.heap n≠xN->look mk'.heap n=look (tr (k+1)).heap n:=by intro n hn;rw[hs.heap,Ay (hs.out n hn)]
 refine h.step hs.ok (fun n hA hl=>?_) (fun t ht=>?_) (by rw[hs.tmps,T.len (by omega)]) (fun n h1 h2=>?_) (fun n h1 h2=>?_) (fun n h1 h2=>?_) (fun t=>?_)
 ·have hm:n ∉ GP (ops.toList.map H7) k M:=fun e=>hl (by rw[hs.mask,Az e])
  rw[hs.mask,Ay hm] at hl ⊢;refine(T.AjJ hd hc ho hk hr hm hl ?_).symm;cases hA':A n with
  | none=>exact absurd hA' hA
  | some p =>obtain⟨fo,hfo,_⟩:=h.obj n p hA';rw[hfo]; simp
 ·rw[hs.tmps]; exact(T.Alw hd hc ho hk hr ht).symm
 ·
  have hm:=hs.out n h2;rw[hs.mask,Ay hm] at h1;rw[hout h2] at h2
  have:Oh E ops M tr S n=look (tr 0).heap n:=by
   refine JY (k:=0) (val:=fun k=>look (tr k).heap n) (fun j hj ht=>T.Afz hj ht) (by omega) fun i hi hti=>⟨fun hSi=>?_,fun h=>by omega⟩
   exfalso;have hoi:ops[i]?=xM ops[i]:=Aw hi;have hik:i≠k:=fun e=>hk (e ▸ hSi)
   rcases T.Kw hoi hti with ⟨h5,h6⟩ | ⟨h5,h6⟩
   ·rcases AA i k with hlt | hge
    ·exact absurd h1 (T.stays h6 (by omega) (by omega))
    ·exact hm (T.Ah8 hoi hkN (Ot hd hc hk hSi (by omega)) h5)
   ·rcases AA i k with hlt | hge
    ·exact absurd h1 (T.stays h6 (by omega) (by omega))
    ·exact absurd h5 (T.stays h2 (by omega) (by omega))
  rw[this];cases hq:look (tr 0).heap n with
  | none=>rfl
  | some x=>exact absurd h1 (T.stays (j:=0) (by rw[hq]; simp) (by omega) (by omega))
 ·have hm:=hs.out n h1;rw[hs.mask,Ay hm,hs.seen] at h2;have e1:=hout h1;rw[e1] at h1 ⊢;have ht:WR E ops M tr n k:=⟨o,ho,h2.imp id fun e=>⟨e,h1⟩⟩
  refine Vb (val:=fun k=>look (tr k).heap n) hkN ht (.inr rfl) fun i hlt hi hti hSi=>?_
  have hSi:=hSi.resolve_right (by omega);have hoi:ops[i]?=xM ops[i]:=Aw hi;rcases T.Kw hoi hti with ⟨h5,_⟩ | ⟨h5,_⟩
  ·exact hm (T.Ah8 hoi hkN (Ot hd hc hk hSi hlt) h5)
  ·exact absurd h5 (T.stays h1 (by omega) (by omega))
 ·rw[hs.seen] at h1;refine LU fun j hj ht=>⟨fun h=>h.resolve_right fun e=>?_,.inl⟩
  subst e;obtain⟨o',ho',h3⟩:=ht;rw[ho] at ho'; cases ho';rcases h3 with h3 | ⟨h3,h4⟩
  ·exact h1 h3
  ·have hm:=hs.made h3 h4;refine h2 ⟨by rw[hs.mask,Ay hm]; exact h3,?_⟩;rw[hs.heap,Ay hm] at h4; exact h4
 ·split
  ·rename_i ht
   have h1:V9 ops tr (fun j=>S j\/j=k) t=(tr (k+1)).tmps.getD t .undef:=by
    refine Vb (val:=fun k=>(tr k).tmps.getD t .undef) hkN ⟨ht.2,o,ho,ht.1⟩ (.inr rfl) fun i hlt hi hti hSi=>?_
    obtain⟨_,p,hp,hdst⟩:=hti;have:=hd.once i k p o t hp ho ht.1 hdst;omega
   rw[h1,hs.getD,Az ⟨ht.1,by rw[T.len (by omega)]; exact ht.2⟩]
  ·rename_i ht;refine LU fun j hj hj'=>⟨fun h=>h.resolve_right fun e=>?_,.inl⟩
   subst e;obtain⟨h1,p,hp,hdst⟩:=hj';rw[ho] at hp; cases hp;exact ht ⟨hdst,h1⟩
end
section
variable{P:Program}{E:Env}{S:Vx E}{I0:Nat->Prop}{B:Nat}{w0:World}
theorem Ac3{β:Type}(he:Ix P E){ops:Array Oper}{draw:Bool}{Q:Exit->Act->World->Prop}{K:St->Option β}{r:β}:
 ∀(l:List Oper) (k:Nat) (st:St),(∀j,l[j]?=ops[k+j]?)->Ajz E ops draw l st K=xM r->∀a w,Fi S I0 B w0 st a w ->
 (∀st a w,K st=xM r->Fi S I0 B w0 st a w->Q .normal a w)->wpOps P ops Q (List.range' k l.length) a w
 | [],k,st,_,h,a,w,hh,hQ=>hQ st a w h hh
 | o::l,k,st,hl,h,a,w,hh,hQ=>by
   simp only[Ajz] at h;cases hs:Sn E ops draw st o with
   | none=>rw[hs] at h; cases h
   | some x =>
     obtain⟨b,st'⟩:=x;rw[hs] at h;simp only at h;cases b with
     | false=>cases h
     | true =>
       simp only[Aa] at h;obtain⟨d,hd⟩:=Ty he hs;have ho:ops[k]?=xM o:=by simpa using(hl 0).symm
       rw[List.length_cons,List.range'_succ];simp only[wpOps,ho];have:=hh.step hd (Q:=Q) (wpOps P ops Q (List.range' (k+1) l.length)) (fun v w' hv=>Ac3 he l (k+1) st' (fun j=>by have:=hl (j+1); simpa[yf,xp 1 j] using this) h _ _ hv hQ);split
       ·rename_i hw; rw[Az hw] at this; exact .inl this
       ·rename_i hw; rw[Ay hw] at this; exact this
theorem I8.congr{A:Nat->Option Place}{f f':Nat->Option (Bool × OB)}{g g':Nat->DV}{len len':Nat}{a:Act}{w:World}(h:I8 S I0 B w0 A f g len a w)(hf:∀n,f n=f' n)(hg:∀t,g t=g' t)(hl:len=len'):I8 S I0 B w0 A f' g' len' a w:=by obtain rfl:f=f':=funext hf;obtain rfl:g=g':=funext hg;subst hl; exact h
def Kk(listed:Array Bool)(j:Nat):Prop:=listed.getD j wy=wg
theorem N6{l:Array Bool}{j:Nat}(h:l.getD j wg=wy):j<l.size/\l.getD j wy=wy:=by
 rcases AA j l.size with h' | h'
 ·refine⟨h',?_⟩;simp only[yt,Aw h',Ba] at h ⊢; exact h
 ·simp[yt,vP h'] at h
theorem RT{listed:Array Bool}{k:Nat}(hk:k<listed.size)(j:Nat):Kk (listed.setIfInBounds k wg) j↔Kk listed j\/j=k:=by
 unfold Kk;simp only[yt];by_cases e:k=j
 ·subst e; simp[hk]
 ·rw[vO e];exact⟨.inl,fun h=>h.resolve_right (fun h=>e h.symm)⟩
theorem count_set{listed:Array Bool}{k:Nat}(h:listed.getD k wg=wy):(listed.setIfInBounds k wg).toList.count wy+1=listed.toList.count wy:=by
 obtain⟨hk,h2⟩:=N6 h;have hk':k<listed.toList.length:=by simpa using hk
 have hv:listed.toList[k]=wy:=by simpa[yt,Aw hk] using h2
 have hp:0<List.count wy listed.toList:=List.count_pos_iff.2 (hv ▸ List.getElem_mem hk');rw[Array.toList_setIfInBounds,List.count_set hk',hv,Az (AE _),Ay (by simp)];omega
theorem Amq{ops:Array Oper}{M:List (Nat × List Nat)}{tr:Nat->St}(hd:Qc ops)(T:Trace P E ops (ops.toList.map H7) M tr){Q:Exit->Act->World->Prop}
 (hQ:∀a w,Fi S I0 B w0 (tr ops.size) a w->Q .normal a w):∀(fuel:Nat) (listed:Array Bool) (a:Act) (w:World),listed.size=ops.size->Sl ops (Kk listed)->listed.toList.count wy=fuel ->
 (∃A,I8 S I0 B w0 A (Oh E ops M tr (Kk listed)) (V9 ops tr (Kk listed)) (tr 0).tmps.length a w)->wpAny P .any ops Q fuel listed a w:=by
 have last:∀(listed:Array Bool) (a:Act) (w:World),listed.size=ops.size->Region.ready .any ops listed=[]->(∃A,I8 S I0 B w0 A (Oh E ops M tr (Kk listed)) (V9 ops tr (Kk listed)) (tr 0).tmps.length a w)->Q .normal a w:=by
  rintro listed a w hsz hr ⟨A,h⟩
  have all:∀k,k<ops.size->Kk listed k:=by
   intro k
   induction k using Nat.strongRecOn with
   | _ k ih =>
     intro hk;refine vS fun hn=>?_
     have:k∈Region.ready .any ops listed:=mem_ready.2 ⟨?_,ops[k],Aw hk,fun e he hb=>?_⟩
     ·rw[hr] at this; cases this
     ·unfold Kk at hn;have hk':k<listed.size:=by omega
      simp only[yt,Aw hk',Ba,zD] at hn ⊢;exact hn
     ·have hlt:=hd.lt k ops[k] (Aw hk) e.on (Zg.2 ⟨e,he,hb,rfl⟩);exact ih e.on hlt (by omega)
  refine hQ a w ⟨A,h.congr (fun n=>?_) (fun t=>?_) (T.len (A7 _)).symm⟩
  ·exact JY (val:=fun k=>look (tr k).heap n) (fun j hj ht=>T.Afz hj ht) (A7 _) fun j hj _=>⟨fun _=>hj,fun _=>all j hj⟩
  ·exact JY (val:=fun k=>(tr k).tmps.getD t .undef) (fun j hj ht=>T.Ala hj ht) (A7 _) fun j hj _=>⟨fun _=>hj,fun _=>all j hj⟩
 intro fuel
 induction fuel with
 | zero =>
   intro listed a w hsz hc hf h
   have hr:Region.ready .any ops listed=[]:=by
    refine List.eq_nil_iff_forall_not_mem.2 fun k hk=>?_
    have h1:=count_set (mem_ready.1 hk).1;omega
   exact⟨hr,last listed a w hsz hr h⟩
 | succ fuel ih =>
   intro listed a w hsz hc hf h;refine⟨fun hr=>last listed a w hsz hr h,fun k hk=>?_⟩;obtain⟨hun,o,ho,hall⟩:=mem_ready.1 hk;obtain⟨hks,hkf⟩:=N6 hun;have hkS:¬Kk listed k:=by unfold Kk; rw[hkf]; simp
   have hrS:∀i∈H7 o,Kk listed i:=fun i hi=>by obtain⟨e,he,hb,rfl⟩:=Zg.1 hi;exact hall e he hb
   obtain⟨A,h⟩:=h
   have hstep:=T.step hd hc ho hkS hrS h (Q:=Q) (wpAny P .any ops Q fuel (listed.setIfInBounds k wg)) (fun v w' hv=>by
    obtain⟨A',hv⟩:=hv;refine ih _ _ _ (by simp[hsz]) ?_ ?_ ⟨A',hv.congr (fun n=>?_) (fun t=>?_) rfl⟩
    ·intro j p hp hj i hi;rw[RT hks] at hj ⊢;rcases hj with hj | rfl
     ·exact .inl (hc j p hp hj i hi)
     ·rw[ho] at hp; cases hp;exact .inl (hrS i hi)
    ·have:=count_set hun; omega
    ·exact LU fun j _ _=>(RT hks j).symm
    ·exact LU fun j _ _=>(RT hks j).symm)
   unfold wpOp;rw[ho];simp only;split
   ·rename_i hw; rw[Az hw] at hstep; exact .inl hstep
   ·rename_i hw; rw[Ay hw] at hstep; exact hstep
theorem Fi.drew{st:St}{a:Act}{w:World}(h:Fi S I0 B w0 st a w):Fi S I0 B w0 st a { w with drawn:=w.drawn+1 }:=by
 obtain⟨A,h⟩:=h;have hmv:Hu A w A { w with drawn:=w.drawn+1 }:=⟨A7 _,(Hu.refl A w).names,(Hu.refl A w).live,fun _ _ _=>rfl⟩
 have hl:=hmv.D4 (I0:=I0) (B:=B)
 exact⟨A,h.defers,h.size,h.below.trans ⟨rfl,rfl,rfl,A7 _,fun _ _=>rfl⟩,h.hB,h.Rp,fun n p hp=>by obtain⟨fo,h1,h2⟩:=h.obj n p hp;exact⟨fo,h1,LG hl (fun _ _ _=>rfl) h2⟩,h.GF,h.inj,fun t=>Bz.D4 hl _ _ (h.tmps t),h.kept,h.pin⟩
theorem AhY{β:Type}(he:Ix P E){id:Nat}{ops:Array Oper}{Q:Exit->Act->World->Prop}{K:St->Option β}{r:β}{st:St}(h:AhZ E ops st K=xM r){a:Act}{w:World}(hh:Fi S I0 B w0 st a w)
 (hQ:∀st a w,K st=xM r->Fi S I0 B w0 st a w->Q .normal a w):(Code.region id ops wg).wp P Q a w:=by
 unfold AhZ at h;cases hc:XU ops (ops.toList.map H7) with
 | false=>rw[hc] at h; cases h
 | true =>
   rw[hc,Aa] at h;have hd:=ZL hc;generalize (cond (Abi ops (ops.toList.map H7) 0 ops.toList) (XN E ops 0 ops.toList st) ([]))=M at h;obtain⟨tr,h0,h1,h2⟩:=Su he ops.toList 0 st (fun j=>by simp) h
   have T:Trace P E ops (ops.toList.map H7) M tr:=⟨fun k o ho=>by
    have:=(h2 k o (by simpa using ho)).1;rw[AO] at this; exact this,fun k o ho hlo=>by
    have:=(h2 k o (by simpa using ho)).2;rw[AO] at this; exact this hlo⟩
   refine wp_region_any he.mixed (Amq hd T (fun a w hw=>hQ _ a w (by simpa using h1) hw) _ _ _ _ (by simp) ?_ (by simp) ?_)
   ·intro k o _ hk;unfold Kk at hk;simp only[yt,wI] at hk;split at hk<;>cases hk
   ·obtain⟨A,hA⟩:=hh.drew;subst h0;refine⟨A,hA.congr (fun n=>?_) (fun t=>?_) rfl⟩
    ·refine(JY (k:=0) (val:=fun k=>look (tr k).heap n) (fun j hj ht=>T.Afz hj ht) (by omega) fun j hj _=>⟨fun hk=>?_,fun h=>by omega⟩).symm;unfold Kk at hk;simp only[yt,wI] at hk;split at hk<;>cases hk
    ·refine(JY (k:=0) (val:=fun k=>(tr k).tmps.getD t .undef) (fun j hj ht=>T.Ala hj ht) (by omega) fun j hj _=>⟨fun hk=>?_,fun h=>by omega⟩).symm;unfold Kk at hk;simp only[yt,wI] at hk;split at hk<;>cases hk
end
def Ctx.only(c:Ctx)(ns:List Nat):Ctx:={ c with at_:=fun n=>if n∈ns then c.at_ n else xN }
theorem Nl{n:Nat}{l:List Nat}(h:l.contains n=wg):n∈l:=by simpa using h
theorem Xx{c:Ctx}{w:World}(ns:List Nat):∀(f:Nat) (d:DV) (v:Value),EG f ns d=wg->Bz c w d v->Bz (c.only ns) w d v:=by
 intro f
 induction f with
 | zero=>intro d v h; simp[EG] at h
 | succ f ih =>
   have all:∀(l:List DV) (vs:List Value),l.all (EG f ns)=wg->BN c w l vs->BN (c.only ns) w l vs:=by
    intro l
    induction l with
    | nil=>intro vs _ h; rw[BN.FU] at h ⊢; exact h
    | cons d l ihl =>intro vs h hv;simp only[List.all_cons,Am] at h;rw[BN.CS] at hv ⊢;obtain⟨u,us,e,h1,h2⟩:=hv;exact⟨u,us,e,ih d u h.1 h1,ihl us h.2 h2⟩
   intro d v h hv;cases d with
   | agg l =>simp only[EG] at h;simp only[Bz] at hv ⊢;obtain⟨vs,e,hl⟩:=hv;exact⟨vs,e,all l _ h hl⟩
   | Cw l =>simp only[EG] at h;simp only[Bz] at hv ⊢;obtain⟨vs,e,hl⟩:=hv;exact⟨vs,e,all l _ h hl⟩
   | fn g a b =>simp only[EG,Am] at h;simp only[Bz] at hv ⊢;obtain⟨fs,cs,e,h1,h2⟩:=hv;exact⟨fs,cs,e,all a _ h.1 h1,all b _ h.2 h2⟩
   | gd g d =>simp only[EG] at h;simp only[Bz] at hv ⊢;exact⟨fun e=>ih d v h (hv.1 e),hv.2⟩
   | De n =>simp only[EG] at h;simp only[Bz] at hv ⊢;obtain⟨h1,p,hp,hd⟩:=hv;exact⟨h1,p,by simp only[Ctx.only,Nl h,if_true]; exact hp,hd⟩
   | Ky n o m =>simp only[EG] at h;simp only[Bz] at hv ⊢;obtain⟨h1,p,hp,hd⟩:=hv;exact⟨h1,p,by simp only[Ctx.only,Nl h,if_true]; exact hp,hd⟩
   | ptr n i j =>simp only[EG] at h;simp only[Bz] at hv ⊢;obtain⟨h1,p,hp,hd⟩:=hv;exact⟨h1,p,by simp only[Ctx.only,Nl h,if_true]; exact hp,hd⟩
   | Bh g k l=>cases g<;>(simp only[Bz] at hv ⊢; exact hv)
   | C3 g k l=>cases g<;>(simp only[Bz] at hv ⊢; exact hv)
   | undef=>simp only[Bz]
   | _=>simp only[Bz] at hv ⊢; exact hv
def U9(n:Nat):List (Nat × Nat × Nat × OB)->Option (Nat × Nat × Nat × OB)
 | []=>xN
 | x::xs=>if x.2.2.1=n then xM x else U9 n xs
theorem RQ{n:Nat}:∀{l:List (Nat × Nat × Nat × OB)} {x},U9 n l=xM x->x∈l/\x.2.2.1=n
 | [],x,h=>by cases h
 | y::l,x,h=>by
   simp only[U9] at h;split at h
   ·cases h; exact⟨AU,‹_›⟩
   ·exact⟨AJ _ (RQ h).1,(RQ h).2⟩
theorem QV:∀{l:List (Nat × Nat × Nat × OB)} {x},(l.map (·.2.2.1)).Nodup->x∈l->U9 x.2.2.1 l=xM x
 | [],x,_,h=>by cases h
 | y::l,x,hn,h=>by
   simp only[yq,xF] at hn;simp only[U9];rcases zL.1 h with rfl | h
   ·rw[Az rfl]
   ·rw[Ay (fun e=>hn.1 (by rw[e]; exact zu.2 ⟨x,h,rfl⟩))];exact QV hn.2 h
theorem PK{b j nm:Nat}:∀{l:List (Nat × Nat × Nat × OB)},Jy b j l=xM nm->∃ob,(b,j,nm,ob)∈l
 | [],h=>by cases h
 | (b',j',nm',ob)::l,h=>by
   simp only[Jy] at h;cases hb:(zj b b'&&zj j j') with
   | true =>rw[hb] at h;simp only[Aa,Ae] at h;simp only[Am] at hb;have e1:=Au hb.1;have e2:=Au hb.2;subst e1 e2 h;exact⟨ob,AU⟩
   | false =>rw[hb] at h;obtain⟨ob',h'⟩:=PK h;exact⟨ob',AJ _ h'⟩
theorem TV{st:St}:∀{l:List (Nat × Nat × Nat × OB)} {h:DB} {ns:List Nat},TW st l=xM (h,ns)->(l.map (·.2.2.1)).Nodup->ns.Nodup ->
 (∀x∈l,∃s ob,X1 st x=xM (s,ob)/\look h x.2.2.1=xM (wy,ob)/\∀n,s=xM n->n∈ns) /\
 (∀n fo,look h n=xM fo->∃x∈l,x.2.2.1=n) /\
 (∀x∈l,∀y∈l,∀n ob ob',X1 st x=xM (xM n,ob)->X1 st y=xM (xM n,ob')->x=y)
 | [],h,ns,hs,_,_=>by simp only[TW,Ae,Ak] at hs;obtain⟨rfl,rfl⟩:=hs;exact⟨fun x hx=>(by cases hx),fun n fo hl=>(by cases hl),fun x hx=>(by cases hx)⟩
 | x::l,h,ns,hs,hn,hns=>by
   simp only[TW] at hs;cases ho:X1 st x with
   | none=>simp[ho] at hs
   | some r =>
     obtain⟨s,ob⟩:=r;cases hl:TW st l with
     | none=>simp[ho,hl] at hs
     | some r =>
       obtain⟨h',ns'⟩:=r;simp only[ho,hl,Ae,Ak] at hs;obtain⟨rfl,rfl⟩:=hs;simp only[yq,xF] at hn;rw[List.nodup_append] at hns;obtain⟨i1,i2,i3⟩:=TV hl hn.2 hns.2.1;have hx:∀y∈l,x.2.2.1≠y.2.2.1:=fun y hy e=>hn.1 (by rw[e]; exact zu.2 ⟨y,hy,rfl⟩)
       have cross:∀y∈l,∀n ob ob',X1 st x=xM (xM n,ob)->X1 st y=xM (xM n,ob')->False:=by intro y hy n o1 o2 h1 h2;rw[ho] at h1; cases h1;obtain⟨s',ob',h3,_,h4⟩:=i1 y hy;rw[h2] at h3; cases h3;exact hns.2.2 n (by simp) n (h4 n rfl) rfl
       refine⟨fun y hy=>?_,fun n fo hl'=>?_,fun y hy z hz n o1 o2 h1 h2=>?_⟩
       ·rcases zL.1 hy with rfl | hy
        ·exact⟨s,ob,ho,by simp[look],fun n e=>by rw[e]; simp⟩
        ·obtain⟨s',ob',h1,h2,h3⟩:=i1 y hy;refine⟨s',ob',h1,?_,fun n e=>zQ.2 (.inr (h3 n e))⟩;simp only[look,show(x.2.2.1==y.2.2.1)=wy by simpa using hx y hy,Af];exact h2
       ·simp only[look] at hl';by_cases e:x.2.2.1=n
        ·exact⟨x,AU,e⟩
        ·rw[show(x.2.2.1==n)=wy by simpa using e] at hl';obtain⟨y,hy,hyn⟩:=i2 n fo hl';exact⟨y,AJ _ hy,hyn⟩
       ·rcases zL.1 hy with e1 | hy2
        ·rcases zL.1 hz with e2 | hz2
         ·rw[e1,e2]
         ·exact(cross z hz2 n o1 o2 (e1 ▸ h1) h2).elim
        ·rcases zL.1 hz with e2 | hz2
         ·exact(cross y hy2 n o2 o1 (e2 ▸ h2) h1).elim
         ·exact i3 y hy2 z hz2 n o1 o2 h1 h2
theorem S8{st:St}{H:BH}:∀{bs:List Nat} {h:DB},Qa st H bs=xM h->bs.Nodup ->
 (∀b∈bs,∃f cs,look st.heap b=xM (f,.box cs)/\OG H.BW H.Cf (b+1) 0 cs=wg/\look h b=xM (f,.box (PY H.BW (b+1) 0 cs)))/\(∀n fo,look h n=xM fo->n∈bs)
 | [],h,hs,_=>by simp only[Qa,Ae] at hs;subst hs;exact⟨fun x hx=>(by cases hx),fun n fo hl=>(by cases hl)⟩
 | b::bs,h,hs,hn=>by
   simp only[Qa] at hs;split at hs
   ·rename_i f cs hl;cases hc:OG H.BW H.Cf (b+1) 0 cs with
    | false=>rw[hc] at hs; cases hs
    | true =>
      rw[hc,Aa] at hs;cases hb:Qa st H bs with
      | none=>rw[hb] at hs; cases hs
      | some h' =>
        rw[hb] at hs;simp only[Ae] at hs;subst hs;simp only[xF] at hn;obtain⟨i1,i2⟩:=S8 hb hn.2;refine⟨fun c hc'=>?_,fun n fo hl'=>?_⟩
        ·rcases zL.1 hc' with rfl | hc'
         ·exact⟨f,cs,hl,hc,by simp[look]⟩
         ·obtain⟨f',cs',h1,h2,h3⟩:=i1 c hc';refine⟨f',cs',h1,h2,?_⟩;have:b≠c:=fun e=>hn.1 (e ▸ hc')
          simp only[look,show(b==c)=wy by simpa using this,Af];exact h3
        ·simp only[look] at hl';by_cases e:b=n
         ·rw[e]; exact AU
         ·rw[show(b==n)=wy by simpa using e] at hl';exact AJ _ (i2 n fo hl')
   ·cases hs
theorem V8{H:BH}:∀(l:List DV) (k i:Nat),i<l.length->(Ts H k l).getD i .undef=(match Jy 0 (k+i) H.BW with | some nm=>.De nm | none=>bif K7 (k+i) H.CH then l.getD i .undef else .undef)
 | [],k,i,h=>by simp at h
 | d::l,k,i,h=>by
   cases i with
   | zero =>simp only[Ts,List.getD_cons_zero,AM];cases Jy 0 k H.BW<;>rfl
   | succ i =>have:=V8 (H:=H) l (k+1) i (by simpa using h);simp only[Ts,xX,this];rw[show k+1+i=k+(i+1) by omega]
theorem MH{H:BH}:∀(l:List DV) (k:Nat),(Ts H k l).length=l.length
 | [],k=>rfl
 | d::l,k=>by simp[Ts,MH l]
theorem TR{H:BH}:∀{l:List DV} {k i:Nat},TT H k l=wg->i<l.length->Jy 0 (k+i) H.BW=xN->K7 (k+i) H.CH=wg->EG 8 H.Cf (l.getD i .undef)=wg
 | [],k,i,_,h,_,_=>by simp at h
 | d::l,k,i,h,hi,h1,h2=>by
   simp only[TT,Am,zN,yK] at h;cases i with
   | zero =>
     rcases h.1 with h | h | h
     ·rw[AM] at h1; rw[h1] at h; cases h
     ·rw[AM] at h2; rw[h2] at h; cases h
     ·exact h
   | succ i =>rw[xX];exact TR (k:=k+1) h.2 (by simpa using hi) (by rw[show k+1+i=k+(i+1) by omega]; exact h1) (by rw[show k+1+i=k+(i+1) by omega]; exact h2)
theorem UQ{c c':Ctx}{w:World}{BW:List (Nat × Nat × Nat × OB)}{Cf:List Nat}{b:Nat}:
 ∀(l:List DV) (vs:List Value) (k:Nat),OG BW Cf b k l=wg->BN c w l vs ->
 (∀d v,EG 8 Cf d=wg->Bz c w d v->Bz c' w d v)->(∀i nm d v,l[i]?=xM d->Jy b (k+i) BW=xM nm->Bz c w d v->Bz c' w (.De nm) v)->BN c' w (PY BW b k l) vs
 | [],vs,k,_,h,_,_=>by rw[BN.FU] at h; subst h; simp[PY,BN]
 | d::l,vs,k,hok,h,h1,h2=>by
   simp only[OG,Am,zN] at hok;rw[BN.CS] at h;obtain⟨u,us,rfl,hu,hus⟩:=h;simp only[PY];rw[BN.CS];refine⟨u,us,rfl,?_,UQ l us (k+1) hok.2 hus h1 fun i nm e v hi hn=>h2 (i+1) nm e v hi (by rw[show k+(i+1)=k+1+i by omega]; exact hn)⟩;cases hn:Jy b k BW with
   | some nm=>exact h2 0 nm d u rfl hn hu
   | none =>rw[hn] at hok;exact h1 d u (hok.1.resolve_left (by simp)) hu
def AlM:OB->Nat
 | .C3 _ sz _=>sz
 | _=>1
def IY(ob:OB):Place:=⟨.live,.row (.slice xN 0 0) (AlM ob)⟩
open Classical in
def M6(st:St)(H:BH)(A:Nat->Option Place)(n:Nat):Option Place:=
 if n∈H.Cf then A n else
 match U9 n H.BW with
 | some x=>match Qm st x with
   | .nil=>xM (IY x.2.2.2)
   | .De m=>A m
   | _=>xN
 | none=>xN
theorem Jz{st:St}{H:BH}{A:Nat->Option Place}{n:Nat}{p:Place}(h:M6 st H A n=xM p):
 (n∈H.Cf/\A n=xM p)\/(n ∉ H.Cf/\∃x∈H.BW,x.2.2.1=n/\((Qm st x=.nil/\p=IY x.2.2.2)\/∃m,Qm st x=.De m/\A m=xM p)):=by
 unfold M6 at h;by_cases hb:n∈H.Cf
 ·rw[Az hb] at h; exact .inl ⟨hb,h⟩
 ·rw[Ay hb] at h;refine .inr ⟨hb,?_⟩;cases hf:U9 n H.BW with
  | none=>rw[hf] at h; cases h
  | some x =>
    rw[hf] at h;obtain⟨hx,hn⟩:=RQ hf;refine⟨x,hx,hn,?_⟩;simp only at h;split at h
    ·rename_i e; cases h; exact .inl ⟨e,rfl⟩
    ·rename_i m e; exact .inr ⟨m,e,h⟩
    ·cases h
theorem NX{st:St}{x:Nat × Nat × Nat × OB}{s:Option Nat}{ob:OB}(h:X1 st x=xM (s,ob)):
 (Qm st x=.nil/\s=xN/\ob=x.2.2.2/\((∃e k,ob=.Bh e k [])\/∃e sz,0<sz/\ob=.C3 e sz [])) \/
 (∃m,Qm st x=.De m/\s=xM m/\look st.heap m=xM (wy,ob)/\((∃e k l,ob=.Bh e k l)\/∃e sz l,ob=.C3 e sz l)):=by
 unfold X1 at h;split at h
 ·rename_i hs;left;split at h
  ·rename_i e k hx;simp only[Ae,Ak] at h;exact⟨hs,h.1.symm,by rw[hx]; exact h.2.symm,.inl ⟨e,k,h.2.symm⟩⟩
  ·rename_i e sz hx;cases hb:yQ 0 sz with
   | false=>rw[hb] at h; cases h
   | true =>rw[hb] at h;simp only[Aa,Ae,Ak] at h;exact⟨hs,h.1.symm,by rw[hx]; exact h.2.symm,.inr ⟨e,sz,by simpa[Nat.blt_eq] using hb,h.2.symm⟩⟩
  ·cases h
 ·rename_i m hs;right;split at h
  ·rename_i e k l hl;simp only[Ae,Ak] at h;exact⟨m,hs,h.1.symm,by rw[hl,h.2],.inl ⟨e,k,l,h.2.symm⟩⟩
  ·rename_i e sz l hl;simp only[Ae,Ak] at h;exact⟨m,hs,h.1.symm,by rw[hl,h.2],.inr ⟨e,sz,l,h.2.symm⟩⟩
  ·cases h
 ·cases h
section
variable{E:Env}{S:Vx E}{I0:Nat->Prop}{B:Nat}{w0:World}
theorem Afg{H:BH}{st st1:St}(h:AbI (xM H) st=xM st1){a:Act}{w:World}(hh:Fi S I0 B w0 st a w):Fi S I0 B w0 st1 a w:=by
 obtain⟨A,hA⟩:=hh;simp only[AbI] at h;cases hbd:Qa st H H.Cf with
 | none=>rw[hbd] at h; cases h
 | some hb =>
 cases hod:TW st H.BW with
 | none=>rw[hbd,hod] at h; cases h
 | some r =>
 obtain⟨ho,ns⟩:=r;rw[hbd,hod] at h;simp only at h;cases hc:(Kf (H.Cf++H.BW.map (·.2.2.1))&&Kf ns&&TT H 0 st.tmps) with
 | false=>rw[hc] at h; cases h
 | true =>
 rw[hc,Aa,Ae] at h;subst h;simp only[Am] at hc;obtain⟨⟨hn,hns⟩,hok⟩:=hc;have hnd:=II hn;rw[List.nodup_append] at hnd;obtain⟨hnb,hno,hdis⟩:=hnd;obtain⟨o1,o2,o3⟩:=TV hod hno (II hns);obtain⟨b1,b2⟩:=S8 hbd hnb;have hnin:∀x∈H.BW,x.2.2.1 ∉ H.Cf:=fun x hx e=>hdis _ e _ (zu.2 ⟨x,hx,rfl⟩) rfl
 have hat:∀x∈H.BW,M6 st H A x.2.2.1=match Qm st x with | .nil=>xM (IY x.2.2.2) | .De m=>A m | _=>xN:=by intro x hx;unfold M6;rw[Ay (hnin x hx),QV hno hx]
 have hokc:∀b,(Cd I0 B A w).ok b->(Cd I0 B (M6 st H A) w).ok b:=by
  rintro b ⟨h1,h2,h3⟩
  refine⟨h1,h2,fun n p hp hl=>?_⟩;rcases Jz hp with ⟨_,hp⟩ | ⟨_,x,_,_,⟨_,rfl⟩ | ⟨m,_,hp⟩⟩
  ·exact h3 n p hp hl
  ·simp[IY,Place.FK,Value.ownBlock]
  ·exact h3 m p hp hl
 have hrefs:∀d v,EG 8 H.Cf d=wg->Bz (Cd I0 B A w) w d v->Bz (Cd I0 B (M6 st H A) w) w d v:=by
  intro d v hd hv
  have hl:JZ ((Cd I0 B A w).only H.Cf) w (Cd I0 B (M6 st H A) w) w:=by
   refine⟨hokc,rfl,rfl,fun _ _ h=>(by cases h),fun n p hp=>?_,fun _ _ _=>rfl,fun _ _ h=>(by cases h)⟩;simp only[Ctx.only] at hp;split at hp
   ·rename_i hnb';refine⟨p,?_,?_⟩
    ·show M6 st H A n=xM p;unfold M6;rw[Az hnb']; exact hp
    ·by_cases hpd:p.st=.dead
     ·exact .inl hpd
     ·exact .inr ⟨hpd,rfl⟩
   ·cases hp
  exact Bz.D4 hl d v (Xx H.Cf 8 d v hd hv)
 have hbare:∀l rows,Dp (Cd I0 B A w).bare w l rows->Dp (Cd I0 B (M6 st H A) w).bare w l rows:=fun l rows =>
  Dp.D4 (c:=(Cd I0 B A w).bare) (c':=(Cd I0 B (M6 st H A) w).bare) (w:=w) (w':=w) ⟨hokc,rfl,rfl,fun _ _ h=>(by cases h),fun _ _ h=>(by cases h),fun _ _ _=>rfl,fun _ _ h=>(by cases h)⟩ l rows
 have hnamed:∀x∈H.BW,∀v,Bz (Cd I0 B A w) w (Qm st x) v->Bz (Cd I0 B (M6 st H A) w) w (.De x.2.2.1) v:=by
  intro x hx v hv;obtain⟨s,ob,h1,_,_⟩:=o1 x hx;have hax:=hat x hx;rcases NX h1 with ⟨e,_⟩ | ⟨m,e,_⟩
  ·rw[e] at hv hax;simp only[Bz] at hv ⊢;subst hv;exact⟨rfl,_,hax,.inr ⟨_,rfl⟩⟩
  ·rw[e] at hv hax;simp only[Bz] at hv ⊢;obtain⟨h1,p,hp,hd⟩:=hv;exact⟨h1,p,hax.trans hp,hd⟩
 refine⟨M6 st H A,hA.defers,hA.size.trans (MH _ _).symm,hA.below,hA.hB,hA.Rp,fun n p hp=>?_,fun n p b hp hd hpb=>?_,fun n m p q b hp hq hpd hqd hpb hqb=>?_,fun t=>?_,fun b hb=>⟨(hA.kept b hb).1,(hA.kept b hb).2.1,fun n p hp hl hbk=>by
  rcases Jz hp with ⟨_,hp⟩ | ⟨_,x,_,_,⟨_,rfl⟩ | ⟨m,_,hp⟩⟩
  ·exact(hA.kept b hb).2.2 n p hp hl hbk
  ·simp[IY,Place.FK,Value.ownBlock] at hbk
  ·exact(hA.kept b hb).2.2 m p hp hl hbk⟩,hA.pin⟩
 ·rcases Jz hp with ⟨hnb',hp⟩ | ⟨hnb',x,hx,rfl,hsrc⟩
  ·obtain⟨f,cs,h1,h2,h3⟩:=b1 n hnb';obtain⟨fo,h4,h5⟩:=hA.obj n p hp;rw[h1] at h4; cases h4;refine⟨(f,.box (PY H.BW (n+1) 0 cs)),by rw[LM,h3],?_⟩;obtain⟨hst,b,e,cells,hk,hh,hl⟩:=h5;refine⟨hst,b,e,cells,hk,hh,UQ cs _ 0 h2 hl hrefs fun i nm d v hi hnm hv=>?_⟩;obtain⟨ob,hx⟩:=PK hnm;refine hnamed _ hx v ?_
   have:Qm st (n+1,0+i,nm,ob)=d:=by simp[Qm,h1,Al,hi]
   rw[this]; exact hv
  ·obtain⟨s,ob,h1,h2,_⟩:=o1 x hx
   have hl:look (hb++ho) x.2.2.1=xM (wy,ob):=by
    rw[LM];cases hq:look hb x.2.2.1 with
    | none=>exact h2
    | some fo=>exact absurd (b2 _ _ hq) hnb'
   refine⟨_,hl,?_⟩;rcases NX h1 with ⟨e,_,e2,hob⟩ | ⟨m,e,_,hlm,hob⟩
   ·rcases hsrc with ⟨_,rfl⟩ | ⟨m,e',_⟩
    ·rw[<- e2];rcases hob with ⟨e,k,rfl⟩ | ⟨e,sz,hsz,rfl⟩
     ·exact⟨rfl,_,rfl,World.ownsRow_nil w B e 1⟩
     ·exact⟨rfl,hsz,_,[],rfl,by simp[Dp],fun r hr=>(by cases hr),World.ownsRow_nil w B e sz⟩
    ·rw[e] at e'; cases e'
   ·rcases hsrc with ⟨e',_⟩ | ⟨m',e',hp'⟩
    ·rw[e] at e'; cases e'
    ·rw[e] at e'; cases e';obtain⟨fo,h4,h5⟩:=hA.obj m p hp';rw[hlm] at h4; cases h4;rcases hob with ⟨e,k,l,rfl⟩ | ⟨e,sz,l,rfl⟩
     ·exact h5
     ·obtain⟨i1,i2,sv,rows,i3,i4,i5,i6⟩:=h5;exact⟨i1,i2,sv,rows,i3,hbare _ _ i4,i5,i6⟩
 ·rcases Jz hp with ⟨_,hp⟩ | ⟨_,x,hx,rfl,⟨_,rfl⟩ | ⟨m,_,hp⟩⟩
  ·exact hA.GF n p b hp hd hpb
  ·simp[IY,Place.FK,Value.ownBlock] at hpb
  ·exact hA.GF m p b hp hd hpb
 ·have isBox:∀n p,n∈H.Cf->A n=xM p->∃b,p.kind=.box b:=by intro n p hnb' hp;obtain⟨f,cs,h1,_,_⟩:=b1 n hnb';obtain⟨fo,h4,h5⟩:=hA.obj n p hp;rw[h1] at h4; cases h4;obtain⟨_,b,_,_,hk,_⟩:=h5;exact⟨b,hk⟩
  have isRow:∀x∈H.BW,∀m p,Qm st x=.De m->A m=xM p->∃sv sz,p.kind=.row sv sz:=by
   intro x hx m p e hp;obtain⟨s,ob,h1,_,_⟩:=o1 x hx;rcases NX h1 with ⟨e',_⟩ | ⟨m',e',_,hlm,hob⟩
   ·rw[e] at e'; cases e'
   ·rw[e] at e'; cases e';obtain⟨fo,h4,h5⟩:=hA.obj m p hp;rw[hlm] at h4; cases h4;rcases hob with ⟨e,k,l,rfl⟩ | ⟨e,sz,l,rfl⟩
    ·obtain⟨_,sv,hk,_⟩:=h5; exact⟨sv,1,hk⟩
    ·obtain⟨_,_,sv,_,hk,_⟩:=h5; exact⟨sv,sz,hk⟩
  have same:∀m m':Nat,∀p q:Place,A m=xM p->A m'=xM q->p.st≠.dead->q.st≠.dead->p.FK=xM b->q.FK=xM b->m=m':=fun m m' p q h1 h2 h3 h4 h5 h6=>hA.inj m m' p q b h1 h2 h3 h4 h5 h6
  rcases Jz hp with ⟨hnb',hp⟩ | ⟨_,x,hx,rfl,⟨_,rfl⟩ | ⟨i,hi,hp⟩⟩
  ·rcases Jz hq with ⟨_,hq⟩ | ⟨_,y,hy,rfl,⟨_,rfl⟩ | ⟨j,hj,hq⟩⟩
   ·exact same n m p q hp hq hpd hqd hpb hqb
   ·simp[IY,Place.FK,Value.ownBlock] at hqb
   ·have e:=same n j p q hp hq hpd hqd hpb hqb;subst e;rw[hp] at hq; cases hq;obtain⟨b',hk⟩:=isBox n p hnb' hp;obtain⟨sv,sz,hk'⟩:=isRow y hy n p hj hp;rw[hk] at hk'; cases hk'
  ·simp[IY,Place.FK,Value.ownBlock] at hpb
  ·rcases Jz hq with ⟨hmb,hq⟩ | ⟨_,y,hy,rfl,⟨_,rfl⟩ | ⟨j,hj,hq⟩⟩
   ·have e:=same i m p q hp hq hpd hqd hpb hqb;subst e;rw[hp] at hq; cases hq;obtain⟨b',hk⟩:=isBox i p hmb hp;obtain⟨sv,sz,hk'⟩:=isRow x hx i p hi hp;rw[hk] at hk'; cases hk'
   ·simp[IY,Place.FK,Value.ownBlock] at hqb
   ·have e:=same i j p q hp hq hpd hqd hpb hqb;subst e;obtain⟨s,ob,h1,_,_⟩:=o1 x hx;obtain⟨s',ob',h1',_,_⟩:=o1 y hy
    have hs:s=xM i:=by
     rcases NX h1 with ⟨e',_⟩ | ⟨m',e',e2,_⟩
     ·rw[hi] at e'; cases e'
     ·rw[hi] at e'; cases e'; exact e2
    have hs':s'=xM i:=by
     rcases NX h1' with ⟨e',_⟩ | ⟨m',e',e2,_⟩
     ·rw[hj] at e'; cases e'
     ·rw[hj] at e'; cases e'; exact e2
    subst hs hs';rw[o3 x hx y hy i ob ob' h1 h1']
 ·rcases AA t st.tmps.length with hlt | hge
  ·rw[V8 st.tmps 0 t hlt];cases hnm:Jy 0 (0+t) H.BW with
   | some nm =>
     obtain⟨ob,hx⟩:=PK hnm;refine hnamed _ hx _ ?_;have:Qm st (0,0+t,nm,ob)=st.tmps.getD t .undef:=by simp[Qm]
     rw[this]; exact hA.tmps t
   | none =>
     simp only;cases hk:K7 (0+t) H.CH with
     | true=>exact hrefs _ _ (TR hok hlt hnm hk) (hA.tmps t)
     | false=>simp only[Af,Bz]
  ·rw[Al,AY (by rw[MH]; exact hge)];simp only[Option.getD_none,Bz]
theorem AiW{st:St}{a:Act}{w:World}(hh:Fi S I0 B w0 st a w):Fi S I0 B w0 (Aaw st) a w:=by
 obtain⟨A,hA⟩:=hh;refine⟨A,hA.defers,hA.size.trans (by unfold Aaw; rw[AK]),hA.below,hA.hB,hA.Rp,hA.obj,hA.GF,hA.inj,fun t=>?_,hA.kept,hA.pin⟩;have ht:=hA.tmps t
 have e:(Aaw st).tmps.getD t .undef=AfQ st.heap (st.tmps.getD t .undef):=by
  unfold Aaw;rw[Al,Al,AW];cases st.tmps[t]? with
  | none=>rfl
  | some d=>rfl
 rw[e];generalize st.tmps.getD t .undef=d at ht;cases d with
 | De n =>
   have e2:AfQ st.heap (.De n)=(match look st.heap n with
    | some (true,.Bh _ k l)=>.Bh .BF k l
    | some (true,.C3 _ sz l)=>.C3 .BF sz l
    | _=>.De n):=rfl
   rw[e2];have hm:Mem I0 B A st.heap w:=hA.mem fun n p fo hn hl=>hl
   have seen:∀p,A n=xM p->p.st=.frozen->∀b,p.FK=xM b->(Cd I0 B A w).FK .BF b:=fun p hp hf b hb=>by obtain⟨h1,h2⟩:=hA.GF n p b hp (by rw[hf]; simp) hb;refine⟨⟨h2,.inr h1,fun m q hq hl hqb=>?_⟩,rfl,h1⟩;have:=hA.inj n m p q b hp hq (by rw[hf]; simp) (by rw[hl]; simp) hb hqb;subst this;rw[hp] at hq; cases hq;rw[hf] at hl; cases hl
   have hv:=ht;simp only[Bz] at hv;obtain⟨hone,p,hp,hd⟩:=hv;split
   ·rename_i e k l hl;obtain⟨hst,sv,hk,ho⟩:=Ej hm hp hl;have hst':p.st=.frozen:=hst;obtain⟨size,hk'⟩:=hd.resolve_left (by rw[hst']; simp);rw[hk] at hk'; cases hk';have:=IG hk ho (ER ho) (ok:=(Cd I0 B A w).FK .BF) (seen p hp hst');simp only[zJ,yo] at this;simp only[Bz];exact this
   ·rename_i e sz l hl;obtain⟨hst,hsz,sv,rows,hk,hrr,hlen,ho⟩:=E9 hm hp hl;have hst':p.st=.frozen:=hst;obtain⟨size,hk'⟩:=hd.resolve_left (by rw[hst']; simp);rw[hk] at hk'; cases hk';have:=IF hk hrr hlen ho (ER ho) (ok:=(Cd I0 B A w).FK .BF) (seen p hp hst');simp only[zJ,yo] at this;simp only[Bz];exact this
   ·exact ht
 | _=>exact ht
theorem Aip{H:BH}{st st1:St}(h:canon (xM H) st=xM st1){a:Act}{w:World}(hh:Fi S I0 B w0 st a w):Fi S I0 B w0 st1 a w:=Afg (H:=AkF (Aaw st) H) h (AiW hh)
end
section
variable{P:Program}{E:Env}{S:Vx E}{I0:Nat->Prop}{B:Nat}{w0:World}
theorem Abw{CH:Option (List Nat)}{st:St}(t:Nat):(forget CH st).tmps.getD t .undef=st.tmps.getD t .undef\/(forget CH st).tmps.getD t .undef=.undef:=by
 cases CH with
 | none=>exact .inl rfl
 | some ks =>
   simp only[forget,Al,AW,List.getElem?_zipIdx];cases st.tmps[t]? with
   | none=>exact .inl rfl
   | some d =>
     simp only[z5,Ba];cases ks.contains (0+t)
     ·exact .inr rfl
     ·exact .inl rfl
theorem Vv{CH:Option (List Nat)}{st:St}:(forget CH st).tmps.length=st.tmps.length:=by cases CH<;>simp[forget]
theorem Z8{CH:Option (List Nat)}{st:St}:(forget CH st).heap=st.heap:=by cases CH<;>rfl
theorem Fi.forget{CH:Option (List Nat)}{st:St}{a:Act}{w:World}(h:Fi S I0 B w0 st a w):Fi S I0 B w0 (forget CH st) a w:=by
 obtain⟨A,h⟩:=h;refine⟨A,h.defers,h.size.trans Vv.symm,h.below,h.hB,h.Rp,by rw[Z8]; exact h.obj,h.GF,h.inj,fun t=>?_,h.kept,h.pin⟩;rcases Abw (CH:=CH) (st:=st) t with e | e
 ·rw[e]; exact h.tmps t
 ·rw[e]; simp only[Bz]
def Ai3{β:Type}{E:Env}(P:Program)(S:Vx E)(I0:Nat->Prop)(B:Nat)(w0:World)(r:β)(c:Code)(body:St->(St->Option β)->(Nat->St->Option β)->(St->Option β)->Option β):Prop:=
 ∀(st:St) (Kn:St->Option β) (Kx:Nat->St->Option β) (Kr:St->Option β),body st Kn Kx Kr=xM r->∀(a:Act) (w:World),Fi S I0 B w0 st a w->∀Q:Exit->Act->World->Prop,
  (∀st a w,Kn st=xM r->Fi S I0 B w0 st a w->Q .normal a w)->(∀id st a w,Kx id st=xM r->Fi S I0 B w0 st a w->Q (.exit id) a w) ->
  (∀st a w,Kr st=xM r->Fi S I0 B w0 st a w->Q .ret a w)->c.wp P Q a w
theorem W0{H:Option BH}{st st1:St}(hc:canon H st=xM st1){a:Act}{w:World}(hh:Fi S I0 B w0 st a w):Fi S I0 B w0 st1 a w:=by
 cases H with
 | none=>simp only[canon,Ae] at hc; subst hc; exact hh
 | some H=>exact Aip hc hh
theorem Zy{β:Type}{r:β}{c:Code}{body:St->(St->Option β)->(Nat->St->Option β)->(St->Option β)->Option β}(hb:Ai3 P S I0 B w0 r c body){H:Option BH}{Kx:Nat->St->Option β}{Kr:St->Option β}
 {Q:Exit->Act->World->Prop} (hx:∀id st a w,Kx id st=xM r->Fi S I0 B w0 st a w->Q (.exit id) a w) (hr:∀st a w,Kr st=xM r->Fi S I0 B w0 st a w->Q .ret a w):
 ∀(n:Nat) (st:St),Uz H body n st Kx Kr=xM r->∀a w,Fi S I0 B w0 st a w->Code.rounds P c Q n a w
 | 0,st,h,_,_,_=>by simp[Uz] at h
 | n+1,st,h,a,w,hh=>by
   simp only[Uz] at h;rw[rounds_succ];refine hb st _ Kx Kr h a w hh _ (fun st2 a2 w2 hk hh2=>?_) (fun id st2 a2 w2 hk hh2=>hx id st2 a2 w2 hk hh2) (fun st2 a2 w2 hk hh2=>hr st2 a2 w2 hk hh2);cases hc:canon H st2 with
   | none=>rw[hc] at hk; cases hk
   | some st3 =>rw[hc] at hk;exact Zy hb hx hr n st3 hk a2 w2 (W0 hc hh2)
theorem AjY{β:Type}{r:β}{c:Code}{body:St->(St->Option β)->(Nat->St->Option β)->(St->Option β)->Option β}(hb:Ai3 P S I0 B w0 r c body){H:Option BH}{Kx:Nat->St->Option β}{Kr:St->Option β}
 {Q:Exit->Act->World->Prop} (hx:∀id st a w,Kx id st=xM r->Fi S I0 B w0 st a w->Q (.exit id) a w) (hr:∀st a w,Kr st=xM r->Fi S I0 B w0 st a w->Q .ret a w)
 (n:Nat) (st:St) (h:iter H body n st Kx Kr=xM r) (a:Act) (w:World) (hh:Fi S I0 B w0 st a w):Code.rounds P c Q n a w:=by
 unfold iter at h;cases hc:canon H st with
 | none=>rw[hc] at h; cases h
 | some st1 =>rw[hc] at h;exact Zy hb hx hr n st1 h a w (W0 hc hh)
theorem Om{β:Type}(he:Ix P E)(fuel:Nat)(r:β):∀(c:Code) (b:Nat),Ai3 P S I0 B w0 r c (den E fuel b c)
 | .skip,b=>fun st Kn Kx Kr h a w hh Q hn hx hr=>by simp only[den] at h;exact wp_skip (hn st a w h hh)
 | .label l,b=>fun st Kn Kx Kr h a w hh Q hn hx hr=>by simp only[den] at h;exact wp_label (hn st a w h hh)
 | .region id ops draw,b=>fun st Kn Kx Kr h a w hh Q hn hx hr=>by
   simp only[den] at h
   have reg:∀st,YU E ops draw Kn st=xM r->Fi S I0 B w0 st a w->(Code.region id ops draw).wp P Q a w:=by
    intro st h hh;cases draw with
    | true=>exact AhY he h hh hn
    | false =>simp only[YU,Af] at h;have:=Ac3 he ops.toList 0 _ (fun j=>by simp) h a w hh hn;rw[z7,<- List.range_eq_range'] at this;exact wp_region this
   cases hl:E.live id with
   | none=>rw[hl] at h; exact reg st h hh
   | some ks =>rw[hl] at h;simp only[VD] at h;exact reg _ h hh.forget
 | .seq x y,b=>fun st Kn Kx Kr h a w hh Q hn hx hr=>by simp only[den] at h;refine wp_seq (Om he fuel r x b st _ Kx Kr h a w hh _ (fun st' a' w' hk hh'=>?_) (fun id st' a' w' hk hh'=>hx id st' a' w' hk hh') (fun st' a' w' hk hh'=>hr st' a' w' hk hh'));exact Om he fuel r y b st' Kn Kx Kr hk a' w' hh' Q hn hx hr
 | .cond c x y,b=>fun st Kn Kx Kr h a w hh Q hn hx hr=>by
   simp only[den] at h;cases hv:Gp st.tmps c with
   | bool t =>
     rw[hv] at h;simp only at h
     have hev:a.eval c=.bool t:=by
      obtain⟨A,hA⟩:=hh
      have:Bz (Cd I0 B A w) w (Gp st.tmps c) (a.eval c):=by
       cases c with
       | tmp t=>exact hA.tmps t
       | const v=>exact Wy v
       | global g=>simp only[Gp,Bz]
       | func f=>simp[Gp] at hv
      rw[hv] at this;simpa only[Bz] using this
     refine wp_cond hev ?_;cases t with
     | true=>exact Om he fuel r x b st Kn Kx Kr h a w hh Q hn hx hr
     | false=>exact Om he fuel r y b st Kn Kx Kr h a w hh Q hn hx hr
   | _=>rw[hv] at h; cases h
 | .block id c,b=>fun st Kn Kx Kr h a w hh Q hn hx hr=>by
   simp only[den] at h;refine wp_block (Om he fuel r c id st Kn _ Kr h a w hh _ (fun st' a' w' hk hh'=>hn st' a' w' hk hh') (fun id' st' a' w' hk hh'=>?_) (fun st' a' w' hk hh'=>hr st' a' w' hk hh'));simp only[Exit.inBlock];by_cases e:id'=id
   ·rw[Az e];rw[show(id'==id)=wg by simpa using e] at hk;exact hn st' a' w' hk hh'
   ·rw[Ay e];rw[show(id'==id)=wy by simpa using e] at hk;exact hx id' st' a' w' hk hh'
 | .loop c,b=>fun st Kn Kx Kr h a w hh Q hn hx hr=>by simp only[den] at h;exact wp_loop_rounds fuel (AjY (Om he fuel r c b) hx hr fuel st h a w hh)
 | .scope c,b=>fun st Kn Kx Kr h a w hh Q hn hx hr=>by simp only[den] at h;exact wp_scope_straight (Om he fuel r c b st Kn Kx Kr h a w hh _ (fun st' a' w' hk hh'=>hn st' a' w' hk hh') (fun id st' a' w' hk hh'=>hx id st' a' w' hk hh') (fun st' a' w' hk hh'=>hr st' a' w' hk hh'))
 | .exit id,b=>fun st Kn Kx Kr h a w hh Q hn hx hr=>by simp only[den] at h;exact wp_exit (hx id st a w h hh)
 | .ret,b=>fun st Kn Kx Kr h a w hh Q hn hx hr=>by simp only[den] at h;exact wp_ret (hr st a w h hh)
 | .rangeFunc ..,b=>fun st Kn Kx Kr h=>by simp[den] at h
 | .goto l,b=>fun st Kn Kx Kr h=>by simp[den] at h
 | .refuse s,b=>fun st Kn Kx Kr h=>by simp[den] at h
end
def AgB:List Value->Value
 | [v]=>v
 | vs=>.tuple vs.toArray
def R6(tmps:Array Value):ResultVar->Sem Value
 | .tmp t=>pure (tmps.getD t undef)
 | .cell a t=>do loadVar t (<- asAddr (tmps.getD a undef))
section
variable{P:Program}{E:Env}{S:Vx E}{I0:Nat->Prop}{B:Nat}{w0:World}{A:Nat->Option Place}
theorem AaF{t:TypeId}{va v:Value}{w:World}(h:(Instr.loadAt t va).run P w=.ok v w):(do loadVar t (<- asAddr va):Sem Value).run P w=.ok v w:=by
 unfold Instr.loadAt at h;cases va with
 | pointer a =>
   cases a with
   | none=>simp[Instr.sureAddr] at h
   | some a =>simp only[Instr.sureAddr,asAddr] at h ⊢;exact h
 | _=>simp[Instr.sureAddr] at h
theorem AdX(hty:∀t ti,E.ty t=xM ti->CJ P t ti){st:St}{a:Act}{w:World}(hA:I8 S I0 B w0 A (look st.heap) (fun t=>st.tmps.getD t .undef) st.tmps.length a w)
 {r:ResultVar} {d:DV} (h1:TD E st r=xM d):∃v,Bz (Cd I0 B A w) w d v/\(R6 a.tmps r).run P w=.ok v w:=by
 cases r with
 | tmp t =>simp only[TD,Ae] at h1;subst h1;exact⟨_,hA.tmps t,by simp[R6]⟩
 | cell x t =>
   simp only[TD] at h1;cases hT:E.ty t with
   | none=>simp[hT] at h1
   | some ti =>
     rw[hT,Aj] at h1;cases hl:Wf st.heap ti (st.tmps.getD x .undef) with
     | none=>rw[hl] at h1; cases h1
     | some q =>
       rw[hl,Aj] at h1;cases hq:q.OE with
       | false=>rw[hq] at h1; cases h1
       | true =>
         rw[hq,Aa,Ae] at h1;subst h1;have hm:Mem I0 B A st.heap w:=hA.mem fun n p fo _ hl=>hl
         obtain⟨v,hr,hv⟩:=Zm hm (hty _ _ hT) (hA.tmps x) hl hq;exact⟨v,hv,AaF hr⟩
theorem VM(hty:∀t ti,E.ty t=xM ti->CJ P t ti){st:St}{a:Act}{w:World}(hA:I8 S I0 B w0 A (look st.heap) (fun t=>st.tmps.getD t .undef) st.tmps.length a w):
 ∀(rs:List ResultVar) (ds:List DV),PE E st rs=xM ds->∃vs:List Value,BN (Cd I0 B A w) w ds vs/\(rs.mapM (R6 a.tmps)).run P w=.ok vs w
 | [],ds,h=>by simp only[PE,Ae] at h; subst h;exact⟨[],by simp[BN],rfl⟩
 | r::rs,ds,h=>by
   simp only[PE] at h;cases h1:TD E st r with
   | none=>simp[h1] at h
   | some d =>
     cases h2:PE E st rs with
     | none=>simp[h1,h2] at h
     | some ds' =>simp only[h1,h2,Aj,Ae] at h;subst h;obtain⟨vs,i1,i2⟩:=VM hty hA rs ds' h2;obtain⟨v,hv,hr⟩:=AdX hty hA h1;refine⟨v::vs,by rw[BN.CS]; exact⟨v,vs,rfl,hv,i1⟩,?_⟩;simp only[List.mapM_cons,Sem.run_bind,hr,Result.andThen_ok,i2,Sem.run_pure]
theorem YP{fn:Func}{tmps:Array Value}{w:World}{vs:List Value}(h:(fn.results.toList.mapM (R6 tmps)).run P w=.ok vs w):
 (results fn tmps).run P w=.ok (AgB vs) w:=by
 have h':(fn.results.mapM (R6 tmps)).run P w=.ok vs.toArray w:=by rw[Array.mapM_eq_mapM_toList];simp only[Sem.run_map,h,Result.andThen_ok]
 have e:results fn tmps=(do let vs<-fn.results.mapM (R6 tmps); pure (if h:vs.size=1 then vs[0] else .tuple vs)):=by unfold results;congr 2
 rw[e];simp only[Sem.run_bind,h',Result.andThen_ok,Sem.run_pure];congr 1
 match vs with
 | []=>rfl
 | [v]=>rfl
 | v::u::us=>simp[AgB]
def KZ(h:DB)(f:Nat)(l:List DV):Option (List DV × List Nat × List Nat) :=l.foldr (fun d acc=>(FQ h f d).bind fun(x,ns,os)=>acc.bind fun(xs,ms,ps)=>xM (x::xs,ns++ms,os++ps)) (xM ([],[],[]))
theorem R9{h:DB}{f:Nat}{d:DV}{l:List DV}{r:List DV × List Nat × List Nat}(hh:KZ h f (d::l)=xM r):
 ∃x ns os xs ms ps,FQ h f d=xM (x,ns,os)/\KZ h f l=xM (xs,ms,ps)/\r=(x::xs,ns++ms,os++ps):=by
 have e:KZ h f (d::l)=(FQ h f d).bind fun(x,ns,os)=>(KZ h f l).bind fun(xs,ms,ps)=>xM (x::xs,ns++ms,os++ps):=rfl
 rw[e] at hh;cases h1:FQ h f d with
 | none=>simp[h1] at hh
 | some a =>
   obtain⟨x,ns,os⟩:=a;cases h2:KZ h f l with
   | none=>simp[h1,h2] at hh
   | some b =>obtain⟨xs,ms,ps⟩:=b;simp only[h1,h2,Aj,Ae] at hh;exact⟨x,ns,os,xs,ms,ps,rfl,rfl,hh.symm⟩
def JK(A:Nat->Option Place)(OS:List Nat)(i:Nat):Option Nat:=
 if i∈OS then match A i with
  | some p=>if p.st=.live then p.FK else xN
  | none=>xN
 else xN
theorem Ms{OS:List Nat}{i b:Nat}(h:JK A OS i=xM b):i∈OS/\∃p,A i=xM p/\p.st=.live/\p.FK=xM b:=by
 unfold JK at h;split at h
 ·cases hA:A i with
  | none=>rw[hA] at h; cases h
  | some p =>
    rw[hA] at h;simp only at h;split at h
    ·exact⟨‹_›,p,rfl,‹_›,h⟩
    ·cases h
 ·cases h
theorem YZ{OS:List Nat}{i b:Nat}{p:Place}(h:i∈OS)(hp:A i=xM p)(hl:p.st=.live)(hb:p.FK=xM b):JK A OS i=xM b:=by unfold JK;rw[Az h,hp];simp only[hl,if_true,hb]
theorem Agv{h:DB}{w w':World}(hm:Mem I0 w.heap.size A h w'){NS OS:List Nat}(hdis:∀n∈NS,n ∉ OS):
 ∀(f:Nat) (d:DV) (v:Value) d' ns os,FQ h f d=xM (d',ns,os)->(∀n∈ns,n∈NS)->(∀n∈os,n∈OS)->Bz (Cd I0 w.heap.size A w') w' d v->Bz (DL I0 (JK A OS) w w') w' d' v:=by
 have hok:∀b,(Cd I0 w.heap.size A w').ok b->(DL I0 (JK A OS) w w').ok b:=by
  rintro b ⟨h1,h2,h3⟩
  refine⟨h1,h2,fun i hi=>?_⟩;obtain⟨_,p,hp,hl,hb⟩:=Ms hi;exact h3 i p hp hl hb
 have hbare:∀l rows,Dp (Cd I0 w.heap.size A w').bare w' l rows->Dp (DL I0 (JK A OS) w w').bare w' l rows:=fun l rows =>
  Dp.D4 (c:=(Cd I0 w.heap.size A w').bare) (c':=(DL I0 (JK A OS) w w').bare) (w:=w') (w':=w') ⟨hok,rfl,rfl,fun _ _ h=>(by cases h),fun _ _ h=>(by cases h),fun _ _ _=>rfl,fun _ _ h=>(by cases h)⟩ l rows
 have hleaf:∀d v,EG 1 [] d=wg->Bz (Cd I0 w.heap.size A w') w' d v->Bz (DL I0 (JK A OS) w w') w' d v:=by
  intro d v hd hv
  have hl:JZ ((Cd I0 w.heap.size A w').only []) w' (DL I0 (JK A OS) w w') w' :=⟨hok,rfl,rfl,fun _ _ h=>(by cases h),fun n p hp=>(by simp[Ctx.only] at hp),fun _ _ _=>rfl,fun _ _ h=>(by cases h)⟩
  exact Bz.D4 hl d v (Xx [] 1 d v hd hv)
 have frozenBlk:∀n p,A n=xM p->p.st≠.dead->(p.st≠.live\/n ∉ OS)->∀b,p.FK=xM b->(DL I0 (JK A OS) w w').FK .BF b:=by
  intro n p hp hd hc b hb;obtain⟨h1,h2⟩:=hm.GF n p b hp hd hb;refine⟨⟨h2,.inr h1,fun i hi=>?_⟩,rfl,h1⟩;obtain⟨hio,q,hq,hl,hqb⟩:=Ms hi;have e:=hm.inj n i p q b hp hq hd (by rw[hl]; simp) hb hqb;subst e;rw[hp] at hq; cases hq;rcases hc with hc | hc
  ·exact hc hl
  ·exact hc hio
 intro f
 induction f with
 | zero=>intro d v d' ns os h; simp[FQ] at h
 | succ f ih =>
   have all:∀(l:List DV) (vs:List Value) l' ns os,KZ h f l=xM (l',ns,os)->(∀n∈ns,n∈NS)->(∀n∈os,n∈OS)->BN (Cd I0 w.heap.size A w') w' l vs->BN (DL I0 (JK A OS) w w') w' l' vs:=by
    intro l
    induction l with
    | nil =>intro vs l' ns os hr _ _ hv;simp only[KZ,List.foldr_nil,Ae,Ak] at hr;obtain⟨rfl,_,_⟩:=hr;rw[BN.FU] at hv ⊢; exact hv
    | cons d l ihl =>
      intro vs l' ns os hr h1 h2 hv;obtain⟨x,n1,o1,xs,ms,ps,e1,e2,e⟩:=R9 hr;cases e;rw[BN.CS] at hv ⊢;obtain⟨u,us,e,hu,hus⟩:=hv
      exact⟨u,us,e,ih d u x n1 o1 e1 (fun n hn=>h1 n (zQ.2 (.inl hn))) (fun n hn=>h2 n (zQ.2 (.inl hn))) hu,
       ihl us xs ms ps e2 (fun n hn=>h1 n (zQ.2 (.inr hn))) (fun n hn=>h2 n (zQ.2 (.inr hn))) hus⟩
   intro d v d' ns os hr hns hos hv;cases d with
   | agg l =>
     have hr:(KZ h f l).bind (fun(l,ns,os)=>xM (DV.agg l,ns,os))=xM (d',ns,os):=hr;cases hl:KZ h f l with
     | none=>rw[hl] at hr; cases hr
     | some r =>obtain⟨l',ns',os'⟩:=r;rw[hl] at hr;simp only[Aj,Ae,Ak] at hr;obtain⟨rfl,rfl,rfl⟩:=hr;simp only[Bz] at hv ⊢;obtain⟨vs,e,h1⟩:=hv;exact⟨vs,e,all l _ l' _ _ hl hns hos h1⟩
   | Cw l =>
     have hr:(KZ h f l).bind (fun(l,ns,os)=>xM (DV.Cw l,ns,os))=xM (d',ns,os):=hr;cases hl:KZ h f l with
     | none=>rw[hl] at hr; cases hr
     | some r =>obtain⟨l',ns',os'⟩:=r;rw[hl] at hr;simp only[Aj,Ae,Ak] at hr;obtain⟨rfl,rfl,rfl⟩:=hr;simp only[Bz] at hv ⊢;obtain⟨vs,e,h1⟩:=hv;exact⟨vs,e,all l _ l' _ _ hl hns hos h1⟩
   | De n =>
     simp only[Bz] at hv;obtain⟨hone,p,hp,hd⟩:=hv;simp only[FQ] at hr;split at hr
     ·rename_i e k l hl;simp only[Ae,Ak] at hr;obtain⟨rfl,rfl,rfl⟩:=hr;obtain⟨hst,sv,hk,ho⟩:=Ej hm hp hl;obtain⟨size,hk'⟩:=hd.resolve_left (Cn hst);rw[hk] at hk'; cases hk';simp only[Bz];exact⟨ho,fun b hb=>YZ (hos n (by simp)) hp hst (by unfold Place.FK; rw[hk]; exact hb)⟩
     ·rename_i e sz l hl;simp only[Ae,Ak] at hr;obtain⟨rfl,rfl,rfl⟩:=hr;obtain⟨hst,hsz,sv,rows,hk,hrr,hlen,ho⟩:=E9 hm hp hl;obtain⟨size,hk'⟩:=hd.resolve_left (Cn hst);rw[hk] at hk'; cases hk';simp only[Bz];exact⟨rows,hbare _ _ hrr,hlen,ho,fun b hb=>YZ (hos n (by simp)) hp hst (by unfold Place.FK; rw[hk]; exact hb)⟩
     ·rename_i e k l hl;simp only[Ae,Ak] at hr;obtain⟨rfl,rfl,rfl⟩:=hr;obtain⟨hst,sv,hk,ho⟩:=Ej hm hp hl;obtain⟨size,hk'⟩:=hd.resolve_left (Cn hst);rw[hk] at hk'; cases hk';have hst':p.st=.frozen:=hst;have:=IG hk ho (ER ho) (ok:=(DL I0 (JK A OS) w w').FK .BF) (frozenBlk n p hp (Cn hst) (.inl (by rw[hst']; simp)));simp only[zJ,yo] at this;simp only[Bz];exact this
     ·rename_i e sz l hl;simp only[Ae,Ak] at hr;obtain⟨rfl,rfl,rfl⟩:=hr;obtain⟨hst,hsz,sv,rows,hk,hrr,hlen,ho⟩:=E9 hm hp hl;obtain⟨size,hk'⟩:=hd.resolve_left (Cn hst);rw[hk] at hk'; cases hk';have hst':p.st=.frozen:=hst;have:=IF hk (hbare _ _ hrr) hlen ho (ER ho) (ok:=(DL I0 (JK A OS) w w').FK .BF) (frozenBlk n p hp (Cn hst) (.inl (by rw[hst']; simp)));simp only[zJ,yo] at this;simp only[Bz];exact this
     ·cases hr
   | Ky n off len =>
     simp only[Bz] at hv;obtain⟨hone,p,hp,hd⟩:=hv;simp only[FQ] at hr;split at hr
     ·rename_i fz e k l hl;simp only[Ae,Ak] at hr;obtain⟨rfl,rfl,rfl⟩:=hr;obtain⟨hst,sv,hk,ho⟩:=Ej hm hp hl;obtain⟨sv',size,hk',hs⟩:=hd.resolve_left (Cn hst);rw[hk] at hk'; cases hk';have:=IG hk ho hs (ok:=(DL I0 (JK A OS) w w').FK .BF) (frozenBlk n p hp (Cn hst) (.inr (hdis n (hns n (by simp)))));simp only[Bz];exact this
     ·rename_i fz e sz l hl;simp only[Ae,Ak] at hr;obtain⟨rfl,rfl,rfl⟩:=hr;obtain⟨hst,hsz,sv,rows,hk,hrr,hlen,ho⟩:=E9 hm hp hl;obtain⟨sv',size,hk',hs⟩:=hd.resolve_left (Cn hst);rw[hk] at hk'; cases hk';have:=IF hk (hbare _ _ hrr) hlen ho hs (ok:=(DL I0 (JK A OS) w w').FK .BF) (frozenBlk n p hp (Cn hst) (.inr (hdis n (hns n (by simp)))));simp only[Bz];exact this
     ·cases hr
   | ptr n i j=>simp[FQ] at hr
   | fn g a b=>simp[FQ] at hr
   | gd g d=>simp[FQ] at hr
   | undef=>simp[FQ] at hr
   | CQ cs=>simp[FQ] at hr
   | nil=>simp only[FQ,Ae,Ak] at hr; obtain⟨rfl,_,_⟩:=hr; exact hleaf _ _ rfl hv
   | bool b=>simp only[FQ,Ae,Ak] at hr; obtain⟨rfl,_,_⟩:=hr; exact hleaf _ _ rfl hv
   | int k n=>simp only[FQ,Ae,Ak] at hr; obtain⟨rfl,_,_⟩:=hr; exact hleaf _ _ rfl hv
   | fl n=>simp only[FQ,Ae,Ak] at hr; obtain⟨rfl,_,_⟩:=hr; exact hleaf _ _ rfl hv
   | nb n=>simp only[FQ,Ae,Ak] at hr; obtain⟨rfl,_,_⟩:=hr; exact hleaf _ _ rfl hv
   | Bh g k l=>simp only[FQ,Ae,Ak] at hr; obtain⟨rfl,_,_⟩:=hr; exact hleaf _ _ rfl hv
   | C3 g k l=>simp only[FQ,Ae,Ak] at hr; obtain⟨rfl,_,_⟩:=hr; exact hleaf _ _ rfl hv
end
end Go.Den
end
