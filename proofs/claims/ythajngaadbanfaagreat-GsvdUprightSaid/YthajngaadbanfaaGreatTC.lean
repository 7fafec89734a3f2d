/- A verified evaluator of the program's form and its use for this seat: Den21, Den22, Den23, Den24, Den25, Den26, Den27, Den28, Den29, Den30, Den31. -/
import Derived.Orders
import Derived.Test.YthajngaadbanfaaGreatTB
import Derived.Laws.CopyRow
import Derived.Laws.IdiomCopy
import Derived.LoopN
import Derived.Scope
set_option linter.unusedVariables false
set_option linter.unusedSimpArgs false
open Option renaming some->wM,none->wN
open Bool renaming true->wc,false->wh
open Bool renaming false_or->yX,not_eq_true->zA,false_eq_true->zT,or_eq_true->zH,not_eq_true'->yt
open Array renaming getD_eq_getD_getElem?->z5,length_toList->zW,mem_toList_iff->wB,eq_empty_of_size_eq_zero->xe,toList_inj->yc,getElem?_setIfInBounds_ne->vD,getElem?_eq_none->vE,getElem?_replicate->wC
open List renaming all_eq_true->zF,mem_append->zu,mem_filterMap->vB,isEmpty_iff->wz,map_cons->yi,mem_cons->zB,mem_singleton->ze,length_take->zN,length_drop->zO,mem_map->zh,take->zG,drop->zL,mem_range->zX,nodup_cons->xw,getD_cons_succ->xQ,drop_zero->zU,take_length->ya
open Option renaming isNone_iff_eq_none->wA,map_some->yh
open Nat renaming min_le_right->xN,zero_le->zl,blt->yF,beq->zf,add_assoc->yo,add_comm->xf
open Classical renaming byContradiction->yY
noncomputable section
namespace Go.Den
open Go.RowKit (Below)
def HH(P:Program)(ops:Array Oper)(o:Oper)(a:Act)(w:World)(Q:Exit->Act->World->Prop)(G:Value->World->Prop):Prop:=
 ∀K:Act->World->Prop,(∀v w',G v w'->K (a.put o.dst v) w') ->
  if Region.wanted o (yielded ops a.tmps) then o.wp P a w K Q else K (a.put o.dst undef) w
theorem HH.mono{P:Program}{ops:Array Oper}{o:Oper}{a:Act}{w:World}{Q:Exit->Act->World->Prop}{G G':Value->World->Prop}(h:HH P ops o a w Q G)(hg:∀v w',G v w'->G' v w'):HH P ops o a w Q G' :=fun K hK=>h K fun v w' hh=>hK v w' (hg v w' hh)
theorem Eu.wp{P:Program}{o:Oper}{a:Act}{w:World}{K:Act->World->Prop}{Q:Exit->Act->World->Prop}{K':Value->World->Prop}(h:Eu P (execOp a.eval o) w K')(hK:∀v w',K' v w'->K (a.put o.dst v) w'):o.wp P a w K Q:=by
 unfold Eu at h;unfold Oper.wp;split at h
 ·rename_i v w' hr;rw[hr,Oper.upon_value]; exact hK _ _ h
 ·rename_i f args w' hr;rw[hr,Oper.upon_enter];refine Calls.mono h fun e w'' ⟨v,he,hk⟩=>?_
  subst he; exact hK _ _ hk
 ·exact h.elim
section
variable{P:Program}{E:Env}{I0:Nat->Prop}{B:Nat}{A:Nat->Option Place}{h:D6}{w:World}
theorem JN{c:Ctx}{g:Bool}{d:DV}{v:Value}(hv:By c w d v)(hg:g=wc)(hs:(Ga g d).2=wc):By c w (Ga g d).1 v:=by
 subst hg;cases d<;>try exact hv
 rename_i c' d';simp only[Ga,AH,yX] at hs ⊢;simp only[By] at hv;exact hv.1 hs
theorem Ab0{c:Ctx}{ops:Array Oper}{l:List DV}{o:Oper}{a:Act}(hsz:a.tmps.size=l.length)
 (hrd:∀t∈o.looksAt ops,By c w (l.getD t .undef) (a.tmps.getD t undef)) {g?:Option Bool} (hc:L5 ops l o=wM g?):
 (g?=wN/\o.guard=wN)\/∃b,g?=wM b/\Region.wanted o (yielded ops a.tmps)=b:=by
 unfold L5 at hc;split at hc
 ·rename_i hg;cases hc; exact .inl ⟨rfl,hg⟩
 ·rename_i j want hg;cases hd:(ops[j]?).bind (·.dst) with
  | none=>simp[hd] at hc
  | some d =>
    simp only[hd] at hc;have hv:=hrd d (by unfold Oper.looksAt; simp[hg,hd])
    have hlt:∀{x:DV},l.getD d .undef=x->x≠.undef->d<a.tmps.size:=fun {x} hx hne=>by
     rw[hsz];refine Nat.lt_of_not_le fun hle=>hne ?_
     rw[<- hx,Al,Bb hle]; rfl
    have hy:∀{u:Value},d<a.tmps.size->a.tmps.getD d undef=u->yielded ops a.tmps j=match u with | .bool b=>wM b | _=>wN:=fun {u} hl hu=>by
     unfold yielded;rw[hd,Aj]
     have:a.tmps[d]?=wM u:=by rw[Aw hl];rw[z5,Aw hl] at hu;exact congrArg wM hu
     rw[this];cases u<;>rfl
    split at hc
    ·rename_i b hb;cases hc;rw[hb] at hv; simp only[By] at hv;refine .inr ⟨_,rfl,?_⟩;unfold Region.wanted; rw[hg]; simp only;rw[hy (hlt hb (by simp)) hv];cases b<;>cases want<;>rfl
    ·rename_i c' b hb;cases hc;rw[hb] at hv; simp only[By] at hv;refine .inr ⟨_,rfl,?_⟩;unfold Region.wanted; rw[hg]; simp only;cases c' with
     | true =>rw[hy (hlt hb (by simp)) (hv.1 rfl)];cases b<;>cases want<;>rfl
     | false =>rw[hy (hlt hb (by simp)) (hv.2 rfl)];cases want<;>rfl
    ·cases hc
def M9(g?:Option Bool)(v:DV):DV:=match g? with | some c=>.gd c v | none=>v
theorem WS{c:Ctx}{g?:Option Bool}{d:DV}{v:Value}(hg:g?.getD wc=wc)(hv:By c w d v):By c w (M9 g? d) v:=by
 cases g? with
 | none=>exact hv
 | some b =>simp only[Be] at hg; subst hg;simp only[M9,By];exact⟨fun _=>hv,fun e=>by cases e⟩
theorem AeB(he:GH P E)(hm:Mem I0 B A h w){ops:Array Oper}{l:List DV}{o:Oper}{a:Act}
 (hops:∀x∈o.op.operands.toList,By (Cd I0 B A w) w (FL l x) (a.eval x))
 {g?:Option Bool} (hg:(g?=wN/\o.guard=wN)\/∃b,g?=wM b/\Region.wanted o (yielded ops a.tmps)=b)
 {nm:Nat} {r:R2} (hq:Ep E h nm (fun x=>(Ga (g?.getD wc) (FL l x)).1) o.op=wM r)
 (hreq:(!(g?.getD wc)||(OH (g?.getD wc) (FL l) o.op.operands.toList&&r.NK))=wc)
 (hfrz:r.Gy=[]\/g?.getD wc=wc)
 (hnew:∀n ob,(n,ob)∈r.Cg->A n=wN) (hnd:(r.Cg.map (·.1)).Nodup) {Q:Exit->Act->World->Prop}:
 HH P ops o a w Q fun v w'=>∃A',HA I0 B A w r.Cg r.Gy A' w'/\By (Cd I0 B A' w') w' (M9 g? r.v) v:=by
 intro K hK
 have hwant:Region.wanted o (yielded ops a.tmps)=g?.getD wc:=by
  rcases hg with ⟨rfl,hg⟩ | ⟨b,rfl,hg⟩
  ·simp[Region.wanted,hg]
  ·simpa using hg
 rw[hwant];by_cases hgt:g?.getD wc=wc
 ·rw[Az hgt];rw[hgt] at hreq hq;simp only[AH,yX,Am] at hreq
  have hops':Ops (Cd I0 B A w) w (fun x=>(Ga wc (FL l x)).1) a.eval o.op:=fun x hx=>by refine JN (hops x hx) rfl ?_;have:=hreq.1;unfold OH at this;rw[zF] at this;exact this x hx
  exact Eu.wp (K':=fun v w'=>∃A',HA I0 B A w r.Cg r.Gy A' w'/\By (Cd I0 B A' w') w' (M9 g? r.v) v)
   (Aco he hm hops' hq hreq.2 hnew hnd fun v w' A' h1 h2=>⟨A',h1,WS hgt h2⟩) hK
 ·rw[Ay hgt]
  have hgf:g?=wM wh:=by
   cases g? with
   | none=>simp at hgt
   | some b=>simp only[Be,zA] at hgt; rw[hgt]
  have h2:r.Gy=[]:=hfrz.resolve_right hgt;subst hgf;refine hK undef w ⟨A,by rw[h2]; exact HA.idle _,?_⟩;simp only[M9,By];exact⟨fun e=>(by cases e),fun _=>trivial⟩
theorem Ahl{ops:Array Oper}{l:List DV}{dst:Option Tmp}{c x y:Operand}{ty:TypeId}{pos:String}{after:Array Edge}{guard:Option (Nat × Bool)}{a:Act}{cx:Ctx}
 (hc:By cx w (FL l c) (a.eval c)) (hx:By cx w (FL l x) (a.eval x)) (hy:By cx w (FL l y) (a.eval y))
 {g?:Option Bool} (hg:(g?=wN/\guard=wN)\/∃b,g?=wM b/\Region.wanted ⟨dst,.pick c x y,ty,pos,after,guard⟩ (yielded ops a.tmps)=b)
 {c' r:Bool} {v:DV} (hsc:(Ga (g?.getD wc) (FL l c)).1=.bool c') (hp:AaP c' (FL l x) (FL l y)=wM (r,v))
 (hreq:(!(g?.getD wc)||((Ga (g?.getD wc) (FL l c)).2&&r))=wc) {Q:Exit->Act->World->Prop}:
 HH P ops ⟨dst,.pick c x y,ty,pos,after,guard⟩ a w Q fun u w'=>w'=w/\By cx w (M9 g? v) u:=by
 intro K hK
 have hwant:Region.wanted ⟨dst,.pick c x y,ty,pos,after,guard⟩ (yielded ops a.tmps)=g?.getD wc:=by
  rcases hg with ⟨rfl,hg⟩ | ⟨b,rfl,hg⟩
  ·simp[Region.wanted,hg]
  ·simpa using hg
 rw[hwant];by_cases hgt:g?.getD wc=wc
 ·rw[Az hgt];rw[hgt] at hreq hsc;simp only[AH,yX,Am] at hreq;have hcv:=JN hc rfl hreq.1;rw[hsc] at hcv; simp only[By] at hcv;refine Eu.wp (K':=fun u w'=>w'=w/\By cx w (M9 g? v) u) (Eu.value (v:=if c' then a.eval x else a.eval y) (w':=w) ?_ ⟨rfl,WS hgt ?_⟩) hK
  ·simp[execOp,hcv,asBool]
  ·have h2:=hreq.2;unfold AaP at hp;cases c' with
   | true =>
     simp only[if_true];split at hp
     ·rename_i p q e1 e2;simp only[Ae,Ak] at hp;obtain⟨rfl,rfl⟩:=hp;simp only[Am] at h2;have:=JN hx rfl h2.1;rw[e1] at this; exact this
     ·rename_i k p k' q e1 e2;by_cases hk:k=k'
      ·simp only[hk,decide_true,Aa,Ae,Ak] at hp;obtain⟨rfl,rfl⟩:=hp;simp only[Am] at h2;have:=JN hx rfl h2.1;rw[e1] at this; subst hk; exact this
      ·simp[hk] at hp
     ·cases hp
   | false =>
     simp only[zT,if_false];split at hp
     ·rename_i p q e1 e2;simp only[Ae,Ak] at hp;obtain⟨rfl,rfl⟩:=hp;simp only[Am] at h2;have:=JN hy rfl h2.2;rw[show(!wh)=wc from rfl] at e2;rw[e2] at this; exact this
     ·rename_i k p k' q e1 e2;by_cases hk:k=k'
      ·simp only[hk,decide_true,Aa,Ae,Ak] at hp;obtain⟨rfl,rfl⟩:=hp;simp only[Am] at h2;have:=JN hy rfl h2.2;rw[show(!wh)=wc from rfl] at e2;rw[e2] at this; exact this
      ·simp[hk] at hp
     ·cases hp
 ·rw[Ay hgt]
  have hgf:g?=wM wh:=by
   cases g? with
   | none=>simp at hgt
   | some b=>simp only[Be,zA] at hgt; rw[hgt]
  subst hgf;refine hK undef w ⟨rfl,?_⟩;simp only[M9,By];exact⟨fun e=>(by cases e),fun _=>trivial⟩
theorem Aff{ops:Array Oper}{o:Oper}{t:Tmp}(h:Operand.tmp t∈o.op.operands.toList):t∈o.looksAt ops:=by unfold Oper.looksAt;exact zu.2 (.inl (vB.2 ⟨_,h,rfl⟩))
theorem Va{c:Ctx}(v:Value):By c w (ZX v) v:=by unfold ZX;split<;>simp only[By];exact⟨_,rfl,.inl rfl⟩
theorem P2{c:Ctx}{ops:Array Oper}{l:List DV}{o:Oper}{a:Act}
 (hrd:∀t∈o.looksAt ops,By c w (l.getD t .undef) (a.tmps.getD t undef)):∀x∈o.op.operands.toList,By c w (FL l x) (a.eval x):=by
 intro x hx;cases x with
 | tmp t=>exact hrd t (Aff hx)
 | const v=>exact Va v
 | global g=>simp only[FL,By]
 | func f=>simp[FL,By,Act.eval,BJ]
theorem Alg(he:GH P E){ops:Array Oper}{draw:Bool}{st st':St}{o:Oper}(hs:Js E ops draw st o=wM (wc,st'))(hmut:Ox o.op=wh)
 (hsp:∀g?,L5 ops st.tmps o=wM g?->(cond draw wN (KD E st.heap (FL st.tmps) g? o.op))=wN):
 ∃d Cg Gy,st'.tmps=OC st.tmps o.dst d/\st'.heap=Cg.map (fun(x:Nat × OB)=>(x.1,wh,x.2))++Ib st.heap Gy /\
  (∀n ob,(n,ob)∈Cg->look st.heap n=wN)/\(Cg.map (·.1)).Nodup/\(Fl E ops st o=Gy/\∀n∈Gy,look st.heap n≠wN) /\
  ∀{I0:Nat->Prop} {B:Nat} {A:Nat->Option Place} {w:World} {a:Act} {Q:Exit->Act->World->Prop},Mem I0 B A st.heap w->a.tmps.size=st.tmps.length ->
   (∀t∈o.looksAt ops,By (Cd I0 B A w) w (st.tmps.getD t .undef) (a.tmps.getD t undef))->(∀n ob,(n,ob)∈Cg->A n=wN) ->
   HH P ops o a w Q fun v w'=>∃A',HA I0 B A w Cg Gy A' w'/\By (Cd I0 B A' w') w' d v:=by
 obtain⟨dst,op,ty,pos,after,guard⟩:=o;unfold Js at hs;cases hc:L5 ops st.tmps ⟨dst,op,ty,pos,after,guard⟩ with
 | none=>simp[hc] at hs
 | some g? =>
 simp only[hc,Aj] at hs;dsimp only at hmut;replace hsp:=hsp g? hc;dsimp only at hsp
 have quiet:∀(hs:((Ep E st.heap (dst.getD 0) (fun x=>(Ga (g?.getD wc) (FL st.tmps x)).1) op).bind fun r =>
  bif (r.Cg.all fun(n,_)=>(look st.heap n).isNone)&&Jv (r.Cg.map (·.1))&&(r.Cg.isEmpty||dst.isSome)&&(r.Gy.isEmpty||r.Gy.all fun n=>(look st.heap n).isSome) then
   wM (cond r.Gy.isEmpty (!(g?.getD wc)||(OH (g?.getD wc) (FL st.tmps) op.operands.toList&&r.NK)) (g?.getD wc&&(OH (g?.getD wc) (FL st.tmps) op.operands.toList&&r.NK)),
    ({ tmps:=OC st.tmps dst (M9 g? r.v),heap:=(r.Cg.map fun(n,ob)=>(n,wh,ob))++Ib st.heap r.Gy }:St))
  else wN)=wM (wc,st')),∃d Cg Gy,st'.tmps=OC st.tmps dst d/\st'.heap=Cg.map (fun(x:Nat × OB)=>(x.1,wh,x.2))++Ib st.heap Gy /\
  (∀n ob,(n,ob)∈Cg->look st.heap n=wN)/\(Cg.map (·.1)).Nodup/\(Fl E ops st ⟨dst,op,ty,pos,after,guard⟩=Gy/\∀n∈Gy,look st.heap n≠wN) /\
  ∀{I0:Nat->Prop} {B:Nat} {A:Nat->Option Place} {w:World} {a:Act} {Q:Exit->Act->World->Prop},Mem I0 B A st.heap w->a.tmps.size=st.tmps.length ->
   (∀t∈Oper.looksAt ops ⟨dst,op,ty,pos,after,guard⟩,By (Cd I0 B A w) w (st.tmps.getD t .undef) (a.tmps.getD t undef))->(∀n ob,(n,ob)∈Cg->A n=wN) ->
   HH P ops ⟨dst,op,ty,pos,after,guard⟩ a w Q fun v w'=>∃A',HA I0 B A w Cg Gy A' w'/\By (Cd I0 B A' w') w' d v:=by
  intro hs;cases hq:Ep E st.heap (dst.getD 0) (fun x=>(Ga (g?.getD wc) (FL st.tmps x)).1) op with
  | none=>simp[hq] at hs
  | some r =>
    simp only[hq,Aj] at hs;by_cases hcc:((r.Cg.all fun(n,_)=>(look st.heap n).isNone)&&Jv (r.Cg.map (·.1))&&(r.Cg.isEmpty||dst.isSome)&&(r.Gy.isEmpty||r.Gy.all fun n=>(look st.heap n).isSome))=wc
    ·rw[hcc,Aa,Ae,Ak] at hs;obtain⟨hreq,rfl⟩:=hs;simp only[Am,zH,wz,wA,zF] at hcc;obtain⟨⟨⟨h1,h2⟩,h3⟩,h4⟩:=hcc
     replace hreq:(!(g?.getD wc)||(OH (g?.getD wc) (FL st.tmps) op.operands.toList&&r.NK))=wc/\(r.Gy=[]\/g?.getD wc=wc):=by
      cases ho:r.Gy.isEmpty with
      | true =>rw[ho,Aa] at hreq;exact⟨hreq,.inl (wz.1 ho)⟩
      | false =>rw[ho,Af,Am] at hreq;exact⟨by rw[hreq.2,AV],.inr hreq.1⟩
     refine⟨M9 g? r.v,r.Cg,r.Gy,rfl,rfl,fun n ob hn=>h1 (n,ob) hn,HX h2,⟨by unfold Fl; dsimp only; rw[hmut,hc]; simp only[Af,hq],fun n hn e=>?_⟩,?_⟩
     ·rcases h4 with h4 | h4
      ·rw[h4] at hn; cases hn
      ·have:=h4 n hn; rw[e] at this; cases this
     intro I0 B A w a Q hm hsz hrd hnew;exact AeB he hm (P2 hrd) (Ab0 hsz hrd hc) hq hreq.1 hreq.2 hnew (HX h2)
    ·simp only[zA] at hcc; rw[hcc] at hs; cases hs
 cases op
 case pick c x y =>
  simp only at hs;split at hs
  ·rename_i c' hsc;cases hp:AaP c' (FL st.tmps x) (FL st.tmps y) with
   | none=>simp[hp] at hs
   | some rv =>
     obtain⟨r,v⟩:=rv;simp only[hp,Aj,Ae,Ak] at hs;obtain⟨hreq,rfl⟩:=hs;refine⟨M9 g? v,[],[],rfl,rfl,fun n ob hn=>(by cases hn),List.nodup_nil,⟨by unfold Fl; dsimp only[Ox]; rw[hc]; rfl,fun n hn=>(by cases hn)⟩,?_⟩;intro I0 B A w a Q hm hsz hrd hnew;have hr:=P2 (w:=w) hrd;refine HH.mono (Ahl (hr c (by simp[Op.operands])) (hr x (by simp[Op.operands])) (hr y (by simp[Op.operands])) (Ab0 hsz hrd hc) hsc hp hreq) ?_
     rintro u w' ⟨rfl,hu⟩
     exact⟨A,HA.refl (.inl rfl),hu⟩
  ·cases hs
 case store=>simp[Ox] at hmut
 case call c =>
  obtain⟨callee,args,ts⟩:=c;cases callee
  case builtin b =>
   cases b
   case append=>simp[Ox] at hmut
   all_goals (dsimp only at hs; rw[hsp] at hs; exact quiet hs)
  all_goals (dsimp only at hs; rw[hsp] at hs; exact quiet hs)
 all_goals (dsimp only at hs; rw[hsp] at hs; exact quiet hs)
end
open Go.RowKit (Below)
theorem KI(a b:D6)(n:Nat):look (a++b) n=match look a n with | some x=>wM x | none=>look b n:=by
 induction a with
 | nil=>rfl
 | cons x a ih =>obtain⟨m,y⟩:=x;simp only[List.cons_append,look];cases m==n<;>simp[ih]
theorem We(h:D6)(m n:Nat):look (match look h m with | some (_,o)=>Ul h m (wc,o) | none=>h) n=(look h n).map fun x=>(x.1||decide (n=m),x.2):=by
 cases hm:look h m with
 | none =>
   simp only;cases hn:look h n with
   | none=>rfl
   | some x =>
     have:n≠m:=fun e=>by rw[e,hm] at hn; cases hn
     simp[this]
 | some x =>
   obtain⟨f,o⟩:=x;simp only;rw[Fh hm];by_cases e:n=m
   ·subst e; simp[hm]
   ·rw[Ay e];cases look h n with
    | none=>rfl
    | some x=>simp[e]
theorem Nc:∀(ns:List Nat) (h:D6) (n:Nat),look (Ib h ns) n=(look h n).map fun x=>(x.1||decide (n∈ns),x.2)
 | [],h,n=>by unfold Ib;simp
 | m::ns,h,n=>by
   have e:Ib h (m::ns)=Ib (match look h m with | some (_,o)=>Ul h m (wc,o) | none=>h) ns:=rfl;rw[e,Nc ns,We];cases look h n with
   | none=>rfl
   | some x=>simp[Bool.or_assoc]
theorem QE{Cg:List (Nat × OB)}:∀{n:Nat} {x:Bool × OB},look (Cg.map (fun(x:Nat × OB)=>(x.1,wh,x.2))) n=wM x->∃ob,(n,ob)∈Cg/\x=(wh,ob):=by
 induction Cg with
 | nil=>intro n x h; cases h
 | cons y l ih =>
   intro n x h;simp only[yi,look] at h;by_cases e:y.1=n
   ·rw[show(y.1==n)=wc by simpa using e] at h;simp only[Aa,Ae] at h;exact⟨y.2,by rw[<- e]; exact AY,h.symm⟩
   ·rw[show(y.1==n)=wh by simpa using e] at h;obtain⟨ob,h1,h2⟩:=ih h;exact⟨ob,AN _ h1,h2⟩
theorem Tc{Cg:List (Nat × OB)}{n:Nat}(h:look (Cg.map (fun(x:Nat × OB)=>(x.1,wh,x.2))) n=wN):∀ob,(n,ob) ∉ Cg:=by
 induction Cg with
 | nil=>intro ob h; cases h
 | cons y l ih =>
   intro ob hm;simp only[yi,look] at h;by_cases e:y.1=n
   ·rw[show(y.1==n)=wc by simpa using e] at h; simp at h
   ·rw[show(y.1==n)=wh by simpa using e] at h;rcases zB.1 hm with rfl | hm
    ·exact e rfl
    ·exact ih h ob hm
theorem Acz{α:Type}{l:List (Nat × α)}(h:(l.map (·.1)).Nodup){n:Nat}{x y:α}(h1:(n,x)∈l)(h2:(n,y)∈l):x=y:=by have e1:=NR h h1;have e2:=NR h h2;rw[e1] at e2; exact Option.some.inj e2
structure Nz(P:Program)(E:Env)(ops:Array Oper)(draw:Bool)(st:St)(o:Oper)(st':St)(d:DV):Prop where
 free:∀t,o.dst=wM t->E.np<=t
 tmps:st'.tmps=OC st.tmps o.dst d
 there:draw=wc->∀n,n∈Fl E ops st o->look st.heap n≠wN
 stays:∀n,look st.heap n≠wN->look st'.heap n≠wN
 same:draw=wc->∀n,n ∉ Fl E ops st o->look st.heap n≠wN->look st'.heap n=look st.heap n
 run:∀{I0:Nat->Prop} {B:Nat} {A:Nat->Option Place} {w:World} {a:Act} {Q:Exit->Act->World->Prop},Mem I0 B A st.heap w->a.tmps.size=st.tmps.length ->
  (∀t∈o.looksAt ops,By (Cd I0 B A w) w (st.tmps.getD t .undef) (a.tmps.getD t undef))->(∀n,look st.heap n=wN->look st'.heap n≠wN->A n=wN) ->
  HH P ops o a w Q fun v w'=>∃A',Mem I0 B A' st'.heap w'/\GG A w A' w'/\Below B w w'/\By (Cd I0 B A' w') w' d v /\
   (∀n p,A' n=wM p->A n=wN->look st.heap n=wN/\look st'.heap n≠wN) /\
   (draw=wc->Oc (Fl E ops st o) A w w'/\∀m q,m ∉ Fl E ops st o->A m=wM q->A' m=wM q)
section
variable{P:Program}{E:Env}
theorem Xj(he:GH P E){ops:Array Oper}{draw:Bool}{st st':St}{o:Oper}(hs:Js E ops draw st o=wM (wc,st'))(hfree:∀t,o.dst=wM t->E.np<=t)(hmut:Ox o.op=wh)
 (hsp:∀g?,L5 ops st.tmps o=wM g?->(cond draw wN (KD E st.heap (FL st.tmps) g? o.op))=wN):
 ∃d,Nz P E ops draw st o st' d:=by
 obtain⟨d,Cg,Gy,h1,h2,h3,h4,h5,h6⟩:=Alg he hs hmut hsp;obtain⟨hm0,h5'⟩:=h5
 have hlk:∀n,look st'.heap n=match look (Cg.map (fun(x:Nat × OB)=>(x.1,wh,x.2))) n with | some x=>wM x | none=>(look st.heap n).map fun x=>(x.1||decide (n∈Gy),x.2):=by intro n; rw[h2,KI,Nc]
 have hold:∀n,look st.heap n≠wN->look st'.heap n=(look st.heap n).map fun x=>(x.1||decide (n∈Gy),x.2):=by
  intro n hn;rw[hlk];cases hq:look (Cg.map (fun(x:Nat × OB)=>(x.1,wh,x.2))) n with
  | none=>rfl
  | some x =>obtain⟨ob,hob,_⟩:=QE hq;exact absurd (h3 n ob hob) hn
 have hobj:∀n ob,(n,ob)∈Cg->look st'.heap n=wM (wh,ob):=by
  intro n ob hob;rw[hlk];cases hq:look (Cg.map (fun(x:Nat × OB)=>(x.1,wh,x.2))) n with
  | none=>exact absurd hob (Tc hq ob)
  | some x =>obtain⟨ob',hob',rfl⟩:=QE hq;rw[Acz h4 hob hob']
 refine⟨d,hfree,h1,fun _ n hn=>h5' n (hm0 ▸ hn),fun n hn=>?_,fun hd n hf hn=>?_,?_⟩
 ·rw[hold n hn];cases hq:look st.heap n with
  | none=>exact absurd hq hn
  | some x=>simp
 ·rw[hm0] at hf;rw[hold n hn];cases look st.heap n with
  | none=>rfl
  | some x=>simp[hf]
 ·intro I0 B A w a Q hm hsz hrd hnew;have hnew':∀n ob,(n,ob)∈Cg->A n=wN:=fun n ob hob=>hnew n (h3 n ob hob) (by rw[hobj n ob hob]; simp)
  refine(h6 hm hsz hrd hnew').mono ?_
  rintro v w' ⟨A',hg,hv⟩
  have hmem:Mem I0 B A' st'.heap w':=by
   refine hg.mem hm (fun n p fo' hp hl=>?_) (fun n ob fo' hob hn hl=>?_)
   ·rw[hlk] at hl;cases hq:look (Cg.map (fun(x:Nat × OB)=>(x.1,wh,x.2))) n with
    | some x =>obtain⟨ob,hob,_⟩:=QE hq;rw[hnew' n ob hob] at hp; cases hp
    | none =>
      rw[hq] at hl;cases hf:look st.heap n with
      | none=>rw[hf] at hl; cases hl
      | some fo=>rw[hf] at hl; cases hl; exact⟨fo,rfl,rfl⟩
   ·rw[hobj n ob hob] at hl; cases hl; rfl
  refine⟨A',hmem,hg.Aiz,hg.below.mono hm.hB,hv,fun n p hp hn=>?_,fun hd=>⟨fun m q b _ hq hqd hqb=>hg.below.block b (hm.Gf m q b hq hqd hqb).2,fun m q hmf hq=>?_⟩⟩
  ·obtain⟨_,_,ob,hob,_⟩:=hg.new n p hn hp;exact⟨h3 n ob hob,by rw[hobj n ob hob]; simp⟩
  ·have:=hg.M4 m q hq;rw[this];rw[hm0] at hmf;cases q;simp[Ua,hmf]
end
section
variable{P:Program}{E:Env}
theorem Jc{o:Oper}{y:Nat->Option Bool}(h:o.guard=wN):Region.wanted o y=wc:=by unfold Region.wanted; rw[h]
theorem OV{ops:Array Oper}{l:List DV}{o:Oper}(h:L5 ops l o=wM wN):o.guard=wN:=by
 unfold L5 at h;split at h
 ·assumption
 ·split at h
  ·split at h<;>cases h
  ·cases h
structure N3(ns:List Nat)(nm:Option Nat)(h h':D6):Prop where
 there:∀m,m∈ns->look h m≠wN
 stays:∀m,look h m≠wN->look h' m≠wN
 same:∀m,m ∉ ns->wM m≠nm->look h' m=look h m
theorem JY{h:D6}{n:Nat}{x y:Bool × OB}(hl:look h n=wM x):N3 [n] wN h (Ul h n y) where
 there:=fun m hm=>by rw[ze.1 hm,hl]; simp
 stays:=fun m hm=>by rw[Fh hl]; split<;>simp_all
 same:=fun m hm _=>by rw[Fh hl,Ay (fun e=>hm (by rw[e]; exact ze.2 rfl))]
theorem N7{h:D6}{nm:Nat}{x:Bool × OB}:N3 [] (wM nm) h ((nm,x)::h) where
 there:=fun m hm=>by cases hm
 stays:=fun m hm=>by simp only[look]; cases nm==m<;>simp[hm]
 same:=fun m _ hne=>by simp only[look];rw[show(nm==m)=wh by simpa using fun e:nm=m=>hne (by rw[e])]; rfl
theorem Un{h:D6}{n nm:Nat}{x y z:Bool × OB}(hl:look h n=wM x):N3 [n] (wM nm) h ((nm,z)::Ul h n y) where
 there:=(JY (y:=y) hl).there
 stays:=fun m hm=>N7.stays m ((JY (y:=y) hl).stays m hm)
 same:=fun m hm hne=>by rw[N7.same m (by simp) hne,(JY (y:=y) hl).same m hm (by simp)]
theorem Xf{h h':D6}{t:TypeId}{a v:DV}{r:Bool}(hs:Qn E h t a v=wM (r,h')):N3 (AeX a) wN h h':=by
 unfold Qn at hs;cases hT:E.ty t with
 | none=>simp[hT] at hs
 | some ti =>
 simp only[hT,Aj] at hs;cases hc:(KS v&&(cells v).length==ti.size&&(cells v).all O1) with
 | false=>rw[hc] at hs; simp at hs
 | true =>
 rw[hc,Aa] at hs;split at hs
 ·rename_i n i j;split at hs
  ·rename_i cs hlk;cases hq:(i==0&&decide (j+ti.size<=cs.length)) with
   | false=>rw[hq] at hs; simp at hs
   | true =>rw[hq,Aa,Ae,Ak] at hs;obtain⟨_,rfl⟩:=hs;exact JY hlk
  ·rename_i e k l hlk;split at hs
   ·rename_i k' x;cases hq:(j==0&&decide (k=k')) with
    | false=>rw[hq] at hs; simp at hs
    | true =>rw[hq,Aa,Ae,Ak] at hs;obtain⟨_,rfl⟩:=hs;exact JY hlk
   ·cases hs
  ·rename_i e sz l hlk;cases hlow:GU h (cells v) with
   | none=>simp[hlow] at hs
   | some q =>
   obtain⟨vs,ns⟩:=q;simp only[hlow,Aj] at hs;cases hq:(decide (j+ti.size<=sz)&&ns.isEmpty) with
   | false=>rw[hq] at hs; simp at hs
   | true =>rw[hq,Aa,Ae,Ak] at hs;obtain⟨_,rfl⟩:=hs;exact JY hlk
  ·cases hs
 ·cases hs
theorem WD{h h':D6}{nm:Nat}{t:TypeId}{s x v:DV}{r:Bool}(ha:KP E h nm t s x=wM (r,v,h')):N3 (Wa s) (wM nm) h h'/\look h nm=wN:=by
 unfold KP at ha;split at ha
 ·rename_i e _ hT;cases hE:E.ty e with
  | none=>simp[hE] at ha
  | some ei =>
  simp only[hE,Aj] at ha;cases hq:(decide (ei.bytes<=128)&&decide (0<ei.size)&&(look h nm).isNone) with
  | false=>rw[hq] at ha; simp at ha
  | true =>
  rw[hq,Aa] at ha;simp only[Am,Ai,wA] at hq;refine⟨?_,hq.2⟩;split at ha
  ·split at ha
   ·rename_i k hk;cases hs1:(ei.size==1) with
    | false=>rw[hs1] at ha; simp at ha
    | true =>
    rw[hs1,Aa] at ha;cases hel:IS h k x with
    | none=>simp[hel] at ha
    | some l =>simp only[hel,Aj,Ae,Ak] at ha;obtain⟨_,_,rfl⟩:=ha;exact N7
   ·cases hel:KW h ei.size x with
    | none=>simp[hel] at ha
    | some l =>simp only[hel,Aj,Ae,Ak] at ha;obtain⟨_,_,rfl⟩:=ha;exact N7
  ·rename_i n;split at ha
   ·rename_i e' k l' hlo;cases hel:IS h k x with
    | none=>simp[hel] at ha
    | some l =>
      simp only[hel,Aj] at ha;cases hc:(e==e'&&ei.size==1) with
      | false=>rw[hc] at ha; simp at ha
      | true =>rw[hc,Aa] at ha;simp only[Ae,Ak] at ha;obtain⟨_,_,rfl⟩:=ha;exact Un hlo
   ·rename_i e' sz l' hlo;cases hel:KW h sz x with
    | none=>simp[hel] at ha
    | some l =>
      simp only[hel,Aj] at ha;cases hc:(e==e'&&sz==ei.size) with
      | false=>rw[hc] at ha; simp at ha
      | true =>rw[hc,Aa] at ha;simp only[Ae,Ak] at ha;obtain⟨_,_,rfl⟩:=ha;exact Un hlo
   ·cases ha
  ·cases ha
 ·cases ha
theorem Rt{h h':D6}{nm:Nat}{t:TypeId}{s x v:DV}{r:Bool}(ha:KP E h nm t s x=wM (r,v,h')):(look h' nm).isSome=wc:=by
 have push:∀{y:Bool × OB} {k:D6},(look ((nm,y)::k) nm).isSome=wc:=by intro y k; simp[look]
 unfold KP at ha;split at ha
 ·rename_i e _ hT;cases hE:E.ty e with
  | none=>simp[hE] at ha
  | some ei =>
  simp only[hE,Aj] at ha;cases hq:(decide (ei.bytes<=128)&&decide (0<ei.size)&&(look h nm).isNone) with
  | false=>rw[hq] at ha; simp at ha
  | true =>
  rw[hq,Aa] at ha;split at ha
  ·split at ha
   ·rename_i k hk;cases hs1:(ei.size==1) with
    | false=>rw[hs1] at ha; simp at ha
    | true =>
    rw[hs1,Aa] at ha;cases hel:IS h k x with
    | none=>simp[hel] at ha
    | some l =>simp only[hel,Aj,Ae,Ak] at ha;obtain⟨_,_,rfl⟩:=ha;exact push
   ·cases hel:KW h ei.size x with
    | none=>simp[hel] at ha
    | some l =>simp only[hel,Aj,Ae,Ak] at ha;obtain⟨_,_,rfl⟩:=ha;exact push
  ·rename_i n;split at ha
   ·rename_i e' k l' hlo;cases hel:IS h k x with
    | none=>simp[hel] at ha
    | some l =>
      simp only[hel,Aj] at ha;cases hc:(e==e'&&ei.size==1) with
      | false=>rw[hc] at ha; simp at ha
      | true =>rw[hc,Aa] at ha;simp only[Ae,Ak] at ha;obtain⟨_,_,rfl⟩:=ha;exact push
   ·rename_i e' sz l' hlo;cases hel:KW h sz x with
    | none=>simp[hel] at ha
    | some l =>
      simp only[hel,Aj] at ha;cases hc:(e==e'&&sz==ei.size) with
      | false=>rw[hc] at ha; simp at ha
      | true =>rw[hc,Aa] at ha;simp only[Ae,Ak] at ha;obtain⟨_,_,rfl⟩:=ha;exact push
   ·cases ha
  ·cases ha
 ·cases ha
theorem Xi(he:GH P E){ops:Array Oper}{draw:Bool}{st st':St}{dst:Option Tmp}{t:TypeId}{x y:Operand}{ty:TypeId}{pos:String}{after:Array Edge}{guard:Option (Nat × Bool)}
 (hs:Js E ops draw st ⟨dst,.store t x y,ty,pos,after,guard⟩=wM (wc,st')) (hfree:∀u,dst=wM u->E.np<=u):∃d,Nz P E ops draw st ⟨dst,.store t x y,ty,pos,after,guard⟩ st' d:=by
 unfold Js at hs;cases hc:L5 ops st.tmps ⟨dst,.store t x y,ty,pos,after,guard⟩ with
 | none=>simp[hc] at hs
 | some g? =>
 cases g? with
 | some b=>simp[hc] at hs
 | none =>
 have hg:=OV hc;dsimp only at hg;simp only[hc,Aj] at hs;cases hst:Qn E st.heap t (FL st.tmps x) (FL st.tmps y) with
 | none=>simp[hst] at hs
 | some rh =>
 obtain⟨r,h'⟩:=rh;simp only[hst,Aj,Ae,Ak] at hs;obtain⟨rfl,rfl⟩:=hs;have ht:=Xf hst;refine⟨.undef,hfree,rfl,fun _=>ht.there,ht.stays,fun _ n hn _=>ht.same n hn (by simp),?_⟩;intro I0 B A w a Q hm hsz hrd hnew;have hr:=P2 (w:=w) hrd;obtain⟨w',hrun,h1,h2,h3,h4,h5,h6,h7⟩:=AbP he.ty hm (hr x (by simp[Op.operands])) (hr y (by simp[Op.operands])) hst rfl;intro K hK;rw[Az (Jc hg)];unfold Oper.wp execOp;simp only[Sem.run_bind,Sem.run_pure,Result.andThen_ok,hrun];rw[Oper.upon_skip];refine hK undef w' ⟨A,h1,h2,h3,by simp[By],fun n p hp hn=>(by rw[hn] at hp; cases hp),fun _=>⟨h5,fun m q _ hq=>hq⟩⟩
theorem V6(he:GH P E){ops:Array Oper}{draw:Bool}{st st':St}{dst:Option Tmp}{args:Array Operand}{ts:Array TypeId}{ty:TypeId}{pos:String}{after:Array Edge}{guard:Option (Nat × Bool)}
 (hs:Js E ops draw st ⟨dst,.call ⟨.builtin .append,args,ts⟩,ty,pos,after,guard⟩=wM (wc,st')) (hfree:∀u,dst=wM u->E.np<=u):∃d,Nz P E ops draw st ⟨dst,.call ⟨.builtin .append,args,ts⟩,ty,pos,after,guard⟩ st' d:=by
 unfold Js at hs;cases hc:L5 ops st.tmps ⟨dst,.call ⟨.builtin .append,args,ts⟩,ty,pos,after,guard⟩ with
 | none=>simp[hc] at hs
 | some g? =>
 simp only[hc,Aj] at hs;split at hs
 ·rename_i s x t t' hargs hts;have hg:=OV hc;dsimp only at hg;cases hq:(t==t'&&dst.isSome) with
  | false=>rw[hq] at hs; simp at hs
  | true =>
  rw[hq,Aa] at hs;simp only[Am,beq_iff_eq] at hq;obtain⟨rfl,hdst⟩:=hq;cases hap:KP E st.heap (dst.getD 0) t (FL st.tmps s) (FL st.tmps x) with
  | none=>simp[hap] at hs
  | some rh =>
  obtain⟨r,v,h'⟩:=rh;simp only[hap,Aj,Ae,Ak] at hs;obtain⟨rfl,rfl⟩:=hs;obtain⟨ht,hnone⟩:=WD hap
  have hmut:Fl E ops st ⟨dst,.call ⟨.builtin .append,args,ts⟩,ty,pos,after,guard⟩=Wa (FL st.tmps s):=by unfold Fl Alo; simp only[hargs,Ox,Aa]
  obtain rfl:args=#[s,x]:=by cases args with | mk l=>simp only at hargs; rw[hargs]
  obtain rfl:ts=#[t,t]:=by cases ts with | mk l=>simp only at hts; rw[hts]
  refine⟨v,hfree,rfl,fun _ n hn=>ht.there n (hmut ▸ hn),ht.stays,fun _ n hn hl=>ht.same n (hmut ▸ hn) (fun e=>hl ?_),?_⟩
  ·cases dst with
   | none=>cases hdst
   | some d=>simp only[Be] at e hnone; cases e; exact hnone
  ·intro I0 B A w a Q hm hsz hrd hnew;have hr:=P2 (w:=w) hrd
   have hnm:A (dst.getD 0)=wN:=hnew _ hnone (by have:=Rt hap;exact fun e=>by rw[e] at this; cases this)
   obtain⟨v',w',A',hrun,h1,h2,h3,h4,h5,h6,h7,h8,_⟩:=Aan (ty:=ty) he.ty hm hnm (hr s (by simp[Op.operands,Call.operands])) (hr x (by simp[Op.operands,Call.operands])) hap rfl;intro K hK;rw[Az (Jc hg)];unfold Oper.wp execOp;simp only[resolve,invoke,builtin,Sem.run_bind,Sem.run_pure,Result.andThen_ok,List.map_toArray,yi,List.map_nil,hrun];rw[Oper.upon_value];refine hK v' w' ⟨A',h1,h2,h3,h4,fun n p hp hn=>?_,fun _=>⟨hmut ▸ h7,fun m q hmn hq=>h8 m q (hmut ▸ hmn) hq⟩⟩;have:=h5 n p hp hn;subst this;exact⟨hnone,fun e=>by have:=Rt hap; rw[e] at this; cases this⟩
 ·cases hs
theorem KE{c c':Ctx}{w w':World}(h:Jr c w c' w'){p:Place}(hb:p.st≠.dead->∀b,p.F1=wM b->w'.heap[b]?=w.heap[b]?){fo:Bool × OB}(hr:Dn c w p fo):Dn c' w' p fo:=by
 by_cases hd:p.st=.dead
 ·obtain⟨fz,ob⟩:=fo;cases ob with
  | dead=>exact hd
  | box cs=>exact absurd hd (Ck hr.1)
  | Bj e k l=>exact absurd hd (Ck hr.1)
  | CO e sz l=>exact absurd hd (Ck hr.1)
 ·exact Dn.D1 h rfl rfl (hb hd) fo hr
inductive WJ(E:Env)(h:D6)(ρ:Operand->DV)(op:Op)(n:Nat)(r:Bool)(v:DV)(ob:OB):Prop
 | Lg (f:Operand) (args:Array Operand) (ts:Array TypeId) (g:FuncId) (x:Operand) (a c:Int) (e:TypeId) (l:Bf):op=.call ⟨.value f,args,ts⟩->args.toList=[x]->ρ f=.fn g [] []->E.Lg g=wM e ->
  ρ x=.agg [.int .i64 a,.int .i64 c,.Dh n]->look h n=wM (wh,.Bj e .u64 l)->v=.undef->ob=.dead->WJ E h ρ op n r v ob
 | wr (f:Operand) (args:Array Operand) (ts:Array TypeId) (g:FuncId) (x:Operand) (xs:List Operand) (W:Writer) (l:Bf) (ds:List DV) (ns:List Nat):op=.call ⟨.value f,args,ts⟩->args.toList=x::xs->ρ f=.fn g [] []->E.wr g=wM W ->
  ρ x=.Dh n->look h n=wM (wh,.Bj W.elem W.kind l)->GU h (xs.map ρ)=wM (ds,ns)->n ∉ ns->W.pre l ds=r->v=.undef->ob=.Bj W.elem W.kind (W.out l ds)->WJ E h ρ op n r v ob
 | copy (args:Array Operand) (ts:Array TypeId) (x y:Operand) (t t':TypeId) (ti ei:TI) (e:TypeId) (k:IntKind) (l z:Bf):op=.call ⟨.builtin .copy,args,ts⟩->args.toList=[x,y]->ts.toList=[t,t']->ρ x=.Dh n->E.ty t=wM ti->ti.kind=.slice e ->
  E.ty e=wM ei->ei.size=1->look h n=wM (wh,.Bj e k l)->IS h k (ρ y)=wM z->v=.int .i64 (min z.length l.length:Nat)->ob=.Bj e k (Mr l z)->WJ E h ρ op n r v ob
theorem XA{h:D6}{ρ:Operand->DV}{g?:Option Bool}{op:Op}{n:Nat}{r:Bool}{v:DV}{ob:OB}(hh:KD E h ρ g? op=wM (n,r,v,ob)):g?=wN/\WJ E h ρ op n r v ob:=by
 unfold KD at hh;split at hh
 ·rename_i f args ts;split at hh
  ·rename_i g x xs hf ha;split at hh
   ·rename_i W hW;split at hh
    ·rename_i m hx;split at hh
     ·rename_i e k l hl;cases hlo:GU h (xs.map ρ) with
      | none=>simp[hlo] at hh
      | some dn =>
        obtain⟨ds,ns⟩:=dn;simp only[hlo,Aj] at hh;cases hc:(e==W.elem&&decide (k=W.kind)&&!(ns.contains m)) with
        | false=>rw[hc] at hh; simp at hh
        | true =>rw[hc,Aa] at hh;simp only[Ae,Ak] at hh;simp only[Am,beq_iff_eq,Ai,yt] at hc;obtain⟨⟨rfl,rfl⟩,hns⟩:=hc;obtain⟨rfl,h1,h2,h3⟩:=hh;exact⟨rfl,.wr f args ts g x xs W l ds ns rfl ha hf hW hx hl hlo (fun k=>by simp[List.contains_iff_mem,k] at hns) h1 h2.symm h3.symm⟩
     ·cases hh
    ·cases hh
   ·split at hh
    ·rename_i e a c m hE hx;split at hh
     ·rename_i e' l hl;cases hc:(e==e') with
      | false=>rw[hc] at hh; simp at hh
      | true =>
        rw[hc,Aa] at hh;simp only[Ae,Ak] at hh;obtain rfl:e=e':=by simpa using hc
        obtain⟨rfl,_,h2,h3⟩:=hh;exact⟨rfl,.Lg f args ts g x a c e l rfl ha hf hE hx hl h2.symm h3.symm⟩
     ·cases hh
    ·cases hh
  ·cases hh
 ·rename_i args ts;split at hh
  ·rename_i x y t t' ha ht;split at hh
   ·rename_i m sz by_ e zr hx hT;split at hh
    ·rename_i e' k l ei hl hE;cases hz:IS h k (ρ y) with
     | none=>simp[hz] at hh
     | some z =>
       simp only[hz,Aj] at hh;cases hc:(e==e'&&ei.size==1) with
       | false=>rw[hc] at hh; simp at hh
       | true =>rw[hc,Aa] at hh;simp only[Ae,Ak] at hh;simp only[Am,beq_iff_eq] at hc;obtain⟨rfl,hs⟩:=hc;obtain⟨rfl,_,h2,h3⟩:=hh;exact⟨rfl,.copy args ts x y t t' _ ei e k l z rfl ha ht hx hT rfl hE hs hl hz h2.symm h3.symm⟩
    ·cases hh
   ·cases hh
  ·cases hh
 ·cases hh
theorem TX{w w':World}{B:Nat}{e e':TypeId}{s s' n n':Nat}{v:Value}{xs xs':List Value}(h:w.ownsRow B e s v n xs)(h':w'.ownsRow 0 e' s' v n' xs'):w'.ownsRow B e' s' v n' xs':=by
 refine⟨h'.1,?_⟩;rcases h'.2 with h2 | ⟨g,cap,cur,hv,_,r⟩
 ·exact .inl h2
 ·rcases h.2 with ⟨hv0,_⟩ | ⟨g2,cap2,cur2,hv2,hB,_⟩
  ·rw[hv] at hv0; cases hv0
  ·rw[hv] at hv2;cases hv2;exact .inr ⟨g,cap,cur,hv,hB,r⟩
theorem XG{I0:Nat->Prop}{B:Nat}{A:Nat->Option Place}{h:D6}{w w':World}(hm:Mem I0 B A h w){n:Nat}{p:Place}{e:TypeId}{k:IntKind}{l l':Bf}{sv:Value}(hp:A n=wM p)(hlk:look h n=wM (wh,.Bj e k l))(hlive:p.st=.live)(hkind:p.kind=.row sv 1)
 (hown:w.ownsRow B e 1 sv l.length (l.map (Value.int k))) (hown':w'.ownsRow 0 e 1 sv l'.length (l'.map (Value.int k))) (hb:Below 0 w w') (hk:∀b,b<w.heap.size->sv.ownBlock≠wM b->w'.heap[b]?=w.heap[b]?):
 Mem I0 B A (Ul h n (wh,.Bj e k l')) w'/\GG A w A w'/\Below B w w':=by
 have hblk:p.F1=sv.ownBlock:=by unfold Place.F1; rw[hkind]
 have hmv:GG A w A w':=⟨hb.size,fun m q hq=>⟨q,hq,by by_cases hd:q.st=.dead; exact .inl hd; exact .inr ⟨hd,rfl⟩⟩,fun m q b hq hql hqb _=>⟨m,q,hq,hql,hqb⟩,fun b hlt hno=>hk b hlt (fun h=>hno n p hp hlive (by rw[hblk]; exact h))⟩
 refine⟨⟨AP hm.hB hb.size,hm.Qg,fun m q fo hq hlo=>?_,fun m q b hq hqd hqb=>?_,hm.inj⟩,hmv,⟨hb.os,hb.tape,hb.output,hb.size,fun b hlt=>hk b (AU hlt hm.hB) fun h=>?_⟩⟩
 ·rw[Fh hlk] at hlo;by_cases hmn:m=n
  ·subst hmn;rw[Az rfl] at hlo; cases hlo;rw[hp] at hq; cases hq;exact⟨hlive,sv,hkind,TX hown hown'⟩
  ·rw[Ay hmn] at hlo;exact KE hmv.D1 (fun hd b hb'=>hk b (hm.Gf m q b hq hd hb').2 fun h=>hmn (hm.inj m n q p b hq hp hd (by rw[hlive]; simp) hb' (by rw[hblk]; exact h))) (hm.obj m q fo hq hlo)
 ·have:=hm.Gf m q b hq hqd hqb;exact⟨this.1,AU this.2 hb.size⟩
 ·have:=(hm.Gf n p b hp (by rw[hlive]; simp) (by rw[hblk]; exact h)).1;omega
theorem AfY{w:World}{dT sT ty elem:TypeId}(hu:P.underlying dT=wM (.slice elem))(hs:(P.info? elem).map (·.size)=wM 1){e:TypeId}{k:IntKind}{l z:Bf}{v vy:Value}
 (hown:w.ownsRow 0 e 1 v l.length (l.map (Value.int k))) (hy:∃a m c,vy=.slice a m c/\m=z.length/\(m=0\/∃b o,a=wM ⟨b,o,wN⟩/\Fb w b o (z.map (Value.int k)))):
 ∃w',(Builtin.copy_ #[dT,sT] ty #[v,vy]).run P w=.ok (goInt ((min z.length l.length:Nat):Int)) w'/\w'.ownsRow 0 e 1 v (Mr l z).length ((Mr l z).map (Value.int k))/\Below 0 w w'/\∀b,b<w.heap.size->v.ownBlock≠wM b->w'.heap[b]?=w.heap[b]?:=by
 obtain⟨a,m,c,rfl,rfl,hy⟩:=hy
 have hlen:(Mr l z).length=l.length:=by unfold Mr;rw[A8,zN,zO]; omega
 have nothing:min z.length l.length=0->Mr l z=l:=fun h=>by
  unfold Mr;rcases(show z.length=0\/l.length=0 by omega) with h | h
  ·rw[AJ h]; simp
  ·rw[AJ h]; simp
 by_cases h0:min z.length l.length=0
 ·obtain⟨dp,dl,dc,hv,hdl⟩:∃dp dl dc,v=.slice dp dl dc/\dl=l.length:=by
   rcases hown.2 with ⟨hv,hn⟩ | ⟨g,cap,cur,hv,_⟩
   ·exact⟨wN,0,0,hv,hn.symm⟩
   ·exact⟨_,_,cap,hv,rfl⟩
  subst hv hdl;refine⟨w,?_,by rw[nothing h0]; exact hown,Below.refl _ _,fun _ _ _=>rfl⟩;rw[h0];exact run_copy_none w dT sT ty elem dp a l.length dc z.length c hu hs h0
 ·rcases hown.2 with ⟨hv,hn⟩ | ⟨g,cap,cur,hv,_,hg,hnc,hm,hcs,htake⟩
  ·omega
  ·subst hv;rcases hy with hy | ⟨b,o,rfl,hr⟩
   ·omega
   ·let cs:List Value:=(z.take l.length).map (Value.int k)
    have hcl:cs.length=Nat.min z.length l.length:=by show((z.take l.length).map (Value.int k)).length=_;rw[AO,zN];exact Nat.min_comm _ _
    have hcs1:cs.length<=l.length:=by rw[hcl]; exact xN _ _
    have hrun:=run_copy_row (P:=P) w dT sT ty elem g 0 l.length cap ⟨b,o,wN⟩ z.length c cur e cs hu hs hg hcl (fun j u hu=>by
     have hj:(z.map (Value.int k))[j]?=wM u:=by
      have:cs[j]?=wM u:=hu;rw[show cs=(z.map (Value.int k)).take l.length from List.map_take.symm ▸ rfl] at this;rw[List.getElem?_take] at this;split at this
      ·exact this
      ·cases this
     have:=hr j u hj;unfold Addr.add;split
     ·rename_i h0; rw[h0] at this; exact this
     ·exact this) (by omega) (fun u hu=>by obtain⟨x,_,rfl⟩:=zh.1 hu;rfl)
    have hsz:g<w.heap.size:=(Array.getElem?_eq_some_iff.1 hg).1;refine⟨w.setRow g (zG 0 cur.toList++cs++zL (0+cs.length) cur.toList).toArray,hrun.trans (congrArg (fun q:Nat=>Result.ok (goInt (q:Int)) _) hcl),?_,?_,?_⟩
    ·refine⟨by rw[AO,hlen]; omega,.inr ⟨g,cap,_,by rw[hlen],zl _,setRow_heap w g cur _ e _ hg,by rw[hlen]; exact hnc,hm,?_,?_⟩⟩
     ·rw[List.size_toArray,A8,A8,zN,zO,hcl,zW]
      have:Nat.min z.length l.length<=cur.size:=by have:=xN z.length l.length;omega
      omega
     ·rw[hlen];show zG (l.length*1) (zG 0 cur.toList++cs++zL (0+cs.length) cur.toList)=_;rw[List.take_zero,List.nil_append,AR,AS];rw[AR] at htake;have h1:cs.length<=l.length:=by rw[hcl]; exact xN _ _
      rw[List.take_append,List.take_of_length_le h1,List.take_drop,show cs.length+(l.length-cs.length)=l.length by omega,htake];unfold Mr;rw[List.map_append,List.map_drop];congr 1;by_cases hzl:z.length<=l.length
      ·rw[hcl,show Nat.min z.length l.length=z.length from Nat.min_eq_left hzl]
      ·rw[hcl,show Nat.min z.length l.length=l.length from Nat.min_eq_right (by omega),Ap (by rw[AO]; exact AB _),Ap (by rw[AO]; omega)]
    ·exact⟨rfl,rfl,rfl,by simp[World.setRow],fun b hb=>by omega⟩
    ·intro b _ hbn;exact setRow_other w g b _ (fun e=>hbn (by rw[e]; rfl))
theorem YS(he:GH P E){ops:Array Oper}{draw:Bool}{st st':St}{o:Oper}(hs:Js E ops draw st o=wM (wc,st'))(hfree:∀t,o.dst=wM t->E.np<=t)(hmut:Ox o.op=wh)
 (hsp:¬∀g?,L5 ops st.tmps o=wM g?->(cond draw wN (KD E st.heap (FL st.tmps) g? o.op))=wN):∃d,Nz P E ops draw st o st' d:=by
 obtain⟨dst,op,ty,pos,after,guard⟩:=o;rw[Classical.not_forall] at hsp;obtain⟨g?,hsp⟩:=hsp;rw[Classical.not_imp] at hsp;obtain⟨hc,hsp⟩:=hsp;cases draw with
 | true=>exact absurd rfl hsp
 | false =>
 dsimp only at hsp hmut;rw[Af] at hsp;cases hsa:KD E st.heap (FL st.tmps) g? op with
 | none=>exact absurd hsa hsp
 | some x4 =>
 obtain⟨n,r,d,ob⟩:=x4;obtain⟨rfl,ho⟩:=XA hsa;have hg:=OV hc;dsimp only at hg
 have hst:r=wc/\st'={ tmps:=OC st.tmps dst d,heap:=Ul st.heap n (wh,ob) }:=by
  cases ho with
  | Lg f args ts g x a c e l hop =>subst hop;unfold Js at hs;simp only[hc,Aj,Af,hsa,Ae,Ak] at hs;exact⟨hs.1,hs.2.symm⟩
  | wr f args ts g x xs W l ds ns hop =>subst hop;unfold Js at hs;simp only[hc,Aj,Af,hsa,Ae,Ak] at hs;exact⟨hs.1,hs.2.symm⟩
  | copy args ts x y t t' ti ei e k l z hop =>subst hop;unfold Js at hs;simp only[hc,Aj,Af,hsa,Ae,Ak] at hs;exact⟨hs.1,hs.2.symm⟩
 obtain⟨rfl,rfl⟩:=hst
 have hlk:∃x,look st.heap n=wM x:=by
  cases ho with
  | Lg _ _ _ _ _ _ _ _ _ _ _ _ _ _ h=>exact⟨_,h⟩
  | wr _ _ _ _ _ _ _ _ _ _ _ _ _ _ _ h=>exact⟨_,h⟩
  | copy _ _ _ _ _ _ _ _ _ _ _ _ _ _ _ _ _ _ _ _ h=>exact⟨_,h⟩
 obtain⟨x0,hlk⟩:=hlk;have ht:=JY (y:=(wh,ob)) hlk;refine⟨d,hfree,rfl,fun h=>(by cases h),ht.stays,fun h=>(by cases h),?_⟩;intro I0 B A w a Q hm hsz hrd hnew;have hr:=P2 (w:=w) hrd
 have own:∀{e:TypeId} {k:IntKind} {l:Bf} {v:Value},look st.heap n=wM (wh,.Bj e k l)->By (Cd I0 B A w) w (.Dh n) v ->
  ∃p,A n=wM p/\p.st=.live/\p.kind=.row v 1/\w.ownsRow B e 1 v l.length (l.map (Value.int k)):=by
  intro e k l v hlk hv;simp only[By] at hv;obtain⟨_,p,hp,hpd⟩:=hv;have hp:A n=wM p:=hp;obtain⟨hlive,sv,hkind,hown⟩:=DX hm hp hlk;simp only[zT,if_false] at hlive
  have hsv:v=sv:=by
   rcases hpd with hpd | ⟨size,hk⟩
   ·rw[hlive] at hpd; cases hpd
   ·rw[hkind] at hk; cases hk; rfl
  subst hsv;exact⟨p,hp,hlive,hkind,hown⟩
 cases ho with
 | Lg f args ts g x r c e l hop hargs hf hE hx hlk hd hob =>
   subst hop hd hob;have hf':=hr f (by simp[Op.operands,Call.operands]);have hx':=hr x (by simp[Op.operands,Call.operands]; exact .inr (by rw[<- wB,hargs]; simp));rw[hf] at hf';rw[hx] at hx';simp only[By] at hf' hx';obtain⟨fs,cs,hfv,hfs,hcs⟩:=hf';obtain⟨vs,hxv,hvs⟩:=hx'
   have e1:fs=#[]:=by have:=hfs.length; simp at this; exact xe this.symm
   have e2:cs=#[]:=by have:=hcs.length; simp at this; exact xe this.symm
   subst e1; subst e2;simp only[BJ,By] at hvs;obtain⟨u1,us1,h1,rfl,u2,us2,rfl,rfl,v,us3,rfl,⟨hcell,p,hp,hpd⟩,rfl⟩:=hvs;have hp:A n=wM p:=hp;have hvs':vs=#[.int .i64 r,.int .i64 c,v]:=yc.1 (by simpa using h1);subst hvs';obtain⟨hlive,sv,hkind,hown⟩:=DX hm hp hlk;simp only[zT,if_false] at hlive
   have hsv:v=sv:=by
    rcases hpd with hpd | ⟨size,hk⟩
    ·rw[hlive] at hpd; cases hpd
    ·rw[hkind] at hk; cases hk; rfl
   subst hsv;have hblk:p.F1=v.ownBlock:=by unfold Place.F1; rw[hkind]
   have hrun:=(he.Lg g e hE).run w r c v l (Kh hown (zl _))
   let A':Nat->Option Place:=fun m=>if m=n then wM ⟨.dead,p.kind⟩ else A m
   have hA':∀{m:Nat} {q:Place},A' m=wM q->q.st≠.dead->m≠n/\A m=wM q:=by
    intro m q hq hqd;by_cases hmn:m=n
    ·have hq:(if m=n then wM ⟨.dead,p.kind⟩ else A m)=wM q:=hq;rw[Az hmn] at hq; cases hq; exact absurd rfl hqd
    ·have hq:(if m=n then wM ⟨.dead,p.kind⟩ else A m)=wM q:=hq;rw[Ay hmn] at hq; exact⟨hmn,hq⟩
   intro K hK;rw[Az (Jc hg)]
   obtain rfl:args=#[x]:=by cases args with | mk l=>simp only at hargs; rw[hargs]
   refine Eu.wp (K':=fun _ w'=>Below 0 w w'/\∀b,b<w.heap.size->v.ownBlock≠wM b->w'.heap[b]?=w.heap[b]?) ?_ ?_
   ·unfold Eu
    have hexec:(execOp a.eval ⟨dst,.call ⟨.value f,#[x],ts⟩,ty,pos,after,guard⟩).run P w=.ok (.enter g #[.agg #[.int .i64 r,.int .i64 c,v]]) w:=by
     simp only[execOp,resolve,hfv,Deferred.ofValue,Sem.run_bind,Sem.run_pure,Result.andThen_ok,invoke];have:(#[]++Array.map a.eval #[x]++#[]:Array Value)=#[.agg #[.int .i64 r,.int .i64 c,v]]:=by simp[hxv]
     rw[this];exact(he.Lg g e hE).call _ _
    rw[hexec];exact hrun.mono fun en w' ⟨⟨u,hu⟩,hb,hk⟩=>⟨u,hu,hb,hk⟩
   ·rintro u w' ⟨hb,hk⟩
    have hmv:GG A w A' w':=by
     refine⟨hb.size,fun m q hq=>?_,fun m q b hq hql hqb _=>?_,fun b hlt hno=>hk b hlt (fun h=>hno n p hp hlive (by rw[hblk]; exact h))⟩
     ·by_cases hmn:m=n
      ·subst hmn;exact⟨⟨.dead,p.kind⟩,Az rfl,.inl rfl⟩
      ·refine⟨q,(Ay hmn).trans hq,?_⟩;by_cases hd:q.st=.dead
       ·exact .inl hd
       ·exact .inr ⟨hd,rfl⟩
     ·obtain⟨_,hq⟩:=hA' hq (by rw[hql]; simp);exact⟨m,q,hq,hql,hqb⟩
    refine hK u w' ⟨A',⟨AP hm.hB hb.size,hm.Qg,fun m q fo hq hlo=>?_,fun m q b hq hqd hqb=>?_,fun m m' q q' b hq hq' hqd hqd' hqb hqb'=>?_⟩,hmv,⟨hb.os,hb.tape,hb.output,hb.size,fun b hlt=>hk b (AU hlt hm.hB) fun h=>?_⟩,by simp[By],fun m q hq hn=>?_,fun h=>(by cases h)⟩
    ·rw[Fh hlk] at hlo;by_cases hmn:m=n
     ·rw[Az hmn] at hlo; cases hlo;have hq:(if m=n then wM ⟨.dead,p.kind⟩ else A m)=wM q:=hq;rw[Az hmn] at hq; cases hq;rfl
     ·rw[Ay hmn] at hlo;have hq:(if m=n then wM ⟨.dead,p.kind⟩ else A m)=wM q:=hq;rw[Ay hmn] at hq;refine KE hmv.D1 (fun hd b hb'=>hk b (hm.Gf m q b hq hd hb').2 fun h=>hmn (hm.inj m n q p b hq hp hd (by rw[hlive]; simp) hb' (by rw[hblk]; exact h))) (hm.obj m q fo hq hlo)
    ·obtain⟨_,hq⟩:=hA' hq hqd;have:=hm.Gf m q b hq hqd hqb;exact⟨this.1,AU this.2 hb.size⟩
    ·obtain⟨_,hq⟩:=hA' hq hqd;obtain⟨_,hq'⟩:=hA' hq' hqd';exact hm.inj m m' q q' b hq hq' hqd hqd' hqb hqb'
    ·have:=(hm.Gf n p b hp (by rw[hlive]; simp) (by rw[hblk]; exact h)).1;omega
    ·by_cases hmn:m=n
     ·subst hmn; rw[hp] at hn; cases hn
     ·have hq:(if m=n then wM ⟨.dead,p.kind⟩ else A m)=wM q:=hq;rw[Ay hmn,hn] at hq; cases hq
 | wr f args ts g x xs W l ds ns hop hargs hf hE hx hlk hlo hns hpre hd hob =>
   subst hop hd hob;have hf':=hr f (by simp[Op.operands,Call.operands]);rw[hf] at hf';simp only[By] at hf';obtain⟨fs,cs,hfv,hfs,hcs⟩:=hf'
   have e1:fs=#[]:=by have:=hfs.length; simp at this; exact xe this.symm
   have e2:cs=#[]:=by have:=hcs.length; simp at this; exact xe this.symm
   subst e1; subst e2;have hmem:∀y∈args.toList,By (Cd I0 B A w) w (FL st.tmps y) (a.eval y):=fun y hy=>hr y (by simp[Op.operands,Call.operands]; exact .inr (wB.1 hy))
   have hx':=hmem x (by rw[hargs]; exact AY);rw[hx] at hx';obtain⟨p,hp,hlive,hkind,hown⟩:=own hlk hx';have hblk:p.F1=(a.eval x).ownBlock:=by unfold Place.F1; rw[hkind]
   have hrest:BJ (Cd I0 B A w) w (xs.map (FL st.tmps)) (xs.map a.eval):=by
    have:∀ys:List Operand,(∀y∈ys,y∈args.toList)->BJ (Cd I0 B A w) w (ys.map (FL st.tmps)) (ys.map a.eval):=by
     intro ys
     induction ys with
     | nil=>intro _; simp[BJ]
     | cons y ys ih =>intro hys;rw[yi,yi,BJ.CR];exact⟨_,_,rfl,hmem y (hys y AY),ih fun z hz=>hys z (AN _ hz)⟩
    exact this xs fun y hy=>by rw[hargs]; exact AN _ hy
   have hlow:=JR (PA hm 8) _ _ ds ns hlo hrest
   have hseen:∀b,seen I0 B A w ns b->b<w.heap.size/\(a.eval x).ownBlock≠wM b:=by
    intro b hb;rcases hb with hb | ⟨m,q,hmn,hq,hqd,hqb⟩
    ·exact⟨hb.1,fun h=>hb.2.2 n p hp hlive (by rw[hblk]; exact h)⟩
    ·exact⟨(hm.Gf m q b hq hqd hqb).2,fun h=>hns (by rw[<- hm.inj m n q p b hq hp hqd (by rw[hlive]; simp) hqb (by rw[hblk]; exact h)]; exact hmn)⟩
   have hrun:=(he.wr g W hE).run w (a.eval x) l ds (xs.map a.eval) (Kh hown (zl _)) (BJ.EP (JM hseen) _ _ hlow) hpre;intro K hK;rw[Az (Jc hg)]
   have hav:Array.map a.eval args=(a.eval x::xs.map a.eval).toArray:=by apply yc.1;rw[Array.toList_map,hargs]; rfl
   refine Eu.wp (K':=fun _ w'=>w'.ownsRow 0 W.elem 1 (a.eval x) (W.out l ds).length ((W.out l ds).map (Value.int W.kind))/\Below 0 w w'/\∀b,b<w.heap.size->(a.eval x).ownBlock≠wM b->w'.heap[b]?=w.heap[b]?) ?_ ?_
   ·unfold Eu
    have hexec:(execOp a.eval ⟨dst,.call ⟨.value f,args,ts⟩,ty,pos,after,guard⟩).run P w=.ok (.enter g (a.eval x::xs.map a.eval).toArray) w:=by
     simp only[execOp,resolve,hfv,Deferred.ofValue,Sem.run_bind,Sem.run_pure,Result.andThen_ok,invoke];have:(#[]++Array.map a.eval args++#[]:Array Value)=(a.eval x::xs.map a.eval).toArray:=by rw[hav]; simp
     rw[this];exact(he.wr g W hE).call _ _
    rw[hexec];exact hrun.mono fun en w' ⟨⟨u,hu⟩,ho,hb,hk⟩=>⟨u,hu,ho,hb,hk⟩
   ·rintro u w' ⟨ho,hb,hk⟩
    obtain⟨m1,m2,m3⟩:=XG hm hp hlk hlive hkind hown ho hb hk;exact hK u w' ⟨A,m1,m2,m3,by simp[By],fun m q hq hn=>(by rw[hn] at hq; cases hq),fun h=>(by cases h)⟩
 | copy args ts x y t t' ti ei e k l z hop hargs hts hx hT hti hE hei hlk hz hd hob =>
   subst hop hd hob
   obtain rfl:args=#[x,y]:=by cases args with | mk l=>simp only at hargs; rw[hargs]
   obtain rfl:ts=#[t,t']:=by cases ts with | mk l=>simp only at hts; rw[hts]
   have hx':=hr x (by simp[Op.operands,Call.operands]);have hy':=hr y (by simp[Op.operands,Call.operands]);rw[hx] at hx';obtain⟨p,hp,hlive,hkind,hown⟩:=own hlk hx';have hu:=(he.ty t ti hT).desc;rw[hti] at hu;simp only[CP] at hu
   have hs:(P.info? e).map (·.size)=wM 1:=by obtain⟨i,zz,hi,hsz,_⟩:=(he.ty e ei hE).info;rw[hi,yh,hsz,hei]
   obtain⟨w',hrun,ho,hb,hk⟩:=AfY (sT:=t') (ty:=ty) hu hs (Kh hown (zl _)) (QI hm hy' hz);intro K hK;rw[Az (Jc hg)];obtain⟨m1,m2,m3⟩:=XG hm hp hlk hlive hkind hown ho hb hk;unfold Oper.wp;simp[execOp,resolve,invoke,builtin,hrun,Result.andThen];exact hK _ w' ⟨A,m1,m2,m3,by simp[By,goInt],fun m q hq hn=>(by rw[hn] at hq; cases hq),fun h=>(by cases h)⟩
theorem Su(he:GH P E){ops:Array Oper}{draw:Bool}{st st':St}{o:Oper}(hs:QZ E ops draw st o=wM (wc,st')):∃d,Nz P E ops draw st o st' d:=by
 unfold QZ at hs;cases hp:Ajg E o with
 | true=>rw[hp] at hs; cases hs
 | false =>
 rw[hp,Af] at hs
 have hfree:∀t,o.dst=wM t->E.np<=t:=fun t ht=>by
  unfold Ajg at hp;rw[ht] at hp;rcases AF t E.np with h | h
  ·have hp:yF t E.np=wh:=hp;rw[show yF t E.np=wc by rw[Nat.blt_eq]; exact h] at hp; cases hp
  ·exact h
 cases hmut:Ox o.op with
 | false =>
   by_cases hsp:∀g?,L5 ops st.tmps o=wM g?->(cond draw wN (KD E st.heap (FL st.tmps) g? o.op))=wN
   ·exact Xj he hs hfree hmut hsp
   ·exact YS he hs hfree hmut hsp
 | true =>
   obtain⟨dst,op,ty,pos,after,guard⟩:=o;dsimp only at hmut;unfold Ox at hmut;split at hmut
   ·exact Xi he hs hfree
   ·exact V6 he hs hfree
   ·cases hmut
end
structure Uf(E:Env) where
 F1:Nat->Prop
 val:Nat->Value
structure HQ{E:Env}(S:Uf E)(I0:Nat->Prop)(B:Nat)(w0:World)(A:Nat->Option Place)(f:Nat->Option (Bool × OB))(g:Nat->DV)(len:Nat)(a:Act)(w:World):Prop where
 defers:a.defers=[]
 size:a.tmps.size=len
 below:Below B w0 w
 hB:B<=w.heap.size
 Qg:∀b,I0 b->b<B
 obj:∀n p,A n=wM p->∃fo,f n=wM fo/\Dn (Cd I0 B A w) w p fo
 Gf:∀n p b,A n=wM p->p.st≠.dead->p.F1=wM b->B<=b/\b<w.heap.size
 inj:∀n m p q b,A n=wM p->A m=wM q->p.st≠.dead->q.st≠.dead->p.F1=wM b->q.F1=wM b->n=m
 tmps:∀t,By (Cd I0 B A w) w (g t) (a.tmps.getD t undef)
 kept:∀b,S.F1 b->b<w.heap.size/\w.heap[b]?=w0.heap[b]?/\∀n p,A n=wM p->p.st=.live->p.F1≠wM b
 pin:∀t,t<E.np->a.tmps.getD t undef=S.val t
theorem UQ{S:Nat->Prop}{A A':Nat->Option Place}{w0 w w':World}(h:∀b,S b->b<w.heap.size/\w.heap[b]?=w0.heap[b]?/\∀n p,A n=wM p->p.st=.live->p.F1≠wM b)(hm:GG A w A' w'):
 ∀b,S b->b<w'.heap.size/\w'.heap[b]?=w0.heap[b]?/\∀n p,A' n=wM p->p.st=.live->p.F1≠wM b:=fun b hb=>by
 obtain⟨k1,k2,k3⟩:=h b hb;refine⟨AU k1 hm.size,(hm.kept b k1 k3).trans k2,fun n p hp hl hbk=>?_⟩;obtain⟨m,q,hq,hql,hqb⟩:=hm.live n p b hp hl hbk k1;exact k3 m q hq hql hqb
section
variable{P:Program}{E:Env}{S:Uf E}{I0:Nat->Prop}{B:Nat}{w0:World}{A:Nat->Option Place}{f f':Nat->Option (Bool × OB)}{g g':Nat->DV}{len:Nat}{a:Act}{w:World}
theorem HQ.mem(h:HQ S I0 B w0 A f g len a w){hp:D6}(hf:∀n p fo,A n=wM p->look hp n=wM fo->f n=wM fo):Mem I0 B A hp w :=⟨h.hB,h.Qg,fun n p fo hn hl=>by obtain⟨fo',h1,h2⟩:=h.obj n p hn;rw[hf n p fo hn hl] at h1; cases h1; exact h2,h.Gf,h.inj⟩
theorem PO{dst:Option Tmp}{v:Value}{t:Nat}:(a.put dst v).tmps.getD t undef=if dst=wM t/\t<a.tmps.size then v else a.tmps.getD t undef:=by
 cases dst with
 | none=>simp[Act.put]
 | some d =>
   simp only[Act.put,Ae,z5];by_cases h:d=t
   ·subst h;by_cases h2:d<a.tmps.size
    ·simp[h2]
    ·simp[h2]
   ·rw[vD h,Ay (fun e=>h e.1)]
theorem UU{l:List DV}{dst:Option Nat}{d:DV}{t:Nat}:(OC l dst d).getD t .undef=if dst=wM t/\t<l.length then d else l.getD t .undef:=by
 cases dst with
 | none=>simp[OC]
 | some e =>
   simp only[OC,Ae,Al];by_cases h:e=t
   ·subst h;by_cases h2:e<l.length
    ·simp[h2]
    ·simp[h2]
   ·rw[List.getElem?_set_ne h,Ay (fun e=>h e.1)]
theorem X6{dst:Option Tmp}{v:Value}:(a.put dst v).tmps.size=a.tmps.size:=by cases dst<;>simp[Act.put]
theorem put_defers{dst:Option Tmp}{v:Value}:(a.put dst v).defers=a.defers:=by cases dst<;>rfl
theorem Rb{l:List DV}{dst:Option Nat}{d:DV}:(OC l dst d).length=l.length:=by cases dst<;>simp[OC]
theorem HQ.step{ops:Array Oper}{st st':St}{o:Oper}{d:DV}(h:HQ S I0 B w0 A f g len a w)(hk:Nz P E ops wc st o st' d)
 (h1:∀n,A n≠wN->look st.heap n≠wN->look st.heap n=f n)
 (h2:∀t∈o.looksAt ops,st.tmps.getD t .undef=g t) (h3:st.tmps.length=len)
 (h4:∀n,look st.heap n=wN->look st'.heap n≠wN->f n=wN)
 (h5:∀n,look st'.heap n≠wN->(n∈Fl E ops st o\/look st.heap n=wN)->f' n=look st'.heap n)
 (h6:∀n,n ∉ Fl E ops st o->¬(look st.heap n=wN/\look st'.heap n≠wN)->f' n=f n)
 (h7:∀t,g' t=if o.dst=wM t/\t<len then d else g t) {Q:Exit->Act->World->Prop}:
 HH P ops o a w Q fun v w'=>∃A',HQ S I0 B w0 A' f' g' len (a.put o.dst v) w':=by
 have hm:Mem I0 B A st.heap w:=h.mem fun n p fo hn hl=>by rw[<- h1 n (by rw[hn]; simp) (by rw[hl]; simp)]; exact hl
 refine(hk.run hm (h.size.trans h3.symm) (fun t ht=>by rw[h2 t ht]; exact h.tmps t) (fun n hn hn'=>?_)).mono ?_
 ·cases hA:A n with
  | none=>rfl
  | some p =>obtain⟨fo,hfo,_⟩:=h.obj n p hA;rw[h4 n hn hn'] at hfo; cases hfo
 ·rintro v w' ⟨A',hm',hmv,hb,hv,hnew,hdr⟩
  obtain⟨hkept,hsame⟩:=hdr rfl;have hlater:=hmv.D1 (I0:=I0) (B:=B)
  refine⟨A',put_defers.trans h.defers,X6.trans h.size,h.below.trans hb,hm'.hB,hm'.Qg,fun n p hp=>?_,hm'.Gf,hm'.inj,fun t=>?_,UQ h.kept hmv,fun t ht=>by rw[PO,Ay (fun e=>by have:=hk.free t e.1; omega)]; exact h.pin t ht⟩
  ·have J8:look st'.heap n≠wN->(n∈Fl E ops st o\/look st.heap n=wN)->∃fo,f' n=wM fo/\Dn (Cd I0 B A' w') w' p fo:=by
    intro hl ht;cases hq:look st'.heap n with
    | none=>exact absurd hq hl
    | some fo=>exact⟨fo,by rw[h5 n hl ht,hq],hm'.obj n p fo hp hq⟩
   cases hA:A n with
   | none =>obtain⟨e1,e2⟩:=hnew n p hp hA;exact J8 e2 (.inr e1)
   | some q =>
     obtain⟨fo,hfo,hr⟩:=h.obj n q hA;by_cases hmu:n∈Fl E ops st o
     ·exact J8 (hk.stays n (hk.there rfl n hmu)) (.inl hmu)
     ·have hs:=hsame n q hmu hA;rw[hp] at hs; cases hs;refine⟨fo,?_,KE hlater (fun hd b hb=>hkept n _ b hmu hA hd hb) hr⟩;rw[h6 n hmu (fun e=>by rw[h4 n e.1 e.2] at hfo; cases hfo)]; exact hfo
  ·rw[PO,h7,h.size];split
   ·exact hv
   ·exact By.D1 hlater _ _ (h.tmps t)
def EL{E:Env}(S:Uf E)(I0:Nat->Prop)(B:Nat)(w0:World)(st:St)(a:Act)(w:World):Prop:=∃A,HQ S I0 B w0 A (look st.heap) (fun t=>st.tmps.getD t .undef) st.tmps.length a w
theorem EL.step{ops:Array Oper}{draw:Bool}{st st':St}{o:Oper}{d:DV}(h:EL S I0 B w0 st a w)(hk:Nz P E ops draw st o st' d){Q:Exit->Act->World->Prop}:
 HH P ops o a w Q fun v w'=>EL S I0 B w0 st' (a.put o.dst v) w':=by
 obtain⟨A,h⟩:=h;have hm:Mem I0 B A st.heap w:=h.mem fun n p fo hn hl=>hl
 refine(hk.run hm h.size (fun t _=>h.tmps t) (fun n hn _=>?_)).mono ?_
 ·cases hA:A n with
  | none=>rfl
  | some p =>obtain⟨fo,hfo,_⟩:=h.obj n p hA;rw[hn] at hfo; cases hfo
 ·rintro v w' ⟨A',hm',hmv,hb,hv,hnew,_⟩
  have hlater:=hmv.D1 (I0:=I0) (B:=B)
  refine⟨A',put_defers.trans h.defers,X6.trans (h.size.trans (by rw[hk.tmps,Rb])),h.below.trans hb,hm'.hB,hm'.Qg,fun n p hp=>?_,hm'.Gf,hm'.inj,fun t=>?_,UQ h.kept hmv,fun t ht=>by rw[PO,Ay (fun e=>by have:=hk.free t e.1; omega)]; exact h.pin t ht⟩
  ·have hl:look st'.heap n≠wN:=by
    cases hA:A n with
    | none=>exact(hnew n p hp hA).2
    | some q =>obtain⟨fo,hfo,_⟩:=h.obj n q hA;exact hk.stays n (by rw[hfo]; simp)
   cases hq:look st'.heap n with
   | none=>exact absurd hq hl
   | some fo=>exact⟨fo,rfl,hm'.obj n p fo hp hq⟩
  ·rw[PO,hk.tmps,UU,h.size];split
   ·exact hv
   ·exact By.D1 hlater _ _ (h.tmps t)
end
theorem Jh{n:Nat}:∀{l:List Nat},Jx n l=wc↔n∈l
 | []=>by simp[Jx]
 | m::l=>by
   simp only[Jx,zB];by_cases h:n=m
   ·subst h; simp
   ·rw[show zf n m=wh from by cases hb:zf n m with | false=>rfl | true=>exact absurd (Au hb) h];simp only[Af,Jh,h,false_or]
theorem OQ{n:Nat}{l:List Nat}:Jx n l=wh↔n ∉ l:=by rw[<- Jh]; simp
section
variable{α:Type}{val:Nat->α}{touch S S':Nat->Prop}
open Classical in
def after(val:Nat->α)(touch S:Nat->Prop):Nat->α
 | 0=>val 0
 | k+1=>if S k/\touch k then val (k+1) else after val touch S k
theorem KR{N:Nat}(h:∀j,j<N->touch j->(S j↔S' j)):after val touch S N=after val touch S' N:=by
 induction N with
 | zero=>rfl
 | succ k ih =>
   simp only[after];by_cases ht:touch k
   ·rw[ih fun j hj=>h j (by omega)];by_cases hs:S k
    ·rw[Az ⟨hs,ht⟩,Az ⟨(h k (by omega) ht).1 hs,ht⟩]
    ·rw[Ay (fun e=>hs e.1),Ay (fun e=>hs ((h k (by omega) ht).2 e.1))]
   ·rw[Ay (fun e=>ht e.2),Ay (fun e=>ht e.2)];exact ih fun j hj=>h j (by omega)
theorem Vn:∀{k:Nat},(∀j,j<k->¬touch j->val (j+1)=val j)->(∀j,j<k->touch j->S j)->after val touch S k=val k
 | 0,_,_=>rfl
 | k+1,hv,h=>by
   simp only[after];by_cases ht:touch k
   ·rw[Az ⟨h k (by omega) ht,ht⟩]
   ·rw[Ay (fun e=>ht e.2),Vn (fun j hj=>hv j (by omega)) (fun j hj=>h j (by omega)),hv k (by omega) ht]
theorem Pb{k:Nat}:∀{N:Nat},k<=N->(∀j,k<=j->j<N->touch j->¬S j)->after val touch S N=after val touch S k
 | 0,hk,_=>by obtain rfl:k=0:=by omega
              rfl
 | N+1,hk,h=>by
   by_cases e:k=N+1
   ·rw[e]
   ·simp only[after];rw[Ay (fun e'=>h N (by omega) (by omega) e'.2 e'.1)];exact Pb (by omega) fun j h1 h2=>h j h1 (by omega)
theorem Jq{k N:Nat}(hv:∀j,j<N->¬touch j->val (j+1)=val j)(hk:k<=N)(h:∀j,j<N->touch j->(S j↔j<k)):after val touch S N=val k:=by rw[Pb hk fun j h1 h2 h3 h4=>by have:=(h j h2 h3).1 h4; omega];exact Vn (fun j hj=>hv j (by omega)) fun j h1 h2=>(h j (by omega) h2).2 h1
theorem TH{k N:Nat}(hk:k<N)(ht:touch k)(hs:S k)(h:∀j,k<j->j<N->touch j->¬S j):after val touch S N=val (k+1):=by rw[Pb (k:=k+1) (by omega) fun j h1 h2=>h j (by omega) h2];simp only[after];rw[Az ⟨hs,ht⟩]
end
theorem Jj{p:Nat->Bool}:∀{h:D6} {n:Nat},look (h.filter fun x=>p x.1) n=bif p n then look h n else wN
 | [],n=>by simp[look]
 | (m,x)::h,n=>by
   simp only[List.filter_cons,look];by_cases e:m=n
   ·subst e;cases hp:p m<;>simp[look,Jj,hp]
   ·rw[show(m==n)=wh by simpa using e];cases hp:p m
    ·simpa using Jj
    ·simp only[if_true,look,Af,show(m==n)=wh by simpa using e];exact Jj
theorem AcD{ms:List Nat}{h:D6}{n:Nat}:look (XJ ms h) n=if n∈ms then wN else look h n:=by
 unfold XJ;rw[Jj (p:=fun m=>!(Jx m ms))];by_cases hn:n∈ms
 ·rw[Jh.2 hn,Az hn]; rfl
 ·rw[OQ.2 hn,Ay hn]; rfl
theorem Afh{ms:List Nat}{h:D6}{n:Nat}:look (AhE ms h) n=if n∈ms then look h n else wN:=by
 unfold AhE;rw[Jj (p:=fun m=>Jx m ms)];by_cases hn:n∈ms
 ·rw[Jh.2 hn,Az hn]; rfl
 ·rw[OQ.2 hn,Ay hn]; rfl
theorem Afg{h:D6}{n:Nat}{x:Bool × OB}(hl:look h n=wM x):(n,x)∈h:=by
 induction h with
 | nil=>cases hl
 | cons y h ih =>
   obtain⟨m,z⟩:=y;simp only[look] at hl;by_cases e:m=n
   ·subst e; simp at hl; subst hl; exact AY
   ·rw[show(m==n)=wh by simpa using e] at hl;exact AN _ (ih hl)
structure Saw(P:Program)(E:Env)(ops:Array Oper)(ms:List Nat)(st:St)(o:Oper)(st':St)(mk mk':St)(d:DV):Prop where
 ok:Nz P E ops wc mk o mk' d
 seen:mk=KV ms st
 tmps:mk.tmps=st.tmps
 tmps':st'.tmps=mk'.tmps
 mask:∀n,look mk.heap n=if n∈ms then wN else look st.heap n
 out:∀n,look mk'.heap n≠wN->n ∉ ms
 heap:∀n,look st'.heap n=if n∈ms then look st.heap n else look mk'.heap n
theorem Aei{P:Program}{E:Env}(he:GH P E){ops:Array Oper}{ms:List Nat}{st st':St}{o:Oper}(h:Xh E ops ms st o=wM (wc,st')):∃mk mk' d,Saw P E ops ms st o st' mk mk' d:=by
 cases ms with
 | nil =>simp only[Xh] at h;obtain⟨d,hd⟩:=Su he h;exact⟨st,st',d,hd,rfl,rfl,rfl,fun n=>by simp,fun n _=>by simp,fun n=>by simp⟩
 | cons m ms =>
   simp only[Xh] at h;cases hs:QZ E ops wc ⟨st.tmps,XJ (m::ms) st.heap⟩ o with
   | none=>rw[hs] at h; cases h
   | some r =>
     obtain⟨r,mk'⟩:=r;rw[hs] at h;simp only at h;cases hc:(mk'.heap.all fun x=>!(Jx x.1 (m::ms))) with
     | false=>rw[hc] at h; cases h
     | true =>
       rw[hc,Aa,Ae,Ak] at h;obtain⟨rfl,rfl⟩:=h;obtain⟨d,hd⟩:=Su he hs
       have hout:∀n,look mk'.heap n≠wN->n ∉ m::ms:=by
        intro n hn;cases hq:look mk'.heap n with
        | none=>exact absurd hq hn
        | some x =>have:=zF.1 hc _ (Afg hq);rw[yt] at this;exact OQ.1 this
       refine⟨_,mk',d,hd,rfl,rfl,rfl,fun n=>AcD,hout,fun n=>?_⟩;show look (mk'.heap++AhE (m::ms) st.heap) n=_;rw[KI,Afh];by_cases hn:n∈m::ms
       ·rw[Az hn];cases hq:look mk'.heap n with
        | none=>simp[hn]
        | some x=>exact absurd hn (hout n (by rw[hq]; simp))
       ·rw[Ay hn,Ay hn];cases look mk'.heap n<;>rfl
section
variable{P:Program}{E:Env}{ops:Array Oper}{ms:List Nat}{st st' mk mk':St}{o:Oper}{d:DV}(h:Saw P E ops ms st o st' mk mk' d)
include h
theorem Saw.Ajo{n:Nat}(hn:n∈Fl E ops (KV ms st) o):look st.heap n≠wN/\n ∉ ms:=by
 have h1:=h.ok.there rfl n (by rw[h.seen]; exact hn);rw[h.mask] at h1;by_cases hm:n∈ms
 ·rw[Az hm] at h1; exact absurd rfl h1
 ·rw[Ay hm] at h1; exact⟨h1,hm⟩
theorem Saw.stays{n:Nat}(hn:look st.heap n≠wN):look st'.heap n≠wN:=by
 rw[h.heap];by_cases hm:n∈ms
 ·rw[Az hm]; exact hn
 ·rw[Ay hm];exact h.ok.stays n (by rw[h.mask,Ay hm]; exact hn)
theorem Saw.same{n:Nat}(hn:n ∉ Fl E ops (KV ms st) o)(hc:¬(look st.heap n=wN/\look st'.heap n≠wN)):look st'.heap n=look st.heap n:=by
 cases hq:look st.heap n with
 | none =>
   cases hq':look st'.heap n with
   | none=>rfl
   | some x=>exact absurd ⟨hq,by rw[hq']; simp⟩ hc
 | some x =>
   rw[h.heap];by_cases hm:n∈ms
   ·rw[Az hm,hq]
   ·rw[Ay hm];have h1:look mk.heap n=wM x:=by rw[h.mask,Ay hm,hq]
    rw[h.ok.same rfl n (by rw[h.seen]; exact hn) (by rw[h1]; simp),h1]
theorem Saw.made{n:Nat}(h1:look st.heap n=wN)(h2:look st'.heap n≠wN):n ∉ ms:=by intro hm;rw[h.heap,Az hm] at h2;exact h2 h1
theorem Saw.getD{t:Nat}:st'.tmps.getD t .undef=if o.dst=wM t/\t<st.tmps.length then d else st.tmps.getD t .undef:=by rw[h.tmps',h.ok.tmps,h.tmps,UU]
theorem Saw.length:st'.tmps.length=st.tmps.length:=by rw[h.tmps',h.ok.tmps,Rb,h.tmps]
end
structure Trace(P:Program)(E:Env)(ops:Array Oper)(D:List (List Nat))(M:List (Nat × List Nat))(tr:Nat->St):Prop where
 saw:∀k o,ops[k]?=wM o->∃mk mk' d,Saw P E ops (Gr D k M) (tr k) o (tr (k+1)) mk mk' d
 Ajo:∀k o,ops[k]?=wM o->Nb D k=wc->∀n,n∈Fl E ops (KV (Gr D k M) (tr k)) o->n∈JH k M
theorem Rf{β:Type}{P:Program}{E:Env}(he:GH P E){ops:Array Oper}{D:List (List Nat)}{M:List (Nat × List Nat)}{K:St->Option β}{b:β}:
 ∀(l:List Oper) (k:Nat) (st:St),(∀j,l[j]?=ops[k+j]?)->AaQ E ops D M k l st K=wM b ->
 ∃tr:Nat->St,tr 0=st/\K (tr l.length)=wM b/\∀j o,l[j]?=wM o->(∃mk mk' d,Saw P E ops (Gr D (k+j) M) (tr j) o (tr (j+1)) mk mk' d)/\(Nb D (k+j)=wc->∀n,n∈Fl E ops (KV (Gr D (k+j) M) (tr j)) o->n∈JH (k+j) M)
 | [],k,st,_,h=>⟨fun _=>st,rfl,h,fun j o hj=>(by cases hj)⟩
 | o::l,k,st,hl,h=>by
   simp only[AaQ] at h;cases hs:Xh E ops (Gr D k M) st o with
   | none=>rw[hs] at h; cases h
   | some r =>
     obtain⟨r,st'⟩:=r;rw[hs] at h;simp only at h;cases hc:(r&&(!(Nb D k)||(Fl E ops (KV (Gr D k M) st) o).all fun n=>Jx n (JH k M))) with
     | false=>rw[hc] at h; cases h
     | true =>
       rw[hc,Aa] at h;simp only[Am,zH,yt,zF] at hc;obtain⟨rfl,hc⟩:=hc;obtain⟨tr,h1,h2,h3⟩:=Rf he l (k+1) st' (fun j=>by have:=hl (j+1); simpa[yo,xf 1 j] using this) h;refine⟨fun j=>match j with | 0=>st | j+1=>tr j,rfl,h2,fun j p hj=>?_⟩;cases j with
       | zero =>
         simp only[List.getElem?_cons_zero,Ae] at hj;subst hj;refine⟨by show ∃mk mk' d,Saw P E ops (Gr D k M) st o (tr 0) mk mk' d; rw[h1]; exact Aei he hs,fun hlo n hn=>?_⟩;rcases hc with hc | hc
         ·have hlo':Nb D k=wc:=hlo;rw[hc] at hlo'; cases hlo'
         ·exact Jh.1 (hc n hn)
       | succ j =>rw[List.getElem?_cons_succ] at hj;have:=h3 j p hj;rw[show k+(j+1)=k+1+j by omega];exact this
theorem Oz{ops:Array Oper}{k:Nat}{o:Oper}(h:ops[k]?=wM o):(ops.toList.map GW).getD k []=GW o:=by
 have:ops.toList[k]?=wM o:=by simpa using h
 simp[Al,this]
theorem Fa{ops:Array Oper}{k i:Nat}(h:i∈(ops.toList.map GW).getD k []):∃o,ops[k]?=wM o/\i∈GW o:=by
 cases hk:ops[k]? with
 | none =>
   have:ops.toList[k]?=wN:=by simpa using hk
   simp[Al,this] at h
 | some o=>rw[Oz hk] at h; exact⟨o,rfl,h⟩
theorem XH{o:Oper}{i:Nat}:i∈GW o↔∃e∈o.after,Region.binds .any e=wc/\e.on=i:=by
 unfold GW;simp only[vB,wB];constructor
 ·rintro ⟨e,he,h⟩
  cases hb:Region.binds .any e with
  | false=>rw[hb] at h; simp at h
  | true=>rw[hb] at h; simp at h; exact⟨e,he,hb,h⟩
 ·rintro ⟨e,he,hb,rfl⟩
  exact⟨e,he,by rw[hb]; rfl⟩
structure Pd(ops:Array Oper):Prop where
 lt:∀(k:Nat) o,ops[k]?=wM o->∀i∈GW o,i<k
 once:∀(k j:Nat) o p t,ops[k]?=wM o->ops[j]?=wM p->p.dst=wM t->o.dst=wM t->j=k
 told:∀(k j:Nat) o p t,ops[k]?=wM o->ops[j]?=wM p->p.dst=wM t->t∈o.looksAt ops->R5 (ops.toList.map GW) j k=wc\/R5 (ops.toList.map GW) k j=wc
theorem lt_size{ops:Array Oper}{k:Nat}{o:Oper}(h:ops[k]?=wM o):k<ops.size:=by
 rcases AF k ops.size with h' | h'
 ·exact h'
 ·rw[vE h'] at h; cases h
theorem Yt{ops:Array Oper}(h:Wx ops (ops.toList.map GW)=wc):Pd ops:=by
 unfold Wx at h;simp only[zF,zX,AO,zW] at h;refine⟨fun k o hk i hi=>?_,fun k j o p t hk hj hp ho=>?_,fun k j o p t hk hj hp ht=>?_⟩
 ·have h1:=h k (lt_size hk);rw[Am,zF] at h1;have:=h1.1 i (by rw[Oz hk]; exact hi);simpa[Nat.blt_eq] using this
 ·have h1:=h k (lt_size hk);rw[Am,hk] at h1;have h2:=h1.2;simp only[zF,zX] at h2;have h3:=h2 j (lt_size hj);rw[hj] at h3;simp only[hp,Am,zH] at h3;rcases h3.1 with h4 | h4
  ·exact Au h4
  ·rw[ho] at h4; simp at h4
 ·have h1:=h k (lt_size hk);rw[Am,hk] at h1;have h2:=h1.2;simp only[zF,zX] at h2;have h3:=h2 j (lt_size hj);rw[hj] at h3;simp only[hp,Am,zH] at h3;rcases h3.2 with h4 | h4
  ·rw[Jh.2 ht] at h4; simp at h4
  ·exact h4
theorem Vh{D:List (List Nat)}{i j:Nat}(h:R5 D i j=wc):i∈D.getD j []\/∃m∈D.getD j [],i∈D.getD m []:=by unfold R5 at h;simp only[zH,List.any_eq_true] at h;exact h.imp Jh.1 fun⟨m,h1,h2⟩=>⟨m,h1,Jh.1 h2⟩
section
variable{ops:Array Oper}(hd:Pd ops)
include hd
theorem Pd.TC{i j:Nat}(h:R5 (ops.toList.map GW) i j=wc):i<j:=by
 rcases Vh h with h | ⟨m,h1,h2⟩
 ·obtain⟨o,ho,hi⟩:=Fa h;exact hd.lt j o ho i hi
 ·obtain⟨o,ho,hi⟩:=Fa h1;obtain⟨p,hp,hj⟩:=Fa h2;have:=hd.lt j o ho m hi;have:=hd.lt m p hp i hj;omega
end
def QU(ops:Array Oper)(S:Nat->Prop):Prop:=∀k o,ops[k]?=wM o->S k->∀i∈GW o,S i
theorem QU.bef{ops:Array Oper}{S:Nat->Prop}(hc:QU ops S){k:Nat}(hk:∀o,ops[k]?=wM o->∀i∈GW o,S i){i:Nat}(h:R5 (ops.toList.map GW) i k=wc):S i:=by
 rcases Vh h with h | ⟨m,h1,h2⟩
 ·obtain⟨o,ho,hi⟩:=Fa h;exact hk o ho i hi
 ·obtain⟨o,ho,hi⟩:=Fa h1;obtain⟨p,hp,hj⟩:=Fa h2;exact hc m p hp (hk o ho m hi) i hj
theorem QR{D:List (List Nat)}{i j:Nat}(h1:i≠j)(h2:R5 D i j≠wc)(h3:R5 D j i≠wc):Kv D i j=wc:=by
 unfold Kv
 have e1:zf i j=wh:=by
  cases hb:zf i j with
  | false=>rfl
  | true=>exact absurd (Au hb) h1
 rw[e1,zA _ |>.mp h2,zA _ |>.mp h3]; rfl
theorem OP{D:List (List Nat)}{s k n:Nat}(ha:Kv D s k=wc):∀{M:List (Nat × List Nat)},n∈JH s M->n∈Gr D k M
 | [],h=>by simp[JH] at h
 | (s',ns)::M,h=>by
   simp only[JH] at h;simp only[Gr];cases hb:zf s' s with
   | true =>have:=Au hb;subst this;rw[hb] at h;rw[ha];simp only[Aa,zu] at h ⊢;exact h.imp id (OP ha)
   | false =>
     rw[hb] at h;simp only[Af] at h;have:=OP ha h;cases Kv D s' k
     ·exact this
     ·exact zu.2 (.inr this)
theorem AcC{D:List (List Nat)}{s k:Nat}(ha:Kv D s k=wc)(hk:k<D.length):Nb D s=wc:=by unfold Nb;exact List.any_eq_true.2 ⟨k,zX.2 hk,ha⟩
def V3(E:Env)(ops:Array Oper)(M:List (Nat × List Nat))(tr:Nat->St)(n:Nat)(k:Nat):Prop :=∃o,ops[k]?=wM o/\(n∈Fl E ops (KV (Gr (ops.toList.map GW) k M) (tr k)) o\/(look (tr k).heap n=wN/\look (tr (k+1)).heap n≠wN))
def Aec(ops:Array Oper)(len:Nat)(t:Nat)(k:Nat):Prop:=t<len/\∃o,ops[k]?=wM o/\o.dst=wM t
def Ni(E:Env)(ops:Array Oper)(M:List (Nat × List Nat))(tr:Nat->St)(S:Nat->Prop)(n:Nat):Option (Bool × OB):=after (fun k=>look (tr k).heap n) (V3 E ops M tr n) S ops.size
def Us(ops:Array Oper)(tr:Nat->St)(S:Nat->Prop)(t:Nat):DV:=after (fun k=>(tr k).tmps.getD t .undef) (Aec ops (tr 0).tmps.length t) S ops.size
section
variable{P:Program}{E:Env}{ops:Array Oper}{M:List (Nat × List Nat)}{tr:Nat->St}(hd:Pd ops)(T:Trace P E ops (ops.toList.map GW) M tr)
include T
theorem Trace.len{k:Nat}(h:k<=ops.size):(tr k).tmps.length=(tr 0).tmps.length:=by
 induction k with
 | zero=>rfl
 | succ k ih =>obtain⟨mk,mk',d,hs⟩:=T.saw k ops[k] (Aw (by omega));rw[hs.length,ih (by omega)]
theorem Trace.stays{n j k:Nat}(hj:look (tr j).heap n≠wN)(hjk:j<=k)(hk:k<=ops.size):look (tr k).heap n≠wN:=by
 induction k with
 | zero=>obtain rfl:j=0:=by omega
         exact hj
 | succ k ih =>
   by_cases e:j=k+1
   ·rw[<- e]; exact hj
   ·obtain⟨mk,mk',d,hs⟩:=T.saw k ops[k] (Aw (by omega));exact hs.stays (ih (by omega) (by omega))
theorem Trace.Ad5{n j:Nat}(hj:j<ops.size)(ht:¬V3 E ops M tr n j):look (tr (j+1)).heap n=look (tr j).heap n:=by obtain⟨mk,mk',d,hs⟩:=T.saw j ops[j] (Aw hj);exact hs.same (fun h=>ht ⟨_,Aw hj,.inl h⟩) (fun h=>ht ⟨_,Aw hj,.inr h⟩)
theorem Trace.AiC{t j:Nat}(hj:j<ops.size)(ht:¬Aec ops (tr 0).tmps.length t j):(tr (j+1)).tmps.getD t .undef=(tr j).tmps.getD t .undef:=by obtain⟨mk,mk',d,hs⟩:=T.saw j ops[j] (Aw hj);rw[hs.getD,T.len (by omega),Ay (fun e=>ht ⟨e.2,_,Aw hj,e.1⟩)]
theorem Trace.J8{n j:Nat}{o:Oper}(ho:ops[j]?=wM o)(ht:V3 E ops M tr n j):(n∈Fl E ops (KV (Gr (ops.toList.map GW) j M) (tr j)) o/\look (tr j).heap n≠wN)\/(look (tr j).heap n=wN/\look (tr (j+1)).heap n≠wN):=by
 obtain⟨o',ho',h⟩:=ht;rw[ho] at ho'; cases ho';rcases h with h | h
 ·obtain⟨mk,mk',d,hs⟩:=T.saw j o ho;exact .inl ⟨h,(hs.Ajo h).1⟩
 ·exact .inr h
theorem Trace.Af0{s k n:Nat}{o:Oper}(hs:ops[s]?=wM o)(hk:k<ops.size)(ha:Kv (ops.toList.map GW) s k=wc)(hn:n∈Fl E ops (KV (Gr (ops.toList.map GW) s M) (tr s)) o):n∈Gr (ops.toList.map GW) k M :=OP ha (T.Ajo s o hs (AcC ha (by simpa using hk)) n hn)
omit T in
theorem Nv{S:Nat->Prop}(hd:Pd ops)(hc:QU ops S){k:Nat}(hk:¬S k){j:Nat}(hj:S j)(hlt:k<j):Kv (ops.toList.map GW) j k=wc:=by
 refine QR (by omega) (fun e=>?_) (fun e=>?_)
 ·have:=hd.TC e; omega
 ·exact hk (hc.bef (fun p hp=>hc j p hp hj) e)
omit T in
theorem WE{S:Nat->Prop}(hd:Pd ops)(hc:QU ops S){k:Nat}{o:Oper}(ho:ops[k]?=wM o)(hr:∀i∈GW o,S i){j:Nat}(hj:¬S j)(hlt:j<k):Kv (ops.toList.map GW) j k=wc:=by
 refine QR (by omega) (fun e=>?_) (fun e=>?_)
 ·exact hj (hc.bef (fun p hp=>by rw[ho] at hp; cases hp; exact hr) e)
 ·have:=hd.TC e; omega
include hd
variable{S:Nat->Prop}(hc:QU ops S){k:Nat}{o:Oper}(ho:ops[k]?=wM o)(hk:¬S k)(hr:∀i∈GW o,S i)
include hc ho hk hr
theorem Trace.Ah4{n:Nat}(hm:n ∉ Gr (ops.toList.map GW) k M)(h1:look (tr k).heap n≠wN)(h2:Ni E ops M tr S n≠wN):Ni E ops M tr S n=look (tr k).heap n:=by
 have hkN:=lt_size ho;refine Jq (val:=fun k=>look (tr k).heap n) (fun j hj ht=>T.Ad5 hj ht) (by omega) fun j hj ht=>?_
 have hoj:ops[j]?=wM ops[j]:=Aw hj;constructor
 ·intro hS;rcases AF j k with h | h
  ·exact h
  ·have hne:j≠k:=fun e=>hk (e ▸ hS)
   have ha:=Nv hd hc hk hS (by omega);rcases T.J8 hoj ht with ⟨h3,_⟩ | ⟨h3,_⟩
   ·exact absurd (T.Af0 hoj hkN ha h3) hm
   ·exact absurd h3 (T.stays h1 (by omega) (by omega))
 ·intro hlt;refine yY fun hS=>?_
  have ha:=WE hd hc ho hr hS hlt;rcases T.J8 hoj ht with ⟨h3,_⟩ | ⟨h3,h4⟩
  ·exact hm (T.Af0 hoj hkN ha h3)
  ·
   refine h2 ?_
   have:Ni E ops M tr S n=look (tr 0).heap n:=by
    refine Jq (k:=0) (val:=fun k=>look (tr k).heap n) (fun j hj ht=>T.Ad5 hj ht) (by omega) fun i hi hti=>⟨fun hSi=>?_,fun h=>by omega⟩
    exfalso;have hoi:ops[i]?=wM ops[i]:=Aw hi;have hij:i≠j:=fun e=>hS (e ▸ hSi)
    have hji:j<i:=by
     rcases T.J8 hoi hti with ⟨_,h5⟩ | ⟨h5,h6⟩
     ·rcases AF j i with h | h
      ·exact h
      ·exact absurd h3 (T.stays h5 h (by omega))
     ·rcases AF j i with h | h
      ·exact h
      ·exact absurd h3 (T.stays h6 (by omega) (by omega))
    have hap:Kv (ops.toList.map GW) i j=wc:=by
     refine QR hij (fun e=>?_) (fun e=>?_)
     ·have:=hd.TC e; omega
     ·exact hS (hc.bef (fun p hp=>hc i p hp hSi) e)
    rcases T.J8 hoi hti with ⟨h5,_⟩ | ⟨h5,_⟩
    ·obtain⟨mk,mk',d,hsj⟩:=T.saw j _ hoj;exact hsj.made h3 h4 (T.Af0 hoi hj hap h5)
    ·exact absurd h5 (T.stays h4 (by omega) (by omega))
   rw[this];cases hq:look (tr 0).heap n with
   | none=>rfl
   | some x=>exact absurd h3 (T.stays (j:=0) (by rw[hq]; simp) (by omega) (by omega))
theorem Trace.AiS{t:Nat}(ht:t∈o.looksAt ops):Us ops tr S t=(tr k).tmps.getD t .undef:=by
 have hkN:=lt_size ho;refine Jq (val:=fun k=>(tr k).tmps.getD t .undef) (fun j hj h=>T.AiC hj h) (by omega) fun j hj hj'=>?_
 obtain⟨_,p,hp,hdst⟩:=hj';rcases hd.told k j o p t ho hp hdst ht with h | h
 ·have:=hd.TC h;exact⟨fun _=>this,fun _=>hc.bef (fun p hp=>by rw[ho] at hp; cases hp; exact hr) h⟩
 ·have:=hd.TC h;exact⟨fun hS=>absurd (hc.bef (fun p hp=>hc j p hp hS) h) hk,fun h=>by omega⟩
theorem Trace.step{S0:Uf E}{I0:Nat->Prop}{B:Nat}{w0:World}{A:Nat->Option Place}{a:Act}{w:World}(h:HQ S0 I0 B w0 A (Ni E ops M tr S) (Us ops tr S) (tr 0).tmps.length a w){Q:Exit->Act->World->Prop}:
 HH P ops o a w Q fun v w'=>∃A',HQ S0 I0 B w0 A' (Ni E ops M tr fun j=>S j\/j=k) (Us ops tr fun j=>S j\/j=k) (tr 0).tmps.length (a.put o.dst v) w':=by
 have hkN:=lt_size ho;obtain⟨mk,mk',d,hs⟩:=T.saw k o ho
 have hout:∀{n},look mk'.heap n≠wN->look mk'.heap n=look (tr (k+1)).heap n:=by intro n hn;rw[hs.heap,Ay (hs.out n hn)]
 refine h.step hs.ok (fun n hA hl=>?_) (fun t ht=>?_) (by rw[hs.tmps,T.len (by omega)]) (fun n h1 h2=>?_) (fun n h1 h2=>?_) (fun n h1 h2=>?_) (fun t=>?_)
 ·have hm:n ∉ Gr (ops.toList.map GW) k M:=fun e=>hl (by rw[hs.mask,Az e])
  rw[hs.mask,Ay hm] at hl ⊢;refine(T.Ah4 hd hc ho hk hr hm hl ?_).symm;cases hA':A n with
  | none=>exact absurd hA' hA
  | some p =>obtain⟨fo,hfo,_⟩:=h.obj n p hA';rw[hfo]; simp
 ·rw[hs.tmps]; exact(T.AiS hd hc ho hk hr ht).symm
 ·
  have hm:=hs.out n h2;rw[hs.mask,Ay hm] at h1;rw[hout h2] at h2
  have:Ni E ops M tr S n=look (tr 0).heap n:=by
   refine Jq (k:=0) (val:=fun k=>look (tr k).heap n) (fun j hj ht=>T.Ad5 hj ht) (by omega) fun i hi hti=>⟨fun hSi=>?_,fun h=>by omega⟩
   exfalso;have hoi:ops[i]?=wM ops[i]:=Aw hi;have hik:i≠k:=fun e=>hk (e ▸ hSi)
   rcases T.J8 hoi hti with ⟨h5,h6⟩ | ⟨h5,h6⟩
   ·rcases AF i k with hlt | hge
    ·exact absurd h1 (T.stays h6 (by omega) (by omega))
    ·exact hm (T.Af0 hoi hkN (Nv hd hc hk hSi (by omega)) h5)
   ·rcases AF i k with hlt | hge
    ·exact absurd h1 (T.stays h6 (by omega) (by omega))
    ·exact absurd h5 (T.stays h2 (by omega) (by omega))
  rw[this];cases hq:look (tr 0).heap n with
  | none=>rfl
  | some x=>exact absurd h1 (T.stays (j:=0) (by rw[hq]; simp) (by omega) (by omega))
 ·have hm:=hs.out n h1;rw[hs.mask,Ay hm,hs.seen] at h2;have e1:=hout h1;rw[e1] at h1 ⊢;have ht:V3 E ops M tr n k:=⟨o,ho,h2.imp id fun e=>⟨e,h1⟩⟩
  refine TH (val:=fun k=>look (tr k).heap n) hkN ht (.inr rfl) fun i hlt hi hti hSi=>?_
  have hSi:=hSi.resolve_right (by omega);have hoi:ops[i]?=wM ops[i]:=Aw hi;rcases T.J8 hoi hti with ⟨h5,_⟩ | ⟨h5,_⟩
  ·exact hm (T.Af0 hoi hkN (Nv hd hc hk hSi hlt) h5)
  ·exact absurd h5 (T.stays h1 (by omega) (by omega))
 ·rw[hs.seen] at h1;refine KR fun j hj ht=>⟨fun h=>h.resolve_right fun e=>?_,.inl⟩
  subst e;obtain⟨o',ho',h3⟩:=ht;rw[ho] at ho'; cases ho';rcases h3 with h3 | ⟨h3,h4⟩
  ·exact h1 h3
  ·have hm:=hs.made h3 h4;refine h2 ⟨by rw[hs.mask,Ay hm]; exact h3,?_⟩;rw[hs.heap,Ay hm] at h4; exact h4
 ·split
  ·rename_i ht
   have h1:Us ops tr (fun j=>S j\/j=k) t=(tr (k+1)).tmps.getD t .undef:=by
    refine TH (val:=fun k=>(tr k).tmps.getD t .undef) hkN ⟨ht.2,o,ho,ht.1⟩ (.inr rfl) fun i hlt hi hti hSi=>?_
    obtain⟨_,p,hp,hdst⟩:=hti;have:=hd.once i k p o t hp ho ht.1 hdst;omega
   rw[h1,hs.getD,Az ⟨ht.1,by rw[T.len (by omega)]; exact ht.2⟩]
  ·rename_i ht;refine KR fun j hj hj'=>⟨fun h=>h.resolve_right fun e=>?_,.inl⟩
   subst e;obtain⟨h1,p,hp,hdst⟩:=hj';rw[ho] at hp; cases hp;exact ht ⟨hdst,h1⟩
end
section
variable{P:Program}{E:Env}{S:Uf E}{I0:Nat->Prop}{B:Nat}{w0:World}
theorem AaU{β:Type}(he:GH P E){ops:Array Oper}{draw:Bool}{Q:Exit->Act->World->Prop}{K:St->Option β}{r:β}:
 ∀(l:List Oper) (k:Nat) (st:St),(∀j,l[j]?=ops[k+j]?)->Ahs E ops draw l st K=wM r->∀a w,EL S I0 B w0 st a w ->
 (∀st a w,K st=wM r->EL S I0 B w0 st a w->Q .normal a w)->wpOps P ops Q (List.range' k l.length) a w
 | [],k,st,_,h,a,w,hh,hQ=>hQ st a w h hh
 | o::l,k,st,hl,h,a,w,hh,hQ=>by
   simp only[Ahs] at h;cases hs:QZ E ops draw st o with
   | none=>rw[hs] at h; cases h
   | some x =>
     obtain⟨b,st'⟩:=x;rw[hs] at h;simp only at h;cases b with
     | false=>cases h
     | true =>
       simp only[Aa] at h;obtain⟨d,hd⟩:=Su he hs;have ho:ops[k]?=wM o:=by simpa using(hl 0).symm
       rw[List.length_cons,List.range'_succ];simp only[wpOps,ho];have:=hh.step hd (Q:=Q) (wpOps P ops Q (List.range' (k+1) l.length)) (fun v w' hv=>AaU he l (k+1) st' (fun j=>by have:=hl (j+1); simpa[yo,xf 1 j] using this) h _ _ hv hQ);split
       ·rename_i hw; rw[Az hw] at this; exact .inl this
       ·rename_i hw; rw[Ay hw] at this; exact this
theorem HQ.congr{A:Nat->Option Place}{f f':Nat->Option (Bool × OB)}{g g':Nat->DV}{len len':Nat}{a:Act}{w:World}(h:HQ S I0 B w0 A f g len a w)(hf:∀n,f n=f' n)(hg:∀t,g t=g' t)(hl:len=len'):HQ S I0 B w0 A f' g' len' a w:=by obtain rfl:f=f':=funext hf;obtain rfl:g=g':=funext hg;subst hl; exact h
def J1(listed:Array Bool)(j:Nat):Prop:=listed.getD j wh=wc
theorem Mq{l:Array Bool}{j:Nat}(h:l.getD j wc=wh):j<l.size/\l.getD j wh=wh:=by
 rcases AF j l.size with h' | h'
 ·refine⟨h',?_⟩;simp only[z5,Aw h',Be] at h ⊢; exact h
 ·simp[z5,vE h'] at h
theorem QK{listed:Array Bool}{k:Nat}(hk:k<listed.size)(j:Nat):J1 (listed.setIfInBounds k wc) j↔J1 listed j\/j=k:=by
 unfold J1;simp only[z5];by_cases e:k=j
 ·subst e; simp[hk]
 ·rw[vD e];exact⟨.inl,fun h=>h.resolve_right (fun h=>e h.symm)⟩
theorem count_set{listed:Array Bool}{k:Nat}(h:listed.getD k wc=wh):(listed.setIfInBounds k wc).toList.count wh+1=listed.toList.count wh:=by
 obtain⟨hk,h2⟩:=Mq h;have hk':k<listed.toList.length:=by simpa using hk
 have hv:listed.toList[k]=wh:=by simpa[z5,Aw hk] using h2
 have hp:0<List.count wh listed.toList:=List.count_pos_iff.2 (hv ▸ List.getElem_mem hk');rw[Array.toList_setIfInBounds,List.count_set hk',hv,Az (AI _),Ay (by simp)];omega
theorem AjO{ops:Array Oper}{M:List (Nat × List Nat)}{tr:Nat->St}(hd:Pd ops)(T:Trace P E ops (ops.toList.map GW) M tr){Q:Exit->Act->World->Prop}
 (hQ:∀a w,EL S I0 B w0 (tr ops.size) a w->Q .normal a w):∀(fuel:Nat) (listed:Array Bool) (a:Act) (w:World),listed.size=ops.size->QU ops (J1 listed)->listed.toList.count wh=fuel ->
 (∃A,HQ S I0 B w0 A (Ni E ops M tr (J1 listed)) (Us ops tr (J1 listed)) (tr 0).tmps.length a w)->wpAny P .any ops Q fuel listed a w:=by
 have last:∀(listed:Array Bool) (a:Act) (w:World),listed.size=ops.size->Region.ready .any ops listed=[]->(∃A,HQ S I0 B w0 A (Ni E ops M tr (J1 listed)) (Us ops tr (J1 listed)) (tr 0).tmps.length a w)->Q .normal a w:=by
  rintro listed a w hsz hr ⟨A,h⟩
  have all:∀k,k<ops.size->J1 listed k:=by
   intro k
   induction k using Nat.strongRecOn with
   | _ k ih =>
     intro hk;refine yY fun hn=>?_
     have:k∈Region.ready .any ops listed:=mem_ready.2 ⟨?_,ops[k],Aw hk,fun e he hb=>?_⟩
     ·rw[hr] at this; cases this
     ·unfold J1 at hn;have hk':k<listed.size:=by omega
      simp only[z5,Aw hk',Be,zA] at hn ⊢;exact hn
     ·have hlt:=hd.lt k ops[k] (Aw hk) e.on (XH.2 ⟨e,he,hb,rfl⟩);exact ih e.on hlt (by omega)
  refine hQ a w ⟨A,h.congr (fun n=>?_) (fun t=>?_) (T.len (AB _)).symm⟩
  ·exact Jq (val:=fun k=>look (tr k).heap n) (fun j hj ht=>T.Ad5 hj ht) (AB _) fun j hj _=>⟨fun _=>hj,fun _=>all j hj⟩
  ·exact Jq (val:=fun k=>(tr k).tmps.getD t .undef) (fun j hj ht=>T.AiC hj ht) (AB _) fun j hj _=>⟨fun _=>hj,fun _=>all j hj⟩
 intro fuel
 induction fuel with
 | zero =>
   intro listed a w hsz hc hf h
   have hr:Region.ready .any ops listed=[]:=by
    refine List.eq_nil_iff_forall_not_mem.2 fun k hk=>?_
    have h1:=count_set (mem_ready.1 hk).1;omega
   exact⟨hr,last listed a w hsz hr h⟩
 | succ fuel ih =>
   intro listed a w hsz hc hf h;refine⟨fun hr=>last listed a w hsz hr h,fun k hk=>?_⟩;obtain⟨hun,o,ho,hall⟩:=mem_ready.1 hk;obtain⟨hks,hkf⟩:=Mq hun;have hkS:¬J1 listed k:=by unfold J1; rw[hkf]; simp
   have hrS:∀i∈GW o,J1 listed i:=fun i hi=>by obtain⟨e,he,hb,rfl⟩:=XH.1 hi;exact hall e he hb
   obtain⟨A,h⟩:=h
   have hstep:=T.step hd hc ho hkS hrS h (Q:=Q) (wpAny P .any ops Q fuel (listed.setIfInBounds k wc)) (fun v w' hv=>by
    obtain⟨A',hv⟩:=hv;refine ih _ _ _ (by simp[hsz]) ?_ ?_ ⟨A',hv.congr (fun n=>?_) (fun t=>?_) rfl⟩
    ·intro j p hp hj i hi;rw[QK hks] at hj ⊢;rcases hj with hj | rfl
     ·exact .inl (hc j p hp hj i hi)
     ·rw[ho] at hp; cases hp;exact .inl (hrS i hi)
    ·have:=count_set hun; omega
    ·exact KR fun j _ _=>(QK hks j).symm
    ·exact KR fun j _ _=>(QK hks j).symm)
   unfold wpOp;rw[ho];simp only;split
   ·rename_i hw; rw[Az hw] at hstep; exact .inl hstep
   ·rename_i hw; rw[Ay hw] at hstep; exact hstep
theorem EL.drew{st:St}{a:Act}{w:World}(h:EL S I0 B w0 st a w):EL S I0 B w0 st a { w with drawn:=w.drawn+1 }:=by
 obtain⟨A,h⟩:=h;have hmv:GG A w A { w with drawn:=w.drawn+1 }:=⟨AB _,(GG.refl A w).names,(GG.refl A w).live,fun _ _ _=>rfl⟩
 have hl:=hmv.D1 (I0:=I0) (B:=B)
 exact⟨A,h.defers,h.size,h.below.trans ⟨rfl,rfl,rfl,AB _,fun _ _=>rfl⟩,h.hB,h.Qg,fun n p hp=>by obtain⟨fo,h1,h2⟩:=h.obj n p hp;exact⟨fo,h1,KE hl (fun _ _ _=>rfl) h2⟩,h.Gf,h.inj,fun t=>By.D1 hl _ _ (h.tmps t),h.kept,h.pin⟩
theorem AfO{β:Type}(he:GH P E){id:Nat}{ops:Array Oper}{Q:Exit->Act->World->Prop}{K:St->Option β}{r:β}{st:St}(h:AfP E ops st K=wM r){a:Act}{w:World}(hh:EL S I0 B w0 st a w)
 (hQ:∀st a w,K st=wM r->EL S I0 B w0 st a w->Q .normal a w):(Code.region id ops wc).wp P Q a w:=by
 unfold AfP at h;cases hc:Wx ops (ops.toList.map GW) with
 | false=>rw[hc] at h; cases h
 | true =>
   rw[hc,Aa] at h;have hd:=Yt hc;generalize (cond (ZD ops (ops.toList.map GW) 0 ops.toList) (Wm E ops 0 ops.toList st) ([]))=M at h;obtain⟨tr,h0,h1,h2⟩:=Rf he ops.toList 0 st (fun j=>by simp) h
   have T:Trace P E ops (ops.toList.map GW) M tr:=⟨fun k o ho=>by
    have:=(h2 k o (by simpa using ho)).1;rw[AS] at this; exact this,fun k o ho hlo=>by
    have:=(h2 k o (by simpa using ho)).2;rw[AS] at this; exact this hlo⟩
   refine wp_region_any he.mixed (AjO hd T (fun a w hw=>hQ _ a w (by simpa using h1) hw) _ _ _ _ (by simp) ?_ (by simp) ?_)
   ·intro k o _ hk;unfold J1 at hk;simp only[z5,wC] at hk;split at hk<;>cases hk
   ·obtain⟨A,hA⟩:=hh.drew;subst h0;refine⟨A,hA.congr (fun n=>?_) (fun t=>?_) rfl⟩
    ·refine(Jq (k:=0) (val:=fun k=>look (tr k).heap n) (fun j hj ht=>T.Ad5 hj ht) (by omega) fun j hj _=>⟨fun hk=>?_,fun h=>by omega⟩).symm;unfold J1 at hk;simp only[z5,wC] at hk;split at hk<;>cases hk
    ·refine(Jq (k:=0) (val:=fun k=>(tr k).tmps.getD t .undef) (fun j hj ht=>T.AiC hj ht) (by omega) fun j hj _=>⟨fun hk=>?_,fun h=>by omega⟩).symm;unfold J1 at hk;simp only[z5,wC] at hk;split at hk<;>cases hk
end
def Ctx.only(c:Ctx)(ns:List Nat):Ctx:={ c with at_:=fun n=>if n∈ns then c.at_ n else wN }
theorem LY{n:Nat}{l:List Nat}(h:l.contains n=wc):n∈l:=by simpa using h
theorem VQ{c:Ctx}{w:World}(ns:List Nat):∀(f:Nat) (d:DV) (v:Value),E7 f ns d=wc->By c w d v->By (c.only ns) w d v:=by
 intro f
 induction f with
 | zero=>intro d v h; simp[E7] at h
 | succ f ih =>
   have all:∀(l:List DV) (vs:List Value),l.all (E7 f ns)=wc->BJ c w l vs->BJ (c.only ns) w l vs:=by
    intro l
    induction l with
    | nil=>intro vs _ h; rw[BJ.FE] at h ⊢; exact h
    | cons d l ihl =>intro vs h hv;simp only[List.all_cons,Am] at h;rw[BJ.CR] at hv ⊢;obtain⟨u,us,e,h1,h2⟩:=hv;exact⟨u,us,e,ih d u h.1 h1,ihl us h.2 h2⟩
   intro d v h hv;cases d with
   | agg l =>simp only[E7] at h;simp only[By] at hv ⊢;obtain⟨vs,e,hl⟩:=hv;exact⟨vs,e,all l _ h hl⟩
   | CJ l =>simp only[E7] at h;simp only[By] at hv ⊢;obtain⟨vs,e,hl⟩:=hv;exact⟨vs,e,all l _ h hl⟩
   | fn g a b =>simp only[E7,Am] at h;simp only[By] at hv ⊢;obtain⟨fs,cs,e,h1,h2⟩:=hv;exact⟨fs,cs,e,all a _ h.1 h1,all b _ h.2 h2⟩
   | gd g d =>simp only[E7] at h;simp only[By] at hv ⊢;exact⟨fun e=>ih d v h (hv.1 e),hv.2⟩
   | Dh n =>simp only[E7] at h;simp only[By] at hv ⊢;obtain⟨h1,p,hp,hd⟩:=hv;exact⟨h1,p,by simp only[Ctx.only,LY h,if_true]; exact hp,hd⟩
   | J9 n o m =>simp only[E7] at h;simp only[By] at hv ⊢;obtain⟨h1,p,hp,hd⟩:=hv;exact⟨h1,p,by simp only[Ctx.only,LY h,if_true]; exact hp,hd⟩
   | ptr n i j =>simp only[E7] at h;simp only[By] at hv ⊢;obtain⟨h1,p,hp,hd⟩:=hv;exact⟨h1,p,by simp only[Ctx.only,LY h,if_true]; exact hp,hd⟩
   | Bj g k l=>cases g<;>(simp only[By] at hv ⊢; exact hv)
   | CO g k l=>cases g<;>(simp only[By] at hv ⊢; exact hv)
   | undef=>simp only[By]
   | _=>simp only[By] at hv ⊢; exact hv
def Tu(n:Nat):List (Nat × Nat × Nat × OB)->Option (Nat × Nat × Nat × OB)
 | []=>wN
 | x::xs=>if x.2.2.1=n then wM x else Tu n xs
theorem QG{n:Nat}:∀{l:List (Nat × Nat × Nat × OB)} {x},Tu n l=wM x->x∈l/\x.2.2.1=n
 | [],x,h=>by cases h
 | y::l,x,h=>by
   simp only[Tu] at h;split at h
   ·cases h; exact⟨AY,‹_›⟩
   ·exact⟨AN _ (QG h).1,(QG h).2⟩
theorem PR:∀{l:List (Nat × Nat × Nat × OB)} {x},(l.map (·.2.2.1)).Nodup->x∈l->Tu x.2.2.1 l=wM x
 | [],x,_,h=>by cases h
 | y::l,x,hn,h=>by
   simp only[yi,xw] at hn;simp only[Tu];rcases zB.1 h with rfl | h
   ·rw[Az rfl]
   ·rw[Ay (fun e=>hn.1 (by rw[e]; exact zh.2 ⟨x,h,rfl⟩))];exact PR hn.2 h
theorem OM{b j nm:Nat}:∀{l:List (Nat × Nat × Nat × OB)},IJ b j l=wM nm->∃ob,(b,j,nm,ob)∈l
 | [],h=>by cases h
 | (b',j',nm',ob)::l,h=>by
   simp only[IJ] at h;cases hb:(zf b b'&&zf j j') with
   | true =>rw[hb] at h;simp only[Aa,Ae] at h;simp only[Am] at hb;have e1:=Au hb.1;have e2:=Au hb.2;subst e1 e2 h;exact⟨ob,AY⟩
   | false =>rw[hb] at h;obtain⟨ob',h'⟩:=OM h;exact⟨ob',AN _ h'⟩
theorem SP{st:St}:∀{l:List (Nat × Nat × Nat × OB)} {h:D6} {ns:List Nat},SQ st l=wM (h,ns)->(l.map (·.2.2.1)).Nodup->ns.Nodup ->
 (∀x∈l,∃s ob,VX st x=wM (s,ob)/\look h x.2.2.1=wM (wh,ob)/\∀n,s=wM n->n∈ns) /\
 (∀n fo,look h n=wM fo->∃x∈l,x.2.2.1=n) /\
 (∀x∈l,∀y∈l,∀n ob ob',VX st x=wM (wM n,ob)->VX st y=wM (wM n,ob')->x=y)
 | [],h,ns,hs,_,_=>by simp only[SQ,Ae,Ak] at hs;obtain⟨rfl,rfl⟩:=hs;exact⟨fun x hx=>(by cases hx),fun n fo hl=>(by cases hl),fun x hx=>(by cases hx)⟩
 | x::l,h,ns,hs,hn,hns=>by
   simp only[SQ] at hs;cases ho:VX st x with
   | none=>simp[ho] at hs
   | some r =>
     obtain⟨s,ob⟩:=r;cases hl:SQ st l with
     | none=>simp[ho,hl] at hs
     | some r =>
       obtain⟨h',ns'⟩:=r;simp only[ho,hl,Ae,Ak] at hs;obtain⟨rfl,rfl⟩:=hs;simp only[yi,xw] at hn;rw[List.nodup_append] at hns;obtain⟨i1,i2,i3⟩:=SP hl hn.2 hns.2.1;have hx:∀y∈l,x.2.2.1≠y.2.2.1:=fun y hy e=>hn.1 (by rw[e]; exact zh.2 ⟨y,hy,rfl⟩)
       have cross:∀y∈l,∀n ob ob',VX st x=wM (wM n,ob)->VX st y=wM (wM n,ob')->False:=by intro y hy n o1 o2 h1 h2;rw[ho] at h1; cases h1;obtain⟨s',ob',h3,_,h4⟩:=i1 y hy;rw[h2] at h3; cases h3;exact hns.2.2 n (by simp) n (h4 n rfl) rfl
       refine⟨fun y hy=>?_,fun n fo hl'=>?_,fun y hy z hz n o1 o2 h1 h2=>?_⟩
       ·rcases zB.1 hy with rfl | hy
        ·exact⟨s,ob,ho,by simp[look],fun n e=>by rw[e]; simp⟩
        ·obtain⟨s',ob',h1,h2,h3⟩:=i1 y hy;refine⟨s',ob',h1,?_,fun n e=>zu.2 (.inr (h3 n e))⟩;simp only[look,show(x.2.2.1==y.2.2.1)=wh by simpa using hx y hy,Af];exact h2
       ·simp only[look] at hl';by_cases e:x.2.2.1=n
        ·exact⟨x,AY,e⟩
        ·rw[show(x.2.2.1==n)=wh by simpa using e] at hl';obtain⟨y,hy,hyn⟩:=i2 n fo hl';exact⟨y,AN _ hy,hyn⟩
       ·rcases zB.1 hy with e1 | hy2
        ·rcases zB.1 hz with e2 | hz2
         ·rw[e1,e2]
         ·exact(cross z hz2 n o1 o2 (e1 ▸ h1) h2).elim
        ·rcases zB.1 hz with e2 | hz2
         ·exact(cross y hy2 n o2 o1 (e2 ▸ h2) h1).elim
         ·exact i3 y hy2 z hz2 n o1 o2 h1 h2
theorem Rp{st:St}{H:BK}:∀{bs:List Nat} {h:D6},OY st H bs=wM h->bs.Nodup ->
 (∀b∈bs,∃f cs,look st.heap b=wM (f,.box cs)/\NM H.Cg H.Cv (b+1) 0 cs=wc/\look h b=wM (f,.box (OX H.Cg (b+1) 0 cs)))/\(∀n fo,look h n=wM fo->n∈bs)
 | [],h,hs,_=>by simp only[OY,Ae] at hs;subst hs;exact⟨fun x hx=>(by cases hx),fun n fo hl=>(by cases hl)⟩
 | b::bs,h,hs,hn=>by
   simp only[OY] at hs;split at hs
   ·rename_i f cs hl;cases hc:NM H.Cg H.Cv (b+1) 0 cs with
    | false=>rw[hc] at hs; cases hs
    | true =>
      rw[hc,Aa] at hs;cases hb:OY st H bs with
      | none=>rw[hb] at hs; cases hs
      | some h' =>
        rw[hb] at hs;simp only[Ae] at hs;subst hs;simp only[xw] at hn;obtain⟨i1,i2⟩:=Rp hb hn.2;refine⟨fun c hc'=>?_,fun n fo hl'=>?_⟩
        ·rcases zB.1 hc' with rfl | hc'
         ·exact⟨f,cs,hl,hc,by simp[look]⟩
         ·obtain⟨f',cs',h1,h2,h3⟩:=i1 c hc';refine⟨f',cs',h1,h2,?_⟩;have:b≠c:=fun e=>hn.1 (e ▸ hc')
          simp only[look,show(b==c)=wh by simpa using this,Af];exact h3
        ·simp only[look] at hl';by_cases e:b=n
         ·rw[e]; exact AY
         ·rw[show(b==n)=wh by simpa using e] at hl';exact AN _ (i2 n fo hl')
   ·cases hs
theorem Ur{H:BK}:∀(l:List DV) (k i:Nat),i<l.length->(Sp H k l).getD i .undef=(match IJ 0 (k+i) H.Cg with | some nm=>.Dh nm | none=>bif Jx (k+i) H.Da then l.getD i .undef else .undef)
 | [],k,i,h=>by simp at h
 | d::l,k,i,h=>by
   cases i with
   | zero =>simp only[Sp,List.getD_cons_zero,AQ];cases IJ 0 k H.Cg<;>rfl
   | succ i =>have:=Ur (H:=H) l (k+1) i (by simpa using h);simp only[Sp,xQ,this];rw[show k+1+i=k+(i+1) by omega]
theorem LA{H:BK}:∀(l:List DV) (k:Nat),(Sp H k l).length=l.length
 | [],k=>rfl
 | d::l,k=>by simp[Sp,LA l]
theorem SN{H:BK}:∀{l:List DV} {k i:Nat},SO H k l=wc->i<l.length->IJ 0 (k+i) H.Cg=wN->Jx (k+i) H.Da=wc->E7 8 H.Cv (l.getD i .undef)=wc
 | [],k,i,_,h,_,_=>by simp at h
 | d::l,k,i,h,hi,h1,h2=>by
   simp only[SO,Am,zH,yt] at h;cases i with
   | zero =>
     rcases h.1 with h | h | h
     ·rw[AQ] at h1; rw[h1] at h; cases h
     ·rw[AQ] at h2; rw[h2] at h; cases h
     ·exact h
   | succ i =>rw[xQ];exact SN (k:=k+1) h.2 (by simpa using hi) (by rw[show k+1+i=k+(i+1) by omega]; exact h1) (by rw[show k+1+i=k+(i+1) by omega]; exact h2)
theorem T7{c c':Ctx}{w:World}{Cg:List (Nat × Nat × Nat × OB)}{Cv:List Nat}{b:Nat}:
 ∀(l:List DV) (vs:List Value) (k:Nat),NM Cg Cv b k l=wc->BJ c w l vs ->
 (∀d v,E7 8 Cv d=wc->By c w d v->By c' w d v)->(∀i nm d v,l[i]?=wM d->IJ b (k+i) Cg=wM nm->By c w d v->By c' w (.Dh nm) v)->BJ c' w (OX Cg b k l) vs
 | [],vs,k,_,h,_,_=>by rw[BJ.FE] at h; subst h; simp[OX,BJ]
 | d::l,vs,k,hok,h,h1,h2=>by
   simp only[NM,Am,zH] at hok;rw[BJ.CR] at h;obtain⟨u,us,rfl,hu,hus⟩:=h;simp only[OX];rw[BJ.CR];refine⟨u,us,rfl,?_,T7 l us (k+1) hok.2 hus h1 fun i nm e v hi hn=>h2 (i+1) nm e v hi (by rw[show k+(i+1)=k+1+i by omega]; exact hn)⟩;cases hn:IJ b k Cg with
   | some nm=>exact h2 0 nm d u rfl hn hu
   | none =>rw[hn] at hok;exact h1 d u (hok.1.resolve_left (by simp)) hu
def Ajn:OB->Nat
 | .CO _ sz _=>sz
 | _=>1
def Is(ob:OB):Place:=⟨.live,.row (.slice wN 0 0) (Ajn ob)⟩
open Classical in
def Lv(st:St)(H:BK)(A:Nat->Option Place)(n:Nat):Option Place:=
 if n∈H.Cv then A n else
 match Tu n H.Cg with
 | some x=>match Pl st x with
   | .nil=>wM (Is x.2.2.2)
   | .Dh m=>A m
   | _=>wN
 | none=>wN
theorem IM{st:St}{H:BK}{A:Nat->Option Place}{n:Nat}{p:Place}(h:Lv st H A n=wM p):
 (n∈H.Cv/\A n=wM p)\/(n ∉ H.Cv/\∃x∈H.Cg,x.2.2.1=n/\((Pl st x=.nil/\p=Is x.2.2.2)\/∃m,Pl st x=.Dh m/\A m=wM p)):=by
 unfold Lv at h;by_cases hb:n∈H.Cv
 ·rw[Az hb] at h; exact .inl ⟨hb,h⟩
 ·rw[Ay hb] at h;refine .inr ⟨hb,?_⟩;cases hf:Tu n H.Cg with
  | none=>rw[hf] at h; cases h
  | some x =>
    rw[hf] at h;obtain⟨hx,hn⟩:=QG hf;refine⟨x,hx,hn,?_⟩;simp only at h;split at h
    ·rename_i e; cases h; exact .inl ⟨e,rfl⟩
    ·rename_i m e; exact .inr ⟨m,e,h⟩
    ·cases h
theorem MU{st:St}{x:Nat × Nat × Nat × OB}{s:Option Nat}{ob:OB}(h:VX st x=wM (s,ob)):
 (Pl st x=.nil/\s=wN/\ob=x.2.2.2/\((∃e k,ob=.Bj e k [])\/∃e sz,0<sz/\ob=.CO e sz [])) \/
 (∃m,Pl st x=.Dh m/\s=wM m/\look st.heap m=wM (wh,ob)/\((∃e k l,ob=.Bj e k l)\/∃e sz l,ob=.CO e sz l)):=by
 unfold VX at h;split at h
 ·rename_i hs;left;split at h
  ·rename_i e k hx;simp only[Ae,Ak] at h;exact⟨hs,h.1.symm,by rw[hx]; exact h.2.symm,.inl ⟨e,k,h.2.symm⟩⟩
  ·rename_i e sz hx;cases hb:yF 0 sz with
   | false=>rw[hb] at h; cases h
   | true =>rw[hb] at h;simp only[Aa,Ae,Ak] at h;exact⟨hs,h.1.symm,by rw[hx]; exact h.2.symm,.inr ⟨e,sz,by simpa[Nat.blt_eq] using hb,h.2.symm⟩⟩
  ·cases h
 ·rename_i m hs;right;split at h
  ·rename_i e k l hl;simp only[Ae,Ak] at h;exact⟨m,hs,h.1.symm,by rw[hl,h.2],.inl ⟨e,k,l,h.2.symm⟩⟩
  ·rename_i e sz l hl;simp only[Ae,Ak] at h;exact⟨m,hs,h.1.symm,by rw[hl,h.2],.inr ⟨e,sz,l,h.2.symm⟩⟩
  ·cases h
 ·cases h
section
variable{E:Env}{S:Uf E}{I0:Nat->Prop}{B:Nat}{w0:World}
theorem Adi{H:BK}{st st1:St}(h:Aae (wM H) st=wM st1){a:Act}{w:World}(hh:EL S I0 B w0 st a w):EL S I0 B w0 st1 a w:=by
 obtain⟨A,hA⟩:=hh;simp only[Aae] at h;cases hbd:OY st H H.Cv with
 | none=>rw[hbd] at h; cases h
 | some hb =>
 cases hod:SQ st H.Cg with
 | none=>rw[hbd,hod] at h; cases h
 | some r =>
 obtain⟨ho,ns⟩:=r;rw[hbd,hod] at h;simp only at h;cases hc:(Jv (H.Cv++H.Cg.map (·.2.2.1))&&Jv ns&&SO H 0 st.tmps) with
 | false=>rw[hc] at h; cases h
 | true =>
 rw[hc,Aa,Ae] at h;subst h;simp only[Am] at hc;obtain⟨⟨hn,hns⟩,hok⟩:=hc;have hnd:=HX hn;rw[List.nodup_append] at hnd;obtain⟨hnb,hno,hdis⟩:=hnd;obtain⟨o1,o2,o3⟩:=SP hod hno (HX hns);obtain⟨b1,b2⟩:=Rp hbd hnb;have hnin:∀x∈H.Cg,x.2.2.1 ∉ H.Cv:=fun x hx e=>hdis _ e _ (zh.2 ⟨x,hx,rfl⟩) rfl
 have hat:∀x∈H.Cg,Lv st H A x.2.2.1=match Pl st x with | .nil=>wM (Is x.2.2.2) | .Dh m=>A m | _=>wN:=by intro x hx;unfold Lv;rw[Ay (hnin x hx),PR hno hx]
 have hokc:∀b,(Cd I0 B A w).ok b->(Cd I0 B (Lv st H A) w).ok b:=by
  rintro b ⟨h1,h2,h3⟩
  refine⟨h1,h2,fun n p hp hl=>?_⟩;rcases IM hp with ⟨_,hp⟩ | ⟨_,x,_,_,⟨_,rfl⟩ | ⟨m,_,hp⟩⟩
  ·exact h3 n p hp hl
  ·simp[Is,Place.F1,Value.ownBlock]
  ·exact h3 m p hp hl
 have hrefs:∀d v,E7 8 H.Cv d=wc->By (Cd I0 B A w) w d v->By (Cd I0 B (Lv st H A) w) w d v:=by
  intro d v hd hv
  have hl:Jr ((Cd I0 B A w).only H.Cv) w (Cd I0 B (Lv st H A) w) w:=by
   refine⟨hokc,rfl,rfl,fun _ _ h=>(by cases h),fun n p hp=>?_,fun _ _ _=>rfl,fun _ _ h=>(by cases h)⟩;simp only[Ctx.only] at hp;split at hp
   ·rename_i hnb';refine⟨p,?_,?_⟩
    ·show Lv st H A n=wM p;unfold Lv;rw[Az hnb']; exact hp
    ·by_cases hpd:p.st=.dead
     ·exact .inl hpd
     ·exact .inr ⟨hpd,rfl⟩
   ·cases hp
  exact By.D1 hl d v (VQ H.Cv 8 d v hd hv)
 have hbare:∀l rows,Dm (Cd I0 B A w).bare w l rows->Dm (Cd I0 B (Lv st H A) w).bare w l rows:=fun l rows =>
  Dm.D1 (c:=(Cd I0 B A w).bare) (c':=(Cd I0 B (Lv st H A) w).bare) (w:=w) (w':=w) ⟨hokc,rfl,rfl,fun _ _ h=>(by cases h),fun _ _ h=>(by cases h),fun _ _ _=>rfl,fun _ _ h=>(by cases h)⟩ l rows
 have hnamed:∀x∈H.Cg,∀v,By (Cd I0 B A w) w (Pl st x) v->By (Cd I0 B (Lv st H A) w) w (.Dh x.2.2.1) v:=by
  intro x hx v hv;obtain⟨s,ob,h1,_,_⟩:=o1 x hx;have hax:=hat x hx;rcases MU h1 with ⟨e,_⟩ | ⟨m,e,_⟩
  ·rw[e] at hv hax;simp only[By] at hv ⊢;subst hv;exact⟨rfl,_,hax,.inr ⟨_,rfl⟩⟩
  ·rw[e] at hv hax;simp only[By] at hv ⊢;obtain⟨h1,p,hp,hd⟩:=hv;exact⟨h1,p,hax.trans hp,hd⟩
 refine⟨Lv st H A,hA.defers,hA.size.trans (LA _ _).symm,hA.below,hA.hB,hA.Qg,fun n p hp=>?_,fun n p b hp hd hpb=>?_,fun n m p q b hp hq hpd hqd hpb hqb=>?_,fun t=>?_,fun b hb=>⟨(hA.kept b hb).1,(hA.kept b hb).2.1,fun n p hp hl hbk=>by
  rcases IM hp with ⟨_,hp⟩ | ⟨_,x,_,_,⟨_,rfl⟩ | ⟨m,_,hp⟩⟩
  ·exact(hA.kept b hb).2.2 n p hp hl hbk
  ·simp[Is,Place.F1,Value.ownBlock] at hbk
  ·exact(hA.kept b hb).2.2 m p hp hl hbk⟩,hA.pin⟩
 ·rcases IM hp with ⟨hnb',hp⟩ | ⟨hnb',x,hx,rfl,hsrc⟩
  ·obtain⟨f,cs,h1,h2,h3⟩:=b1 n hnb';obtain⟨fo,h4,h5⟩:=hA.obj n p hp;rw[h1] at h4; cases h4;refine⟨(f,.box (OX H.Cg (n+1) 0 cs)),by rw[KI,h3],?_⟩;obtain⟨hst,b,e,cells,hk,hh,hl⟩:=h5;refine⟨hst,b,e,cells,hk,hh,T7 cs _ 0 h2 hl hrefs fun i nm d v hi hnm hv=>?_⟩;obtain⟨ob,hx⟩:=OM hnm;refine hnamed _ hx v ?_
   have:Pl st (n+1,0+i,nm,ob)=d:=by simp[Pl,h1,Al,hi]
   rw[this]; exact hv
  ·obtain⟨s,ob,h1,h2,_⟩:=o1 x hx
   have hl:look (hb++ho) x.2.2.1=wM (wh,ob):=by
    rw[KI];cases hq:look hb x.2.2.1 with
    | none=>exact h2
    | some fo=>exact absurd (b2 _ _ hq) hnb'
   refine⟨_,hl,?_⟩;rcases MU h1 with ⟨e,_,e2,hob⟩ | ⟨m,e,_,hlm,hob⟩
   ·rcases hsrc with ⟨_,rfl⟩ | ⟨m,e',_⟩
    ·rw[<- e2];rcases hob with ⟨e,k,rfl⟩ | ⟨e,sz,hsz,rfl⟩
     ·exact⟨rfl,_,rfl,World.ownsRow_nil w B e 1⟩
     ·exact⟨rfl,hsz,_,[],rfl,by simp[Dm],fun r hr=>(by cases hr),World.ownsRow_nil w B e sz⟩
    ·rw[e] at e'; cases e'
   ·rcases hsrc with ⟨e',_⟩ | ⟨m',e',hp'⟩
    ·rw[e] at e'; cases e'
    ·rw[e] at e'; cases e';obtain⟨fo,h4,h5⟩:=hA.obj m p hp';rw[hlm] at h4; cases h4;rcases hob with ⟨e,k,l,rfl⟩ | ⟨e,sz,l,rfl⟩
     ·exact h5
     ·obtain⟨i1,i2,sv,rows,i3,i4,i5,i6⟩:=h5;exact⟨i1,i2,sv,rows,i3,hbare _ _ i4,i5,i6⟩
 ·rcases IM hp with ⟨_,hp⟩ | ⟨_,x,hx,rfl,⟨_,rfl⟩ | ⟨m,_,hp⟩⟩
  ·exact hA.Gf n p b hp hd hpb
  ·simp[Is,Place.F1,Value.ownBlock] at hpb
  ·exact hA.Gf m p b hp hd hpb
 ·have isBox:∀n p,n∈H.Cv->A n=wM p->∃b,p.kind=.box b:=by intro n p hnb' hp;obtain⟨f,cs,h1,_,_⟩:=b1 n hnb';obtain⟨fo,h4,h5⟩:=hA.obj n p hp;rw[h1] at h4; cases h4;obtain⟨_,b,_,_,hk,_⟩:=h5;exact⟨b,hk⟩
  have isRow:∀x∈H.Cg,∀m p,Pl st x=.Dh m->A m=wM p->∃sv sz,p.kind=.row sv sz:=by
   intro x hx m p e hp;obtain⟨s,ob,h1,_,_⟩:=o1 x hx;rcases MU h1 with ⟨e',_⟩ | ⟨m',e',_,hlm,hob⟩
   ·rw[e] at e'; cases e'
   ·rw[e] at e'; cases e';obtain⟨fo,h4,h5⟩:=hA.obj m p hp;rw[hlm] at h4; cases h4;rcases hob with ⟨e,k,l,rfl⟩ | ⟨e,sz,l,rfl⟩
    ·obtain⟨_,sv,hk,_⟩:=h5; exact⟨sv,1,hk⟩
    ·obtain⟨_,_,sv,_,hk,_⟩:=h5; exact⟨sv,sz,hk⟩
  have same:∀m m':Nat,∀p q:Place,A m=wM p->A m'=wM q->p.st≠.dead->q.st≠.dead->p.F1=wM b->q.F1=wM b->m=m':=fun m m' p q h1 h2 h3 h4 h5 h6=>hA.inj m m' p q b h1 h2 h3 h4 h5 h6
  rcases IM hp with ⟨hnb',hp⟩ | ⟨_,x,hx,rfl,⟨_,rfl⟩ | ⟨i,hi,hp⟩⟩
  ·rcases IM hq with ⟨_,hq⟩ | ⟨_,y,hy,rfl,⟨_,rfl⟩ | ⟨j,hj,hq⟩⟩
   ·exact same n m p q hp hq hpd hqd hpb hqb
   ·simp[Is,Place.F1,Value.ownBlock] at hqb
   ·have e:=same n j p q hp hq hpd hqd hpb hqb;subst e;rw[hp] at hq; cases hq;obtain⟨b',hk⟩:=isBox n p hnb' hp;obtain⟨sv,sz,hk'⟩:=isRow y hy n p hj hp;rw[hk] at hk'; cases hk'
  ·simp[Is,Place.F1,Value.ownBlock] at hpb
  ·rcases IM hq with ⟨hmb,hq⟩ | ⟨_,y,hy,rfl,⟨_,rfl⟩ | ⟨j,hj,hq⟩⟩
   ·have e:=same i m p q hp hq hpd hqd hpb hqb;subst e;rw[hp] at hq; cases hq;obtain⟨b',hk⟩:=isBox i p hmb hp;obtain⟨sv,sz,hk'⟩:=isRow x hx i p hi hp;rw[hk] at hk'; cases hk'
   ·simp[Is,Place.F1,Value.ownBlock] at hqb
   ·have e:=same i j p q hp hq hpd hqd hpb hqb;subst e;obtain⟨s,ob,h1,_,_⟩:=o1 x hx;obtain⟨s',ob',h1',_,_⟩:=o1 y hy
    have hs:s=wM i:=by
     rcases MU h1 with ⟨e',_⟩ | ⟨m',e',e2,_⟩
     ·rw[hi] at e'; cases e'
     ·rw[hi] at e'; cases e'; exact e2
    have hs':s'=wM i:=by
     rcases MU h1' with ⟨e',_⟩ | ⟨m',e',e2,_⟩
     ·rw[hj] at e'; cases e'
     ·rw[hj] at e'; cases e'; exact e2
    subst hs hs';rw[o3 x hx y hy i ob ob' h1 h1']
 ·rcases AF t st.tmps.length with hlt | hge
  ·rw[Ur st.tmps 0 t hlt];cases hnm:IJ 0 (0+t) H.Cg with
   | some nm =>
     obtain⟨ob,hx⟩:=OM hnm;refine hnamed _ hx _ ?_;have:Pl st (0,0+t,nm,ob)=st.tmps.getD t .undef:=by simp[Pl]
     rw[this]; exact hA.tmps t
   | none =>
     simp only;cases hk:Jx (0+t) H.Da with
     | true=>exact hrefs _ _ (SN hok hlt hnm hk) (hA.tmps t)
     | false=>simp only[Af,By]
  ·rw[Al,Bb (by rw[LA]; exact hge)];simp only[Option.getD_none,By]
theorem AgP{st:St}{a:Act}{w:World}(hh:EL S I0 B w0 st a w):EL S I0 B w0 (YO st) a w:=by
 obtain⟨A,hA⟩:=hh;refine⟨A,hA.defers,hA.size.trans (by unfold YO; rw[AO]),hA.below,hA.hB,hA.Qg,hA.obj,hA.Gf,hA.inj,fun t=>?_,hA.kept,hA.pin⟩;have ht:=hA.tmps t
 have e:(YO st).tmps.getD t .undef=Aee st.heap (st.tmps.getD t .undef):=by
  unfold YO;rw[Al,Al,Ba];cases st.tmps[t]? with
  | none=>rfl
  | some d=>rfl
 rw[e];generalize st.tmps.getD t .undef=d at ht;cases d with
 | Dh n =>
   have e2:Aee st.heap (.Dh n)=(match look st.heap n with
    | some (true,.Bj _ k l)=>.Bj .BE k l
    | some (true,.CO _ sz l)=>.CO .BE sz l
    | _=>.Dh n):=rfl
   rw[e2];have hm:Mem I0 B A st.heap w:=hA.mem fun n p fo hn hl=>hl
   have seen:∀p,A n=wM p->p.st=.frozen->∀b,p.F1=wM b->(Cd I0 B A w).F1 .BE b:=fun p hp hf b hb=>by obtain⟨h1,h2⟩:=hA.Gf n p b hp (by rw[hf]; simp) hb;refine⟨⟨h2,.inr h1,fun m q hq hl hqb=>?_⟩,rfl,h1⟩;have:=hA.inj n m p q b hp hq (by rw[hf]; simp) (by rw[hl]; simp) hb hqb;subst this;rw[hp] at hq; cases hq;rw[hf] at hl; cases hl
   have hv:=ht;simp only[By] at hv;obtain⟨hone,p,hp,hd⟩:=hv;split
   ·rename_i e k l hl;obtain⟨hst,sv,hk,ho⟩:=DX hm hp hl;have hst':p.st=.frozen:=hst;obtain⟨size,hk'⟩:=hd.resolve_left (by rw[hst']; simp);rw[hk] at hk'; cases hk';have:=HU hk ho (ED ho) (ok:=(Cd I0 B A w).F1 .BE) (seen p hp hst');simp only[zU,ya] at this;simp only[By];exact this
   ·rename_i e sz l hl;obtain⟨hst,hsz,sv,rows,hk,hrr,hlen,ho⟩:=Ez hm hp hl;have hst':p.st=.frozen:=hst;obtain⟨size,hk'⟩:=hd.resolve_left (by rw[hst']; simp);rw[hk] at hk'; cases hk';have:=HT hk hrr hlen ho (ED ho) (ok:=(Cd I0 B A w).F1 .BE) (seen p hp hst');simp only[zU,ya] at this;simp only[By];exact this
   ·exact ht
 | _=>exact ht
theorem Agg{H:BK}{st st1:St}(h:canon (wM H) st=wM st1){a:Act}{w:World}(hh:EL S I0 B w0 st a w):EL S I0 B w0 st1 a w:=Adi (H:=Aiy (YO st) H) h (AgP hh)
end
section
variable{P:Program}{E:Env}{S:Uf E}{I0:Nat->Prop}{B:Nat}{w0:World}
theorem ZL{Da:Option (List Nat)}{st:St}(t:Nat):(forget Da st).tmps.getD t .undef=st.tmps.getD t .undef\/(forget Da st).tmps.getD t .undef=.undef:=by
 cases Da with
 | none=>exact .inl rfl
 | some ks =>
   simp only[forget,Al,Ba,List.getElem?_zipIdx];cases st.tmps[t]? with
   | none=>exact .inl rfl
   | some d =>
     simp only[yh,Be];cases ks.contains (0+t)
     ·exact .inr rfl
     ·exact .inl rfl
theorem Ub{Da:Option (List Nat)}{st:St}:(forget Da st).tmps.length=st.tmps.length:=by cases Da<;>simp[forget]
theorem Yh{Da:Option (List Nat)}{st:St}:(forget Da st).heap=st.heap:=by cases Da<;>rfl
theorem EL.forget{Da:Option (List Nat)}{st:St}{a:Act}{w:World}(h:EL S I0 B w0 st a w):EL S I0 B w0 (forget Da st) a w:=by
 obtain⟨A,h⟩:=h;refine⟨A,h.defers,h.size.trans Ub.symm,h.below,h.hB,h.Qg,by rw[Yh]; exact h.obj,h.Gf,h.inj,fun t=>?_,h.kept,h.pin⟩;rcases ZL (Da:=Da) (st:=st) t with e | e
 ·rw[e]; exact h.tmps t
 ·rw[e]; simp only[By]
def Agz{β:Type}{E:Env}(P:Program)(S:Uf E)(I0:Nat->Prop)(B:Nat)(w0:World)(r:β)(c:Code)(body:St->(St->Option β)->(Nat->St->Option β)->(St->Option β)->Option β):Prop:=
 ∀(st:St) (Kn:St->Option β) (Kx:Nat->St->Option β) (Kr:St->Option β),body st Kn Kx Kr=wM r->∀(a:Act) (w:World),EL S I0 B w0 st a w->∀Q:Exit->Act->World->Prop,
  (∀st a w,Kn st=wM r->EL S I0 B w0 st a w->Q .normal a w)->(∀id st a w,Kx id st=wM r->EL S I0 B w0 st a w->Q (.exit id) a w) ->
  (∀st a w,Kr st=wM r->EL S I0 B w0 st a w->Q .ret a w)->c.wp P Q a w
theorem Ve{H:Option BK}{st st1:St}(hc:canon H st=wM st1){a:Act}{w:World}(hh:EL S I0 B w0 st a w):EL S I0 B w0 st1 a w:=by
 cases H with
 | none=>simp only[canon,Ae] at hc; subst hc; exact hh
 | some H=>exact Agg hc hh
theorem XZ{β:Type}{r:β}{c:Code}{body:St->(St->Option β)->(Nat->St->Option β)->(St->Option β)->Option β}(hb:Agz P S I0 B w0 r c body){H:Option BK}{Kx:Nat->St->Option β}{Kr:St->Option β}
 {Q:Exit->Act->World->Prop} (hx:∀id st a w,Kx id st=wM r->EL S I0 B w0 st a w->Q (.exit id) a w) (hr:∀st a w,Kr st=wM r->EL S I0 B w0 st a w->Q .ret a w):
 ∀(n:Nat) (st:St),PK H body n st Kx Kr=wM r->∀a w,EL S I0 B w0 st a w->Code.rounds P c Q n a w
 | 0,st,h,_,_,_=>by simp[PK] at h
 | n+1,st,h,a,w,hh=>by
   simp only[PK] at h;rw[rounds_succ];refine hb st _ Kx Kr h a w hh _ (fun st2 a2 w2 hk hh2=>?_) (fun id st2 a2 w2 hk hh2=>hx id st2 a2 w2 hk hh2) (fun st2 a2 w2 hk hh2=>hr st2 a2 w2 hk hh2);cases hc:canon H st2 with
   | none=>rw[hc] at hk; cases hk
   | some st3 =>rw[hc] at hk;exact XZ hb hx hr n st3 hk a2 w2 (Ve hc hh2)
theorem AhC{β:Type}{r:β}{c:Code}{body:St->(St->Option β)->(Nat->St->Option β)->(St->Option β)->Option β}(hb:Agz P S I0 B w0 r c body){H:Option BK}{Kx:Nat->St->Option β}{Kr:St->Option β}
 {Q:Exit->Act->World->Prop} (hx:∀id st a w,Kx id st=wM r->EL S I0 B w0 st a w->Q (.exit id) a w) (hr:∀st a w,Kr st=wM r->EL S I0 B w0 st a w->Q .ret a w)
 (n:Nat) (st:St) (h:iter H body n st Kx Kr=wM r) (a:Act) (w:World) (hh:EL S I0 B w0 st a w):Code.rounds P c Q n a w:=by
 unfold iter at h;cases hc:canon H st with
 | none=>rw[hc] at h; cases h
 | some st1 =>rw[hc] at h;exact XZ hb hx hr n st1 h a w (Ve hc hh)
theorem LW{β:Type}(he:GH P E)(fuel:Nat)(r:β):∀(c:Code) (b:Nat),Agz P S I0 B w0 r c (den E fuel b c)
 | .skip,b=>fun st Kn Kx Kr h a w hh Q hn hx hr=>by simp only[den] at h;exact wp_skip (hn st a w h hh)
 | .label l,b=>fun st Kn Kx Kr h a w hh Q hn hx hr=>by simp only[den] at h;exact wp_label (hn st a w h hh)
 | .region id ops draw,b=>fun st Kn Kx Kr h a w hh Q hn hx hr=>by
   simp only[den] at h
   have reg:∀st,X3 E ops draw Kn st=wM r->EL S I0 B w0 st a w->(Code.region id ops draw).wp P Q a w:=by
    intro st h hh;cases draw with
    | true=>exact AfO he h hh hn
    | false =>simp only[X3,Af] at h;have:=AaU he ops.toList 0 _ (fun j=>by simp) h a w hh hn;rw[zW,<- List.range_eq_range'] at this;exact wp_region this
   cases hl:E.live id with
   | none=>rw[hl] at h; exact reg st h hh
   | some ks =>rw[hl] at h;simp only[Uu] at h;exact reg _ h hh.forget
 | .seq x y,b=>fun st Kn Kx Kr h a w hh Q hn hx hr=>by simp only[den] at h;refine wp_seq (LW he fuel r x b st _ Kx Kr h a w hh _ (fun st' a' w' hk hh'=>?_) (fun id st' a' w' hk hh'=>hx id st' a' w' hk hh') (fun st' a' w' hk hh'=>hr st' a' w' hk hh'));exact LW he fuel r y b st' Kn Kx Kr hk a' w' hh' Q hn hx hr
 | .cond c x y,b=>fun st Kn Kx Kr h a w hh Q hn hx hr=>by
   simp only[den] at h;cases hv:FL st.tmps c with
   | bool t =>
     rw[hv] at h;simp only at h
     have hev:a.eval c=.bool t:=by
      obtain⟨A,hA⟩:=hh
      have:By (Cd I0 B A w) w (FL st.tmps c) (a.eval c):=by
       cases c with
       | tmp t=>exact hA.tmps t
       | const v=>exact Va v
       | global g=>simp only[FL,By]
       | func f=>simp[FL] at hv
      rw[hv] at this;simpa only[By] using this
     refine wp_cond hev ?_;cases t with
     | true=>exact LW he fuel r x b st Kn Kx Kr h a w hh Q hn hx hr
     | false=>exact LW he fuel r y b st Kn Kx Kr h a w hh Q hn hx hr
   | _=>rw[hv] at h; cases h
 | .block id c,b=>fun st Kn Kx Kr h a w hh Q hn hx hr=>by
   simp only[den] at h;refine wp_block (LW he fuel r c id st Kn _ Kr h a w hh _ (fun st' a' w' hk hh'=>hn st' a' w' hk hh') (fun id' st' a' w' hk hh'=>?_) (fun st' a' w' hk hh'=>hr st' a' w' hk hh'));simp only[Exit.inBlock];by_cases e:id'=id
   ·rw[Az e];rw[show(id'==id)=wc by simpa using e] at hk;exact hn st' a' w' hk hh'
   ·rw[Ay e];rw[show(id'==id)=wh by simpa using e] at hk;exact hx id' st' a' w' hk hh'
 | .loop c,b=>fun st Kn Kx Kr h a w hh Q hn hx hr=>by simp only[den] at h;exact wp_loop_rounds fuel (AhC (LW he fuel r c b) hx hr fuel st h a w hh)
 | .scope c,b=>fun st Kn Kx Kr h a w hh Q hn hx hr=>by simp only[den] at h;exact wp_scope_straight (LW he fuel r c b st Kn Kx Kr h a w hh _ (fun st' a' w' hk hh'=>hn st' a' w' hk hh') (fun id st' a' w' hk hh'=>hx id st' a' w' hk hh') (fun st' a' w' hk hh'=>hr st' a' w' hk hh'))
 | .exit id,b=>fun st Kn Kx Kr h a w hh Q hn hx hr=>by simp only[den] at h;exact wp_exit (hx id st a w h hh)
 | .ret,b=>fun st Kn Kx Kr h a w hh Q hn hx hr=>by simp only[den] at h;exact wp_ret (hr st a w h hh)
 | .rangeFunc ..,b=>fun st Kn Kx Kr h=>by simp[den] at h
 | .goto l,b=>fun st Kn Kx Kr h=>by simp[den] at h
 | .refuse s,b=>fun st Kn Kx Kr h=>by simp[den] at h
end
def AeJ:List Value->Value
 | [v]=>v
 | vs=>.tuple vs.toArray
def Qv(tmps:Array Value):ResultVar->Sem Value
 | .tmp t=>pure (tmps.getD t undef)
 | .cell a t=>do loadVar t (<- asAddr (tmps.getD a undef))
section
variable{P:Program}{E:Env}{S:Uf E}{I0:Nat->Prop}{B:Nat}{w0:World}{A:Nat->Option Place}
theorem Ze{t:TypeId}{va v:Value}{w:World}(h:(Instr.loadAt t va).run P w=.ok v w):(do loadVar t (<- asAddr va):Sem Value).run P w=.ok v w:=by
 unfold Instr.loadAt at h;cases va with
 | pointer a =>
   cases a with
   | none=>simp[Instr.sureAddr] at h
   | some a =>simp only[Instr.sureAddr,asAddr] at h ⊢;exact h
 | _=>simp[Instr.sureAddr] at h
theorem Ack(hty:∀t ti,E.ty t=wM ti->CC P t ti){st:St}{a:Act}{w:World}(hA:HQ S I0 B w0 A (look st.heap) (fun t=>st.tmps.getD t .undef) st.tmps.length a w)
 {r:ResultVar} {d:DV} (h1:SF E st r=wM d):∃v,By (Cd I0 B A w) w d v/\(Qv a.tmps r).run P w=.ok v w:=by
 cases r with
 | tmp t =>simp only[SF,Ae] at h1;subst h1;exact⟨_,hA.tmps t,by simp[Qv]⟩
 | cell x t =>
   simp only[SF] at h1;cases hT:E.ty t with
   | none=>simp[hT] at h1
   | some ti =>
     rw[hT,Aj] at h1;cases hl:UN st.heap ti (st.tmps.getD x .undef) with
     | none=>rw[hl] at h1; cases h1
     | some q =>
       rw[hl,Aj] at h1;cases hq:q.NK with
       | false=>rw[hq] at h1; cases h1
       | true =>
         rw[hq,Aa,Ae] at h1;subst h1;have hm:Mem I0 B A st.heap w:=hA.mem fun n p fo _ hl=>hl
         obtain⟨v,hr,hv⟩:=XP hm (hty _ _ hT) (hA.tmps x) hl hq;exact⟨v,hv,Ze hr⟩
theorem Qw(hty:∀t ti,E.ty t=wM ti->CC P t ti){st:St}{a:Act}{w:World}(hA:HQ S I0 B w0 A (look st.heap) (fun t=>st.tmps.getD t .undef) st.tmps.length a w):
 ∀(rs:List ResultVar) (ds:List DV),OG E st rs=wM ds->∃vs:List Value,BJ (Cd I0 B A w) w ds vs/\(rs.mapM (Qv a.tmps)).run P w=.ok vs w
 | [],ds,h=>by simp only[OG,Ae] at h; subst h;exact⟨[],by simp[BJ],rfl⟩
 | r::rs,ds,h=>by
   simp only[OG] at h;cases h1:SF E st r with
   | none=>simp[h1] at h
   | some d =>
     cases h2:OG E st rs with
     | none=>simp[h1,h2] at h
     | some ds' =>simp only[h1,h2,Aj,Ae] at h;subst h;obtain⟨vs,i1,i2⟩:=Qw hty hA rs ds' h2;obtain⟨v,hv,hr⟩:=Ack hty hA h1;refine⟨v::vs,by rw[BJ.CR]; exact⟨v,vs,rfl,hv,i1⟩,?_⟩;simp only[List.mapM_cons,Sem.run_bind,hr,Result.andThen_ok,i2,Sem.run_pure]
theorem Rd{fn:Func}{tmps:Array Value}{w:World}{vs:List Value}(h:(fn.results.toList.mapM (Qv tmps)).run P w=.ok vs w):
 (results fn tmps).run P w=.ok (AeJ vs) w:=by
 have h':(fn.results.mapM (Qv tmps)).run P w=.ok vs.toArray w:=by rw[Array.mapM_eq_mapM_toList];simp only[Sem.run_map,h,Result.andThen_ok]
 have e:results fn tmps=(do let vs<-fn.results.mapM (Qv tmps); pure (if h:vs.size=1 then vs[0] else .tuple vs)):=by unfold results;congr 2
 rw[e];simp only[Sem.run_bind,h',Result.andThen_ok,Sem.run_pure];congr 1
 match vs with
 | []=>rfl
 | [v]=>rfl
 | v::u::us=>simp[AeJ]
def Kf(h:D6)(f:Nat)(l:List DV):Option (List DV × List Nat × List Nat) :=l.foldr (fun d acc=>(F3 h f d).bind fun(x,ns,os)=>acc.bind fun(xs,ms,ps)=>wM (x::xs,ns++ms,os++ps)) (wM ([],[],[]))
theorem Q0{h:D6}{f:Nat}{d:DV}{l:List DV}{r:List DV × List Nat × List Nat}(hh:Kf h f (d::l)=wM r):
 ∃x ns os xs ms ps,F3 h f d=wM (x,ns,os)/\Kf h f l=wM (xs,ms,ps)/\r=(x::xs,ns++ms,os++ps):=by
 have e:Kf h f (d::l)=(F3 h f d).bind fun(x,ns,os)=>(Kf h f l).bind fun(xs,ms,ps)=>wM (x::xs,ns++ms,os++ps):=rfl
 rw[e] at hh;cases h1:F3 h f d with
 | none=>simp[h1] at hh
 | some a =>
   obtain⟨x,ns,os⟩:=a;cases h2:Kf h f l with
   | none=>simp[h1,h2] at hh
   | some b =>obtain⟨xs,ms,ps⟩:=b;simp only[h1,h2,Aj,Ae] at hh;exact⟨x,ns,os,xs,ms,ps,rfl,rfl,hh.symm⟩
def Jf(A:Nat->Option Place)(OS:List Nat)(i:Nat):Option Nat:=
 if i∈OS then match A i with
  | some p=>if p.st=.live then p.F1 else wN
  | none=>wN
 else wN
theorem Lp{OS:List Nat}{i b:Nat}(h:Jf A OS i=wM b):i∈OS/\∃p,A i=wM p/\p.st=.live/\p.F1=wM b:=by
 unfold Jf at h;split at h
 ·cases hA:A i with
  | none=>rw[hA] at h; cases h
  | some p =>
    rw[hA] at h;simp only at h;split at h
    ·exact⟨‹_›,p,rfl,‹_›,h⟩
    ·cases h
 ·cases h
theorem X9{OS:List Nat}{i b:Nat}{p:Place}(h:i∈OS)(hp:A i=wM p)(hl:p.st=.live)(hb:p.F1=wM b):Jf A OS i=wM b:=by unfold Jf;rw[Az h,hp];simp only[hl,if_true,hb]
theorem Ae9{h:D6}{w w':World}(hm:Mem I0 w.heap.size A h w'){NS OS:List Nat}(hdis:∀n∈NS,n ∉ OS):
 ∀(f:Nat) (d:DV) (v:Value) d' ns os,F3 h f d=wM (d',ns,os)->(∀n∈ns,n∈NS)->(∀n∈os,n∈OS)->By (Cd I0 w.heap.size A w') w' d v->By (DM I0 (Jf A OS) w w') w' d' v:=by
 have hok:∀b,(Cd I0 w.heap.size A w').ok b->(DM I0 (Jf A OS) w w').ok b:=by
  rintro b ⟨h1,h2,h3⟩
  refine⟨h1,h2,fun i hi=>?_⟩;obtain⟨_,p,hp,hl,hb⟩:=Lp hi;exact h3 i p hp hl hb
 have hbare:∀l rows,Dm (Cd I0 w.heap.size A w').bare w' l rows->Dm (DM I0 (Jf A OS) w w').bare w' l rows:=fun l rows =>
  Dm.D1 (c:=(Cd I0 w.heap.size A w').bare) (c':=(DM I0 (Jf A OS) w w').bare) (w:=w') (w':=w') ⟨hok,rfl,rfl,fun _ _ h=>(by cases h),fun _ _ h=>(by cases h),fun _ _ _=>rfl,fun _ _ h=>(by cases h)⟩ l rows
 have hleaf:∀d v,E7 1 [] d=wc->By (Cd I0 w.heap.size A w') w' d v->By (DM I0 (Jf A OS) w w') w' d v:=by
  intro d v hd hv
  have hl:Jr ((Cd I0 w.heap.size A w').only []) w' (DM I0 (Jf A OS) w w') w' :=⟨hok,rfl,rfl,fun _ _ h=>(by cases h),fun n p hp=>(by simp[Ctx.only] at hp),fun _ _ _=>rfl,fun _ _ h=>(by cases h)⟩
  exact By.D1 hl d v (VQ [] 1 d v hd hv)
 have frozenBlk:∀n p,A n=wM p->p.st≠.dead->(p.st≠.live\/n ∉ OS)->∀b,p.F1=wM b->(DM I0 (Jf A OS) w w').F1 .BE b:=by
  intro n p hp hd hc b hb;obtain⟨h1,h2⟩:=hm.Gf n p b hp hd hb;refine⟨⟨h2,.inr h1,fun i hi=>?_⟩,rfl,h1⟩;obtain⟨hio,q,hq,hl,hqb⟩:=Lp hi;have e:=hm.inj n i p q b hp hq hd (by rw[hl]; simp) hb hqb;subst e;rw[hp] at hq; cases hq;rcases hc with hc | hc
  ·exact hc hl
  ·exact hc hio
 intro f
 induction f with
 | zero=>intro d v d' ns os h; simp[F3] at h
 | succ f ih =>
   have all:∀(l:List DV) (vs:List Value) l' ns os,Kf h f l=wM (l',ns,os)->(∀n∈ns,n∈NS)->(∀n∈os,n∈OS)->BJ (Cd I0 w.heap.size A w') w' l vs->BJ (DM I0 (Jf A OS) w w') w' l' vs:=by
    intro l
    induction l with
    | nil =>intro vs l' ns os hr _ _ hv;simp only[Kf,List.foldr_nil,Ae,Ak] at hr;obtain⟨rfl,_,_⟩:=hr;rw[BJ.FE] at hv ⊢; exact hv
    | cons d l ihl =>
      intro vs l' ns os hr h1 h2 hv;obtain⟨x,n1,o1,xs,ms,ps,e1,e2,e⟩:=Q0 hr;cases e;rw[BJ.CR] at hv ⊢;obtain⟨u,us,e,hu,hus⟩:=hv
      exact⟨u,us,e,ih d u x n1 o1 e1 (fun n hn=>h1 n (zu.2 (.inl hn))) (fun n hn=>h2 n (zu.2 (.inl hn))) hu,
       ihl us xs ms ps e2 (fun n hn=>h1 n (zu.2 (.inr hn))) (fun n hn=>h2 n (zu.2 (.inr hn))) hus⟩
   intro d v d' ns os hr hns hos hv;cases d with
   | agg l =>
     have hr:(Kf h f l).bind (fun(l,ns,os)=>wM (DV.agg l,ns,os))=wM (d',ns,os):=hr;cases hl:Kf h f l with
     | none=>rw[hl] at hr; cases hr
     | some r =>obtain⟨l',ns',os'⟩:=r;rw[hl] at hr;simp only[Aj,Ae,Ak] at hr;obtain⟨rfl,rfl,rfl⟩:=hr;simp only[By] at hv ⊢;obtain⟨vs,e,h1⟩:=hv;exact⟨vs,e,all l _ l' _ _ hl hns hos h1⟩
   | CJ l =>
     have hr:(Kf h f l).bind (fun(l,ns,os)=>wM (DV.CJ l,ns,os))=wM (d',ns,os):=hr;cases hl:Kf h f l with
     | none=>rw[hl] at hr; cases hr
     | some r =>obtain⟨l',ns',os'⟩:=r;rw[hl] at hr;simp only[Aj,Ae,Ak] at hr;obtain⟨rfl,rfl,rfl⟩:=hr;simp only[By] at hv ⊢;obtain⟨vs,e,h1⟩:=hv;exact⟨vs,e,all l _ l' _ _ hl hns hos h1⟩
   | Dh n =>
     simp only[By] at hv;obtain⟨hone,p,hp,hd⟩:=hv;simp only[F3] at hr;split at hr
     ·rename_i e k l hl;simp only[Ae,Ak] at hr;obtain⟨rfl,rfl,rfl⟩:=hr;obtain⟨hst,sv,hk,ho⟩:=DX hm hp hl;obtain⟨size,hk'⟩:=hd.resolve_left (Ck hst);rw[hk] at hk'; cases hk';simp only[By];exact⟨ho,fun b hb=>X9 (hos n (by simp)) hp hst (by unfold Place.F1; rw[hk]; exact hb)⟩
     ·rename_i e sz l hl;simp only[Ae,Ak] at hr;obtain⟨rfl,rfl,rfl⟩:=hr;obtain⟨hst,hsz,sv,rows,hk,hrr,hlen,ho⟩:=Ez hm hp hl;obtain⟨size,hk'⟩:=hd.resolve_left (Ck hst);rw[hk] at hk'; cases hk';simp only[By];exact⟨rows,hbare _ _ hrr,hlen,ho,fun b hb=>X9 (hos n (by simp)) hp hst (by unfold Place.F1; rw[hk]; exact hb)⟩
     ·rename_i e k l hl;simp only[Ae,Ak] at hr;obtain⟨rfl,rfl,rfl⟩:=hr;obtain⟨hst,sv,hk,ho⟩:=DX hm hp hl;obtain⟨size,hk'⟩:=hd.resolve_left (Ck hst);rw[hk] at hk'; cases hk';have hst':p.st=.frozen:=hst;have:=HU hk ho (ED ho) (ok:=(DM I0 (Jf A OS) w w').F1 .BE) (frozenBlk n p hp (Ck hst) (.inl (by rw[hst']; simp)));simp only[zU,ya] at this;simp only[By];exact this
     ·rename_i e sz l hl;simp only[Ae,Ak] at hr;obtain⟨rfl,rfl,rfl⟩:=hr;obtain⟨hst,hsz,sv,rows,hk,hrr,hlen,ho⟩:=Ez hm hp hl;obtain⟨size,hk'⟩:=hd.resolve_left (Ck hst);rw[hk] at hk'; cases hk';have hst':p.st=.frozen:=hst;have:=HT hk (hbare _ _ hrr) hlen ho (ED ho) (ok:=(DM I0 (Jf A OS) w w').F1 .BE) (frozenBlk n p hp (Ck hst) (.inl (by rw[hst']; simp)));simp only[zU,ya] at this;simp only[By];exact this
     ·cases hr
   | J9 n off len =>
     simp only[By] at hv;obtain⟨hone,p,hp,hd⟩:=hv;simp only[F3] at hr;split at hr
     ·rename_i fz e k l hl;simp only[Ae,Ak] at hr;obtain⟨rfl,rfl,rfl⟩:=hr;obtain⟨hst,sv,hk,ho⟩:=DX hm hp hl;obtain⟨sv',size,hk',hs⟩:=hd.resolve_left (Ck hst);rw[hk] at hk'; cases hk';have:=HU hk ho hs (ok:=(DM I0 (Jf A OS) w w').F1 .BE) (frozenBlk n p hp (Ck hst) (.inr (hdis n (hns n (by simp)))));simp only[By];exact this
     ·rename_i fz e sz l hl;simp only[Ae,Ak] at hr;obtain⟨rfl,rfl,rfl⟩:=hr;obtain⟨hst,hsz,sv,rows,hk,hrr,hlen,ho⟩:=Ez hm hp hl;obtain⟨sv',size,hk',hs⟩:=hd.resolve_left (Ck hst);rw[hk] at hk'; cases hk';have:=HT hk (hbare _ _ hrr) hlen ho hs (ok:=(DM I0 (Jf A OS) w w').F1 .BE) (frozenBlk n p hp (Ck hst) (.inr (hdis n (hns n (by simp)))));simp only[By];exact this
     ·cases hr
   | ptr n i j=>simp[F3] at hr
   | fn g a b=>simp[F3] at hr
   | gd g d=>simp[F3] at hr
   | undef=>simp[F3] at hr
   | CL cs=>simp[F3] at hr
   | nil=>simp only[F3,Ae,Ak] at hr; obtain⟨rfl,_,_⟩:=hr; exact hleaf _ _ rfl hv
   | bool b=>simp only[F3,Ae,Ak] at hr; obtain⟨rfl,_,_⟩:=hr; exact hleaf _ _ rfl hv
   | int k n=>simp only[F3,Ae,Ak] at hr; obtain⟨rfl,_,_⟩:=hr; exact hleaf _ _ rfl hv
   | fl n=>simp only[F3,Ae,Ak] at hr; obtain⟨rfl,_,_⟩:=hr; exact hleaf _ _ rfl hv
   | nb n=>simp only[F3,Ae,Ak] at hr; obtain⟨rfl,_,_⟩:=hr; exact hleaf _ _ rfl hv
   | Bj g k l=>simp only[F3,Ae,Ak] at hr; obtain⟨rfl,_,_⟩:=hr; exact hleaf _ _ rfl hv
   | CO g k l=>simp only[F3,Ae,Ak] at hr; obtain⟨rfl,_,_⟩:=hr; exact hleaf _ _ rfl hv
end
end Go.Den
end
