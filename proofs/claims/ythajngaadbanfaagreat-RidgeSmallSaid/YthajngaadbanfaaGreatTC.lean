/- A verified evaluator of the program's form and its use for this seat: Den21, Den22, Den23, Den24, Den25, Den26, Den27, Den28, Den29, Den30, Den31. -/
import Derived.Orders
import Derived.Test.YthajngaadbanfaaGreatTB
import Derived.Laws.CopyRow
import Derived.Laws.IdiomCopy
import Derived.LoopN
import Derived.Scope
set_option linter.unusedVariables false
set_option linter.unusedSimpArgs false
open Bool renaming false_or->yH,not_eq_true->zF,false_eq_true->yd,or_eq_true->zK,not_eq_true'->xc
open Array renaming getD_eq_getD_getElem?->yf,length_toList->ya,mem_toList_iff->wR,eq_empty_of_size_eq_zero->xt,toList_inj->yo,getElem?_setIfInBounds_ne->vW,getElem?_eq_none->vX,getElem?_replicate->wS
open List renaming all_eq_true->zJ,mem_append->zH,mem_filterMap->vU,isEmpty_iff->wP,map_cons->yx,mem_cons->zu,mem_singleton->zf,length_take->zI,length_drop->zP,mem_map->zw,take->zt,drop->zL,mem_range->yg,nodup_cons->xM,getD_cons_succ->wU,drop_zero->zW,take_length->ym
open Option renaming isNone_iff_eq_none->wQ,map_some->zU
open Nat renaming min_le_right->x8,zero_le->zA,blt->yV,beq->zg,add_assoc->yk,add_comm->xu
open Classical renaming byContradiction->yZ
noncomputable section
open Int (toNat)
open List (length getD)
namespace Go.Den
open Go.RowKit (Below)
def Mg(P:Program)(ops:Array Oper)(o:Oper)(a:Act)(w:World)(Q:Exit->Act->World->Prop)(G:Value->World->Prop):Prop :=
 ∀K:Act->World->Prop,(∀v w',G v w'->K (a.put o.dst v) w') ->
  if Region.wanted o (yielded ops a.tmps) then o.wp P a w K Q else K (a.put o.dst undef) w
theorem Mg.mono{P:Program}{ops:Array Oper}{o:Oper}{a:Act}{w:World}{Q:Exit->Act->World->Prop}{G G':Value->World->Prop}(h:Mg P ops o a w Q G)(hg:∀v w',G v w'->G' v w'):Mg P ops o a w Q G' :=fun K hK=>h K fun v w' hh=>hK v w' (hg v w' hh)
theorem Ga.wp{P:Program}{o:Oper}{a:Act}{w:World}{K:Act->World->Prop}{Q:Exit->Act->World->Prop}{K':Value->World->Prop}(h:Ga P (execOp a.eval o) w K')(hK:∀v w',K' v w'->K (a.put o.dst v) w'):o.wp P a w K Q:=by
 unfold Ga at h;unfold Oper.wp;split at h
 ·rename_i v w' hr;rw[hr,Oper.upon_value]; exact hK _ _ h
 ·rename_i f args w' hr;rw[hr,Oper.upon_enter];refine Calls.mono h fun e w'' ⟨v,he,hk⟩=>?_
  subst he; exact hK _ _ hk
 ·exact h.elim
section
variable{P:Program}{E:Env}{I0:Nat->Prop}{B:Nat}{A:Nat->Option Place}{h:Ev}{w:World}
theorem Ql{c:Ctx}{g:Bool}{d:DV}{v:Value}(hv:Au c w d v)(hg:g=true)(hs:(Ja g d).2=true):Au c w (Ja g d).1 v:=by
 subst hg;cases d<;>try exact hv
 rename_i c' d';simp only[Ja,Bfo,yH] at hs ⊢;simp only[Au] at hv;exact hv.1 hs
theorem At5{c:Ctx}{ops:Array Oper}{l:List DV}{o:Oper}{a:Act}(hsz:a.tmps.size=l.length)
 (hrd:∀t∈o.looksAt ops,Au c w (l.getD t .undef) (a.tmps.getD t undef)) {g?:Option Bool} (hc:S6 ops l o=some g?) :
 (g?=none/\o.guard=none)\/∃b,g?=some b/\Region.wanted o (yielded ops a.tmps)=b:=by
 unfold S6 at hc;split at hc
 ·rename_i hg;cases hc; exact .inl ⟨rfl,hg⟩
 ·rename_i j want hg;cases hd:(ops[j]?).bind (·.dst) with
  | none=>simp[hd] at hc
  | some d =>
    simp only[hd] at hc;have hv:=hrd d (by unfold Oper.looksAt; simp[hg,hd])
    have hlt:∀{x:DV},l.getD d .undef=x->x≠.undef->d<a.tmps.size:=fun {x} hx hne=>by
     rw[hsz];refine Nat.lt_of_not_le fun hle=>hne ?_
     rw[<- hx,Bez,Bf7 hle]; rfl
    have hy:∀{u:Value},d<a.tmps.size->a.tmps.getD d undef=u->yielded ops a.tmps j=match u with | .bool b=>some b | _=>none:=fun {u} hl hu=>by
     unfold yielded;rw[hd,Bex]
     have:a.tmps[d]?=some u:=by rw[Be9 hl];rw[yf,Be9 hl] at hu;exact congrArg some hu
     rw[this];cases u<;>rfl
    split at hc
    ·rename_i b hb;cases hc;rw[hb] at hv; simp only[Au] at hv;refine .inr ⟨_,rfl,?_⟩;unfold Region.wanted; rw[hg]; simp only;rw[hy (hlt hb (by simp)) hv];cases b<;>cases want<;>rfl
    ·rename_i c' b hb;cases hc;rw[hb] at hv; simp only[Au] at hv;refine .inr ⟨_,rfl,?_⟩;unfold Region.wanted; rw[hg]; simp only;cases c' with
     | true =>rw[hy (hlt hb (by simp)) (hv.1 rfl)];cases b<;>cases want<;>rfl
     | false =>rw[hy (hlt hb (by simp)) (hv.2 rfl)];cases want<;>rfl
    ·cases hc
def Ut(g?:Option Bool)(v:DV):DV:=match g? with | some c=>.gd c v | none=>v
theorem Alp{c:Ctx}{g?:Option Bool}{d:DV}{v:Value}(hg:g?.getD true=true)(hv:Au c w d v):Au c w (Ut g? d) v:=by
 cases g? with
 | none=>exact hv
 | some b =>simp only[Bf9] at hg; subst hg;simp only[Ut,Au];exact⟨fun _=>hv,fun e=>by cases e⟩
theorem Azv(he:Ke P E)(hm:Mem I0 B A h w){ops:Array Oper}{l:List DV}{o:Oper}{a:Act}
 (hops:∀x∈o.op.operands.toList,Au (B1 I0 B A w) w (Is l x) (a.eval x))
 {g?:Option Bool} (hg:(g?=none/\o.guard=none)\/∃b,g?=some b/\Region.wanted o (yielded ops a.tmps)=b)
 {nm:Nat} {r:R2} (hq:F7 E h nm (fun x=>(Ja (g?.getD true) (Is l x)).1) o.op=some r)
 (hreq:(!(g?.getD true)||(X3 (g?.getD true) (Is l) o.op.operands.toList&&r.req))=true)
 (hfrz:r.frz=[]\/g?.getD true=true)
 (hnew:∀n ob,(n,ob)∈r.objs->A n=none) (hnd:(r.objs.map (·.1)).Nodup) {Q:Exit->Act->World->Prop} :
 Mg P ops o a w Q fun v w'=>∃A',Mc I0 B A w r.objs r.frz A' w'/\Au (B1 I0 B A' w') w' (Ut g? r.v) v:=by
 intro K hK
 have hwant:Region.wanted o (yielded ops a.tmps)=g?.getD true:=by
  rcases hg with ⟨rfl,hg⟩ | ⟨b,rfl,hg⟩
  ·simp[Region.wanted,hg]
  ·simpa using hg
 rw[hwant];by_cases hgt:g?.getD true=true
 ·rw[Bfc hgt];rw[hgt] at hreq hq;simp only[Bfo,yH,Be0] at hreq
  have hops':Ops (B1 I0 B A w) w (fun x=>(Ja true (Is l x)).1) a.eval o.op:=fun x hx=>by refine Ql (hops x hx) rfl ?_;have:=hreq.1;unfold X3 at this;rw[zJ] at this;exact this x hx
  exact Ga.wp (K':=fun v w'=>∃A',Mc I0 B A w r.objs r.frz A' w'/\Au (B1 I0 B A' w') w' (Ut g? r.v) v)
   (Avr he hm hops' hq hreq.2 hnew hnd fun v w' A' h1 h2=>⟨A',h1,Alp hgt h2⟩) hK
 ·rw[Bfb hgt]
  have hgf:g?=some false:=by
   cases g? with
   | none=>simp at hgt
   | some b=>simp only[Bf9,zF] at hgt; rw[hgt]
  have h2:r.frz=[]:=hfrz.resolve_right hgt;subst hgf;refine hK undef w ⟨A,by rw[h2]; exact Mc.idle _,?_⟩;simp only[Ut,Au];exact⟨fun e=>(by cases e),fun _=>trivial⟩
theorem A4g{ops:Array Oper}{l:List DV}{dst:Option Tmp}{c x y:Operand}{ty:TypeId}{pos:String}{after:Array Edge}{guard:Option (Nat × Bool)}{a:Act}{cx:Ctx}
 (hc:Au cx w (Is l c) (a.eval c)) (hx:Au cx w (Is l x) (a.eval x)) (hy:Au cx w (Is l y) (a.eval y))
 {g?:Option Bool} (hg:(g?=none/\guard=none)\/∃b,g?=some b/\Region.wanted ⟨dst,.pick c x y,ty,pos,after,guard⟩ (yielded ops a.tmps)=b)
 {c' r:Bool} {v:DV} (hsc:(Ja (g?.getD true) (Is l c)).1=.bool c') (hp:Atc c' (Is l x) (Is l y)=some (r,v))
 (hreq:(!(g?.getD true)||((Ja (g?.getD true) (Is l c)).2&&r))=true) {Q:Exit->Act->World->Prop} :
 Mg P ops ⟨dst,.pick c x y,ty,pos,after,guard⟩ a w Q fun u w'=>w'=w/\Au cx w (Ut g? v) u:=by
 intro K hK
 have hwant:Region.wanted ⟨dst,.pick c x y,ty,pos,after,guard⟩ (yielded ops a.tmps)=g?.getD true:=by
  rcases hg with ⟨rfl,hg⟩ | ⟨b,rfl,hg⟩
  ·simp[Region.wanted,hg]
  ·simpa using hg
 rw[hwant];by_cases hgt:g?.getD true=true
 ·rw[Bfc hgt];rw[hgt] at hreq hsc;simp only[Bfo,yH,Be0] at hreq;have hcv:=Ql hc rfl hreq.1;rw[hsc] at hcv; simp only[Au] at hcv;refine Ga.wp (K':=fun u w'=>w'=w/\Au cx w (Ut g? v) u) (Ga.value (v:=if c' then a.eval x else a.eval y) (w':=w) ?_ ⟨rfl,Alp hgt ?_⟩) hK
  ·simp[execOp,hcv,asBool]
  ·have h2:=hreq.2;unfold Atc at hp;cases c' with
   | true =>
     simp only[if_true];split at hp
     ·rename_i p q e1 e2;simp only[Bes,Bey] at hp;obtain⟨rfl,rfl⟩:=hp;simp only[Be0] at h2;have:=Ql hx rfl h2.1;rw[e1] at this; exact this
     ·rename_i k p k' q e1 e2;by_cases hk:k=k'
      ·simp only[hk,decide_true,Bep,Bes,Bey] at hp;obtain⟨rfl,rfl⟩:=hp;simp only[Be0] at h2;have:=Ql hx rfl h2.1;rw[e1] at this; subst hk; exact this
      ·simp[hk] at hp
     ·cases hp
   | false =>
     simp only[yd,if_false];split at hp
     ·rename_i p q e1 e2;simp only[Bes,Bey] at hp;obtain⟨rfl,rfl⟩:=hp;simp only[Be0] at h2;have:=Ql hy rfl h2.2;rw[show(!false)=true from rfl] at e2;rw[e2] at this; exact this
     ·rename_i k p k' q e1 e2;by_cases hk:k=k'
      ·simp only[hk,decide_true,Bep,Bes,Bey] at hp;obtain⟨rfl,rfl⟩:=hp;simp only[Be0] at h2;have:=Ql hy rfl h2.2;rw[show(!false)=true from rfl] at e2;rw[e2] at this; exact this
      ·simp[hk] at hp
     ·cases hp
 ·rw[Bfb hgt]
  have hgf:g?=some false:=by
   cases g? with
   | none=>simp at hgt
   | some b=>simp only[Bf9,zF] at hgt; rw[hgt]
  subst hgf;refine hK undef w ⟨rfl,?_⟩;simp only[Ut,Au];exact⟨fun e=>(by cases e),fun _=>trivial⟩
theorem A0q{ops:Array Oper}{o:Oper}{t:Tmp}(h:Operand.tmp t∈o.op.operands.toList):t∈o.looksAt ops:=by unfold Oper.looksAt;exact zH.2 (.inl (vU.2 ⟨_,h,rfl⟩))
theorem Aiw{c:Ctx}(v:Value):Au c w (Arr v) v:=by unfold Arr;split<;>simp only[Au];exact⟨_,rfl,.inl rfl⟩
theorem Zj{c:Ctx}{ops:Array Oper}{l:List DV}{o:Oper}{a:Act}
 (hrd:∀t∈o.looksAt ops,Au c w (l.getD t .undef) (a.tmps.getD t undef)):∀x∈o.op.operands.toList,Au c w (Is l x) (a.eval x):=by
 intro x hx;cases x with
 | tmp t=>exact hrd t (A0q hx)
 | const v=>exact Aiw v
 | global g=>simp only[Is,Au]
 | func f=>simp[Is,Au,Act.eval,Bh]
theorem Bbc(he:Ke P E){ops:Array Oper}{draw:Bool}{st st':St}{o:Oper}(hs:Ph E ops draw st o=some (true,st'))(hmut:Xl o.op=false)
 (hsp:∀g?,S6 ops st.tmps o=some g?->(cond draw none (Ru E st.heap (Is st.tmps) g? o.op))=none) :
 ∃d objs frz,st'.tmps=Xy st.tmps o.dst d/\st'.heap=objs.map (fun(x:Nat × OB)=>(x.1,false,x.2))++M5 st.heap frz /\
  (∀n ob,(n,ob)∈objs->look st.heap n=none)/\(objs.map (·.1)).Nodup/\(Hx E ops st o=frz/\∀n∈frz,look st.heap n≠none) /\
  ∀{I0:Nat->Prop} {B:Nat} {A:Nat->Option Place} {w:World} {a:Act} {Q:Exit->Act->World->Prop},Mem I0 B A st.heap w->a.tmps.size=st.tmps.length ->
   (∀t∈o.looksAt ops,Au (B1 I0 B A w) w (st.tmps.getD t .undef) (a.tmps.getD t undef))->(∀n ob,(n,ob)∈objs->A n=none) ->
   Mg P ops o a w Q fun v w'=>∃A',Mc I0 B A w objs frz A' w'/\Au (B1 I0 B A' w') w' d v:=by
 obtain⟨dst,op,ty,pos,after,guard⟩:=o;unfold Ph at hs;cases hc:S6 ops st.tmps ⟨dst,op,ty,pos,after,guard⟩ with
 | none=>simp[hc] at hs
 | some g? =>
 simp only[hc,Bex] at hs;dsimp only at hmut;replace hsp:=hsp g? hc;dsimp only at hsp
 have quiet:∀(hs:((F7 E st.heap (dst.getD 0) (fun x=>(Ja (g?.getD true) (Is st.tmps x)).1) op).bind fun r =>
  bif (r.objs.all fun(n,_)=>(look st.heap n).isNone)&&Pm (r.objs.map (·.1))&&(r.objs.isEmpty||dst.isSome)&&(r.frz.isEmpty||r.frz.all fun n=>(look st.heap n).isSome) then
   some (cond r.frz.isEmpty (!(g?.getD true)||(X3 (g?.getD true) (Is st.tmps) op.operands.toList&&r.req)) (g?.getD true&&(X3 (g?.getD true) (Is st.tmps) op.operands.toList&&r.req)),
    ({ tmps:=Xy st.tmps dst (Ut g? r.v),heap:=(r.objs.map fun(n,ob)=>(n,false,ob))++M5 st.heap r.frz }:St))
  else none)=some (true,st')),∃d objs frz,st'.tmps=Xy st.tmps dst d/\st'.heap=objs.map (fun(x:Nat × OB)=>(x.1,false,x.2))++M5 st.heap frz /\
  (∀n ob,(n,ob)∈objs->look st.heap n=none)/\(objs.map (·.1)).Nodup/\(Hx E ops st ⟨dst,op,ty,pos,after,guard⟩=frz/\∀n∈frz,look st.heap n≠none) /\
  ∀{I0:Nat->Prop} {B:Nat} {A:Nat->Option Place} {w:World} {a:Act} {Q:Exit->Act->World->Prop},Mem I0 B A st.heap w->a.tmps.size=st.tmps.length ->
   (∀t∈Oper.looksAt ops ⟨dst,op,ty,pos,after,guard⟩,Au (B1 I0 B A w) w (st.tmps.getD t .undef) (a.tmps.getD t undef))->(∀n ob,(n,ob)∈objs->A n=none) ->
   Mg P ops ⟨dst,op,ty,pos,after,guard⟩ a w Q fun v w'=>∃A',Mc I0 B A w objs frz A' w'/\Au (B1 I0 B A' w') w' d v:=by
  intro hs;cases hq:F7 E st.heap (dst.getD 0) (fun x=>(Ja (g?.getD true) (Is st.tmps x)).1) op with
  | none=>simp[hq] at hs
  | some r =>
    simp only[hq,Bex] at hs;by_cases hcc:((r.objs.all fun(n,_)=>(look st.heap n).isNone)&&Pm (r.objs.map (·.1))&&(r.objs.isEmpty||dst.isSome)&&(r.frz.isEmpty||r.frz.all fun n=>(look st.heap n).isSome))=true
    ·rw[hcc,Bep,Bes,Bey] at hs;obtain⟨hreq,rfl⟩:=hs;simp only[Be0,zK,wP,wQ,zJ] at hcc;obtain⟨⟨⟨h1,h2⟩,h3⟩,h4⟩:=hcc
     replace hreq:(!(g?.getD true)||(X3 (g?.getD true) (Is st.tmps) op.operands.toList&&r.req))=true/\(r.frz=[]\/g?.getD true=true):=by
      cases ho:r.frz.isEmpty with
      | true =>rw[ho,Bep] at hreq;exact⟨hreq,.inl (wP.1 ho)⟩
      | false =>rw[ho,Bet,Be0] at hreq;exact⟨by rw[hreq.2,Bf1],.inr hreq.1⟩
     refine⟨Ut g? r.v,r.objs,r.frz,rfl,rfl,fun n ob hn=>h1 (n,ob) hn,Mz h2,⟨by unfold Hx; dsimp only; rw[hmut,hc]; simp only[Bet,hq],fun n hn e=>?_⟩,?_⟩
     ·rcases h4 with h4 | h4
      ·rw[h4] at hn; cases hn
      ·have:=h4 n hn; rw[e] at this; cases this
     intro I0 B A w a Q hm hsz hrd hnew;exact Azv he hm (Zj hrd) (At5 hsz hrd hc) hq hreq.1 hreq.2 hnew (Mz h2)
    ·simp only[zF] at hcc; rw[hcc] at hs; cases hs
 cases op
 case pick c x y =>
  simp only at hs;split at hs
  ·rename_i c' hsc;cases hp:Atc c' (Is st.tmps x) (Is st.tmps y) with
   | none=>simp[hp] at hs
   | some rv =>
     obtain⟨r,v⟩:=rv;simp only[hp,Bex,Bes,Bey] at hs;obtain⟨hreq,rfl⟩:=hs;refine⟨Ut g? v,[],[],rfl,rfl,fun n ob hn=>(by cases hn),List.nodup_nil,⟨by unfold Hx; dsimp only[Xl]; rw[hc]; rfl,fun n hn=>(by cases hn)⟩,?_⟩;intro I0 B A w a Q hm hsz hrd hnew;have hr:=Zj (w:=w) hrd;refine Mg.mono (A4g (hr c (by simp[Op.operands])) (hr x (by simp[Op.operands])) (hr y (by simp[Op.operands])) (At5 hsz hrd hc) hsc hp hreq) ?_
     rintro u w' ⟨rfl,hu⟩
     exact⟨A,Mc.refl (.inl rfl),hu⟩
  ·cases hs
 case store=>simp[Xl] at hmut
 case call c =>
  obtain⟨callee,args,ts⟩:=c;cases callee
  case builtin b =>
   cases b
   case append=>simp[Xl] at hmut
   all_goals (dsimp only at hs; rw[hsp] at hs; exact quiet hs)
  all_goals (dsimp only at hs; rw[hsp] at hs; exact quiet hs)
 all_goals (dsimp only at hs; rw[hsp] at hs; exact quiet hs)
end
open Go.RowKit (Below)
theorem Rz(a b:Ev)(n:Nat):look (a++b) n=match look a n with | some x=>some x | none=>look b n:=by
 induction a with
 | nil=>rfl
 | cons x a ih =>obtain⟨m,y⟩:=x;simp only[List.cons_append,look];cases m==n<;>simp[ih]
theorem Ako(h:Ev)(m n:Nat):look (match look h m with | some (_,o)=>upd h m (true,o) | none=>h) n=(look h n).map fun x=>(x.1||decide (n=m),x.2):=by
 cases hm:look h m with
 | none =>
   simp only;cases hn:look h n with
   | none=>rfl
   | some x =>
     have:n≠m:=fun e=>by rw[e,hm] at hn; cases hn
     simp[this]
 | some x =>
   obtain⟨f,o⟩:=x;simp only;rw[Hu hm];by_cases e:n=m
   ·subst e; simp[hm]
   ·rw[Bfb e];cases look h n with
    | none=>rfl
    | some x=>simp[e]
theorem Vh:∀(ns:List Nat) (h:Ev) (n:Nat),look (M5 h ns) n=(look h n).map fun x=>(x.1||decide (n∈ns),x.2)
 | [],h,n=>by unfold M5;simp
 | m::ns,h,n=>by
   have e:M5 h (m::ns)=M5 (match look h m with | some (_,o)=>upd h m (true,o) | none=>h) ns:=rfl;rw[e,Vh ns,Ako];cases look h n with
   | none=>rfl
   | some x=>simp[Bool.or_assoc]
theorem Abo{objs:List (Nat × OB)}:∀{n:Nat} {x:Bool × OB},look (objs.map (fun(x:Nat × OB)=>(x.1,false,x.2))) n=some x->∃ob,(n,ob)∈objs/\x=(false,ob):=by
 induction objs with
 | nil=>intro n x h; cases h
 | cons y l ih =>
   intro n x h;simp only[yx,look] at h;by_cases e:y.1=n
   ·rw[show(y.1==n)=true by simpa using e] at h;simp only[Bep,Bes] at h;exact⟨y.2,by rw[<- e]; exact Bf4,h.symm⟩
   ·rw[show(y.1==n)=false by simpa using e] at h;obtain⟨ob,h1,h2⟩:=ih h;exact⟨ob,Bfu _ h1,h2⟩
theorem Afa{objs:List (Nat × OB)}{n:Nat}(h:look (objs.map (fun(x:Nat × OB)=>(x.1,false,x.2))) n=none):∀ob,(n,ob) ∉ objs:=by
 induction objs with
 | nil=>intro ob h; cases h
 | cons y l ih =>
   intro ob hm;simp only[yx,look] at h;by_cases e:y.1=n
   ·rw[show(y.1==n)=true by simpa using e] at h; simp at h
   ·rw[show(y.1==n)=false by simpa using e] at h;rcases zu.1 hm with rfl | hm
    ·exact e rfl
    ·exact ih h ob hm
theorem Av3{α:Type}{l:List (Nat × α)}(h:(l.map (·.1)).Nodup){n:Nat}{x y:α}(h1:(n,x)∈l)(h2:(n,y)∈l):x=y:=by have e1:=Wq h h1;have e2:=Wq h h2;rw[e1] at e2; exact Option.some.inj e2
structure V2(P:Program)(E:Env)(ops:Array Oper)(draw:Bool)(st:St)(o:Oper)(st':St)(d:DV):Prop where
 free:∀t,o.dst=some t->E.np<=t
 tmps:st'.tmps=Xy st.tmps o.dst d
 there:draw=true->∀n,n∈Hx E ops st o->look st.heap n≠none
 stays:∀n,look st.heap n≠none->look st'.heap n≠none
 same:draw=true->∀n,n ∉ Hx E ops st o->look st.heap n≠none->look st'.heap n=look st.heap n
 run:∀{I0:Nat->Prop} {B:Nat} {A:Nat->Option Place} {w:World} {a:Act} {Q:Exit->Act->World->Prop},Mem I0 B A st.heap w->a.tmps.size=st.tmps.length ->
  (∀t∈o.looksAt ops,Au (B1 I0 B A w) w (st.tmps.getD t .undef) (a.tmps.getD t undef))->(∀n,look st.heap n=none->look st'.heap n≠none->A n=none) ->
  Mg P ops o a w Q fun v w'=>∃A',Mem I0 B A' st'.heap w'/\Kd A w A' w'/\Below B w w'/\Au (B1 I0 B A' w') w' d v /\
   (∀n p,A' n=some p->A n=none->look st.heap n=none/\look st'.heap n≠none) /\
   (draw=true->W5 (Hx E ops st o) A w w'/\∀m q,m ∉ Hx E ops st o->A m=some q->A' m=some q)
section
variable{P:Program}{E:Env}
theorem Al8(he:Ke P E){ops:Array Oper}{draw:Bool}{st st':St}{o:Oper}(hs:Ph E ops draw st o=some (true,st'))(hfree:∀t,o.dst=some t->E.np<=t)(hmut:Xl o.op=false)
 (hsp:∀g?,S6 ops st.tmps o=some g?->(cond draw none (Ru E st.heap (Is st.tmps) g? o.op))=none) :
 ∃d,V2 P E ops draw st o st' d:=by
 obtain⟨d,objs,frz,h1,h2,h3,h4,h5,h6⟩:=Bbc he hs hmut hsp;obtain⟨hm0,h5'⟩:=h5
 have hlk:∀n,look st'.heap n=match look (objs.map (fun(x:Nat × OB)=>(x.1,false,x.2))) n with | some x=>some x | none=>(look st.heap n).map fun x=>(x.1||decide (n∈frz),x.2):=by intro n; rw[h2,Rz,Vh]
 have hold:∀n,look st.heap n≠none->look st'.heap n=(look st.heap n).map fun x=>(x.1||decide (n∈frz),x.2):=by
  intro n hn;rw[hlk];cases hq:look (objs.map (fun(x:Nat × OB)=>(x.1,false,x.2))) n with
  | none=>rfl
  | some x =>obtain⟨ob,hob,_⟩:=Abo hq;exact absurd (h3 n ob hob) hn
 have hobj:∀n ob,(n,ob)∈objs->look st'.heap n=some (false,ob):=by
  intro n ob hob;rw[hlk];cases hq:look (objs.map (fun(x:Nat × OB)=>(x.1,false,x.2))) n with
  | none=>exact absurd hob (Afa hq ob)
  | some x =>obtain⟨ob',hob',rfl⟩:=Abo hq;rw[Av3 h4 hob hob']
 refine⟨d,hfree,h1,fun _ n hn=>h5' n (hm0 ▸ hn),fun n hn=>?_,fun hd n hf hn=>?_,?_⟩
 ·rw[hold n hn];cases hq:look st.heap n with
  | none=>exact absurd hq hn
  | some x=>simp
 ·rw[hm0] at hf;rw[hold n hn];cases look st.heap n with
  | none=>rfl
  | some x=>simp[hf]
 ·intro I0 B A w a Q hm hsz hrd hnew;have hnew':∀n ob,(n,ob)∈objs->A n=none:=fun n ob hob=>hnew n (h3 n ob hob) (by rw[hobj n ob hob]; simp)
  refine(h6 hm hsz hrd hnew').mono ?_
  rintro v w' ⟨A',hg,hv⟩
  have hmem:Mem I0 B A' st'.heap w':=by
   refine hg.mem hm (fun n p fo' hp hl=>?_) (fun n ob fo' hob hn hl=>?_)
   ·rw[hlk] at hl;cases hq:look (objs.map (fun(x:Nat × OB)=>(x.1,false,x.2))) n with
    | some x =>obtain⟨ob,hob,_⟩:=Abo hq;rw[hnew' n ob hob] at hp; cases hp
    | none =>
      rw[hq] at hl;cases hf:look st.heap n with
      | none=>rw[hf] at hl; cases hl
      | some fo=>rw[hf] at hl; cases hl; exact⟨fo,rfl,rfl⟩
   ·rw[hobj n ob hob] at hl; cases hl; rfl
  refine⟨A',hmem,hg.A6s,hg.below.mono hm.hB,hv,fun n p hp hn=>?_,fun hd=>⟨fun m q b _ hq hqd hqb=>hg.below.block b (hm.blkB m q b hq hqd hqb).2,fun m q hmf hq=>?_⟩⟩
  ·obtain⟨_,_,ob,hob,_⟩:=hg.new n p hn hp;exact⟨h3 n ob hob,by rw[hobj n ob hob]; simp⟩
  ·have:=hg.old m q hq;rw[this];rw[hm0] at hmf;cases q;simp[fzP,hmf]
end
section
variable{P:Program}{E:Env}
theorem Oy{o:Oper}{y:Nat->Option Bool}(h:o.guard=none):Region.wanted o y=true:=by unfold Region.wanted; rw[h]
theorem Yj{ops:Array Oper}{l:List DV}{o:Oper}(h:S6 ops l o=some none):o.guard=none:=by
 unfold S6 at h;split at h
 ·assumption
 ·split at h
  ·split at h<;>cases h
  ·cases h
structure V3(ns:List Nat)(nm:Option Nat)(h h':Ev):Prop where
 there:∀m,m∈ns->look h m≠none
 stays:∀m,look h m≠none->look h' m≠none
 same:∀m,m ∉ ns->some m≠nm->look h' m=look h m
theorem Qy{h:Ev}{n:Nat}{x y:Bool × OB}(hl:look h n=some x):V3 [n] none h (upd h n y) where
 there:=fun m hm=>by rw[zf.1 hm,hl]; simp
 stays:=fun m hm=>by rw[Hu hl]; split<;>simp_all
 same:=fun m hm _=>by rw[Hu hl,Bfb (fun e=>hm (by rw[e]; exact zf.2 rfl))]
theorem V7{h:Ev}{nm:Nat}{x:Bool × OB}:V3 [] (some nm) h ((nm,x)::h) where
 there:=fun m hm=>by cases hm
 stays:=fun m hm=>by simp only[look]; cases nm==m<;>simp[hm]
 same:=fun m _ hne=>by simp only[look];rw[show(nm==m)=false by simpa using fun e:nm=m=>hne (by rw[e])]; rfl
theorem Ahi{h:Ev}{n nm:Nat}{x y z:Bool × OB}(hl:look h n=some x):V3 [n] (some nm) h ((nm,z)::upd h n y) where
 there:=(Qy (y:=y) hl).there
 stays:=fun m hm=>V7.stays m ((Qy (y:=y) hl).stays m hm)
 same:=fun m hm hne=>by rw[V7.same m (by simp) hne,(Qy (y:=y) hl).same m hm (by simp)]
theorem Al4{h h':Ev}{t:TypeId}{a v:DV}{r:Bool}(hs:Aax E h t a v=some (r,h')):V3 (A0i a) none h h':=by
 unfold Aax at hs;cases hT:E.ty t with
 | none=>simp[hT] at hs
 | some ti =>
 simp only[hT,Bex] at hs;cases hc:(R6 v&&(cells v).length==ti.size&&(cells v).all Xo) with
 | false=>rw[hc] at hs; simp at hs
 | true =>
 rw[hc,Bep] at hs;split at hs
 ·rename_i n i j;split at hs
  ·rename_i cs hlk;cases hq:(i==0&&decide (j+ti.size<=cs.length)) with
   | false=>rw[hq] at hs; simp at hs
   | true =>rw[hq,Bep,Bes,Bey] at hs;obtain⟨_,rfl⟩:=hs;exact Qy hlk
  ·rename_i e k l hlk;split at hs
   ·rename_i k' x;cases hq:(j==0&&decide (k=k')) with
    | false=>rw[hq] at hs; simp at hs
    | true =>rw[hq,Bep,Bes,Bey] at hs;obtain⟨_,rfl⟩:=hs;exact Qy hlk
   ·cases hs
  ·rename_i e sz l hlk;cases hlow:Ks h (cells v) with
   | none=>simp[hlow] at hs
   | some q =>
   obtain⟨vs,ns⟩:=q;simp only[hlow,Bex] at hs;cases hq:(decide (j+ti.size<=sz)&&ns.isEmpty) with
   | false=>rw[hq] at hs; simp at hs
   | true =>rw[hq,Bep,Bes,Bey] at hs;obtain⟨_,rfl⟩:=hs;exact Qy hlk
  ·cases hs
 ·cases hs
theorem Alg{h h':Ev}{nm:Nat}{t:TypeId}{s x v:DV}{r:Bool}(ha:R4 E h nm t s x=some (r,v,h')):V3 (Akk s) (some nm) h h'/\look h nm=none:=by
 unfold R4 at ha;split at ha
 ·rename_i e _ hT;cases hE:E.ty e with
  | none=>simp[hE] at ha
  | some ei =>
  simp only[hE,Bex] at ha;cases hq:(decide (ei.bytes<=128)&&decide (0<ei.size)&&(look h nm).isNone) with
  | false=>rw[hq] at ha; simp at ha
  | true =>
  rw[hq,Bep] at ha;simp only[Be0,Bew,wQ] at hq;refine⟨?_,hq.2⟩;split at ha
  ·split at ha
   ·rename_i k hk;cases hs1:(ei.size==1) with
    | false=>rw[hs1] at ha; simp at ha
    | true =>
    rw[hs1,Bep] at ha;cases hel:Oj h k x with
    | none=>simp[hel] at ha
    | some l =>simp only[hel,Bex,Bes,Bey] at ha;obtain⟨_,_,rfl⟩:=ha;exact V7
   ·cases hel:Sc h ei.size x with
    | none=>simp[hel] at ha
    | some l =>simp only[hel,Bex,Bes,Bey] at ha;obtain⟨_,_,rfl⟩:=ha;exact V7
  ·rename_i n;split at ha
   ·rename_i e' k l' hlo;cases hel:Oj h k x with
    | none=>simp[hel] at ha
    | some l =>
      simp only[hel,Bex] at ha;cases hc:(e==e'&&ei.size==1) with
      | false=>rw[hc] at ha; simp at ha
      | true =>rw[hc,Bep] at ha;simp only[Bes,Bey] at ha;obtain⟨_,_,rfl⟩:=ha;exact Ahi hlo
   ·rename_i e' sz l' hlo;cases hel:Sc h sz x with
    | none=>simp[hel] at ha
    | some l =>
      simp only[hel,Bex] at ha;cases hc:(e==e'&&sz==ei.size) with
      | false=>rw[hc] at ha; simp at ha
      | true =>rw[hc,Bep] at ha;simp only[Bes,Bey] at ha;obtain⟨_,_,rfl⟩:=ha;exact Ahi hlo
   ·cases ha
  ·cases ha
 ·cases ha
theorem Acv{h h':Ev}{nm:Nat}{t:TypeId}{s x v:DV}{r:Bool}(ha:R4 E h nm t s x=some (r,v,h')):(look h' nm).isSome=true:=by
 have push:∀{y:Bool × OB} {k:Ev},(look ((nm,y)::k) nm).isSome=true:=by intro y k; simp[look]
 unfold R4 at ha;split at ha
 ·rename_i e _ hT;cases hE:E.ty e with
  | none=>simp[hE] at ha
  | some ei =>
  simp only[hE,Bex] at ha;cases hq:(decide (ei.bytes<=128)&&decide (0<ei.size)&&(look h nm).isNone) with
  | false=>rw[hq] at ha; simp at ha
  | true =>
  rw[hq,Bep] at ha;split at ha
  ·split at ha
   ·rename_i k hk;cases hs1:(ei.size==1) with
    | false=>rw[hs1] at ha; simp at ha
    | true =>
    rw[hs1,Bep] at ha;cases hel:Oj h k x with
    | none=>simp[hel] at ha
    | some l =>simp only[hel,Bex,Bes,Bey] at ha;obtain⟨_,_,rfl⟩:=ha;exact push
   ·cases hel:Sc h ei.size x with
    | none=>simp[hel] at ha
    | some l =>simp only[hel,Bex,Bes,Bey] at ha;obtain⟨_,_,rfl⟩:=ha;exact push
  ·rename_i n;split at ha
   ·rename_i e' k l' hlo;cases hel:Oj h k x with
    | none=>simp[hel] at ha
    | some l =>
      simp only[hel,Bex] at ha;cases hc:(e==e'&&ei.size==1) with
      | false=>rw[hc] at ha; simp at ha
      | true =>rw[hc,Bep] at ha;simp only[Bes,Bey] at ha;obtain⟨_,_,rfl⟩:=ha;exact push
   ·rename_i e' sz l' hlo;cases hel:Sc h sz x with
    | none=>simp[hel] at ha
    | some l =>
      simp only[hel,Bex] at ha;cases hc:(e==e'&&sz==ei.size) with
      | false=>rw[hc] at ha; simp at ha
      | true =>rw[hc,Bep] at ha;simp only[Bes,Bey] at ha;obtain⟨_,_,rfl⟩:=ha;exact push
   ·cases ha
  ·cases ha
 ·cases ha
theorem Al7(he:Ke P E){ops:Array Oper}{draw:Bool}{st st':St}{dst:Option Tmp}{t:TypeId}{x y:Operand}{ty:TypeId}{pos:String}{after:Array Edge}{guard:Option (Nat × Bool)}
 (hs:Ph E ops draw st ⟨dst,.store t x y,ty,pos,after,guard⟩=some (true,st')) (hfree:∀u,dst=some u->E.np<=u):∃d,V2 P E ops draw st ⟨dst,.store t x y,ty,pos,after,guard⟩ st' d:=by
 unfold Ph at hs;cases hc:S6 ops st.tmps ⟨dst,.store t x y,ty,pos,after,guard⟩ with
 | none=>simp[hc] at hs
 | some g? =>
 cases g? with
 | some b=>simp[hc] at hs
 | none =>
 have hg:=Yj hc;dsimp only at hg;simp only[hc,Bex] at hs;cases hst:Aax E st.heap t (Is st.tmps x) (Is st.tmps y) with
 | none=>simp[hst] at hs
 | some rh =>
 obtain⟨r,h'⟩:=rh;simp only[hst,Bex,Bes,Bey] at hs;obtain⟨rfl,rfl⟩:=hs;have ht:=Al4 hst;refine⟨.undef,hfree,rfl,fun _=>ht.there,ht.stays,fun _ n hn _=>ht.same n hn (by simp),?_⟩;intro I0 B A w a Q hm hsz hrd hnew;have hr:=Zj (w:=w) hrd;obtain⟨w',hrun,h1,h2,h3,h4,h5,h6,h7⟩:=Auv he.ty hm (hr x (by simp[Op.operands])) (hr y (by simp[Op.operands])) hst rfl;intro K hK;rw[Bfc (Oy hg)];unfold Oper.wp execOp;simp only[Sem.run_bind,Sem.run_pure,Result.andThen_ok,hrun];rw[Oper.upon_skip];refine hK undef w' ⟨A,h1,h2,h3,by simp[Au],fun n p hp hn=>(by rw[hn] at hp; cases hp),fun _=>⟨h5,fun m q _ hq=>hq⟩⟩
theorem Ajq(he:Ke P E){ops:Array Oper}{draw:Bool}{st st':St}{dst:Option Tmp}{args:Array Operand}{ts:Array TypeId}{ty:TypeId}{pos:String}{after:Array Edge}{guard:Option (Nat × Bool)}
 (hs:Ph E ops draw st ⟨dst,.call ⟨.builtin .append,args,ts⟩,ty,pos,after,guard⟩=some (true,st')) (hfree:∀u,dst=some u->E.np<=u):∃d,V2 P E ops draw st ⟨dst,.call ⟨.builtin .append,args,ts⟩,ty,pos,after,guard⟩ st' d:=by
 unfold Ph at hs;cases hc:S6 ops st.tmps ⟨dst,.call ⟨.builtin .append,args,ts⟩,ty,pos,after,guard⟩ with
 | none=>simp[hc] at hs
 | some g? =>
 simp only[hc,Bex] at hs;split at hs
 ·rename_i s x t t' hargs hts;have hg:=Yj hc;dsimp only at hg;cases hq:(t==t'&&dst.isSome) with
  | false=>rw[hq] at hs; simp at hs
  | true =>
  rw[hq,Bep] at hs;simp only[Be0,beq_iff_eq] at hq;obtain⟨rfl,hdst⟩:=hq;cases hap:R4 E st.heap (dst.getD 0) t (Is st.tmps s) (Is st.tmps x) with
  | none=>simp[hap] at hs
  | some rh =>
  obtain⟨r,v,h'⟩:=rh;simp only[hap,Bex,Bes,Bey] at hs;obtain⟨rfl,rfl⟩:=hs;obtain⟨ht,hnone⟩:=Alg hap
  have hmut:Hx E ops st ⟨dst,.call ⟨.builtin .append,args,ts⟩,ty,pos,after,guard⟩=Akk (Is st.tmps s):=by unfold Hx Bbk; simp only[hargs,Xl,Bep]
  obtain rfl:args=#[s,x]:=by cases args with | mk l=>simp only at hargs; rw[hargs]
  obtain rfl:ts=#[t,t]:=by cases ts with | mk l=>simp only at hts; rw[hts]
  refine⟨v,hfree,rfl,fun _ n hn=>ht.there n (hmut ▸ hn),ht.stays,fun _ n hn hl=>ht.same n (hmut ▸ hn) (fun e=>hl ?_),?_⟩
  ·cases dst with
   | none=>cases hdst
   | some d=>simp only[Bf9] at e hnone; cases e; exact hnone
  ·intro I0 B A w a Q hm hsz hrd hnew;have hr:=Zj (w:=w) hrd
   have hnm:A (dst.getD 0)=none:=hnew _ hnone (by have:=Acv hap;exact fun e=>by rw[e] at this; cases this)
   obtain⟨v',w',A',hrun,h1,h2,h3,h4,h5,h6,h7,h8,_⟩:=Ar5 (ty:=ty) he.ty hm hnm (hr s (by simp[Op.operands,Call.operands])) (hr x (by simp[Op.operands,Call.operands])) hap rfl;intro K hK;rw[Bfc (Oy hg)];unfold Oper.wp execOp;simp only[resolve,invoke,builtin,Sem.run_bind,Sem.run_pure,Result.andThen_ok,List.map_toArray,yx,List.map_nil,hrun];rw[Oper.upon_value];refine hK v' w' ⟨A',h1,h2,h3,h4,fun n p hp hn=>?_,fun _=>⟨hmut ▸ h7,fun m q hmn hq=>h8 m q (hmut ▸ hmn) hq⟩⟩;have:=h5 n p hp hn;subst this;exact⟨hnone,fun e=>by have:=Acv hap; rw[e] at this; cases this⟩
 ·cases hs
theorem Rx{c c':Ctx}{w w':World}(h:Pg c w c' w'){p:Place}(hb:p.st≠.dead->∀b,p.H8=some b->w'.heap[b]?=w.heap[b]?){fo:Bool × OB}(hr:D6 c w p fo):D6 c' w' p fo:=by
 by_cases hd:p.st=.dead
 ·obtain⟨fz,ob⟩:=fo;cases ob with
  | dead=>exact hd
  | box cs=>exact absurd hd (Cf hr.1)
  | ints e k l=>exact absurd hd (Cf hr.1)
  | recs e sz l=>exact absurd hd (Cf hr.1)
 ·exact D6.Em h rfl rfl (hb hd) fo hr
inductive Aln(E:Env)(h:Ev)(ρ:Operand->DV)(op:Op)(n:Nat)(r:Bool)(v:DV)(ob:OB):Prop
 | spoil (f:Operand) (args:Array Operand) (ts:Array TypeId) (g:FuncId) (x:Operand) (a c:Int) (e:TypeId) (l:List Int):op=.call ⟨.value f,args,ts⟩->args.toList=[x]->ρ f=.fn g [] []->E.spoil g=some e ->
  ρ x=.agg [.int .i64 a,.int .i64 c,.oref n]->look h n=some (false,.ints e .u64 l)->v=.undef->ob=.dead->Aln E h ρ op n r v ob
 | wr (f:Operand) (args:Array Operand) (ts:Array TypeId) (g:FuncId) (x:Operand) (xs:List Operand) (W:Writer) (l:List Int) (ds:List DV) (ns:List Nat):op=.call ⟨.value f,args,ts⟩->args.toList=x::xs->ρ f=.fn g [] []->E.wr g=some W ->
  ρ x=.oref n->look h n=some (false,.ints W.elem W.kind l)->Ks h (xs.map ρ)=some (ds,ns)->n ∉ ns->W.pre l ds=r->v=.undef->ob=.ints W.elem W.kind (W.out l ds)->Aln E h ρ op n r v ob
 | copy (args:Array Operand) (ts:Array TypeId) (x y:Operand) (t t':TypeId) (ti ei:TI) (e:TypeId) (k:IntKind) (l z:List Int):op=.call ⟨.builtin .copy,args,ts⟩->args.toList=[x,y]->ts.toList=[t,t']->ρ x=.oref n->E.ty t=some ti->ti.kind=.slice e ->
  E.ty e=some ei->ei.size=1->look h n=some (false,.ints e k l)->Oj h k (ρ y)=some z->v=.int .i64 (min z.length l.length:Nat)->ob=.ints e k (Ul l z)->Aln E h ρ op n r v ob
theorem Am6{h:Ev}{ρ:Operand->DV}{g?:Option Bool}{op:Op}{n:Nat}{r:Bool}{v:DV}{ob:OB}(hh:Ru E h ρ g? op=some (n,r,v,ob)):g?=none/\Aln E h ρ op n r v ob:=by
 unfold Ru at hh;split at hh
 ·rename_i f args ts;split at hh
  ·rename_i g x xs hf ha;split at hh
   ·rename_i W hW;split at hh
    ·rename_i m hx;split at hh
     ·rename_i e k l hl;cases hlo:Ks h (xs.map ρ) with
      | none=>simp[hlo] at hh
      | some dn =>
        obtain⟨ds,ns⟩:=dn;simp only[hlo,Bex] at hh;cases hc:(e==W.elem&&decide (k=W.kind)&&!(ns.contains m)) with
        | false=>rw[hc] at hh; simp at hh
        | true =>rw[hc,Bep] at hh;simp only[Bes,Bey] at hh;simp only[Be0,beq_iff_eq,Bew,xc] at hc;obtain⟨⟨rfl,rfl⟩,hns⟩:=hc;obtain⟨rfl,h1,h2,h3⟩:=hh;exact⟨rfl,.wr f args ts g x xs W l ds ns rfl ha hf hW hx hl hlo (fun k=>by simp[List.contains_iff_mem,k] at hns) h1 h2.symm h3.symm⟩
     ·cases hh
    ·cases hh
   ·split at hh
    ·rename_i e a c m hE hx;split at hh
     ·rename_i e' l hl;cases hc:(e==e') with
      | false=>rw[hc] at hh; simp at hh
      | true =>
        rw[hc,Bep] at hh;simp only[Bes,Bey] at hh;obtain rfl:e=e':=by simpa using hc
        obtain⟨rfl,_,h2,h3⟩:=hh;exact⟨rfl,.spoil f args ts g x a c e l rfl ha hf hE hx hl h2.symm h3.symm⟩
     ·cases hh
    ·cases hh
  ·cases hh
 ·rename_i args ts;split at hh
  ·rename_i x y t t' ha ht;split at hh
   ·rename_i m sz by_ e zr hx hT;split at hh
    ·rename_i e' k l ei hl hE;cases hz:Oj h k (ρ y) with
     | none=>simp[hz] at hh
     | some z =>
       simp only[hz,Bex] at hh;cases hc:(e==e'&&ei.size==1) with
       | false=>rw[hc] at hh; simp at hh
       | true =>rw[hc,Bep] at hh;simp only[Bes,Bey] at hh;simp only[Be0,beq_iff_eq] at hc;obtain⟨rfl,hs⟩:=hc;obtain⟨rfl,_,h2,h3⟩:=hh;exact⟨rfl,.copy args ts x y t t' _ ei e k l z rfl ha ht hx hT rfl hE hs hl hz h2.symm h3.symm⟩
    ·cases hh
   ·cases hh
  ·cases hh
 ·cases hh
theorem Ag2{w w':World}{B:Nat}{e e':TypeId}{s s' n n':Nat}{v:Value}{xs xs':List Value}(h:w.ownsRow B e s v n xs)(h':w'.ownsRow 0 e' s' v n' xs'):w'.ownsRow B e' s' v n' xs':=by
 refine⟨h'.1,?_⟩;rcases h'.2 with h2 | ⟨g,cap,cur,hv,_,r⟩
 ·exact .inl h2
 ·rcases h.2 with ⟨hv0,_⟩ | ⟨g2,cap2,cur2,hv2,hB,_⟩
  ·rw[hv] at hv0; cases hv0
  ·rw[hv] at hv2;cases hv2;exact .inr ⟨g,cap,cur,hv,hB,r⟩
theorem Anf{I0:Nat->Prop}{B:Nat}{A:Nat->Option Place}{h:Ev}{w w':World}(hm:Mem I0 B A h w){n:Nat}{p:Place}{e:TypeId}{k:IntKind}{l l':List Int}{sv:Value}(hp:A n=some p)(hlk:look h n=some (false,.ints e k l))(hlive:p.st=.live)(hkind:p.kind=.row sv 1)
 (hown:w.ownsRow B e 1 sv l.length (l.map (Value.int k))) (hown':w'.ownsRow 0 e 1 sv l'.length (l'.map (Value.int k))) (hb:Below 0 w w') (hk:∀b,b<w.heap.size->sv.ownBlock≠some b->w'.heap[b]?=w.heap[b]?) :
 Mem I0 B A (upd h n (false,.ints e k l')) w'/\Kd A w A w'/\Below B w w':=by
 have hblk:p.H8=sv.ownBlock:=by unfold Place.H8; rw[hkind]
 have hmv:Kd A w A w':=⟨hb.size,fun m q hq=>⟨q,hq,by by_cases hd:q.st=.dead; exact .inl hd; exact .inr ⟨hd,rfl⟩⟩,fun m q b hq hql hqb _=>⟨m,q,hq,hql,hqb⟩,fun b hlt hno=>hk b hlt (fun h=>hno n p hp hlive (by rw[hblk]; exact h))⟩
 refine⟨⟨Bfw hm.hB hb.size,hm.I0lt,fun m q fo hq hlo=>?_,fun m q b hq hqd hqb=>?_,hm.inj⟩,hmv,⟨hb.os,hb.tape,hb.output,hb.size,fun b hlt=>hk b (Bf0 hlt hm.hB) fun h=>?_⟩⟩
 ·rw[Hu hlk] at hlo;by_cases hmn:m=n
  ·subst hmn;rw[Bfc rfl] at hlo; cases hlo;rw[hp] at hq; cases hq;exact⟨hlive,sv,hkind,Ag2 hown hown'⟩
  ·rw[Bfb hmn] at hlo;exact Rx hmv.Em (fun hd b hb'=>hk b (hm.blkB m q b hq hd hb').2 fun h=>hmn (hm.inj m n q p b hq hp hd (by rw[hlive]; simp) hb' (by rw[hblk]; exact h))) (hm.obj m q fo hq hlo)
 ·have:=hm.blkB m q b hq hqd hqb;exact⟨this.1,Bf0 this.2 hb.size⟩
 ·have:=(hm.blkB n p b hp (by rw[hlive]; simp) (by rw[hblk]; exact h)).1;omega
theorem A1z{w:World}{dT sT ty elem:TypeId}(hu:P.underlying dT=some (.slice elem))(hs:(P.info? elem).map (·.size)=some 1){e:TypeId}{k:IntKind}{l z:List Int}{v vy:Value}
 (hown:w.ownsRow 0 e 1 v l.length (l.map (Value.int k))) (hy:∃a m c,vy=.slice a m c/\m=z.length/\(m=0\/∃b o,a=some ⟨b,o,none⟩/\Ho w b o (z.map (Value.int k)))) :
 ∃w',(Builtin.copy_ #[dT,sT] ty #[v,vy]).run P w=.ok (goInt ((min z.length l.length:Nat):Int)) w'/\w'.ownsRow 0 e 1 v (Ul l z).length ((Ul l z).map (Value.int k))/\Below 0 w w'/\∀b,b<w.heap.size->v.ownBlock≠some b->w'.heap[b]?=w.heap[b]?:=by
 obtain⟨a,m,c,rfl,rfl,hy⟩:=hy
 have hlen:(Ul l z).length=l.length:=by unfold Ul;rw[Bfh,zI,zP]; omega
 have nothing:min z.length l.length=0->Ul l z=l:=fun h=>by
  unfold Ul;rcases(show z.length=0\/l.length=0 by omega) with h | h
  ·rw[Bfq h]; simp
  ·rw[Bfq h]; simp
 by_cases h0:min z.length l.length=0
 ·obtain⟨dp,dl,dc,hv,hdl⟩:∃dp dl dc,v=.slice dp dl dc/\dl=l.length:=by
   rcases hown.2 with ⟨hv,hn⟩ | ⟨g,cap,cur,hv,_⟩
   ·exact⟨none,0,0,hv,hn.symm⟩
   ·exact⟨_,_,cap,hv,rfl⟩
  subst hv hdl;refine⟨w,?_,by rw[nothing h0]; exact hown,Below.refl _ _,fun _ _ _=>rfl⟩;rw[h0];exact run_copy_none w dT sT ty elem dp a l.length dc z.length c hu hs h0
 ·rcases hown.2 with ⟨hv,hn⟩ | ⟨g,cap,cur,hv,_,hg,hnc,hm,hcs,htake⟩
  ·omega
  ·subst hv;rcases hy with hy | ⟨b,o,rfl,hr⟩
   ·omega
   ·let cs:List Value:=(z.take l.length).map (Value.int k)
    have hcl:cs.length=Nat.min z.length l.length:=by show((z.take l.length).map (Value.int k)).length=_;rw[Bfv,zI];exact Nat.min_comm _ _
    have hcs1:cs.length<=l.length:=by rw[hcl]; exact x8 _ _
    have hrun:=run_copy_row (P:=P) w dT sT ty elem g 0 l.length cap ⟨b,o,none⟩ z.length c cur e cs hu hs hg hcl (fun j u hu=>by
     have hj:(z.map (Value.int k))[j]?=some u:=by
      have:cs[j]?=some u:=hu;rw[show cs=(z.map (Value.int k)).take l.length from List.map_take.symm ▸ rfl] at this;rw[List.getElem?_take] at this;split at this
      ·exact this
      ·cases this
     have:=hr j u hj;unfold Addr.add;split
     ·rename_i h0; rw[h0] at this; exact this
     ·exact this) (by omega) (fun u hu=>by obtain⟨x,_,rfl⟩:=zw.1 hu;rfl)
    have hsz:g<w.heap.size:=(Array.getElem?_eq_some_iff.1 hg).1;refine⟨w.setRow g (zt 0 cur.toList++cs++zL (0+cs.length) cur.toList).toArray,hrun.trans (congrArg (fun q:Nat=>Result.ok (goInt (q:Int)) _) hcl),?_,?_,?_⟩
    ·refine⟨by rw[Bfv,hlen]; omega,.inr ⟨g,cap,_,by rw[hlen],zA _,setRow_heap w g cur _ e _ hg,by rw[hlen]; exact hnc,hm,?_,?_⟩⟩
     ·rw[List.size_toArray,Bfh,Bfh,zI,zP,hcl,ya]
      have:Nat.min z.length l.length<=cur.size:=by have:=x8 z.length l.length;omega
      omega
     ·rw[hlen];show zt (l.length*1) (zt 0 cur.toList++cs++zL (0+cs.length) cur.toList)=_;rw[List.take_zero,List.nil_append,Bfy,Bfz];rw[Bfy] at htake;have h1:cs.length<=l.length:=by rw[hcl]; exact x8 _ _
      rw[List.take_append,List.take_of_length_le h1,List.take_drop,show cs.length+(l.length-cs.length)=l.length by omega,htake];unfold Ul;rw[List.map_append,List.map_drop];congr 1;by_cases hzl:z.length<=l.length
      ·rw[hcl,show Nat.min z.length l.length=z.length from Nat.min_eq_left hzl]
      ·rw[hcl,show Nat.min z.length l.length=l.length from Nat.min_eq_right (by omega),Be3 (by rw[Bfv]; exact Bfj _),Be3 (by rw[Bfv]; omega)]
    ·exact⟨rfl,rfl,rfl,by simp[World.setRow],fun b hb=>by omega⟩
    ·intro b _ hbn;exact setRow_other w g b _ (fun e=>hbn (by rw[e]; rfl))
theorem Aps(he:Ke P E){ops:Array Oper}{draw:Bool}{st st':St}{o:Oper}(hs:Ph E ops draw st o=some (true,st'))(hfree:∀t,o.dst=some t->E.np<=t)(hmut:Xl o.op=false)
 (hsp:¬∀g?,S6 ops st.tmps o=some g?->(cond draw none (Ru E st.heap (Is st.tmps) g? o.op))=none):∃d,V2 P E ops draw st o st' d:=by
 obtain⟨dst,op,ty,pos,after,guard⟩:=o;rw[Classical.not_forall] at hsp;obtain⟨g?,hsp⟩:=hsp;rw[Classical.not_imp] at hsp;obtain⟨hc,hsp⟩:=hsp;cases draw with
 | true=>exact absurd rfl hsp
 | false =>
 dsimp only at hsp hmut;rw[Bet] at hsp;cases hsa:Ru E st.heap (Is st.tmps) g? op with
 | none=>exact absurd hsa hsp
 | some x4 =>
 obtain⟨n,r,d,ob⟩:=x4;obtain⟨rfl,ho⟩:=Am6 hsa;have hg:=Yj hc;dsimp only at hg
 have hst:r=true/\st'={ tmps:=Xy st.tmps dst d,heap:=upd st.heap n (false,ob) }:=by
  cases ho with
  | spoil f args ts g x a c e l hop =>subst hop;unfold Ph at hs;simp only[hc,Bex,Bet,hsa,Bes,Bey] at hs;exact⟨hs.1,hs.2.symm⟩
  | wr f args ts g x xs W l ds ns hop =>subst hop;unfold Ph at hs;simp only[hc,Bex,Bet,hsa,Bes,Bey] at hs;exact⟨hs.1,hs.2.symm⟩
  | copy args ts x y t t' ti ei e k l z hop =>subst hop;unfold Ph at hs;simp only[hc,Bex,Bet,hsa,Bes,Bey] at hs;exact⟨hs.1,hs.2.symm⟩
 obtain⟨rfl,rfl⟩:=hst
 have hlk:∃x,look st.heap n=some x:=by
  cases ho with
  | spoil _ _ _ _ _ _ _ _ _ _ _ _ _ _ h=>exact⟨_,h⟩
  | wr _ _ _ _ _ _ _ _ _ _ _ _ _ _ _ h=>exact⟨_,h⟩
  | copy _ _ _ _ _ _ _ _ _ _ _ _ _ _ _ _ _ _ _ _ h=>exact⟨_,h⟩
 obtain⟨x0,hlk⟩:=hlk;have ht:=Qy (y:=(false,ob)) hlk;refine⟨d,hfree,rfl,fun h=>(by cases h),ht.stays,fun h=>(by cases h),?_⟩;intro I0 B A w a Q hm hsz hrd hnew;have hr:=Zj (w:=w) hrd
 have own:∀{e:TypeId} {k:IntKind} {l:List Int} {v:Value},look st.heap n=some (false,.ints e k l)->Au (B1 I0 B A w) w (.oref n) v ->
  ∃p,A n=some p/\p.st=.live/\p.kind=.row v 1/\w.ownsRow B e 1 v l.length (l.map (Value.int k)):=by
  intro e k l v hlk hv;simp only[Au] at hv;obtain⟨_,p,hp,hpd⟩:=hv;have hp:A n=some p:=hp;obtain⟨hlive,sv,hkind,hown⟩:=Fk hm hp hlk;simp only[yd,if_false] at hlive
  have hsv:v=sv:=by
   rcases hpd with hpd | ⟨size,hk⟩
   ·rw[hlive] at hpd; cases hpd
   ·rw[hkind] at hk; cases hk; rfl
  subst hsv;exact⟨p,hp,hlive,hkind,hown⟩
 cases ho with
 | spoil f args ts g x r c e l hop hargs hf hE hx hlk hd hob =>
   subst hop hd hob;have hf':=hr f (by simp[Op.operands,Call.operands]);have hx':=hr x (by simp[Op.operands,Call.operands]; exact .inr (by rw[<- wR,hargs]; simp));rw[hf] at hf';rw[hx] at hx';simp only[Au] at hf' hx';obtain⟨fs,cs,hfv,hfs,hcs⟩:=hf';obtain⟨vs,hxv,hvs⟩:=hx'
   have e1:fs=#[]:=by have:=hfs.length; simp at this; exact xt this.symm
   have e2:cs=#[]:=by have:=hcs.length; simp at this; exact xt this.symm
   subst e1; subst e2;simp only[Bh,Au] at hvs;obtain⟨u1,us1,h1,rfl,u2,us2,rfl,rfl,v,us3,rfl,⟨hcell,p,hp,hpd⟩,rfl⟩:=hvs;have hp:A n=some p:=hp;have hvs':vs=#[.int .i64 r,.int .i64 c,v]:=yo.1 (by simpa using h1);subst hvs';obtain⟨hlive,sv,hkind,hown⟩:=Fk hm hp hlk;simp only[yd,if_false] at hlive
   have hsv:v=sv:=by
    rcases hpd with hpd | ⟨size,hk⟩
    ·rw[hlive] at hpd; cases hpd
    ·rw[hkind] at hk; cases hk; rfl
   subst hsv;have hblk:p.H8=v.ownBlock:=by unfold Place.H8; rw[hkind]
   have hrun:=(he.spoil g e hE).run w r c v l (Q3 hown (zA _))
   let A':Nat->Option Place:=fun m=>if m=n then some ⟨.dead,p.kind⟩ else A m
   have hA':∀{m:Nat} {q:Place},A' m=some q->q.st≠.dead->m≠n/\A m=some q:=by
    intro m q hq hqd;by_cases hmn:m=n
    ·have hq:(if m=n then some ⟨.dead,p.kind⟩ else A m)=some q:=hq;rw[Bfc hmn] at hq; cases hq; exact absurd rfl hqd
    ·have hq:(if m=n then some ⟨.dead,p.kind⟩ else A m)=some q:=hq;rw[Bfb hmn] at hq; exact⟨hmn,hq⟩
   intro K hK;rw[Bfc (Oy hg)]
   obtain rfl:args=#[x]:=by cases args with | mk l=>simp only at hargs; rw[hargs]
   refine Ga.wp (K':=fun _ w'=>Below 0 w w'/\∀b,b<w.heap.size->v.ownBlock≠some b->w'.heap[b]?=w.heap[b]?) ?_ ?_
   ·unfold Ga
    have hexec:(execOp a.eval ⟨dst,.call ⟨.value f,#[x],ts⟩,ty,pos,after,guard⟩).run P w=.ok (.enter g #[.agg #[.int .i64 r,.int .i64 c,v]]) w:=by
     simp only[execOp,resolve,hfv,Deferred.ofValue,Sem.run_bind,Sem.run_pure,Result.andThen_ok,invoke];have:(#[]++Array.map a.eval #[x]++#[]:Array Value)=#[.agg #[.int .i64 r,.int .i64 c,v]]:=by simp[hxv]
     rw[this];exact(he.spoil g e hE).call _ _
    rw[hexec];exact hrun.mono fun en w' ⟨⟨u,hu⟩,hb,hk⟩=>⟨u,hu,hb,hk⟩
   ·rintro u w' ⟨hb,hk⟩
    have hmv:Kd A w A' w':=by
     refine⟨hb.size,fun m q hq=>?_,fun m q b hq hql hqb _=>?_,fun b hlt hno=>hk b hlt (fun h=>hno n p hp hlive (by rw[hblk]; exact h))⟩
     ·by_cases hmn:m=n
      ·subst hmn;exact⟨⟨.dead,p.kind⟩,Bfc rfl,.inl rfl⟩
      ·refine⟨q,(Bfb hmn).trans hq,?_⟩;by_cases hd:q.st=.dead
       ·exact .inl hd
       ·exact .inr ⟨hd,rfl⟩
     ·obtain⟨_,hq⟩:=hA' hq (by rw[hql]; simp);exact⟨m,q,hq,hql,hqb⟩
    refine hK u w' ⟨A',⟨Bfw hm.hB hb.size,hm.I0lt,fun m q fo hq hlo=>?_,fun m q b hq hqd hqb=>?_,fun m m' q q' b hq hq' hqd hqd' hqb hqb'=>?_⟩,hmv,⟨hb.os,hb.tape,hb.output,hb.size,fun b hlt=>hk b (Bf0 hlt hm.hB) fun h=>?_⟩,by simp[Au],fun m q hq hn=>?_,fun h=>(by cases h)⟩
    ·rw[Hu hlk] at hlo;by_cases hmn:m=n
     ·rw[Bfc hmn] at hlo; cases hlo;have hq:(if m=n then some ⟨.dead,p.kind⟩ else A m)=some q:=hq;rw[Bfc hmn] at hq; cases hq;rfl
     ·rw[Bfb hmn] at hlo;have hq:(if m=n then some ⟨.dead,p.kind⟩ else A m)=some q:=hq;rw[Bfb hmn] at hq;refine Rx hmv.Em (fun hd b hb'=>hk b (hm.blkB m q b hq hd hb').2 fun h=>hmn (hm.inj m n q p b hq hp hd (by rw[hlive]; simp) hb' (by rw[hblk]; exact h))) (hm.obj m q fo hq hlo)
    ·obtain⟨_,hq⟩:=hA' hq hqd;have:=hm.blkB m q b hq hqd hqb;exact⟨this.1,Bf0 this.2 hb.size⟩
    ·obtain⟨_,hq⟩:=hA' hq hqd;obtain⟨_,hq'⟩:=hA' hq' hqd';exact hm.inj m m' q q' b hq hq' hqd hqd' hqb hqb'
    ·have:=(hm.blkB n p b hp (by rw[hlive]; simp) (by rw[hblk]; exact h)).1;omega
    ·by_cases hmn:m=n
     ·subst hmn; rw[hp] at hn; cases hn
     ·have hq:(if m=n then some ⟨.dead,p.kind⟩ else A m)=some q:=hq;rw[Bfb hmn,hn] at hq; cases hq
 | wr f args ts g x xs W l ds ns hop hargs hf hE hx hlk hlo hns hpre hd hob =>
   subst hop hd hob;have hf':=hr f (by simp[Op.operands,Call.operands]);rw[hf] at hf';simp only[Au] at hf';obtain⟨fs,cs,hfv,hfs,hcs⟩:=hf'
   have e1:fs=#[]:=by have:=hfs.length; simp at this; exact xt this.symm
   have e2:cs=#[]:=by have:=hcs.length; simp at this; exact xt this.symm
   subst e1; subst e2;have hmem:∀y∈args.toList,Au (B1 I0 B A w) w (Is st.tmps y) (a.eval y):=fun y hy=>hr y (by simp[Op.operands,Call.operands]; exact .inr (wR.1 hy))
   have hx':=hmem x (by rw[hargs]; exact Bf4);rw[hx] at hx';obtain⟨p,hp,hlive,hkind,hown⟩:=own hlk hx';have hblk:p.H8=(a.eval x).ownBlock:=by unfold Place.H8; rw[hkind]
   have hrest:Bh (B1 I0 B A w) w (xs.map (Is st.tmps)) (xs.map a.eval):=by
    have:∀ys:List Operand,(∀y∈ys,y∈args.toList)->Bh (B1 I0 B A w) w (ys.map (Is st.tmps)) (ys.map a.eval):=by
     intro ys
     induction ys with
     | nil=>intro _; simp[Bh]
     | cons y ys ih =>intro hys;rw[yx,yx,Bh.Df];exact⟨_,_,rfl,hmem y (hys y Bf4),ih fun z hz=>hys z (Bfu _ hz)⟩
    exact this xs fun y hy=>by rw[hargs]; exact Bfu _ hy
   have hlow:=Qq (Zw hm 8) _ _ ds ns hlo hrest
   have hseen:∀b,seen I0 B A w ns b->b<w.heap.size/\(a.eval x).ownBlock≠some b:=by
    intro b hb;rcases hb with hb | ⟨m,q,hmn,hq,hqd,hqb⟩
    ·exact⟨hb.1,fun h=>hb.2.2 n p hp hlive (by rw[hblk]; exact h)⟩
    ·exact⟨(hm.blkB m q b hq hqd hqb).2,fun h=>hns (by rw[<- hm.inj m n q p b hq hp hqd (by rw[hlive]; simp) hqb (by rw[hblk]; exact h)]; exact hmn)⟩
   have hrun:=(he.wr g W hE).run w (a.eval x) l ds (xs.map a.eval) (Q3 hown (zA _)) (Bh.G8 (Qk hseen) _ _ hlow) hpre;intro K hK;rw[Bfc (Oy hg)]
   have hav:Array.map a.eval args=(a.eval x::xs.map a.eval).toArray:=by apply yo.1;rw[Array.toList_map,hargs]; rfl
   refine Ga.wp (K':=fun _ w'=>w'.ownsRow 0 W.elem 1 (a.eval x) (W.out l ds).length ((W.out l ds).map (Value.int W.kind))/\Below 0 w w'/\∀b,b<w.heap.size->(a.eval x).ownBlock≠some b->w'.heap[b]?=w.heap[b]?) ?_ ?_
   ·unfold Ga
    have hexec:(execOp a.eval ⟨dst,.call ⟨.value f,args,ts⟩,ty,pos,after,guard⟩).run P w=.ok (.enter g (a.eval x::xs.map a.eval).toArray) w:=by
     simp only[execOp,resolve,hfv,Deferred.ofValue,Sem.run_bind,Sem.run_pure,Result.andThen_ok,invoke];have:(#[]++Array.map a.eval args++#[]:Array Value)=(a.eval x::xs.map a.eval).toArray:=by rw[hav]; simp
     rw[this];exact(he.wr g W hE).call _ _
    rw[hexec];exact hrun.mono fun en w' ⟨⟨u,hu⟩,ho,hb,hk⟩=>⟨u,hu,ho,hb,hk⟩
   ·rintro u w' ⟨ho,hb,hk⟩
    obtain⟨m1,m2,m3⟩:=Anf hm hp hlk hlive hkind hown ho hb hk;exact hK u w' ⟨A,m1,m2,m3,by simp[Au],fun m q hq hn=>(by rw[hn] at hq; cases hq),fun h=>(by cases h)⟩
 | copy args ts x y t t' ti ei e k l z hop hargs hts hx hT hti hE hei hlk hz hd hob =>
   subst hop hd hob
   obtain rfl:args=#[x,y]:=by cases args with | mk l=>simp only at hargs; rw[hargs]
   obtain rfl:ts=#[t,t']:=by cases ts with | mk l=>simp only at hts; rw[hts]
   have hx':=hr x (by simp[Op.operands,Call.operands]);have hy':=hr y (by simp[Op.operands,Call.operands]);rw[hx] at hx';obtain⟨p,hp,hlive,hkind,hown⟩:=own hlk hx';have hu:=(he.ty t ti hT).desc;rw[hti] at hu;simp only[Dd] at hu
   have hs:(P.info? e).map (·.size)=some 1:=by obtain⟨i,zz,hi,hsz,_⟩:=(he.ty e ei hE).info;rw[hi,zU,hsz,hei]
   obtain⟨w',hrun,ho,hb,hk⟩:=A1z (sT:=t') (ty:=ty) hu hs (Q3 hown (zA _)) (Abr hm hy' hz);intro K hK;rw[Bfc (Oy hg)];obtain⟨m1,m2,m3⟩:=Anf hm hp hlk hlive hkind hown ho hb hk;unfold Oper.wp;simp[execOp,resolve,invoke,builtin,hrun,Result.andThen];exact hK _ w' ⟨A,m1,m2,m3,by simp[Au,goInt],fun m q hq hn=>(by rw[hn] at hq; cases hq),fun h=>(by cases h)⟩
theorem Ad8(he:Ke P E){ops:Array Oper}{draw:Bool}{st st':St}{o:Oper}(hs:Ab7 E ops draw st o=some (true,st')):∃d,V2 P E ops draw st o st' d:=by
 unfold Ab7 at hs;cases hp:A72 E o with
 | true=>rw[hp] at hs; cases hs
 | false =>
 rw[hp,Bet] at hs
 have hfree:∀t,o.dst=some t->E.np<=t:=fun t ht=>by
  unfold A72 at hp;rw[ht] at hp;rcases Bfm t E.np with h | h
  ·have hp:yV t E.np=false:=hp;rw[show yV t E.np=true by rw[Nat.blt_eq]; exact h] at hp; cases hp
  ·exact h
 cases hmut:Xl o.op with
 | false =>
   by_cases hsp:∀g?,S6 ops st.tmps o=some g?->(cond draw none (Ru E st.heap (Is st.tmps) g? o.op))=none
   ·exact Al8 he hs hfree hmut hsp
   ·exact Aps he hs hfree hmut hsp
 | true =>
   obtain⟨dst,op,ty,pos,after,guard⟩:=o;dsimp only at hmut;unfold Xl at hmut;split at hmut
   ·exact Al7 he hs hfree
   ·exact Ajq he hs hfree
   ·cases hmut
end
structure Aha(E:Env) where
 H8:Nat->Prop
 val:Nat->Value
structure Mo{E:Env}(S:Aha E)(I0:Nat->Prop)(B:Nat)(w0:World)(A:Nat->Option Place)(f:Nat->Option (Bool × OB))(g:Nat->DV)(len:Nat)(a:Act)(w:World):Prop where
 defers:a.defers=[]
 size:a.tmps.size=len
 below:Below B w0 w
 hB:B<=w.heap.size
 I0lt:∀b,I0 b->b<B
 obj:∀n p,A n=some p->∃fo,f n=some fo/\D6 (B1 I0 B A w) w p fo
 blkB:∀n p b,A n=some p->p.st≠.dead->p.H8=some b->B<=b/\b<w.heap.size
 inj:∀n m p q b,A n=some p->A m=some q->p.st≠.dead->q.st≠.dead->p.H8=some b->q.H8=some b->n=m
 tmps:∀t,Au (B1 I0 B A w) w (g t) (a.tmps.getD t undef)
 kept:∀b,S.H8 b->b<w.heap.size/\w.heap[b]?=w0.heap[b]?/\∀n p,A n=some p->p.st=.live->p.H8≠some b
 pin:∀t,t<E.np->a.tmps.getD t undef=S.val t
theorem Aik{S:Nat->Prop}{A A':Nat->Option Place}{w0 w w':World}(h:∀b,S b->b<w.heap.size/\w.heap[b]?=w0.heap[b]?/\∀n p,A n=some p->p.st=.live->p.H8≠some b)(hm:Kd A w A' w') :
 ∀b,S b->b<w'.heap.size/\w'.heap[b]?=w0.heap[b]?/\∀n p,A' n=some p->p.st=.live->p.H8≠some b:=fun b hb=>by
 obtain⟨k1,k2,k3⟩:=h b hb;refine⟨Bf0 k1 hm.size,(hm.kept b k1 k3).trans k2,fun n p hp hl hbk=>?_⟩;obtain⟨m,q,hq,hql,hqb⟩:=hm.live n p b hp hl hbk k1;exact k3 m q hq hql hqb
section
variable{P:Program}{E:Env}{S:Aha E}{I0:Nat->Prop}{B:Nat}{w0:World}{A:Nat->Option Place}{f f':Nat->Option (Bool × OB)}{g g':Nat->DV}{len:Nat}{a:Act}{w:World}
theorem Mo.mem(h:Mo S I0 B w0 A f g len a w){hp:Ev}(hf:∀n p fo,A n=some p->look hp n=some fo->f n=some fo):Mem I0 B A hp w :=⟨h.hB,h.I0lt,fun n p fo hn hl=>by obtain⟨fo',h1,h2⟩:=h.obj n p hn;rw[hf n p fo hn hl] at h1; cases h1; exact h2,h.blkB,h.inj⟩
theorem Z7{dst:Option Tmp}{v:Value}{t:Nat}:(a.put dst v).tmps.getD t undef=if dst=some t/\t<a.tmps.size then v else a.tmps.getD t undef:=by
 cases dst with
 | none=>simp[Act.put]
 | some d =>
   simp only[Act.put,Bes,yf];by_cases h:d=t
   ·subst h;by_cases h2:d<a.tmps.size
    ·simp[h2]
    ·simp[h2]
   ·rw[vW h,Bfb (fun e=>h e.1)]
theorem Air{l:List DV}{dst:Option Nat}{d:DV}{t:Nat}:(Xy l dst d).getD t .undef=if dst=some t/\t<l.length then d else l.getD t .undef:=by
 cases dst with
 | none=>simp[Xy]
 | some e =>
   simp only[Xy,Bes,Bez];by_cases h:e=t
   ·subst h;by_cases h2:e<l.length
    ·simp[h2]
    ·simp[h2]
   ·rw[List.getElem?_set_ne h,Bfb (fun e=>h e.1)]
theorem Am2{dst:Option Tmp}{v:Value}:(a.put dst v).tmps.size=a.tmps.size:=by cases dst<;>simp[Act.put]
theorem put_defers{dst:Option Tmp}{v:Value}:(a.put dst v).defers=a.defers:=by cases dst<;>rfl
theorem Aca{l:List DV}{dst:Option Nat}{d:DV}:(Xy l dst d).length=l.length:=by cases dst<;>simp[Xy]
theorem Mo.step{ops:Array Oper}{st st':St}{o:Oper}{d:DV}(h:Mo S I0 B w0 A f g len a w)(hk:V2 P E ops true st o st' d)
 (h1:∀n,A n≠none->look st.heap n≠none->look st.heap n=f n)
 (h2:∀t∈o.looksAt ops,st.tmps.getD t .undef=g t) (h3:st.tmps.length=len)
 (h4:∀n,look st.heap n=none->look st'.heap n≠none->f n=none)
 (h5:∀n,look st'.heap n≠none->(n∈Hx E ops st o\/look st.heap n=none)->f' n=look st'.heap n)
 (h6:∀n,n ∉ Hx E ops st o->¬(look st.heap n=none/\look st'.heap n≠none)->f' n=f n)
 (h7:∀t,g' t=if o.dst=some t/\t<len then d else g t) {Q:Exit->Act->World->Prop} :
 Mg P ops o a w Q fun v w'=>∃A',Mo S I0 B w0 A' f' g' len (a.put o.dst v) w':=by
 have hm:Mem I0 B A st.heap w:=h.mem fun n p fo hn hl=>by rw[<- h1 n (by rw[hn]; simp) (by rw[hl]; simp)]; exact hl
 refine(hk.run hm (h.size.trans h3.symm) (fun t ht=>by rw[h2 t ht]; exact h.tmps t) (fun n hn hn'=>?_)).mono ?_
 ·cases hA:A n with
  | none=>rfl
  | some p =>obtain⟨fo,hfo,_⟩:=h.obj n p hA;rw[h4 n hn hn'] at hfo; cases hfo
 ·rintro v w' ⟨A',hm',hmv,hb,hv,hnew,hdr⟩
  obtain⟨hkept,hsame⟩:=hdr rfl;have hlater:=hmv.Em (I0:=I0) (B:=B)
  refine⟨A',put_defers.trans h.defers,Am2.trans h.size,h.below.trans hb,hm'.hB,hm'.I0lt,fun n p hp=>?_,hm'.blkB,hm'.inj,fun t=>?_,Aik h.kept hmv,fun t ht=>by rw[Z7,Bfb (fun e=>by have:=hk.free t e.1; omega)]; exact h.pin t ht⟩
  ·have P8:look st'.heap n≠none->(n∈Hx E ops st o\/look st.heap n=none)->∃fo,f' n=some fo/\D6 (B1 I0 B A' w') w' p fo:=by
    intro hl ht;cases hq:look st'.heap n with
    | none=>exact absurd hq hl
    | some fo=>exact⟨fo,by rw[h5 n hl ht,hq],hm'.obj n p fo hp hq⟩
   cases hA:A n with
   | none =>obtain⟨e1,e2⟩:=hnew n p hp hA;exact P8 e2 (.inr e1)
   | some q =>
     obtain⟨fo,hfo,hr⟩:=h.obj n q hA;by_cases hmu:n∈Hx E ops st o
     ·exact P8 (hk.stays n (hk.there rfl n hmu)) (.inl hmu)
     ·have hs:=hsame n q hmu hA;rw[hp] at hs; cases hs;refine⟨fo,?_,Rx hlater (fun hd b hb=>hkept n _ b hmu hA hd hb) hr⟩;rw[h6 n hmu (fun e=>by rw[h4 n e.1 e.2] at hfo; cases hfo)]; exact hfo
  ·rw[Z7,h7,h.size];split
   ·exact hv
   ·exact Au.Em hlater _ _ (h.tmps t)
def G1{E:Env}(S:Aha E)(I0:Nat->Prop)(B:Nat)(w0:World)(st:St)(a:Act)(w:World):Prop:=∃A,Mo S I0 B w0 A (look st.heap) (fun t=>st.tmps.getD t .undef) st.tmps.length a w
theorem G1.step{ops:Array Oper}{draw:Bool}{st st':St}{o:Oper}{d:DV}(h:G1 S I0 B w0 st a w)(hk:V2 P E ops draw st o st' d){Q:Exit->Act->World->Prop} :
 Mg P ops o a w Q fun v w'=>G1 S I0 B w0 st' (a.put o.dst v) w':=by
 obtain⟨A,h⟩:=h;have hm:Mem I0 B A st.heap w:=h.mem fun n p fo hn hl=>hl
 refine(hk.run hm h.size (fun t _=>h.tmps t) (fun n hn _=>?_)).mono ?_
 ·cases hA:A n with
  | none=>rfl
  | some p =>obtain⟨fo,hfo,_⟩:=h.obj n p hA;rw[hn] at hfo; cases hfo
 ·rintro v w' ⟨A',hm',hmv,hb,hv,hnew,_⟩
  have hlater:=hmv.Em (I0:=I0) (B:=B)
  refine⟨A',put_defers.trans h.defers,Am2.trans (h.size.trans (by rw[hk.tmps,Aca])),h.below.trans hb,hm'.hB,hm'.I0lt,fun n p hp=>?_,hm'.blkB,hm'.inj,fun t=>?_,Aik h.kept hmv,fun t ht=>by rw[Z7,Bfb (fun e=>by have:=hk.free t e.1; omega)]; exact h.pin t ht⟩
  ·have hl:look st'.heap n≠none:=by
    cases hA:A n with
    | none=>exact(hnew n p hp hA).2
    | some q =>obtain⟨fo,hfo,_⟩:=h.obj n q hA;exact hk.stays n (by rw[hfo]; simp)
   cases hq:look st'.heap n with
   | none=>exact absurd hq hl
   | some fo=>exact⟨fo,rfl,hm'.obj n p fo hp hq⟩
  ·rw[Z7,hk.tmps,Air,h.size];split
   ·exact hv
   ·exact Au.Em hlater _ _ (h.tmps t)
end
theorem O7{n:Nat}:∀{l:List Nat},Po n l=true↔n∈l
 | []=>by simp[Po]
 | m::l=>by
   simp only[Po,zu];by_cases h:n=m
   ·subst h; simp
   ·rw[show zg n m=false from by cases hb:zg n m with | false=>rfl | true=>exact absurd (Be7 hb) h];simp only[Bet,O7,h,false_or]
theorem X9{n:Nat}{l:List Nat}:Po n l=false↔n ∉ l:=by rw[<- O7]; simp
section
variable{α:Type}{val:Nat->α}{touch S S':Nat->Prop}
open Classical in
def after(val:Nat->α)(touch S:Nat->Prop):Nat->α
 | 0=>val 0
 | k+1=>if S k/\touch k then val (k+1) else after val touch S k
theorem R5{N:Nat}(h:∀j,j<N->touch j->(S j↔S' j)):after val touch S N=after val touch S' N:=by
 induction N with
 | zero=>rfl
 | succ k ih =>
   simp only[after];by_cases ht:touch k
   ·rw[ih fun j hj=>h j (by omega)];by_cases hs:S k
    ·rw[Bfc ⟨hs,ht⟩,Bfc ⟨(h k (by omega) ht).1 hs,ht⟩]
    ·rw[Bfb (fun e=>hs e.1),Bfb (fun e=>hs ((h k (by omega) ht).2 e.1))]
   ·rw[Bfb (fun e=>ht e.2),Bfb (fun e=>ht e.2)];exact ih fun j hj=>h j (by omega)
theorem Ai6:∀{k:Nat},(∀j,j<k->¬touch j->val (j+1)=val j)->(∀j,j<k->touch j->S j)->after val touch S k=val k
 | 0,_,_=>rfl
 | k+1,hv,h=>by
   simp only[after];by_cases ht:touch k
   ·rw[Bfc ⟨h k (by omega) ht,ht⟩]
   ·rw[Bfb (fun e=>ht e.2),Ai6 (fun j hj=>hv j (by omega)) (fun j hj=>h j (by omega)),hv k (by omega) ht]
theorem Yp{k:Nat}:∀{N:Nat},k<=N->(∀j,k<=j->j<N->touch j->¬S j)->after val touch S N=after val touch S k
 | 0,hk,_=>by obtain rfl:k=0:=by omega
              rfl
 | N+1,hk,h=>by
   by_cases e:k=N+1
   ·rw[e]
   ·simp only[after];rw[Bfb (fun e'=>h N (by omega) (by omega) e'.2 e'.1)];exact Yp (by omega) fun j h1 h2=>h j h1 (by omega)
theorem Pe{k N:Nat}(hv:∀j,j<N->¬touch j->val (j+1)=val j)(hk:k<=N)(h:∀j,j<N->touch j->(S j↔j<k)):after val touch S N=val k:=by rw[Yp hk fun j h1 h2 h3 h4=>by have:=(h j h2 h3).1 h4; omega];exact Ai6 (fun j hj=>hv j (by omega)) fun j h1 h2=>(h j (by omega) h2).2 h1
theorem Agn{k N:Nat}(hk:k<N)(ht:touch k)(hs:S k)(h:∀j,k<j->j<N->touch j->¬S j):after val touch S N=val (k+1):=by rw[Yp (k:=k+1) (by omega) fun j h1 h2=>h j (by omega) h2];simp only[after];rw[Bfc ⟨hs,ht⟩]
end
theorem O8{p:Nat->Bool}:∀{h:Ev} {n:Nat},look (h.filter fun x=>p x.1) n=bif p n then look h n else none
 | [],n=>by simp[look]
 | (m,x)::h,n=>by
   simp only[List.filter_cons,look];by_cases e:m=n
   ·subst e;cases hp:p m<;>simp[look,O8,hp]
   ·rw[show(m==n)=false by simpa using e];cases hp:p m
    ·simpa using O8
    ·simp only[if_true,look,Bet,show(m==n)=false by simpa using e];exact O8
theorem Awg{ms:List Nat}{h:Ev}{n:Nat}:look (Ani ms h) n=if n∈ms then none else look h n:=by
 unfold Ani;rw[O8 (p:=fun m=>!(Po m ms))];by_cases hn:n∈ms
 ·rw[O7.2 hn,Bfc hn]; rfl
 ·rw[X9.2 hn,Bfb hn]; rfl
theorem A0s{ms:List Nat}{h:Ev}{n:Nat}:look (A5d ms h) n=if n∈ms then look h n else none:=by
 unfold A5d;rw[O8 (p:=fun m=>Po m ms)];by_cases hn:n∈ms
 ·rw[O7.2 hn,Bfc hn]; rfl
 ·rw[X9.2 hn,Bfb hn]; rfl
theorem A0r{h:Ev}{n:Nat}{x:Bool × OB}(hl:look h n=some x):(n,x)∈h:=by
 induction h with
 | nil=>cases hl
 | cons y h ih =>
   obtain⟨m,z⟩:=y;simp only[look] at hl;by_cases e:m=n
   ·subst e; simp at hl; subst hl; exact Bf4
   ·rw[show(m==n)=false by simpa using e] at hl;exact Bfu _ (ih hl)
structure Saw(P:Program)(E:Env)(ops:Array Oper)(ms:List Nat)(st:St)(o:Oper)(st':St)(mk mk':St)(d:DV):Prop where
 ok:V2 P E ops true mk o mk' d
 seen:mk=Sa ms st
 tmps:mk.tmps=st.tmps
 tmps':st'.tmps=mk'.tmps
 mask:∀n,look mk.heap n=if n∈ms then none else look st.heap n
 out:∀n,look mk'.heap n≠none->n ∉ ms
 heap:∀n,look st'.heap n=if n∈ms then look st.heap n else look mk'.heap n
theorem Ayw{P:Program}{E:Env}(he:Ke P E){ops:Array Oper}{ms:List Nat}{st st':St}{o:Oper}(h:Al6 E ops ms st o=some (true,st')):∃mk mk' d,Saw P E ops ms st o st' mk mk' d:=by
 cases ms with
 | nil =>simp only[Al6] at h;obtain⟨d,hd⟩:=Ad8 he h;exact⟨st,st',d,hd,rfl,rfl,rfl,fun n=>by simp,fun n _=>by simp,fun n=>by simp⟩
 | cons m ms =>
   simp only[Al6] at h;cases hs:Ab7 E ops true ⟨st.tmps,Ani (m::ms) st.heap⟩ o with
   | none=>rw[hs] at h; cases h
   | some r =>
     obtain⟨r,mk'⟩:=r;rw[hs] at h;simp only at h;cases hc:(mk'.heap.all fun x=>!(Po x.1 (m::ms))) with
     | false=>rw[hc] at h; cases h
     | true =>
       rw[hc,Bep,Bes,Bey] at h;obtain⟨rfl,rfl⟩:=h;obtain⟨d,hd⟩:=Ad8 he hs
       have hout:∀n,look mk'.heap n≠none->n ∉ m::ms:=by
        intro n hn;cases hq:look mk'.heap n with
        | none=>exact absurd hq hn
        | some x =>have:=zJ.1 hc _ (A0r hq);rw[xc] at this;exact X9.1 this
       refine⟨_,mk',d,hd,rfl,rfl,rfl,fun n=>Awg,hout,fun n=>?_⟩;show look (mk'.heap++A5d (m::ms) st.heap) n=_;rw[Rz,A0s];by_cases hn:n∈m::ms
       ·rw[Bfc hn];cases hq:look mk'.heap n with
        | none=>simp[hn]
        | some x=>exact absurd hn (hout n (by rw[hq]; simp))
       ·rw[Bfb hn,Bfb hn];cases look mk'.heap n<;>rfl
section
variable{P:Program}{E:Env}{ops:Array Oper}{ms:List Nat}{st st' mk mk':St}{o:Oper}{d:DV}(h:Saw P E ops ms st o st' mk mk' d)
include h
theorem Saw.A8c{n:Nat}(hn:n∈Hx E ops (Sa ms st) o):look st.heap n≠none/\n ∉ ms:=by
 have h1:=h.ok.there rfl n (by rw[h.seen]; exact hn);rw[h.mask] at h1;by_cases hm:n∈ms
 ·rw[Bfc hm] at h1; exact absurd rfl h1
 ·rw[Bfb hm] at h1; exact⟨h1,hm⟩
theorem Saw.stays{n:Nat}(hn:look st.heap n≠none):look st'.heap n≠none:=by
 rw[h.heap];by_cases hm:n∈ms
 ·rw[Bfc hm]; exact hn
 ·rw[Bfb hm];exact h.ok.stays n (by rw[h.mask,Bfb hm]; exact hn)
theorem Saw.same{n:Nat}(hn:n ∉ Hx E ops (Sa ms st) o)(hc:¬(look st.heap n=none/\look st'.heap n≠none)):look st'.heap n=look st.heap n:=by
 cases hq:look st.heap n with
 | none =>
   cases hq':look st'.heap n with
   | none=>rfl
   | some x=>exact absurd ⟨hq,by rw[hq']; simp⟩ hc
 | some x =>
   rw[h.heap];by_cases hm:n∈ms
   ·rw[Bfc hm,hq]
   ·rw[Bfb hm];have h1:look mk.heap n=some x:=by rw[h.mask,Bfb hm,hq]
    rw[h.ok.same rfl n (by rw[h.seen]; exact hn) (by rw[h1]; simp),h1]
theorem Saw.made{n:Nat}(h1:look st.heap n=none)(h2:look st'.heap n≠none):n ∉ ms:=by intro hm;rw[h.heap,Bfc hm] at h2;exact h2 h1
theorem Saw.getD{t:Nat}:st'.tmps.getD t .undef=if o.dst=some t/\t<st.tmps.length then d else st.tmps.getD t .undef:=by rw[h.tmps',h.ok.tmps,h.tmps,Air]
theorem Saw.length:st'.tmps.length=st.tmps.length:=by rw[h.tmps',h.ok.tmps,Aca,h.tmps]
end
structure Trace(P:Program)(E:Env)(ops:Array Oper)(D:List (List Nat))(M:List (Nat × List Nat))(tr:Nat->St):Prop where
 saw:∀k o,ops[k]?=some o->∃mk mk' d,Saw P E ops (Js D k M) (tr k) o (tr (k+1)) mk mk' d
 A8c:∀k o,ops[k]?=some o->Vg D k=true->∀n,n∈Hx E ops (Sa (Js D k M) (tr k)) o->n∈Qf k M
theorem Acf{β:Type}{P:Program}{E:Env}(he:Ke P E){ops:Array Oper}{D:List (List Nat)}{M:List (Nat × List Nat)}{K:St->Option β}{b:β} :
 ∀(l:List Oper) (k:Nat) (st:St),(∀j,l[j]?=ops[k+j]?)->Atd E ops D M k l st K=some b ->
 ∃tr:Nat->St,tr 0=st/\K (tr l.length)=some b/\∀j o,l[j]?=some o->(∃mk mk' d,Saw P E ops (Js D (k+j) M) (tr j) o (tr (j+1)) mk mk' d)/\(Vg D (k+j)=true->∀n,n∈Hx E ops (Sa (Js D (k+j) M) (tr j)) o->n∈Qf (k+j) M)
 | [],k,st,_,h=>⟨fun _=>st,rfl,h,fun j o hj=>(by cases hj)⟩
 | o::l,k,st,hl,h=>by
   simp only[Atd] at h;cases hs:Al6 E ops (Js D k M) st o with
   | none=>rw[hs] at h; cases h
   | some r =>
     obtain⟨r,st'⟩:=r;rw[hs] at h;simp only at h;cases hc:(r&&(!(Vg D k)||(Hx E ops (Sa (Js D k M) st) o).all fun n=>Po n (Qf k M))) with
     | false=>rw[hc] at h; cases h
     | true =>
       rw[hc,Bep] at h;simp only[Be0,zK,xc,zJ] at hc;obtain⟨rfl,hc⟩:=hc;obtain⟨tr,h1,h2,h3⟩:=Acf he l (k+1) st' (fun j=>by have:=hl (j+1); simpa[yk,xu 1 j] using this) h;refine⟨fun j=>match j with | 0=>st | j+1=>tr j,rfl,h2,fun j p hj=>?_⟩;cases j with
       | zero =>
         simp only[List.getElem?_cons_zero,Bes] at hj;subst hj;refine⟨by show ∃mk mk' d,Saw P E ops (Js D k M) st o (tr 0) mk mk' d; rw[h1]; exact Ayw he hs,fun hlo n hn=>?_⟩;rcases hc with hc | hc
         ·have hlo':Vg D k=true:=hlo;rw[hc] at hlo'; cases hlo'
         ·exact O7.1 (hc n hn)
       | succ j =>rw[List.getElem?_cons_succ] at hj;have:=h3 j p hj;rw[show k+(j+1)=k+1+j by omega];exact this
theorem Xm{ops:Array Oper}{k:Nat}{o:Oper}(h:ops[k]?=some o):(ops.toList.map Ky).getD k []=Ky o:=by
 have:ops.toList[k]?=some o:=by simpa using h
 simp[Bez,this]
theorem Hm{ops:Array Oper}{k i:Nat}(h:i∈(ops.toList.map Ky).getD k []):∃o,ops[k]?=some o/\i∈Ky o:=by
 cases hk:ops[k]? with
 | none =>
   have:ops.toList[k]?=none:=by simpa using hk
   simp[Bez,this] at h
 | some o=>rw[Xm hk] at h; exact⟨o,rfl,h⟩
theorem Ang{o:Oper}{i:Nat}:i∈Ky o↔∃e∈o.after,Region.binds .any e=true/\e.on=i:=by
 unfold Ky;simp only[vU,wR];constructor
 ·rintro ⟨e,he,h⟩
  cases hb:Region.binds .any e with
  | false=>rw[hb] at h; simp at h
  | true=>rw[hb] at h; simp at h; exact⟨e,he,hb,h⟩
 ·rintro ⟨e,he,hb,rfl⟩
  exact⟨e,he,by rw[hb]; rfl⟩
structure Yr(ops:Array Oper):Prop where
 lt:∀(k:Nat) o,ops[k]?=some o->∀i∈Ky o,i<k
 once:∀(k j:Nat) o p t,ops[k]?=some o->ops[j]?=some p->p.dst=some t->o.dst=some t->j=k
 told:∀(k j:Nat) o p t,ops[k]?=some o->ops[j]?=some p->p.dst=some t->t∈o.looksAt ops->Ac3 (ops.toList.map Ky) j k=true\/Ac3 (ops.toList.map Ky) k j=true
theorem lt_size{ops:Array Oper}{k:Nat}{o:Oper}(h:ops[k]?=some o):k<ops.size:=by
 rcases Bfm k ops.size with h' | h'
 ·exact h'
 ·rw[vX h'] at h; cases h
theorem Aoj{ops:Array Oper}(h:Akz ops (ops.toList.map Ky)=true):Yr ops:=by
 unfold Akz at h;simp only[zJ,yg,Bfv,ya] at h;refine⟨fun k o hk i hi=>?_,fun k j o p t hk hj hp ho=>?_,fun k j o p t hk hj hp ht=>?_⟩
 ·have h1:=h k (lt_size hk);rw[Be0,zJ] at h1;have:=h1.1 i (by rw[Xm hk]; exact hi);simpa[Nat.blt_eq] using this
 ·have h1:=h k (lt_size hk);rw[Be0,hk] at h1;have h2:=h1.2;simp only[zJ,yg] at h2;have h3:=h2 j (lt_size hj);rw[hj] at h3;simp only[hp,Be0,zK] at h3;rcases h3.1 with h4 | h4
  ·exact Be7 h4
  ·rw[ho] at h4; simp at h4
 ·have h1:=h k (lt_size hk);rw[Be0,hk] at h1;have h2:=h1.2;simp only[zJ,yg] at h2;have h3:=h2 j (lt_size hj);rw[hj] at h3;simp only[hp,Be0,zK] at h3;rcases h3.2 with h4 | h4
  ·rw[O7.2 ht] at h4; simp at h4
  ·exact h4
theorem Ai4{D:List (List Nat)}{i j:Nat}(h:Ac3 D i j=true):i∈D.getD j []\/∃m∈D.getD j [],i∈D.getD m []:=by unfold Ac3 at h;simp only[zK,List.any_eq_true] at h;exact h.imp O7.1 fun⟨m,h1,h2⟩=>⟨m,h1,O7.1 h2⟩
section
variable{ops:Array Oper}(hd:Yr ops)
include hd
theorem Yr.Agi{i j:Nat}(h:Ac3 (ops.toList.map Ky) i j=true):i<j:=by
 rcases Ai4 h with h | ⟨m,h1,h2⟩
 ·obtain⟨o,ho,hi⟩:=Hm h;exact hd.lt j o ho i hi
 ·obtain⟨o,ho,hi⟩:=Hm h1;obtain⟨p,hp,hj⟩:=Hm h2;have:=hd.lt j o ho m hi;have:=hd.lt m p hp i hj;omega
end
def Ab3(ops:Array Oper)(S:Nat->Prop):Prop:=∀k o,ops[k]?=some o->S k->∀i∈Ky o,S i
theorem Ab3.bef{ops:Array Oper}{S:Nat->Prop}(hc:Ab3 ops S){k:Nat}(hk:∀o,ops[k]?=some o->∀i∈Ky o,S i){i:Nat}(h:Ac3 (ops.toList.map Ky) i k=true):S i:=by
 rcases Ai4 h with h | ⟨m,h1,h2⟩
 ·obtain⟨o,ho,hi⟩:=Hm h;exact hk o ho i hi
 ·obtain⟨o,ho,hi⟩:=Hm h1;obtain⟨p,hp,hj⟩:=Hm h2;exact hc m p hp (hk o ho m hi) i hj
theorem Ab1{D:List (List Nat)}{i j:Nat}(h1:i≠j)(h2:Ac3 D i j≠true)(h3:Ac3 D j i≠true):Rg D i j=true:=by
 unfold Rg
 have e1:zg i j=false:=by
  cases hb:zg i j with
  | false=>rfl
  | true=>exact absurd (Be7 hb) h1
 rw[e1,zF _ |>.mp h2,zF _ |>.mp h3]; rfl
theorem X8{D:List (List Nat)}{s k n:Nat}(ha:Rg D s k=true):∀{M:List (Nat × List Nat)},n∈Qf s M->n∈Js D k M
 | [],h=>by simp[Qf] at h
 | (s',ns)::M,h=>by
   simp only[Qf] at h;simp only[Js];cases hb:zg s' s with
   | true =>have:=Be7 hb;subst this;rw[hb] at h;rw[ha];simp only[Bep,zH] at h ⊢;exact h.imp id (X8 ha)
   | false =>
     rw[hb] at h;simp only[Bet] at h;have:=X8 ha h;cases Rg D s' k
     ·exact this
     ·exact zH.2 (.inr this)
theorem Awf{D:List (List Nat)}{s k:Nat}(ha:Rg D s k=true)(hk:k<D.length):Vg D s=true:=by unfold Vg;exact List.any_eq_true.2 ⟨k,yg.2 hk,ha⟩
def Ajo(E:Env)(ops:Array Oper)(M:List (Nat × List Nat))(tr:Nat->St)(n:Nat)(k:Nat):Prop :=∃o,ops[k]?=some o/\(n∈Hx E ops (Sa (Js (ops.toList.map Ky) k M) (tr k)) o\/(look (tr k).heap n=none/\look (tr (k+1)).heap n≠none))
def Ayr(ops:Array Oper)(len:Nat)(t:Nat)(k:Nat):Prop:=t<len/\∃o,ops[k]?=some o/\o.dst=some t
def Vn(E:Env)(ops:Array Oper)(M:List (Nat × List Nat))(tr:Nat->St)(S:Nat->Prop)(n:Nat):Option (Bool × OB):=after (fun k=>look (tr k).heap n) (Ajo E ops M tr n) S ops.size
def Ahn(ops:Array Oper)(tr:Nat->St)(S:Nat->Prop)(t:Nat):DV:=after (fun k=>(tr k).tmps.getD t .undef) (Ayr ops (tr 0).tmps.length t) S ops.size
section
variable{P:Program}{E:Env}{ops:Array Oper}{M:List (Nat × List Nat)}{tr:Nat->St}(hd:Yr ops)(T:Trace P E ops (ops.toList.map Ky) M tr)
include T
theorem Trace.len{k:Nat}(h:k<=ops.size):(tr k).tmps.length=(tr 0).tmps.length:=by
 induction k with
 | zero=>rfl
 | succ k ih =>obtain⟨mk,mk',d,hs⟩:=T.saw k ops[k] (Be9 (by omega));rw[hs.length,ih (by omega)]
theorem Trace.stays{n j k:Nat}(hj:look (tr j).heap n≠none)(hjk:j<=k)(hk:k<=ops.size):look (tr k).heap n≠none:=by
 induction k with
 | zero=>obtain rfl:j=0:=by omega
         exact hj
 | succ k ih =>
   by_cases e:j=k+1
   ·rw[<- e]; exact hj
   ·obtain⟨mk,mk',d,hs⟩:=T.saw k ops[k] (Be9 (by omega));exact hs.stays (ih (by omega) (by omega))
theorem Trace.Axz{n j:Nat}(hj:j<ops.size)(ht:¬Ajo E ops M tr n j):look (tr (j+1)).heap n=look (tr j).heap n:=by obtain⟨mk,mk',d,hs⟩:=T.saw j ops[j] (Be9 hj);exact hs.same (fun h=>ht ⟨_,Be9 hj,.inl h⟩) (fun h=>ht ⟨_,Be9 hj,.inr h⟩)
theorem Trace.A62{t j:Nat}(hj:j<ops.size)(ht:¬Ayr ops (tr 0).tmps.length t j):(tr (j+1)).tmps.getD t .undef=(tr j).tmps.getD t .undef:=by obtain⟨mk,mk',d,hs⟩:=T.saw j ops[j] (Be9 hj);rw[hs.getD,T.len (by omega),Bfb (fun e=>ht ⟨e.2,_,Be9 hj,e.1⟩)]
theorem Trace.P8{n j:Nat}{o:Oper}(ho:ops[j]?=some o)(ht:Ajo E ops M tr n j):(n∈Hx E ops (Sa (Js (ops.toList.map Ky) j M) (tr j)) o/\look (tr j).heap n≠none)\/(look (tr j).heap n=none/\look (tr (j+1)).heap n≠none):=by
 obtain⟨o',ho',h⟩:=ht;rw[ho] at ho'; cases ho';rcases h with h | h
 ·obtain⟨mk,mk',d,hs⟩:=T.saw j o ho;exact .inl ⟨h,(hs.A8c h).1⟩
 ·exact .inr h
theorem Trace.A09{s k n:Nat}{o:Oper}(hs:ops[s]?=some o)(hk:k<ops.size)(ha:Rg (ops.toList.map Ky) s k=true)(hn:n∈Hx E ops (Sa (Js (ops.toList.map Ky) s M) (tr s)) o):n∈Js (ops.toList.map Ky) k M :=X8 ha (T.A8c s o hs (Awf ha (by simpa using hk)) n hn)
omit T in
theorem Vx{S:Nat->Prop}(hd:Yr ops)(hc:Ab3 ops S){k:Nat}(hk:¬S k){j:Nat}(hj:S j)(hlt:k<j):Rg (ops.toList.map Ky) j k=true:=by
 refine Ab1 (by omega) (fun e=>?_) (fun e=>?_)
 ·have:=hd.Agi e; omega
 ·exact hk (hc.bef (fun p hp=>hc j p hp hj) e)
omit T in
theorem Alh{S:Nat->Prop}(hd:Yr ops)(hc:Ab3 ops S){k:Nat}{o:Oper}(ho:ops[k]?=some o)(hr:∀i∈Ky o,S i){j:Nat}(hj:¬S j)(hlt:j<k):Rg (ops.toList.map Ky) j k=true:=by
 refine Ab1 (by omega) (fun e=>?_) (fun e=>?_)
 ·exact hj (hc.bef (fun p hp=>by rw[ho] at hp; cases hp; exact hr) e)
 ·have:=hd.Agi e; omega
include hd
variable{S:Nat->Prop}(hc:Ab3 ops S){k:Nat}{o:Oper}(ho:ops[k]?=some o)(hk:¬S k)(hr:∀i∈Ky o,S i)
include hc ho hk hr
theorem Trace.A4z{n:Nat}(hm:n ∉ Js (ops.toList.map Ky) k M)(h1:look (tr k).heap n≠none)(h2:Vn E ops M tr S n≠none):Vn E ops M tr S n=look (tr k).heap n:=by
 have hkN:=lt_size ho;refine Pe (val:=fun k=>look (tr k).heap n) (fun j hj ht=>T.Axz hj ht) (by omega) fun j hj ht=>?_
 have hoj:ops[j]?=some ops[j]:=Be9 hj;constructor
 ·intro hS;rcases Bfm j k with h | h
  ·exact h
  ·have hne:j≠k:=fun e=>hk (e ▸ hS)
   have ha:=Vx hd hc hk hS (by omega);rcases T.P8 hoj ht with ⟨h3,_⟩ | ⟨h3,_⟩
   ·exact absurd (T.A09 hoj hkN ha h3) hm
   ·exact absurd h3 (T.stays h1 (by omega) (by omega))
 ·intro hlt;refine yZ fun hS=>?_
  have ha:=Alh hd hc ho hr hS hlt;rcases T.P8 hoj ht with ⟨h3,_⟩ | ⟨h3,h4⟩
  ·exact hm (T.A09 hoj hkN ha h3)
  ·
   refine h2 ?_
   have:Vn E ops M tr S n=look (tr 0).heap n:=by
    refine Pe (k:=0) (val:=fun k=>look (tr k).heap n) (fun j hj ht=>T.Axz hj ht) (by omega) fun i hi hti=>⟨fun hSi=>?_,fun h=>by omega⟩
    exfalso;have hoi:ops[i]?=some ops[i]:=Be9 hi;have hij:i≠j:=fun e=>hS (e ▸ hSi)
    have hji:j<i:=by
     rcases T.P8 hoi hti with ⟨_,h5⟩ | ⟨h5,h6⟩
     ·rcases Bfm j i with h | h
      ·exact h
      ·exact absurd h3 (T.stays h5 h (by omega))
     ·rcases Bfm j i with h | h
      ·exact h
      ·exact absurd h3 (T.stays h6 (by omega) (by omega))
    have hap:Rg (ops.toList.map Ky) i j=true:=by
     refine Ab1 hij (fun e=>?_) (fun e=>?_)
     ·have:=hd.Agi e; omega
     ·exact hS (hc.bef (fun p hp=>hc i p hp hSi) e)
    rcases T.P8 hoi hti with ⟨h5,_⟩ | ⟨h5,_⟩
    ·obtain⟨mk,mk',d,hsj⟩:=T.saw j _ hoj;exact hsj.made h3 h4 (T.A09 hoi hj hap h5)
    ·exact absurd h5 (T.stays h4 (by omega) (by omega))
   rw[this];cases hq:look (tr 0).heap n with
   | none=>rfl
   | some x=>exact absurd h3 (T.stays (j:=0) (by rw[hq]; simp) (by omega) (by omega))
theorem Trace.A7j{t:Nat}(ht:t∈o.looksAt ops):Ahn ops tr S t=(tr k).tmps.getD t .undef:=by
 have hkN:=lt_size ho;refine Pe (val:=fun k=>(tr k).tmps.getD t .undef) (fun j hj h=>T.A62 hj h) (by omega) fun j hj hj'=>?_
 obtain⟨_,p,hp,hdst⟩:=hj';rcases hd.told k j o p t ho hp hdst ht with h | h
 ·have:=hd.Agi h;exact⟨fun _=>this,fun _=>hc.bef (fun p hp=>by rw[ho] at hp; cases hp; exact hr) h⟩
 ·have:=hd.Agi h;exact⟨fun hS=>absurd (hc.bef (fun p hp=>hc j p hp hS) h) hk,fun h=>by omega⟩
theorem Trace.step{S0:Aha E}{I0:Nat->Prop}{B:Nat}{w0:World}{A:Nat->Option Place}{a:Act}{w:World}(h:Mo S0 I0 B w0 A (Vn E ops M tr S) (Ahn ops tr S) (tr 0).tmps.length a w){Q:Exit->Act->World->Prop} :
 Mg P ops o a w Q fun v w'=>∃A',Mo S0 I0 B w0 A' (Vn E ops M tr fun j=>S j\/j=k) (Ahn ops tr fun j=>S j\/j=k) (tr 0).tmps.length (a.put o.dst v) w':=by
 have hkN:=lt_size ho;obtain⟨mk,mk',d,hs⟩:=T.saw k o ho
 have hout:∀{n},look mk'.heap n≠none->look mk'.heap n=look (tr (k+1)).heap n:=by intro n hn;rw[hs.heap,Bfb (hs.out n hn)]
 refine h.step hs.ok (fun n hA hl=>?_) (fun t ht=>?_) (by rw[hs.tmps,T.len (by omega)]) (fun n h1 h2=>?_) (fun n h1 h2=>?_) (fun n h1 h2=>?_) (fun t=>?_)
 ·have hm:n ∉ Js (ops.toList.map Ky) k M:=fun e=>hl (by rw[hs.mask,Bfc e])
  rw[hs.mask,Bfb hm] at hl ⊢;refine(T.A4z hd hc ho hk hr hm hl ?_).symm;cases hA':A n with
  | none=>exact absurd hA' hA
  | some p =>obtain⟨fo,hfo,_⟩:=h.obj n p hA';rw[hfo]; simp
 ·rw[hs.tmps]; exact(T.A7j hd hc ho hk hr ht).symm
 ·
  have hm:=hs.out n h2;rw[hs.mask,Bfb hm] at h1;rw[hout h2] at h2
  have:Vn E ops M tr S n=look (tr 0).heap n:=by
   refine Pe (k:=0) (val:=fun k=>look (tr k).heap n) (fun j hj ht=>T.Axz hj ht) (by omega) fun i hi hti=>⟨fun hSi=>?_,fun h=>by omega⟩
   exfalso;have hoi:ops[i]?=some ops[i]:=Be9 hi;have hik:i≠k:=fun e=>hk (e ▸ hSi)
   rcases T.P8 hoi hti with ⟨h5,h6⟩ | ⟨h5,h6⟩
   ·rcases Bfm i k with hlt | hge
    ·exact absurd h1 (T.stays h6 (by omega) (by omega))
    ·exact hm (T.A09 hoi hkN (Vx hd hc hk hSi (by omega)) h5)
   ·rcases Bfm i k with hlt | hge
    ·exact absurd h1 (T.stays h6 (by omega) (by omega))
    ·exact absurd h5 (T.stays h2 (by omega) (by omega))
  rw[this];cases hq:look (tr 0).heap n with
  | none=>rfl
  | some x=>exact absurd h1 (T.stays (j:=0) (by rw[hq]; simp) (by omega) (by omega))
 ·have hm:=hs.out n h1;rw[hs.mask,Bfb hm,hs.seen] at h2;have e1:=hout h1;rw[e1] at h1 ⊢;have ht:Ajo E ops M tr n k:=⟨o,ho,h2.imp id fun e=>⟨e,h1⟩⟩
  refine Agn (val:=fun k=>look (tr k).heap n) hkN ht (.inr rfl) fun i hlt hi hti hSi=>?_
  have hSi:=hSi.resolve_right (by omega);have hoi:ops[i]?=some ops[i]:=Be9 hi;rcases T.P8 hoi hti with ⟨h5,_⟩ | ⟨h5,_⟩
  ·exact hm (T.A09 hoi hkN (Vx hd hc hk hSi hlt) h5)
  ·exact absurd h5 (T.stays h1 (by omega) (by omega))
 ·rw[hs.seen] at h1;refine R5 fun j hj ht=>⟨fun h=>h.resolve_right fun e=>?_,.inl⟩
  subst e;obtain⟨o',ho',h3⟩:=ht;rw[ho] at ho'; cases ho';rcases h3 with h3 | ⟨h3,h4⟩
  ·exact h1 h3
  ·have hm:=hs.made h3 h4;refine h2 ⟨by rw[hs.mask,Bfb hm]; exact h3,?_⟩;rw[hs.heap,Bfb hm] at h4; exact h4
 ·split
  ·rename_i ht
   have h1:Ahn ops tr (fun j=>S j\/j=k) t=(tr (k+1)).tmps.getD t .undef:=by
    refine Agn (val:=fun k=>(tr k).tmps.getD t .undef) hkN ⟨ht.2,o,ho,ht.1⟩ (.inr rfl) fun i hlt hi hti hSi=>?_
    obtain⟨_,p,hp,hdst⟩:=hti;have:=hd.once i k p o t hp ho ht.1 hdst;omega
   rw[h1,hs.getD,Bfc ⟨ht.1,by rw[T.len (by omega)]; exact ht.2⟩]
  ·rename_i ht;refine R5 fun j hj hj'=>⟨fun h=>h.resolve_right fun e=>?_,.inl⟩
   subst e;obtain⟨h1,p,hp,hdst⟩:=hj';rw[ho] at hp; cases hp;exact ht ⟨hdst,h1⟩
end
section
variable{P:Program}{E:Env}{S:Aha E}{I0:Nat->Prop}{B:Nat}{w0:World}
theorem Atg{β:Type}(he:Ke P E){ops:Array Oper}{draw:Bool}{Q:Exit->Act->World->Prop}{K:St->Option β}{r:β} :
 ∀(l:List Oper) (k:Nat) (st:St),(∀j,l[j]?=ops[k+j]?)->A4l E ops draw l st K=some r->∀a w,G1 S I0 B w0 st a w ->
 (∀st a w,K st=some r->G1 S I0 B w0 st a w->Q .normal a w)->wpOps P ops Q (List.range' k l.length) a w
 | [],k,st,_,h,a,w,hh,hQ=>hQ st a w h hh
 | o::l,k,st,hl,h,a,w,hh,hQ=>by
   simp only[A4l] at h;cases hs:Ab7 E ops draw st o with
   | none=>rw[hs] at h; cases h
   | some x =>
     obtain⟨b,st'⟩:=x;rw[hs] at h;simp only at h;cases b with
     | false=>cases h
     | true =>
       simp only[Bep] at h;obtain⟨d,hd⟩:=Ad8 he hs;have ho:ops[k]?=some o:=by simpa using(hl 0).symm
       rw[List.length_cons,List.range'_succ];simp only[wpOps,ho];have:=hh.step hd (Q:=Q) (wpOps P ops Q (List.range' (k+1) l.length)) (fun v w' hv=>Atg he l (k+1) st' (fun j=>by have:=hl (j+1); simpa[yk,xu 1 j] using this) h _ _ hv hQ);split
       ·rename_i hw; rw[Bfc hw] at this; exact .inl this
       ·rename_i hw; rw[Bfb hw] at this; exact this
theorem Mo.congr{A:Nat->Option Place}{f f':Nat->Option (Bool × OB)}{g g':Nat->DV}{len len':Nat}{a:Act}{w:World}(h:Mo S I0 B w0 A f g len a w)(hf:∀n,f n=f' n)(hg:∀t,g t=g' t)(hl:len=len'):Mo S I0 B w0 A f' g' len' a w:=by obtain rfl:f=f':=funext hf;obtain rfl:g=g':=funext hg;subst hl; exact h
def Pv(listed:Array Bool)(j:Nat):Prop:=listed.getD j false=true
theorem Ui{l:Array Bool}{j:Nat}(h:l.getD j true=false):j<l.size/\l.getD j false=false:=by
 rcases Bfm j l.size with h' | h'
 ·refine⟨h',?_⟩;simp only[yf,Be9 h',Bf9] at h ⊢; exact h
 ·simp[yf,vX h'] at h
theorem Abt{listed:Array Bool}{k:Nat}(hk:k<listed.size)(j:Nat):Pv (listed.setIfInBounds k true) j↔Pv listed j\/j=k:=by
 unfold Pv;simp only[yf];by_cases e:k=j
 ·subst e; simp[hk]
 ·rw[vW e];exact⟨.inl,fun h=>h.resolve_right (fun h=>e h.symm)⟩
theorem count_set{listed:Array Bool}{k:Nat}(h:listed.getD k true=false):(listed.setIfInBounds k true).toList.count false+1=listed.toList.count false:=by
 obtain⟨hk,h2⟩:=Ui h;have hk':k<listed.toList.length:=by simpa using hk
 have hv:listed.toList[k]=false:=by simpa[yf,Be9 hk] using h2
 have hp:0<List.count false listed.toList:=List.count_pos_iff.2 (hv ▸ List.getElem_mem hk');rw[Array.toList_setIfInBounds,List.count_set hk',hv,Bfc (Bfp _),Bfb (by simp)];omega
theorem A82{ops:Array Oper}{M:List (Nat × List Nat)}{tr:Nat->St}(hd:Yr ops)(T:Trace P E ops (ops.toList.map Ky) M tr){Q:Exit->Act->World->Prop}
 (hQ:∀a w,G1 S I0 B w0 (tr ops.size) a w->Q .normal a w):∀(fuel:Nat) (listed:Array Bool) (a:Act) (w:World),listed.size=ops.size->Ab3 ops (Pv listed)->listed.toList.count false=fuel ->
 (∃A,Mo S I0 B w0 A (Vn E ops M tr (Pv listed)) (Ahn ops tr (Pv listed)) (tr 0).tmps.length a w)->wpAny P .any ops Q fuel listed a w:=by
 have last:∀(listed:Array Bool) (a:Act) (w:World),listed.size=ops.size->Region.ready .any ops listed=[]->(∃A,Mo S I0 B w0 A (Vn E ops M tr (Pv listed)) (Ahn ops tr (Pv listed)) (tr 0).tmps.length a w)->Q .normal a w:=by
  rintro listed a w hsz hr ⟨A,h⟩
  have all:∀k,k<ops.size->Pv listed k:=by
   intro k
   induction k using Nat.strongRecOn with
   | _ k ih =>
     intro hk;refine yZ fun hn=>?_
     have:k∈Region.ready .any ops listed:=mem_ready.2 ⟨?_,ops[k],Be9 hk,fun e he hb=>?_⟩
     ·rw[hr] at this; cases this
     ·unfold Pv at hn;have hk':k<listed.size:=by omega
      simp only[yf,Be9 hk',Bf9,zF] at hn ⊢;exact hn
     ·have hlt:=hd.lt k ops[k] (Be9 hk) e.on (Ang.2 ⟨e,he,hb,rfl⟩);exact ih e.on hlt (by omega)
  refine hQ a w ⟨A,h.congr (fun n=>?_) (fun t=>?_) (T.len (Bfj _)).symm⟩
  ·exact Pe (val:=fun k=>look (tr k).heap n) (fun j hj ht=>T.Axz hj ht) (Bfj _) fun j hj _=>⟨fun _=>hj,fun _=>all j hj⟩
  ·exact Pe (val:=fun k=>(tr k).tmps.getD t .undef) (fun j hj ht=>T.A62 hj ht) (Bfj _) fun j hj _=>⟨fun _=>hj,fun _=>all j hj⟩
 intro fuel
 induction fuel with
 | zero =>
   intro listed a w hsz hc hf h
   have hr:Region.ready .any ops listed=[]:=by
    refine List.eq_nil_iff_forall_not_mem.2 fun k hk=>?_
    have h1:=count_set (mem_ready.1 hk).1;omega
   exact⟨hr,last listed a w hsz hr h⟩
 | succ fuel ih =>
   intro listed a w hsz hc hf h;refine⟨fun hr=>last listed a w hsz hr h,fun k hk=>?_⟩;obtain⟨hun,o,ho,hall⟩:=mem_ready.1 hk;obtain⟨hks,hkf⟩:=Ui hun;have hkS:¬Pv listed k:=by unfold Pv; rw[hkf]; simp
   have hrS:∀i∈Ky o,Pv listed i:=fun i hi=>by obtain⟨e,he,hb,rfl⟩:=Ang.1 hi;exact hall e he hb
   obtain⟨A,h⟩:=h
   have hstep:=T.step hd hc ho hkS hrS h (Q:=Q) (wpAny P .any ops Q fuel (listed.setIfInBounds k true)) (fun v w' hv=>by
    obtain⟨A',hv⟩:=hv;refine ih _ _ _ (by simp[hsz]) ?_ ?_ ⟨A',hv.congr (fun n=>?_) (fun t=>?_) rfl⟩
    ·intro j p hp hj i hi;rw[Abt hks] at hj ⊢;rcases hj with hj | rfl
     ·exact .inl (hc j p hp hj i hi)
     ·rw[ho] at hp; cases hp;exact .inl (hrS i hi)
    ·have:=count_set hun; omega
    ·exact R5 fun j _ _=>(Abt hks j).symm
    ·exact R5 fun j _ _=>(Abt hks j).symm)
   unfold wpOp;rw[ho];simp only;split
   ·rename_i hw; rw[Bfc hw] at hstep; exact .inl hstep
   ·rename_i hw; rw[Bfb hw] at hstep; exact hstep
theorem G1.drew{st:St}{a:Act}{w:World}(h:G1 S I0 B w0 st a w):G1 S I0 B w0 st a { w with drawn:=w.drawn+1 }:=by
 obtain⟨A,h⟩:=h;have hmv:Kd A w A { w with drawn:=w.drawn+1 }:=⟨Bfj _,(Kd.refl A w).names,(Kd.refl A w).live,fun _ _ _=>rfl⟩
 have hl:=hmv.Em (I0:=I0) (B:=B)
 exact⟨A,h.defers,h.size,h.below.trans ⟨rfl,rfl,rfl,Bfj _,fun _ _=>rfl⟩,h.hB,h.I0lt,fun n p hp=>by obtain⟨fo,h1,h2⟩:=h.obj n p hp;exact⟨fo,h1,Rx hl (fun _ _ _=>rfl) h2⟩,h.blkB,h.inj,fun t=>Au.Em hl _ _ (h.tmps t),h.kept,h.pin⟩
theorem A1p{β:Type}(he:Ke P E){id:Nat}{ops:Array Oper}{Q:Exit->Act->World->Prop}{K:St->Option β}{r:β}{st:St}(h:A1q E ops st K=some r){a:Act}{w:World}(hh:G1 S I0 B w0 st a w)
 (hQ:∀st a w,K st=some r->G1 S I0 B w0 st a w->Q .normal a w):(Code.region id ops true).wp P Q a w:=by
 unfold A1q at h;cases hc:Akz ops (ops.toList.map Ky) with
 | false=>rw[hc] at h; cases h
 | true =>
   rw[hc,Bep] at h;have hd:=Aoj hc;generalize (cond (Ara ops (ops.toList.map Ky) 0 ops.toList) (Akt E ops 0 ops.toList st) ([]))=M at h;obtain⟨tr,h0,h1,h2⟩:=Acf he ops.toList 0 st (fun j=>by simp) h
   have T:Trace P E ops (ops.toList.map Ky) M tr:=⟨fun k o ho=>by
    have:=(h2 k o (by simpa using ho)).1;rw[Bfz] at this; exact this,fun k o ho hlo=>by
    have:=(h2 k o (by simpa using ho)).2;rw[Bfz] at this; exact this hlo⟩
   refine wp_region_any he.mixed (A82 hd T (fun a w hw=>hQ _ a w (by simpa using h1) hw) _ _ _ _ (by simp) ?_ (by simp) ?_)
   ·intro k o _ hk;unfold Pv at hk;simp only[yf,wS] at hk;split at hk<;>cases hk
   ·obtain⟨A,hA⟩:=hh.drew;subst h0;refine⟨A,hA.congr (fun n=>?_) (fun t=>?_) rfl⟩
    ·refine(Pe (k:=0) (val:=fun k=>look (tr k).heap n) (fun j hj ht=>T.Axz hj ht) (by omega) fun j hj _=>⟨fun hk=>?_,fun h=>by omega⟩).symm;unfold Pv at hk;simp only[yf,wS] at hk;split at hk<;>cases hk
    ·refine(Pe (k:=0) (val:=fun k=>(tr k).tmps.getD t .undef) (fun j hj ht=>T.A62 hj ht) (by omega) fun j hj _=>⟨fun hk=>?_,fun h=>by omega⟩).symm;unfold Pv at hk;simp only[yf,wS] at hk;split at hk<;>cases hk
end
def Ctx.only(c:Ctx)(ns:List Nat):Ctx:={ c with at_:=fun n=>if n∈ns then c.at_ n else none }
theorem T3{n:Nat}{l:List Nat}(h:l.contains n=true):n∈l:=by simpa using h
theorem Akd{c:Ctx}{w:World}(ns:List Nat):∀(f:Nat) (d:DV) (v:Value),Gp f ns d=true->Au c w d v->Au (c.only ns) w d v:=by
 intro f
 induction f with
 | zero=>intro d v h; simp[Gp] at h
 | succ f ih =>
   have all:∀(l:List DV) (vs:List Value),l.all (Gp f ns)=true->Bh c w l vs->Bh (c.only ns) w l vs:=by
    intro l
    induction l with
    | nil=>intro vs _ h; rw[Bh.Im] at h ⊢; exact h
    | cons d l ihl =>intro vs h hv;simp only[List.all_cons,Be0] at h;rw[Bh.Df] at hv ⊢;obtain⟨u,us,e,h1,h2⟩:=hv;exact⟨u,us,e,ih d u h.1 h1,ihl us h.2 h2⟩
   intro d v h hv;cases d with
   | agg l =>simp only[Gp] at h;simp only[Au] at hv ⊢;obtain⟨vs,e,hl⟩:=hv;exact⟨vs,e,all l _ h hl⟩
   | tup l =>simp only[Gp] at h;simp only[Au] at hv ⊢;obtain⟨vs,e,hl⟩:=hv;exact⟨vs,e,all l _ h hl⟩
   | fn g a b =>simp only[Gp,Be0] at h;simp only[Au] at hv ⊢;obtain⟨fs,cs,e,h1,h2⟩:=hv;exact⟨fs,cs,e,all a _ h.1 h1,all b _ h.2 h2⟩
   | gd g d =>simp only[Gp] at h;simp only[Au] at hv ⊢;exact⟨fun e=>ih d v h (hv.1 e),hv.2⟩
   | oref n =>simp only[Gp] at h;simp only[Au] at hv ⊢;obtain⟨h1,p,hp,hd⟩:=hv;exact⟨h1,p,by simp only[Ctx.only,T3 h,if_true]; exact hp,hd⟩
   | sref n o m =>simp only[Gp] at h;simp only[Au] at hv ⊢;obtain⟨h1,p,hp,hd⟩:=hv;exact⟨h1,p,by simp only[Ctx.only,T3 h,if_true]; exact hp,hd⟩
   | ptr n i j =>simp only[Gp] at h;simp only[Au] at hv ⊢;obtain⟨h1,p,hp,hd⟩:=hv;exact⟨h1,p,by simp only[Ctx.only,T3 h,if_true]; exact hp,hd⟩
   | ints g k l=>cases g<;>(simp only[Au] at hv ⊢; exact hv)
   | recs g k l=>cases g<;>(simp only[Au] at hv ⊢; exact hv)
   | undef=>simp only[Au]
   | _=>simp only[Au] at hv ⊢; exact hv
def Afu(n:Nat):List (Nat × Nat × Nat × OB)->Option (Nat × Nat × Nat × OB)
 | []=>none
 | x::xs=>if x.2.2.1=n then some x else Afu n xs
theorem Abp{n:Nat}:∀{l:List (Nat × Nat × Nat × OB)} {x},Afu n l=some x->x∈l/\x.2.2.1=n
 | [],x,h=>by cases h
 | y::l,x,h=>by
   simp only[Afu] at h;split at h
   ·cases h; exact⟨Bf4,‹_›⟩
   ·exact⟨Bfu _ (Abp h).1,(Abp h).2⟩
theorem Z8:∀{l:List (Nat × Nat × Nat × OB)} {x},(l.map (·.2.2.1)).Nodup->x∈l->Afu x.2.2.1 l=some x
 | [],x,_,h=>by cases h
 | y::l,x,hn,h=>by
   simp only[yx,xM] at hn;simp only[Afu];rcases zu.1 h with rfl | h
   ·rw[Bfc rfl]
   ·rw[Bfb (fun e=>hn.1 (by rw[e]; exact zw.2 ⟨x,h,rfl⟩))];exact Z8 hn.2 h
theorem X7{b j nm:Nat}:∀{l:List (Nat × Nat × Nat × OB)},Oc b j l=some nm->∃ob,(b,j,nm,ob)∈l
 | [],h=>by cases h
 | (b',j',nm',ob)::l,h=>by
   simp only[Oc] at h;cases hb:(zg b b'&&zg j j') with
   | true =>rw[hb] at h;simp only[Bep,Bes] at h;simp only[Be0] at hb;have e1:=Be7 hb.1;have e2:=Be7 hb.2;subst e1 e2 h;exact⟨ob,Bf4⟩
   | false =>rw[hb] at h;obtain⟨ob',h'⟩:=X7 h;exact⟨ob',Bfu _ h'⟩
theorem Aey{st:St}:∀{l:List (Nat × Nat × Nat × OB)} {h:Ev} {ns:List Nat},Aez st l=some (h,ns)->(l.map (·.2.2.1)).Nodup->ns.Nodup ->
 (∀x∈l,∃s ob,Akh st x=some (s,ob)/\look h x.2.2.1=some (false,ob)/\∀n,s=some n->n∈ns) /\
 (∀n fo,look h n=some fo->∃x∈l,x.2.2.1=n) /\
 (∀x∈l,∀y∈l,∀n ob ob',Akh st x=some (some n,ob)->Akh st y=some (some n,ob')->x=y)
 | [],h,ns,hs,_,_=>by simp only[Aez,Bes,Bey] at hs;obtain⟨rfl,rfl⟩:=hs;exact⟨fun x hx=>(by cases hx),fun n fo hl=>(by cases hl),fun x hx=>(by cases hx)⟩
 | x::l,h,ns,hs,hn,hns=>by
   simp only[Aez] at hs;cases ho:Akh st x with
   | none=>simp[ho] at hs
   | some r =>
     obtain⟨s,ob⟩:=r;cases hl:Aez st l with
     | none=>simp[ho,hl] at hs
     | some r =>
       obtain⟨h',ns'⟩:=r;simp only[ho,hl,Bes,Bey] at hs;obtain⟨rfl,rfl⟩:=hs;simp only[yx,xM] at hn;rw[List.nodup_append] at hns;obtain⟨i1,i2,i3⟩:=Aey hl hn.2 hns.2.1;have hx:∀y∈l,x.2.2.1≠y.2.2.1:=fun y hy e=>hn.1 (by rw[e]; exact zw.2 ⟨y,hy,rfl⟩)
       have cross:∀y∈l,∀n ob ob',Akh st x=some (some n,ob)->Akh st y=some (some n,ob')->False:=by intro y hy n o1 o2 h1 h2;rw[ho] at h1; cases h1;obtain⟨s',ob',h3,_,h4⟩:=i1 y hy;rw[h2] at h3; cases h3;exact hns.2.2 n (by simp) n (h4 n rfl) rfl
       refine⟨fun y hy=>?_,fun n fo hl'=>?_,fun y hy z hz n o1 o2 h1 h2=>?_⟩
       ·rcases zu.1 hy with rfl | hy
        ·exact⟨s,ob,ho,by simp[look],fun n e=>by rw[e]; simp⟩
        ·obtain⟨s',ob',h1,h2,h3⟩:=i1 y hy;refine⟨s',ob',h1,?_,fun n e=>zH.2 (.inr (h3 n e))⟩;simp only[look,show(x.2.2.1==y.2.2.1)=false by simpa using hx y hy,Bet];exact h2
       ·simp only[look] at hl';by_cases e:x.2.2.1=n
        ·exact⟨x,Bf4,e⟩
        ·rw[show(x.2.2.1==n)=false by simpa using e] at hl';obtain⟨y,hy,hyn⟩:=i2 n fo hl';exact⟨y,Bfu _ hy,hyn⟩
       ·rcases zu.1 hy with e1 | hy2
        ·rcases zu.1 hz with e2 | hz2
         ·rw[e1,e2]
         ·exact(cross z hz2 n o1 o2 (e1 ▸ h1) h2).elim
        ·rcases zu.1 hz with e2 | hz2
         ·exact(cross y hy2 n o2 o1 (e2 ▸ h2) h1).elim
         ·exact i3 y hy2 z hz2 n o1 o2 h1 h2
theorem Acs{st:St}{H:A9}:∀{bs:List Nat} {h:Ev},Yo st H bs=some h->bs.Nodup ->
 (∀b∈bs,∃f cs,look st.heap b=some (f,.box cs)/\Wj H.objs H.boxes (b+1) 0 cs=true/\look h b=some (f,.box (Ym H.objs (b+1) 0 cs)))/\(∀n fo,look h n=some fo->n∈bs)
 | [],h,hs,_=>by simp only[Yo,Bes] at hs;subst hs;exact⟨fun x hx=>(by cases hx),fun n fo hl=>(by cases hl)⟩
 | b::bs,h,hs,hn=>by
   simp only[Yo] at hs;split at hs
   ·rename_i f cs hl;cases hc:Wj H.objs H.boxes (b+1) 0 cs with
    | false=>rw[hc] at hs; cases hs
    | true =>
      rw[hc,Bep] at hs;cases hb:Yo st H bs with
      | none=>rw[hb] at hs; cases hs
      | some h' =>
        rw[hb] at hs;simp only[Bes] at hs;subst hs;simp only[xM] at hn;obtain⟨i1,i2⟩:=Acs hb hn.2;refine⟨fun c hc'=>?_,fun n fo hl'=>?_⟩
        ·rcases zu.1 hc' with rfl | hc'
         ·exact⟨f,cs,hl,hc,by simp[look]⟩
         ·obtain⟨f',cs',h1,h2,h3⟩:=i1 c hc';refine⟨f',cs',h1,h2,?_⟩;have:b≠c:=fun e=>hn.1 (e ▸ hc')
          simp only[look,show(b==c)=false by simpa using this,Bet];exact h3
        ·simp only[look] at hl';by_cases e:b=n
         ·rw[e]; exact Bf4
         ·rw[show(b==n)=false by simpa using e] at hl';exact Bfu _ (i2 n fo hl')
   ·cases hs
theorem Ahm{H:A9}:∀(l:List DV) (k i:Nat),i<l.length->(Ad3 H k l).getD i .undef=(match Oc 0 (k+i) H.objs with | some nm=>.oref nm | none=>bif Po (k+i) H.keep then l.getD i .undef else .undef)
 | [],k,i,h=>by simp at h
 | d::l,k,i,h=>by
   cases i with
   | zero =>simp only[Ad3,List.getD_cons_zero,Bfx];cases Oc 0 k H.objs<;>rfl
   | succ i =>have:=Ahm (H:=H) l (k+1) i (by simpa using h);simp only[Ad3,wU,this];rw[show k+1+i=k+(i+1) by omega]
theorem Tf{H:A9}:∀(l:List DV) (k:Nat),(Ad3 H k l).length=l.length
 | [],k=>rfl
 | d::l,k=>by simp[Ad3,Tf l]
theorem Aew{H:A9}:∀{l:List DV} {k i:Nat},Aex H k l=true->i<l.length->Oc 0 (k+i) H.objs=none->Po (k+i) H.keep=true->Gp 8 H.boxes (l.getD i .undef)=true
 | [],k,i,_,h,_,_=>by simp at h
 | d::l,k,i,h,hi,h1,h2=>by
   simp only[Aex,Be0,zK,xc] at h;cases i with
   | zero =>
     rcases h.1 with h | h | h
     ·rw[Bfx] at h1; rw[h1] at h; cases h
     ·rw[Bfx] at h2; rw[h2] at h; cases h
     ·exact h
   | succ i =>rw[wU];exact Aew (k:=k+1) h.2 (by simpa using hi) (by rw[show k+1+i=k+(i+1) by omega]; exact h1) (by rw[show k+1+i=k+(i+1) by omega]; exact h2)
theorem Agc{c c':Ctx}{w:World}{objs:List (Nat × Nat × Nat × OB)}{boxes:List Nat}{b:Nat} :
 ∀(l:List DV) (vs:List Value) (k:Nat),Wj objs boxes b k l=true->Bh c w l vs ->
 (∀d v,Gp 8 boxes d=true->Au c w d v->Au c' w d v)->(∀i nm d v,l[i]?=some d->Oc b (k+i) objs=some nm->Au c w d v->Au c' w (.oref nm) v)->Bh c' w (Ym objs b k l) vs
 | [],vs,k,_,h,_,_=>by rw[Bh.Im] at h; subst h; simp[Ym,Bh]
 | d::l,vs,k,hok,h,h1,h2=>by
   simp only[Wj,Be0,zK] at hok;rw[Bh.Df] at h;obtain⟨u,us,rfl,hu,hus⟩:=h;simp only[Ym];rw[Bh.Df];refine⟨u,us,rfl,?_,Agc l us (k+1) hok.2 hus h1 fun i nm e v hi hn=>h2 (i+1) nm e v hi (by rw[show k+(i+1)=k+1+i by omega]; exact hn)⟩;cases hn:Oc b k objs with
   | some nm=>exact h2 0 nm d u rfl hn hu
   | none =>rw[hn] at hok;exact h1 d u (hok.1.resolve_left (by simp)) hu
def A8a:OB->Nat
 | .recs _ sz _=>sz
 | _=>1
def Nm(ob:OB):Place:=⟨.live,.row (.slice none 0 0) (A8a ob)⟩
open Classical in
def S3(st:St)(H:A9)(A:Nat->Option Place)(n:Nat):Option Place :=
 if n∈H.boxes then A n else
 match Afu n H.objs with
 | some x=>match Yz st x with
   | .nil=>some (Nm x.2.2.2)
   | .oref m=>A m
   | _=>none
 | none=>none
theorem Oe{st:St}{H:A9}{A:Nat->Option Place}{n:Nat}{p:Place}(h:S3 st H A n=some p) :
 (n∈H.boxes/\A n=some p)\/(n ∉ H.boxes/\∃x∈H.objs,x.2.2.1=n/\((Yz st x=.nil/\p=Nm x.2.2.2)\/∃m,Yz st x=.oref m/\A m=some p)):=by
 unfold S3 at h;by_cases hb:n∈H.boxes
 ·rw[Bfc hb] at h; exact .inl ⟨hb,h⟩
 ·rw[Bfb hb] at h;refine .inr ⟨hb,?_⟩;cases hf:Afu n H.objs with
  | none=>rw[hf] at h; cases h
  | some x =>
    rw[hf] at h;obtain⟨hx,hn⟩:=Abp hf;refine⟨x,hx,hn,?_⟩;simp only at h;split at h
    ·rename_i e; cases h; exact .inl ⟨e,rfl⟩
    ·rename_i m e; exact .inr ⟨m,e,h⟩
    ·cases h
theorem Vc{st:St}{x:Nat × Nat × Nat × OB}{s:Option Nat}{ob:OB}(h:Akh st x=some (s,ob)) :
 (Yz st x=.nil/\s=none/\ob=x.2.2.2/\((∃e k,ob=.ints e k [])\/∃e sz,0<sz/\ob=.recs e sz [])) \/
 (∃m,Yz st x=.oref m/\s=some m/\look st.heap m=some (false,ob)/\((∃e k l,ob=.ints e k l)\/∃e sz l,ob=.recs e sz l)):=by
 unfold Akh at h;split at h
 ·rename_i hs;left;split at h
  ·rename_i e k hx;simp only[Bes,Bey] at h;exact⟨hs,h.1.symm,by rw[hx]; exact h.2.symm,.inl ⟨e,k,h.2.symm⟩⟩
  ·rename_i e sz hx;cases hb:yV 0 sz with
   | false=>rw[hb] at h; cases h
   | true =>rw[hb] at h;simp only[Bep,Bes,Bey] at h;exact⟨hs,h.1.symm,by rw[hx]; exact h.2.symm,.inr ⟨e,sz,by simpa[Nat.blt_eq] using hb,h.2.symm⟩⟩
  ·cases h
 ·rename_i m hs;right;split at h
  ·rename_i e k l hl;simp only[Bes,Bey] at h;exact⟨m,hs,h.1.symm,by rw[hl,h.2],.inl ⟨e,k,l,h.2.symm⟩⟩
  ·rename_i e sz l hl;simp only[Bes,Bey] at h;exact⟨m,hs,h.1.symm,by rw[hl,h.2],.inr ⟨e,sz,l,h.2.symm⟩⟩
  ·cases h
 ·cases h
section
variable{E:Env}{S:Aha E}{I0:Nat->Prop}{B:Nat}{w0:World}
theorem Axh{H:A9}{st st1:St}(h:Ary (some H) st=some st1){a:Act}{w:World}(hh:G1 S I0 B w0 st a w):G1 S I0 B w0 st1 a w:=by
 obtain⟨A,hA⟩:=hh;simp only[Ary] at h;cases hbd:Yo st H H.boxes with
 | none=>rw[hbd] at h; cases h
 | some hb =>
 cases hod:Aez st H.objs with
 | none=>rw[hbd,hod] at h; cases h
 | some r =>
 obtain⟨ho,ns⟩:=r;rw[hbd,hod] at h;simp only at h;cases hc:(Pm (H.boxes++H.objs.map (·.2.2.1))&&Pm ns&&Aex H 0 st.tmps) with
 | false=>rw[hc] at h; cases h
 | true =>
 rw[hc,Bep,Bes] at h;subst h;simp only[Be0] at hc;obtain⟨⟨hn,hns⟩,hok⟩:=hc;have hnd:=Mz hn;rw[List.nodup_append] at hnd;obtain⟨hnb,hno,hdis⟩:=hnd;obtain⟨o1,o2,o3⟩:=Aey hod hno (Mz hns);obtain⟨b1,b2⟩:=Acs hbd hnb;have hnin:∀x∈H.objs,x.2.2.1 ∉ H.boxes:=fun x hx e=>hdis _ e _ (zw.2 ⟨x,hx,rfl⟩) rfl
 have hat:∀x∈H.objs,S3 st H A x.2.2.1=match Yz st x with | .nil=>some (Nm x.2.2.2) | .oref m=>A m | _=>none:=by intro x hx;unfold S3;rw[Bfb (hnin x hx),Z8 hno hx]
 have hokc:∀b,(B1 I0 B A w).ok b->(B1 I0 B (S3 st H A) w).ok b:=by
  rintro b ⟨h1,h2,h3⟩
  refine⟨h1,h2,fun n p hp hl=>?_⟩;rcases Oe hp with ⟨_,hp⟩ | ⟨_,x,_,_,⟨_,rfl⟩ | ⟨m,_,hp⟩⟩
  ·exact h3 n p hp hl
  ·simp[Nm,Place.H8,Value.ownBlock]
  ·exact h3 m p hp hl
 have hrefs:∀d v,Gp 8 H.boxes d=true->Au (B1 I0 B A w) w d v->Au (B1 I0 B (S3 st H A) w) w d v:=by
  intro d v hd hv
  have hl:Pg ((B1 I0 B A w).only H.boxes) w (B1 I0 B (S3 st H A) w) w:=by
   refine⟨hokc,rfl,rfl,fun _ _ h=>(by cases h),fun n p hp=>?_,fun _ _ _=>rfl,fun _ _ h=>(by cases h)⟩;simp only[Ctx.only] at hp;split at hp
   ·rename_i hnb';refine⟨p,?_,?_⟩
    ·show S3 st H A n=some p;unfold S3;rw[Bfc hnb']; exact hp
    ·by_cases hpd:p.st=.dead
     ·exact .inl hpd
     ·exact .inr ⟨hpd,rfl⟩
   ·cases hp
  exact Au.Em hl d v (Akd H.boxes 8 d v hd hv)
 have hbare:∀l rows,D5 (B1 I0 B A w).bare w l rows->D5 (B1 I0 B (S3 st H A) w).bare w l rows:=fun l rows =>
  D5.Em (c:=(B1 I0 B A w).bare) (c':=(B1 I0 B (S3 st H A) w).bare) (w:=w) (w':=w) ⟨hokc,rfl,rfl,fun _ _ h=>(by cases h),fun _ _ h=>(by cases h),fun _ _ _=>rfl,fun _ _ h=>(by cases h)⟩ l rows
 have hnamed:∀x∈H.objs,∀v,Au (B1 I0 B A w) w (Yz st x) v->Au (B1 I0 B (S3 st H A) w) w (.oref x.2.2.1) v:=by
  intro x hx v hv;obtain⟨s,ob,h1,_,_⟩:=o1 x hx;have hax:=hat x hx;rcases Vc h1 with ⟨e,_⟩ | ⟨m,e,_⟩
  ·rw[e] at hv hax;simp only[Au] at hv ⊢;subst hv;exact⟨rfl,_,hax,.inr ⟨_,rfl⟩⟩
  ·rw[e] at hv hax;simp only[Au] at hv ⊢;obtain⟨h1,p,hp,hd⟩:=hv;exact⟨h1,p,hax.trans hp,hd⟩
 refine⟨S3 st H A,hA.defers,hA.size.trans (Tf _ _).symm,hA.below,hA.hB,hA.I0lt,fun n p hp=>?_,fun n p b hp hd hpb=>?_,fun n m p q b hp hq hpd hqd hpb hqb=>?_,fun t=>?_,fun b hb=>⟨(hA.kept b hb).1,(hA.kept b hb).2.1,fun n p hp hl hbk=>by
  rcases Oe hp with ⟨_,hp⟩ | ⟨_,x,_,_,⟨_,rfl⟩ | ⟨m,_,hp⟩⟩
  ·exact(hA.kept b hb).2.2 n p hp hl hbk
  ·simp[Nm,Place.H8,Value.ownBlock] at hbk
  ·exact(hA.kept b hb).2.2 m p hp hl hbk⟩,hA.pin⟩
 ·rcases Oe hp with ⟨hnb',hp⟩ | ⟨hnb',x,hx,rfl,hsrc⟩
  ·obtain⟨f,cs,h1,h2,h3⟩:=b1 n hnb';obtain⟨fo,h4,h5⟩:=hA.obj n p hp;rw[h1] at h4; cases h4;refine⟨(f,.box (Ym H.objs (n+1) 0 cs)),by rw[Rz,h3],?_⟩;obtain⟨hst,b,e,cells,hk,hh,hl⟩:=h5;refine⟨hst,b,e,cells,hk,hh,Agc cs _ 0 h2 hl hrefs fun i nm d v hi hnm hv=>?_⟩;obtain⟨ob,hx⟩:=X7 hnm;refine hnamed _ hx v ?_
   have:Yz st (n+1,0+i,nm,ob)=d:=by simp[Yz,h1,Bez,hi]
   rw[this]; exact hv
  ·obtain⟨s,ob,h1,h2,_⟩:=o1 x hx
   have hl:look (hb++ho) x.2.2.1=some (false,ob):=by
    rw[Rz];cases hq:look hb x.2.2.1 with
    | none=>exact h2
    | some fo=>exact absurd (b2 _ _ hq) hnb'
   refine⟨_,hl,?_⟩;rcases Vc h1 with ⟨e,_,e2,hob⟩ | ⟨m,e,_,hlm,hob⟩
   ·rcases hsrc with ⟨_,rfl⟩ | ⟨m,e',_⟩
    ·rw[<- e2];rcases hob with ⟨e,k,rfl⟩ | ⟨e,sz,hsz,rfl⟩
     ·exact⟨rfl,_,rfl,World.ownsRow_nil w B e 1⟩
     ·exact⟨rfl,hsz,_,[],rfl,by simp[D5],fun r hr=>(by cases hr),World.ownsRow_nil w B e sz⟩
    ·rw[e] at e'; cases e'
   ·rcases hsrc with ⟨e',_⟩ | ⟨m',e',hp'⟩
    ·rw[e] at e'; cases e'
    ·rw[e] at e'; cases e';obtain⟨fo,h4,h5⟩:=hA.obj m p hp';rw[hlm] at h4; cases h4;rcases hob with ⟨e,k,l,rfl⟩ | ⟨e,sz,l,rfl⟩
     ·exact h5
     ·obtain⟨i1,i2,sv,rows,i3,i4,i5,i6⟩:=h5;exact⟨i1,i2,sv,rows,i3,hbare _ _ i4,i5,i6⟩
 ·rcases Oe hp with ⟨_,hp⟩ | ⟨_,x,hx,rfl,⟨_,rfl⟩ | ⟨m,_,hp⟩⟩
  ·exact hA.blkB n p b hp hd hpb
  ·simp[Nm,Place.H8,Value.ownBlock] at hpb
  ·exact hA.blkB m p b hp hd hpb
 ·have isBox:∀n p,n∈H.boxes->A n=some p->∃b,p.kind=.box b:=by intro n p hnb' hp;obtain⟨f,cs,h1,_,_⟩:=b1 n hnb';obtain⟨fo,h4,h5⟩:=hA.obj n p hp;rw[h1] at h4; cases h4;obtain⟨_,b,_,_,hk,_⟩:=h5;exact⟨b,hk⟩
  have isRow:∀x∈H.objs,∀m p,Yz st x=.oref m->A m=some p->∃sv sz,p.kind=.row sv sz:=by
   intro x hx m p e hp;obtain⟨s,ob,h1,_,_⟩:=o1 x hx;rcases Vc h1 with ⟨e',_⟩ | ⟨m',e',_,hlm,hob⟩
   ·rw[e] at e'; cases e'
   ·rw[e] at e'; cases e';obtain⟨fo,h4,h5⟩:=hA.obj m p hp;rw[hlm] at h4; cases h4;rcases hob with ⟨e,k,l,rfl⟩ | ⟨e,sz,l,rfl⟩
    ·obtain⟨_,sv,hk,_⟩:=h5; exact⟨sv,1,hk⟩
    ·obtain⟨_,_,sv,_,hk,_⟩:=h5; exact⟨sv,sz,hk⟩
  have same:∀m m':Nat,∀p q:Place,A m=some p->A m'=some q->p.st≠.dead->q.st≠.dead->p.H8=some b->q.H8=some b->m=m':=fun m m' p q h1 h2 h3 h4 h5 h6=>hA.inj m m' p q b h1 h2 h3 h4 h5 h6
  rcases Oe hp with ⟨hnb',hp⟩ | ⟨_,x,hx,rfl,⟨_,rfl⟩ | ⟨i,hi,hp⟩⟩
  ·rcases Oe hq with ⟨_,hq⟩ | ⟨_,y,hy,rfl,⟨_,rfl⟩ | ⟨j,hj,hq⟩⟩
   ·exact same n m p q hp hq hpd hqd hpb hqb
   ·simp[Nm,Place.H8,Value.ownBlock] at hqb
   ·have e:=same n j p q hp hq hpd hqd hpb hqb;subst e;rw[hp] at hq; cases hq;obtain⟨b',hk⟩:=isBox n p hnb' hp;obtain⟨sv,sz,hk'⟩:=isRow y hy n p hj hp;rw[hk] at hk'; cases hk'
  ·simp[Nm,Place.H8,Value.ownBlock] at hpb
  ·rcases Oe hq with ⟨hmb,hq⟩ | ⟨_,y,hy,rfl,⟨_,rfl⟩ | ⟨j,hj,hq⟩⟩
   ·have e:=same i m p q hp hq hpd hqd hpb hqb;subst e;rw[hp] at hq; cases hq;obtain⟨b',hk⟩:=isBox i p hmb hp;obtain⟨sv,sz,hk'⟩:=isRow x hx i p hi hp;rw[hk] at hk'; cases hk'
   ·simp[Nm,Place.H8,Value.ownBlock] at hqb
   ·have e:=same i j p q hp hq hpd hqd hpb hqb;subst e;obtain⟨s,ob,h1,_,_⟩:=o1 x hx;obtain⟨s',ob',h1',_,_⟩:=o1 y hy
    have hs:s=some i:=by
     rcases Vc h1 with ⟨e',_⟩ | ⟨m',e',e2,_⟩
     ·rw[hi] at e'; cases e'
     ·rw[hi] at e'; cases e'; exact e2
    have hs':s'=some i:=by
     rcases Vc h1' with ⟨e',_⟩ | ⟨m',e',e2,_⟩
     ·rw[hj] at e'; cases e'
     ·rw[hj] at e'; cases e'; exact e2
    subst hs hs';rw[o3 x hx y hy i ob ob' h1 h1']
 ·rcases Bfm t st.tmps.length with hlt | hge
  ·rw[Ahm st.tmps 0 t hlt];cases hnm:Oc 0 (0+t) H.objs with
   | some nm =>
     obtain⟨ob,hx⟩:=X7 hnm;refine hnamed _ hx _ ?_;have:Yz st (0,0+t,nm,ob)=st.tmps.getD t .undef:=by simp[Yz]
     rw[this]; exact hA.tmps t
   | none =>
     simp only;cases hk:Po (0+t) H.keep with
     | true=>exact hrefs _ _ (Aew hok hlt hnm hk) (hA.tmps t)
     | false=>simp only[Bet,Au]
  ·rw[Bez,Bf7 (by rw[Tf]; exact hge)];simp only[Option.getD_none,Au]
theorem A3t{st:St}{a:Act}{w:World}(hh:G1 S I0 B w0 st a w):G1 S I0 B w0 (Apo st) a w:=by
 obtain⟨A,hA⟩:=hh;refine⟨A,hA.defers,hA.size.trans (by unfold Apo; rw[Bfv]),hA.below,hA.hB,hA.I0lt,hA.obj,hA.blkB,hA.inj,fun t=>?_,hA.kept,hA.pin⟩;have ht:=hA.tmps t
 have e:(Apo st).tmps.getD t .undef=Ayt st.heap (st.tmps.getD t .undef):=by
  unfold Apo;rw[Bez,Bez,Bf6];cases st.tmps[t]? with
  | none=>rfl
  | some d=>rfl
 rw[e];generalize st.tmps.getD t .undef=d at ht;cases d with
 | oref n =>
   have e2:Ayt st.heap (.oref n)=(match look st.heap n with
    | some (true,.ints _ k l)=>.ints .fresh k l
    | some (true,.recs _ sz l)=>.recs .fresh sz l
    | _=>.oref n):=rfl
   rw[e2];have hm:Mem I0 B A st.heap w:=hA.mem fun n p fo hn hl=>hl
   have seen:∀p,A n=some p->p.st=.frozen->∀b,p.H8=some b->(B1 I0 B A w).H8 .fresh b:=fun p hp hf b hb=>by obtain⟨h1,h2⟩:=hA.blkB n p b hp (by rw[hf]; simp) hb;refine⟨⟨h2,.inr h1,fun m q hq hl hqb=>?_⟩,rfl,h1⟩;have:=hA.inj n m p q b hp hq (by rw[hf]; simp) (by rw[hl]; simp) hb hqb;subst this;rw[hp] at hq; cases hq;rw[hf] at hl; cases hl
   have hv:=ht;simp only[Au] at hv;obtain⟨hone,p,hp,hd⟩:=hv;split
   ·rename_i e k l hl;obtain⟨hst,sv,hk,ho⟩:=Fk hm hp hl;have hst':p.st=.frozen:=hst;obtain⟨size,hk'⟩:=hd.resolve_left (by rw[hst']; simp);rw[hk] at hk'; cases hk';have:=Mv hk ho (Gx ho) (ok:=(B1 I0 B A w).H8 .fresh) (seen p hp hst');simp only[zW,ym] at this;simp only[Au];exact this
   ·rename_i e sz l hl;obtain⟨hst,hsz,sv,rows,hk,hrr,hlen,ho⟩:=Gh hm hp hl;have hst':p.st=.frozen:=hst;obtain⟨size,hk'⟩:=hd.resolve_left (by rw[hst']; simp);rw[hk] at hk'; cases hk';have:=Mu hk hrr hlen ho (Gx ho) (ok:=(B1 I0 B A w).H8 .fresh) (seen p hp hst');simp only[zW,ym] at this;simp only[Au];exact this
   ·exact ht
 | _=>exact ht
theorem A17{H:A9}{st st1:St}(h:canon (some H) st=some st1){a:Act}{w:World}(hh:G1 S I0 B w0 st a w):G1 S I0 B w0 st1 a w:=Axh (H:=A6o (Apo st) H) h (A3t hh)
end
section
variable{P:Program}{E:Env}{S:Aha E}{I0:Nat->Prop}{B:Nat}{w0:World}
theorem Arh{keep:Option (List Nat)}{st:St}(t:Nat):(forget keep st).tmps.getD t .undef=st.tmps.getD t .undef\/(forget keep st).tmps.getD t .undef=.undef:=by
 cases keep with
 | none=>exact .inl rfl
 | some ks =>
   simp only[forget,Bez,Bf6,List.getElem?_zipIdx];cases st.tmps[t]? with
   | none=>exact .inl rfl
   | some d =>
     simp only[zU,Bf9];cases ks.contains (0+t)
     ·exact .inr rfl
     ·exact .inl rfl
theorem Ag8{keep:Option (List Nat)}{st:St}:(forget keep st).tmps.length=st.tmps.length:=by cases keep<;>simp[forget]
theorem An3{keep:Option (List Nat)}{st:St}:(forget keep st).heap=st.heap:=by cases keep<;>rfl
theorem G1.forget{keep:Option (List Nat)}{st:St}{a:Act}{w:World}(h:G1 S I0 B w0 st a w):G1 S I0 B w0 (forget keep st) a w:=by
 obtain⟨A,h⟩:=h;refine⟨A,h.defers,h.size.trans Ag8.symm,h.below,h.hB,h.I0lt,by rw[An3]; exact h.obj,h.blkB,h.inj,fun t=>?_,h.kept,h.pin⟩;rcases Arh (keep:=keep) (st:=st) t with e | e
 ·rw[e]; exact h.tmps t
 ·rw[e]; simp only[Au]
def A2q{β:Type}{E:Env}(P:Program)(S:Aha E)(I0:Nat->Prop)(B:Nat)(w0:World)(r:β)(c:Code)(body:St->(St->Option β)->(Nat->St->Option β)->(St->Option β)->Option β):Prop :=
 ∀(st:St) (Kn:St->Option β) (Kx:Nat->St->Option β) (Kr:St->Option β),body st Kn Kx Kr=some r->∀(a:Act) (w:World),G1 S I0 B w0 st a w->∀Q:Exit->Act->World->Prop,
  (∀st a w,Kn st=some r->G1 S I0 B w0 st a w->Q .normal a w)->(∀id st a w,Kx id st=some r->G1 S I0 B w0 st a w->Q (.exit id) a w) ->
  (∀st a w,Kr st=some r->G1 S I0 B w0 st a w->Q .ret a w)->c.wp P Q a w
theorem Ai1{H:Option A9}{st st1:St}(hc:canon H st=some st1){a:Act}{w:World}(hh:G1 S I0 B w0 st a w):G1 S I0 B w0 st1 a w:=by
 cases H with
 | none=>simp only[canon,Bes] at hc; subst hc; exact hh
 | some H=>exact A17 hc hh
theorem Ant{β:Type}{r:β}{c:Code}{body:St->(St->Option β)->(Nat->St->Option β)->(St->Option β)->Option β}(hb:A2q P S I0 B w0 r c body){H:Option A9}{Kx:Nat->St->Option β}{Kr:St->Option β}
 {Q:Exit->Act->World->Prop} (hx:∀id st a w,Kx id st=some r->G1 S I0 B w0 st a w->Q (.exit id) a w) (hr:∀st a w,Kr st=some r->G1 S I0 B w0 st a w->Q .ret a w) :
 ∀(n:Nat) (st:St),Z4 H body n st Kx Kr=some r->∀a w,G1 S I0 B w0 st a w->Code.rounds P c Q n a w
 | 0,st,h,_,_,_=>by simp[Z4] at h
 | n+1,st,h,a,w,hh=>by
   simp only[Z4] at h;rw[rounds_succ];refine hb st _ Kx Kr h a w hh _ (fun st2 a2 w2 hk hh2=>?_) (fun id st2 a2 w2 hk hh2=>hx id st2 a2 w2 hk hh2) (fun st2 a2 w2 hk hh2=>hr st2 a2 w2 hk hh2);cases hc:canon H st2 with
   | none=>rw[hc] at hk; cases hk
   | some st3 =>rw[hc] at hk;exact Ant hb hx hr n st3 hk a2 w2 (Ai1 hc hh2)
theorem A5a{β:Type}{r:β}{c:Code}{body:St->(St->Option β)->(Nat->St->Option β)->(St->Option β)->Option β}(hb:A2q P S I0 B w0 r c body){H:Option A9}{Kx:Nat->St->Option β}{Kr:St->Option β}
 {Q:Exit->Act->World->Prop} (hx:∀id st a w,Kx id st=some r->G1 S I0 B w0 st a w->Q (.exit id) a w) (hr:∀st a w,Kr st=some r->G1 S I0 B w0 st a w->Q .ret a w)
 (n:Nat) (st:St) (h:iter H body n st Kx Kr=some r) (a:Act) (w:World) (hh:G1 S I0 B w0 st a w):Code.rounds P c Q n a w:=by
 unfold iter at h;cases hc:canon H st with
 | none=>rw[hc] at h; cases h
 | some st1 =>rw[hc] at h;exact Ant hb hx hr n st1 h a w (Ai1 hc hh)
theorem T1{β:Type}(he:Ke P E)(fuel:Nat)(r:β):∀(c:Code) (b:Nat),A2q P S I0 B w0 r c (den E fuel b c)
 | .skip,b=>fun st Kn Kx Kr h a w hh Q hn hx hr=>by simp only[den] at h;exact wp_skip (hn st a w h hh)
 | .label l,b=>fun st Kn Kx Kr h a w hh Q hn hx hr=>by simp only[den] at h;exact wp_label (hn st a w h hh)
 | .region id ops draw,b=>fun st Kn Kx Kr h a w hh Q hn hx hr=>by
   simp only[den] at h
   have reg:∀st,Amz E ops draw Kn st=some r->G1 S I0 B w0 st a w->(Code.region id ops draw).wp P Q a w:=by
    intro st h hh;cases draw with
    | true=>exact A1p he h hh hn
    | false =>simp only[Amz,Bet] at h;have:=Atg he ops.toList 0 _ (fun j=>by simp) h a w hh hn;rw[ya,<- List.range_eq_range'] at this;exact wp_region this
   cases hl:E.live id with
   | none=>rw[hl] at h; exact reg st h hh
   | some ks =>rw[hl] at h;simp only[Ahr] at h;exact reg _ h hh.forget
 | .seq x y,b=>fun st Kn Kx Kr h a w hh Q hn hx hr=>by simp only[den] at h;refine wp_seq (T1 he fuel r x b st _ Kx Kr h a w hh _ (fun st' a' w' hk hh'=>?_) (fun id st' a' w' hk hh'=>hx id st' a' w' hk hh') (fun st' a' w' hk hh'=>hr st' a' w' hk hh'));exact T1 he fuel r y b st' Kn Kx Kr hk a' w' hh' Q hn hx hr
 | .cond c x y,b=>fun st Kn Kx Kr h a w hh Q hn hx hr=>by
   simp only[den] at h;cases hv:Is st.tmps c with
   | bool t =>
     rw[hv] at h;simp only at h
     have hev:a.eval c=.bool t:=by
      obtain⟨A,hA⟩:=hh
      have:Au (B1 I0 B A w) w (Is st.tmps c) (a.eval c):=by
       cases c with
       | tmp t=>exact hA.tmps t
       | const v=>exact Aiw v
       | global g=>simp only[Is,Au]
       | func f=>simp[Is] at hv
      rw[hv] at this;simpa only[Au] using this
     refine wp_cond hev ?_;cases t with
     | true=>exact T1 he fuel r x b st Kn Kx Kr h a w hh Q hn hx hr
     | false=>exact T1 he fuel r y b st Kn Kx Kr h a w hh Q hn hx hr
   | _=>rw[hv] at h; cases h
 | .block id c,b=>fun st Kn Kx Kr h a w hh Q hn hx hr=>by
   simp only[den] at h;refine wp_block (T1 he fuel r c id st Kn _ Kr h a w hh _ (fun st' a' w' hk hh'=>hn st' a' w' hk hh') (fun id' st' a' w' hk hh'=>?_) (fun st' a' w' hk hh'=>hr st' a' w' hk hh'));simp only[Exit.inBlock];by_cases e:id'=id
   ·rw[Bfc e];rw[show(id'==id)=true by simpa using e] at hk;exact hn st' a' w' hk hh'
   ·rw[Bfb e];rw[show(id'==id)=false by simpa using e] at hk;exact hx id' st' a' w' hk hh'
 | .loop c,b=>fun st Kn Kx Kr h a w hh Q hn hx hr=>by simp only[den] at h;exact wp_loop_rounds fuel (A5a (T1 he fuel r c b) hx hr fuel st h a w hh)
 | .scope c,b=>fun st Kn Kx Kr h a w hh Q hn hx hr=>by simp only[den] at h;exact wp_scope_straight (T1 he fuel r c b st Kn Kx Kr h a w hh _ (fun st' a' w' hk hh'=>hn st' a' w' hk hh') (fun id st' a' w' hk hh'=>hx id st' a' w' hk hh') (fun st' a' w' hk hh'=>hr st' a' w' hk hh'))
 | .exit id,b=>fun st Kn Kx Kr h a w hh Q hn hx hr=>by simp only[den] at h;exact wp_exit (hx id st a w h hh)
 | .ret,b=>fun st Kn Kx Kr h a w hh Q hn hx hr=>by simp only[den] at h;exact wp_ret (hr st a w h hh)
 | .rangeFunc ..,b=>fun st Kn Kx Kr h=>by simp[den] at h
 | .goto l,b=>fun st Kn Kx Kr h=>by simp[den] at h
 | .refuse s,b=>fun st Kn Kx Kr h=>by simp[den] at h
end
def Az4:List Value->Value
 | [v]=>v
 | vs=>.tuple vs.toArray
def Aa6(tmps:Array Value):ResultVar->Sem Value
 | .tmp t=>pure (tmps.getD t undef)
 | .cell a t=>do loadVar t (<- asAddr (tmps.getD a undef))
section
variable{P:Program}{E:Env}{S:Aha E}{I0:Nat->Prop}{B:Nat}{w0:World}{A:Nat->Option Place}
theorem Aqa{t:TypeId}{va v:Value}{w:World}(h:(Instr.loadAt t va).run P w=.ok v w):(do loadVar t (<- asAddr va):Sem Value).run P w=.ok v w:=by
 unfold Instr.loadAt at h;cases va with
 | pointer a =>
   cases a with
   | none=>simp[Instr.sureAddr] at h
   | some a =>simp only[Instr.sureAddr,asAddr] at h ⊢;exact h
 | _=>simp[Instr.sureAddr] at h
theorem Avm(hty:∀t ti,E.ty t=some ti->Cz P t ti){st:St}{a:Act}{w:World}(hA:Mo S I0 B w0 A (look st.heap) (fun t=>st.tmps.getD t .undef) st.tmps.length a w)
 {r:ResultVar} {d:DV} (h1:Aeq E st r=some d):∃v,Au (B1 I0 B A w) w d v/\(Aa6 a.tmps r).run P w=.ok v w:=by
 cases r with
 | tmp t =>simp only[Aeq,Bes] at h1;subst h1;exact⟨_,hA.tmps t,by simp[Aa6]⟩
 | cell x t =>
   simp only[Aeq] at h1;cases hT:E.ty t with
   | none=>simp[hT] at h1
   | some ti =>
     rw[hT,Bex] at h1;cases hl:Aif st.heap ti (st.tmps.getD x .undef) with
     | none=>rw[hl] at h1; cases h1
     | some q =>
       rw[hl,Bex] at h1;cases hq:q.req with
       | false=>rw[hq] at h1; cases h1
       | true =>
         rw[hq,Bep,Bes] at h1;subst h1;have hm:Mem I0 B A st.heap w:=hA.mem fun n p fo _ hl=>hl
         obtain⟨v,hr,hv⟩:=Anm hm (hty _ _ hT) (hA.tmps x) hl hq;exact⟨v,hv,Aqa hr⟩
theorem Aa7(hty:∀t ti,E.ty t=some ti->Cz P t ti){st:St}{a:Act}{w:World}(hA:Mo S I0 B w0 A (look st.heap) (fun t=>st.tmps.getD t .undef) st.tmps.length a w) :
 ∀(rs:List ResultVar) (ds:List DV),X2 E st rs=some ds->∃vs:List Value,Bh (B1 I0 B A w) w ds vs/\(rs.mapM (Aa6 a.tmps)).run P w=.ok vs w
 | [],ds,h=>by simp only[X2,Bes] at h; subst h;exact⟨[],by simp[Bh],rfl⟩
 | r::rs,ds,h=>by
   simp only[X2] at h;cases h1:Aeq E st r with
   | none=>simp[h1] at h
   | some d =>
     cases h2:X2 E st rs with
     | none=>simp[h1,h2] at h
     | some ds' =>simp only[h1,h2,Bex,Bes] at h;subst h;obtain⟨vs,i1,i2⟩:=Aa7 hty hA rs ds' h2;obtain⟨v,hv,hr⟩:=Avm hty hA h1;refine⟨v::vs,by rw[Bh.Df]; exact⟨v,vs,rfl,hv,i1⟩,?_⟩;simp only[List.mapM_cons,Sem.run_bind,hr,Result.andThen_ok,i2,Sem.run_pure]
theorem Acd{fn:Func}{tmps:Array Value}{w:World}{vs:List Value}(h:(fn.results.toList.mapM (Aa6 tmps)).run P w=.ok vs w) :
 (results fn tmps).run P w=.ok (Az4 vs) w:=by
 have h':(fn.results.mapM (Aa6 tmps)).run P w=.ok vs.toArray w:=by rw[Array.mapM_eq_mapM_toList];simp only[Sem.run_map,h,Result.andThen_ok]
 have e:results fn tmps=(do let vs<-fn.results.mapM (Aa6 tmps); pure (if h:vs.size=1 then vs[0] else .tuple vs)):=by unfold results;congr 2
 rw[e];simp only[Sem.run_bind,h',Result.andThen_ok,Sem.run_pure];congr 1
 match vs with
 | []=>rfl
 | [v]=>rfl
 | v::u::us=>simp[Az4]
def Q1(h:Ev)(f:Nat)(l:List DV):Option (List DV × List Nat × List Nat) :=l.foldr (fun d acc=>(H9 h f d).bind fun(x,ns,os)=>acc.bind fun(xs,ms,ps)=>some (x::xs,ns++ms,os++ps)) (some ([],[],[]))
theorem Aa9{h:Ev}{f:Nat}{d:DV}{l:List DV}{r:List DV × List Nat × List Nat}(hh:Q1 h f (d::l)=some r) :
 ∃x ns os xs ms ps,H9 h f d=some (x,ns,os)/\Q1 h f l=some (xs,ms,ps)/\r=(x::xs,ns++ms,os++ps):=by
 have e:Q1 h f (d::l)=(H9 h f d).bind fun(x,ns,os)=>(Q1 h f l).bind fun(xs,ms,ps)=>some (x::xs,ns++ms,os++ps):=rfl
 rw[e] at hh;cases h1:H9 h f d with
 | none=>simp[h1] at hh
 | some a =>
   obtain⟨x,ns,os⟩:=a;cases h2:Q1 h f l with
   | none=>simp[h1,h2] at hh
   | some b =>obtain⟨xs,ms,ps⟩:=b;simp only[h1,h2,Bex,Bes] at hh;exact⟨x,ns,os,xs,ms,ps,rfl,rfl,hh.symm⟩
def O4(A:Nat->Option Place)(OS:List Nat)(i:Nat):Option Nat :=
 if i∈OS then match A i with
  | some p=>if p.st=.live then p.H8 else none
  | none=>none
 else none
theorem Sr{OS:List Nat}{i b:Nat}(h:O4 A OS i=some b):i∈OS/\∃p,A i=some p/\p.st=.live/\p.H8=some b:=by
 unfold O4 at h;split at h
 ·cases hA:A i with
  | none=>rw[hA] at h; cases h
  | some p =>
    rw[hA] at h;simp only at h;split at h
    ·exact⟨‹_›,p,rfl,‹_›,h⟩
    ·cases h
 ·cases h
theorem Am5{OS:List Nat}{i b:Nat}{p:Place}(h:i∈OS)(hp:A i=some p)(hl:p.st=.live)(hb:p.H8=some b):O4 A OS i=some b:=by unfold O4;rw[Bfc h,hp];simp only[hl,if_true,hb]
theorem Azs{h:Ev}{w w':World}(hm:Mem I0 w.heap.size A h w'){NS OS:List Nat}(hdis:∀n∈NS,n ∉ OS) :
 ∀(f:Nat) (d:DV) (v:Value) d' ns os,H9 h f d=some (d',ns,os)->(∀n∈ns,n∈NS)->(∀n∈os,n∈OS)->Au (B1 I0 w.heap.size A w') w' d v->Au (E4 I0 (O4 A OS) w w') w' d' v:=by
 have hok:∀b,(B1 I0 w.heap.size A w').ok b->(E4 I0 (O4 A OS) w w').ok b:=by
  rintro b ⟨h1,h2,h3⟩
  refine⟨h1,h2,fun i hi=>?_⟩;obtain⟨_,p,hp,hl,hb⟩:=Sr hi;exact h3 i p hp hl hb
 have hbare:∀l rows,D5 (B1 I0 w.heap.size A w').bare w' l rows->D5 (E4 I0 (O4 A OS) w w').bare w' l rows:=fun l rows =>
  D5.Em (c:=(B1 I0 w.heap.size A w').bare) (c':=(E4 I0 (O4 A OS) w w').bare) (w:=w') (w':=w') ⟨hok,rfl,rfl,fun _ _ h=>(by cases h),fun _ _ h=>(by cases h),fun _ _ _=>rfl,fun _ _ h=>(by cases h)⟩ l rows
 have hleaf:∀d v,Gp 1 [] d=true->Au (B1 I0 w.heap.size A w') w' d v->Au (E4 I0 (O4 A OS) w w') w' d v:=by
  intro d v hd hv
  have hl:Pg ((B1 I0 w.heap.size A w').only []) w' (E4 I0 (O4 A OS) w w') w' :=⟨hok,rfl,rfl,fun _ _ h=>(by cases h),fun n p hp=>(by simp[Ctx.only] at hp),fun _ _ _=>rfl,fun _ _ h=>(by cases h)⟩
  exact Au.Em hl d v (Akd [] 1 d v hd hv)
 have frozenBlk:∀n p,A n=some p->p.st≠.dead->(p.st≠.live\/n ∉ OS)->∀b,p.H8=some b->(E4 I0 (O4 A OS) w w').H8 .fresh b:=by
  intro n p hp hd hc b hb;obtain⟨h1,h2⟩:=hm.blkB n p b hp hd hb;refine⟨⟨h2,.inr h1,fun i hi=>?_⟩,rfl,h1⟩;obtain⟨hio,q,hq,hl,hqb⟩:=Sr hi;have e:=hm.inj n i p q b hp hq hd (by rw[hl]; simp) hb hqb;subst e;rw[hp] at hq; cases hq;rcases hc with hc | hc
  ·exact hc hl
  ·exact hc hio
 intro f
 induction f with
 | zero=>intro d v d' ns os h; simp[H9] at h
 | succ f ih =>
   have all:∀(l:List DV) (vs:List Value) l' ns os,Q1 h f l=some (l',ns,os)->(∀n∈ns,n∈NS)->(∀n∈os,n∈OS)->Bh (B1 I0 w.heap.size A w') w' l vs->Bh (E4 I0 (O4 A OS) w w') w' l' vs:=by
    intro l
    induction l with
    | nil =>intro vs l' ns os hr _ _ hv;simp only[Q1,List.foldr_nil,Bes,Bey] at hr;obtain⟨rfl,_,_⟩:=hr;rw[Bh.Im] at hv ⊢; exact hv
    | cons d l ihl =>
      intro vs l' ns os hr h1 h2 hv;obtain⟨x,n1,o1,xs,ms,ps,e1,e2,e⟩:=Aa9 hr;cases e;rw[Bh.Df] at hv ⊢;obtain⟨u,us,e,hu,hus⟩:=hv
      exact⟨u,us,e,ih d u x n1 o1 e1 (fun n hn=>h1 n (zH.2 (.inl hn))) (fun n hn=>h2 n (zH.2 (.inl hn))) hu,
       ihl us xs ms ps e2 (fun n hn=>h1 n (zH.2 (.inr hn))) (fun n hn=>h2 n (zH.2 (.inr hn))) hus⟩
   intro d v d' ns os hr hns hos hv;cases d with
   | agg l =>
     have hr:(Q1 h f l).bind (fun(l,ns,os)=>some (DV.agg l,ns,os))=some (d',ns,os):=hr;cases hl:Q1 h f l with
     | none=>rw[hl] at hr; cases hr
     | some r =>obtain⟨l',ns',os'⟩:=r;rw[hl] at hr;simp only[Bex,Bes,Bey] at hr;obtain⟨rfl,rfl,rfl⟩:=hr;simp only[Au] at hv ⊢;obtain⟨vs,e,h1⟩:=hv;exact⟨vs,e,all l _ l' _ _ hl hns hos h1⟩
   | tup l =>
     have hr:(Q1 h f l).bind (fun(l,ns,os)=>some (DV.tup l,ns,os))=some (d',ns,os):=hr;cases hl:Q1 h f l with
     | none=>rw[hl] at hr; cases hr
     | some r =>obtain⟨l',ns',os'⟩:=r;rw[hl] at hr;simp only[Bex,Bes,Bey] at hr;obtain⟨rfl,rfl,rfl⟩:=hr;simp only[Au] at hv ⊢;obtain⟨vs,e,h1⟩:=hv;exact⟨vs,e,all l _ l' _ _ hl hns hos h1⟩
   | oref n =>
     simp only[Au] at hv;obtain⟨hone,p,hp,hd⟩:=hv;simp only[H9] at hr;split at hr
     ·rename_i e k l hl;simp only[Bes,Bey] at hr;obtain⟨rfl,rfl,rfl⟩:=hr;obtain⟨hst,sv,hk,ho⟩:=Fk hm hp hl;obtain⟨size,hk'⟩:=hd.resolve_left (Cf hst);rw[hk] at hk'; cases hk';simp only[Au];exact⟨ho,fun b hb=>Am5 (hos n (by simp)) hp hst (by unfold Place.H8; rw[hk]; exact hb)⟩
     ·rename_i e sz l hl;simp only[Bes,Bey] at hr;obtain⟨rfl,rfl,rfl⟩:=hr;obtain⟨hst,hsz,sv,rows,hk,hrr,hlen,ho⟩:=Gh hm hp hl;obtain⟨size,hk'⟩:=hd.resolve_left (Cf hst);rw[hk] at hk'; cases hk';simp only[Au];exact⟨rows,hbare _ _ hrr,hlen,ho,fun b hb=>Am5 (hos n (by simp)) hp hst (by unfold Place.H8; rw[hk]; exact hb)⟩
     ·rename_i e k l hl;simp only[Bes,Bey] at hr;obtain⟨rfl,rfl,rfl⟩:=hr;obtain⟨hst,sv,hk,ho⟩:=Fk hm hp hl;obtain⟨size,hk'⟩:=hd.resolve_left (Cf hst);rw[hk] at hk'; cases hk';have hst':p.st=.frozen:=hst;have:=Mv hk ho (Gx ho) (ok:=(E4 I0 (O4 A OS) w w').H8 .fresh) (frozenBlk n p hp (Cf hst) (.inl (by rw[hst']; simp)));simp only[zW,ym] at this;simp only[Au];exact this
     ·rename_i e sz l hl;simp only[Bes,Bey] at hr;obtain⟨rfl,rfl,rfl⟩:=hr;obtain⟨hst,hsz,sv,rows,hk,hrr,hlen,ho⟩:=Gh hm hp hl;obtain⟨size,hk'⟩:=hd.resolve_left (Cf hst);rw[hk] at hk'; cases hk';have hst':p.st=.frozen:=hst;have:=Mu hk (hbare _ _ hrr) hlen ho (Gx ho) (ok:=(E4 I0 (O4 A OS) w w').H8 .fresh) (frozenBlk n p hp (Cf hst) (.inl (by rw[hst']; simp)));simp only[zW,ym] at this;simp only[Au];exact this
     ·cases hr
   | sref n off len =>
     simp only[Au] at hv;obtain⟨hone,p,hp,hd⟩:=hv;simp only[H9] at hr;split at hr
     ·rename_i fz e k l hl;simp only[Bes,Bey] at hr;obtain⟨rfl,rfl,rfl⟩:=hr;obtain⟨hst,sv,hk,ho⟩:=Fk hm hp hl;obtain⟨sv',size,hk',hs⟩:=hd.resolve_left (Cf hst);rw[hk] at hk'; cases hk';have:=Mv hk ho hs (ok:=(E4 I0 (O4 A OS) w w').H8 .fresh) (frozenBlk n p hp (Cf hst) (.inr (hdis n (hns n (by simp)))));simp only[Au];exact this
     ·rename_i fz e sz l hl;simp only[Bes,Bey] at hr;obtain⟨rfl,rfl,rfl⟩:=hr;obtain⟨hst,hsz,sv,rows,hk,hrr,hlen,ho⟩:=Gh hm hp hl;obtain⟨sv',size,hk',hs⟩:=hd.resolve_left (Cf hst);rw[hk] at hk'; cases hk';have:=Mu hk (hbare _ _ hrr) hlen ho hs (ok:=(E4 I0 (O4 A OS) w w').H8 .fresh) (frozenBlk n p hp (Cf hst) (.inr (hdis n (hns n (by simp)))));simp only[Au];exact this
     ·cases hr
   | ptr n i j=>simp[H9] at hr
   | fn g a b=>simp[H9] at hr
   | gd g d=>simp[H9] at hr
   | undef=>simp[H9] at hr
   | cellp cs=>simp[H9] at hr
   | nil=>simp only[H9,Bes,Bey] at hr; obtain⟨rfl,_,_⟩:=hr; exact hleaf _ _ rfl hv
   | bool b=>simp only[H9,Bes,Bey] at hr; obtain⟨rfl,_,_⟩:=hr; exact hleaf _ _ rfl hv
   | int k n=>simp only[H9,Bes,Bey] at hr; obtain⟨rfl,_,_⟩:=hr; exact hleaf _ _ rfl hv
   | fl n=>simp only[H9,Bes,Bey] at hr; obtain⟨rfl,_,_⟩:=hr; exact hleaf _ _ rfl hv
   | nb n=>simp only[H9,Bes,Bey] at hr; obtain⟨rfl,_,_⟩:=hr; exact hleaf _ _ rfl hv
   | ints g k l=>simp only[H9,Bes,Bey] at hr; obtain⟨rfl,_,_⟩:=hr; exact hleaf _ _ rfl hv
   | recs g k l=>simp only[H9,Bes,Bey] at hr; obtain⟨rfl,_,_⟩:=hr; exact hleaf _ _ rfl hv
end
end Go.Den
end
