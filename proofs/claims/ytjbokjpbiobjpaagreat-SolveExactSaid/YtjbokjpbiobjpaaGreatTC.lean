/- A verified evaluator of the program's form and its use for this seat: Den21, Den22, Den23, Den24, Den25, Den26, Den27, Den28, Den29, Den30, Den31, Den32. -/
import Derived.Orders
import Derived.Test.YtjbokjpbiobjpaaGreatTB
import Derived.LoopN
import Derived.Scope
set_option linter.unusedVariables false
set_option linter.unusedSimpArgs false
noncomputable section
open Int (toNat)
open List (length getD)
namespace Go.Den
open Go.RowKit (Below)
def Hh (P:Program) (ops:Array Oper) (o:Oper) (a:Act) (w:World) (Q:Exit→Act→World→Prop) (G:Value→World→Prop):Prop :=
 ∀ K:Act→World→Prop,(∀ v w',G v w'→K (a.put o.dst v) w') →
  if Region.wanted o (yielded ops a.tmps) then o.wp P a w K Q else K (a.put o.dst undef) w
theorem Hh.mono {P:Program} {ops:Array Oper} {o:Oper} {a:Act} {w:World} {Q:Exit→Act→World→Prop} {G G':Value→World→Prop} (h:Hh P ops o a w Q G) (hg:∀ v w',G v w'→G' v w'):Hh P ops o a w Q G' :=
 fun K hK=>h K fun v w' hh=>hK v w' (hg v w' hh)
theorem D1.wp {P:Program} {o:Oper} {a:Act} {w:World} {K:Act→World→Prop} {Q:Exit→Act→World→Prop} {K':Value→World→Prop} (h:D1 P (execOp a.eval o) w K') (hK:∀ v w',K' v w'→K (a.put o.dst v) w'):o.wp P a w K Q:=by
 unfold D1 at h
 unfold Oper.wp
 split at h
 ·rename_i v w' hr
  rw [hr,Oper.upon_value]; exact hK _ _ h
 ·rename_i f args w' hr
  rw [hr,Oper.upon_enter]
  refine Calls.mono h fun e w'' ⟨v,he,hk⟩=>?_
  subst he; exact hK _ _ hk
 ·exact h.elim
section
variable {P:Program} {E:Env} {I0:Nat→Prop} {B:Nat} {A:Nat→Option Place} {h:Da} {w:World}
theorem Kg {c:Ctx} {g:Bool} {d:DV} {v:Value} (hv:Aj c w d v) (hg:g=true) (hs:(Fz g d).2=true):Aj c w (Fz g d).1 v:=by
 subst hg
 cases d<;>try exact hv
 rename_i c' d'
 simp only [Fz,Av6,Bool.false_or] at hs ⊢
 simp only [Aj] at hv
 exact hv.1 hs
theorem Afl {c:Ctx} {ops:Array Oper} {l:List DV} {o:Oper} {a:Act} (hsz:a.tmps.size=l.length)
 (hrd:∀ t∈o.looksAt ops,Aj c w (l.getD t .undef) (a.tmps.getD t undef)) {g?:Option Bool} (hc:Mg ops l o=some g?) :
 (g?=none∧o.guard=none)∨∃ b,g?=some b∧Region.wanted o (yielded ops a.tmps)=b:=by
 unfold Mg at hc
 split at hc
 ·rename_i hg
  cases hc; exact .inl ⟨rfl,hg⟩
 ·rename_i j want hg
  cases hd:(ops[j]?).bind (·.dst) with
  | none=>simp [hd] at hc
  | some d =>
    simp only [hd] at hc
    have hv:=hrd d (by unfold Oper.looksAt; simp [hg,hd])
    have hlt:∀ {x:DV},l.getD d .undef=x→x≠.undef→d<a.tmps.size:=fun {x} hx hne=>by
     rw [hsz]
     refine Nat.lt_of_not_le fun hle=>hne ?_
     rw [← hx,Avh,Awp hle]; rfl
    have hy:∀ {u:Value},d<a.tmps.size→a.tmps.getD d undef=u→yielded ops a.tmps j=match u with | .bool b=>some b | _=>none:=fun {u} hl hu=>by
     unfold yielded
     rw [hd,Avf]
     have:a.tmps[d]?=some u:=by
      rw [Avr hl]
      rw [Array.getD_eq_getD_getElem?,Avr hl] at hu
      exact congrArg some hu
     rw [this]
     cases u<;>rfl
    split at hc
    ·rename_i b hb
     cases hc
     rw [hb] at hv; simp only [Aj] at hv
     refine .inr ⟨_,rfl,?_⟩
     unfold Region.wanted; rw [hg]; simp only
     rw [hy (hlt hb (by simp)) hv]
     cases b<;>cases want<;>rfl
    ·rename_i c' b hb
     cases hc
     rw [hb] at hv; simp only [Aj] at hv
     refine .inr ⟨_,rfl,?_⟩
     unfold Region.wanted; rw [hg]; simp only
     cases c' with
     | true =>
       rw [hy (hlt hb (by simp)) (hv.1 rfl)]
       cases b<;>cases want<;>rfl
     | false =>
       rw [hy (hlt hb (by simp)) (hv.2 rfl)]
       cases want<;>rfl
    ·cases hc
def Ns (g?:Option Bool) (v:DV):DV:=match g? with | some c=>.gd c v | none=>v
theorem Z6 {c:Ctx} {g?:Option Bool} {d:DV} {v:Value} (hg:g?.getD true=true) (hv:Aj c w d v):Aj c w (Ns g? d) v:=by
 cases g? with
 | none=>exact hv
 | some b =>
   simp only [Awr] at hg; subst hg
   simp only [Ns,Aj]
   exact ⟨fun _=>hv,fun e=>by cases e⟩
theorem Ai9 (he:Hy P E) (hm:Mem I0 B A h w) {ops:Array Oper} {l:List DV} {o:Oper} {a:Act}
 (hops:∀ x∈o.op.operands.toList,Aj (Bl I0 B A w) w (Gb l x) (a.eval x))
 {g?:Option Bool} (hg:(g?=none∧o.guard=none)∨∃ b,g?=some b∧Region.wanted o (yielded ops a.tmps)=b)
 {nm:Nat} {r:R2} (hq:Dw E h nm (fun x=>(Fz (g?.getD true) (Gb l x)).1) o.op=some r)
 (hreq:(!(g?.getD true)||(P6 (g?.getD true) (Gb l) o.op.operands.toList&&r.req))=true)
 (hobj:r.objs=[]∨g?.getD true=true) (hfrz:r.frz=[]∨g?.getD true=true)
 (hnew:∀ n ob,(n,ob)∈r.objs→A n=none) (hnd:(r.objs.map (·.1)).Nodup) {Q:Exit→Act→World→Prop} :
 Hh P ops o a w Q fun v w'=>∃ A',H0 I0 B A w r.objs r.frz A' w'∧Aj (Bl I0 B A' w') w' (Ns g? r.v) v:=by
 intro K hK
 have hwant:Region.wanted o (yielded ops a.tmps)=g?.getD true:=by
  rcases hg with ⟨rfl,hg⟩ | ⟨b,rfl,hg⟩
  ·simp [Region.wanted,hg]
  ·simpa using hg
 rw [hwant]
 by_cases hgt:g?.getD true=true
 ·rw [Avu hgt]
  rw [hgt] at hreq hq
  simp only [Av6,Bool.false_or,Avi] at hreq
  have hops':Ops (Bl I0 B A w) w (fun x=>(Fz true (Gb l x)).1) a.eval o.op:=fun x hx=>by
   refine Kg (hops x hx) rfl ?_
   have:=hreq.1
   unfold P6 at this
   rw [List.all_eq_true] at this
   exact this x hx
  exact D1.wp (K':=fun v w'=>∃ A',H0 I0 B A w r.objs r.frz A' w'∧Aj (Bl I0 B A' w') w' (Ns g? r.v) v)
   (Agk he hm hops' hq hreq.2 hnew hnd fun v w' A' h1 h2=>⟨A',h1,Z6 hgt h2⟩) hK
 ·rw [Avt hgt]
  have hgf:g?=some false:=by
   cases g? with
   | none=>simp at hgt
   | some b=>simp only [Awr,Bool.not_eq_true] at hgt; rw [hgt]
  have h1:r.objs=[]:=hobj.resolve_right hgt
  have h2:r.frz=[]:=hfrz.resolve_right hgt
  subst hgf
  refine hK undef w ⟨A,by rw [h1,h2]; exact H0.refl (.inl rfl),?_⟩
  simp only [Ns,Aj]
  exact ⟨fun e=>(by cases e),fun _=>trivial⟩
theorem Am7 {ops:Array Oper} {l:List DV} {dst:Option Tmp} {c x y:Operand} {ty:TypeId} {pos:String} {after:Array Edge} {guard:Option (Nat × Bool)} {a:Act} {cx:Ctx}
 (hc:Aj cx w (Gb l c) (a.eval c)) (hx:Aj cx w (Gb l x) (a.eval x)) (hy:Aj cx w (Gb l y) (a.eval y))
 {g?:Option Bool} (hg:(g?=none∧guard=none)∨∃ b,g?=some b∧Region.wanted ⟨dst,.pick c x y,ty,pos,after,guard⟩ (yielded ops a.tmps)=b)
 {c' r:Bool} {v:DV} (hsc:(Fz (g?.getD true) (Gb l c)).1=.bool c') (hp:Aev c' (Gb l x) (Gb l y)=some (r,v))
 (hreq:(!(g?.getD true)||((Fz (g?.getD true) (Gb l c)).2&&r))=true) {Q:Exit→Act→World→Prop} :
 Hh P ops ⟨dst,.pick c x y,ty,pos,after,guard⟩ a w Q fun u w'=>w'=w∧Aj cx w (Ns g? v) u:=by
 intro K hK
 have hwant:Region.wanted ⟨dst,.pick c x y,ty,pos,after,guard⟩ (yielded ops a.tmps)=g?.getD true:=by
  rcases hg with ⟨rfl,hg⟩ | ⟨b,rfl,hg⟩
  ·simp [Region.wanted,hg]
  ·simpa using hg
 rw [hwant]
 by_cases hgt:g?.getD true=true
 ·rw [Avu hgt]
  rw [hgt] at hreq hsc
  simp only [Av6,Bool.false_or,Avi] at hreq
  have hcv:=Kg hc rfl hreq.1
  rw [hsc] at hcv; simp only [Aj] at hcv
  refine D1.wp (K':=fun u w'=>w'=w∧Aj cx w (Ns g? v) u) (D1.value (v:=if c' then a.eval x else a.eval y) (w':=w) ?_ ⟨rfl,Z6 hgt ?_⟩) hK
  ·simp [execOp,hcv,asBool]
  ·have h2:=hreq.2
   unfold Aev at hp
   cases c' with
   | true =>
     simp only [if_true]
     split at hp
     ·rename_i p q e1 e2
      simp only [Ava,Avg] at hp
      obtain ⟨rfl,rfl⟩:=hp
      simp only [Avi] at h2
      have:=Kg hx rfl h2.1
      rw [e1] at this; exact this
     ·rename_i k p k' q e1 e2
      by_cases hk:k=k'
      ·simp only [hk,decide_true,Au7,Ava,Avg] at hp
       obtain ⟨rfl,rfl⟩:=hp
       simp only [Avi] at h2
       have:=Kg hx rfl h2.1
       rw [e1] at this; subst hk; exact this
      ·simp [hk] at hp
     ·cases hp
   | false =>
     simp only [Bool.false_eq_true,if_false]
     split at hp
     ·rename_i p q e1 e2
      simp only [Ava,Avg] at hp
      obtain ⟨rfl,rfl⟩:=hp
      simp only [Avi] at h2
      have:=Kg hy rfl h2.2
      rw [show (!false)=true from rfl] at e2
      rw [e2] at this; exact this
     ·rename_i k p k' q e1 e2
      by_cases hk:k=k'
      ·simp only [hk,decide_true,Au7,Ava,Avg] at hp
       obtain ⟨rfl,rfl⟩:=hp
       simp only [Avi] at h2
       have:=Kg hy rfl h2.2
       rw [show (!false)=true from rfl] at e2
       rw [e2] at this; exact this
      ·simp [hk] at hp
     ·cases hp
 ·rw [Avt hgt]
  have hgf:g?=some false:=by
   cases g? with
   | none=>simp at hgt
   | some b=>simp only [Awr,Bool.not_eq_true] at hgt; rw [hgt]
  subst hgf
  refine hK undef w ⟨rfl,?_⟩
  simp only [Ns,Aj]
  exact ⟨fun e=>(by cases e),fun _=>trivial⟩
theorem Aj1 {ops:Array Oper} {o:Oper} {t:Tmp} (h:Operand.tmp t∈o.op.operands.toList):t∈o.looksAt ops:=by
 unfold Oper.looksAt
 exact List.mem_append.2 (.inl (List.mem_filterMap.2 ⟨_,h,rfl⟩))
theorem X2 {c:Ctx} (v:Value):Aj c w (Adx v) v:=by
 unfold Adx
 split<;>simp only [Aj]
 exact ⟨_,rfl,.inl rfl⟩
theorem Ra {c:Ctx} {ops:Array Oper} {l:List DV} {o:Oper} {a:Act}
 (hrd:∀ t∈o.looksAt ops,Aj c w (l.getD t .undef) (a.tmps.getD t undef)):∀ x∈o.op.operands.toList,Aj c w (Gb l x) (a.eval x):=by
 intro x hx
 cases x with
 | tmp t=>exact hrd t (Aj1 hx)
 | const v=>exact X2 v
 | global g=>simp only [Gb,Aj]
 | func f=>simp [Gb,Aj,Act.eval,A5]
theorem Ast (he:Hy P E) {ops:Array Oper} {draw:Bool} {st st':St} {o:Oper} (hs:Jw E ops draw st o=some (true,st')) (hmut:Rm o.op=false)
 (hsp:∀ g?,Mg ops st.tmps o=some g?→(bif draw then none else I9 E (Gb st.tmps) g? o.op)=none) :
 ∃ d objs frz,st'.tmps=Qw st.tmps o.dst d∧st'.heap=objs.map (fun (x:Nat × OB)=>(x.1,false,x.2))++Hu st.heap frz ∧
  (∀ n ob,(n,ob)∈objs→look st.heap n=none)∧(objs.map (·.1)).Nodup∧(Ey E ops st o=frz∧∀ n∈frz,look st.heap n≠none) ∧
  ∀ {I0:Nat→Prop} {B:Nat} {A:Nat→Option Place} {w:World} {a:Act} {Q:Exit→Act→World→Prop},Mem I0 B A st.heap w→a.tmps.size=st.tmps.length →
   (∀ t∈o.looksAt ops,Aj (Bl I0 B A w) w (st.tmps.getD t .undef) (a.tmps.getD t undef))→(∀ n ob,(n,ob)∈objs→A n=none) →
   Hh P ops o a w Q fun v w'=>∃ A',H0 I0 B A w objs frz A' w'∧Aj (Bl I0 B A' w') w' d v:=by
 obtain ⟨dst,op,ty,pos,after,guard⟩:=o
 unfold Jw at hs
 cases hc:Mg ops st.tmps ⟨dst,op,ty,pos,after,guard⟩ with
 | none=>simp [hc] at hs
 | some g? =>
 simp only [hc,Avf] at hs
 dsimp only at hmut
 replace hsp:=hsp g? hc
 dsimp only at hsp
 have quiet:∀ (hs:((Dw E st.heap (dst.getD 0) (fun x=>(Fz (g?.getD true) (Gb st.tmps x)).1) op).bind fun r =>
  bif (r.objs.all fun (n,_)=>(look st.heap n).isNone)&&Ju (r.objs.map (·.1))&&(r.objs.isEmpty||dst.isSome)&&(r.frz.isEmpty||r.frz.all fun n=>(look st.heap n).isSome) then
   some (bif r.objs.isEmpty&&r.frz.isEmpty then !(g?.getD true)||(P6 (g?.getD true) (Gb st.tmps) op.operands.toList&&r.req) else g?.getD true&&(P6 (g?.getD true) (Gb st.tmps) op.operands.toList&&r.req),
    ({ tmps:=Qw st.tmps dst (Ns g? r.v),heap:=(r.objs.map fun (n,ob)=>(n,false,ob))++Hu st.heap r.frz }:St))
  else none)=some (true,st')),∃ d objs frz,st'.tmps=Qw st.tmps dst d∧st'.heap=objs.map (fun (x:Nat × OB)=>(x.1,false,x.2))++Hu st.heap frz ∧
  (∀ n ob,(n,ob)∈objs→look st.heap n=none)∧(objs.map (·.1)).Nodup∧(Ey E ops st ⟨dst,op,ty,pos,after,guard⟩=frz∧∀ n∈frz,look st.heap n≠none) ∧
  ∀ {I0:Nat→Prop} {B:Nat} {A:Nat→Option Place} {w:World} {a:Act} {Q:Exit→Act→World→Prop},Mem I0 B A st.heap w→a.tmps.size=st.tmps.length →
   (∀ t∈Oper.looksAt ops ⟨dst,op,ty,pos,after,guard⟩,Aj (Bl I0 B A w) w (st.tmps.getD t .undef) (a.tmps.getD t undef))→(∀ n ob,(n,ob)∈objs→A n=none) →
   Hh P ops ⟨dst,op,ty,pos,after,guard⟩ a w Q fun v w'=>∃ A',H0 I0 B A w objs frz A' w'∧Aj (Bl I0 B A' w') w' d v:=by
  intro hs
  cases hq:Dw E st.heap (dst.getD 0) (fun x=>(Fz (g?.getD true) (Gb st.tmps x)).1) op with
  | none=>simp [hq] at hs
  | some r =>
    simp only [hq,Avf] at hs
    by_cases hcc:((r.objs.all fun (n,_)=>(look st.heap n).isNone)&&Ju (r.objs.map (·.1))&&(r.objs.isEmpty||dst.isSome)&&(r.frz.isEmpty||r.frz.all fun n=>(look st.heap n).isSome))=true
    ·rw [hcc,Au7,Ava,Avg] at hs
     obtain ⟨hreq,rfl⟩:=hs
     simp only [Avi,Bool.or_eq_true,List.isEmpty_iff,Option.isNone_iff_eq_none,List.all_eq_true] at hcc
     obtain ⟨⟨⟨h1,h2⟩,h3⟩,h4⟩:=hcc
     replace hreq:(!(g?.getD true)||(P6 (g?.getD true) (Gb st.tmps) op.operands.toList&&r.req))=true∧(r.objs=[]∨g?.getD true=true)∧(r.frz=[]∨g?.getD true=true):=by
      cases ho:r.objs.isEmpty&&r.frz.isEmpty with
      | true =>
        rw [ho,Au7] at hreq
        simp only [Avi,List.isEmpty_iff] at ho
        exact ⟨hreq,.inl ho.1,.inl ho.2⟩
      | false =>
        rw [ho,Avb,Avi] at hreq
        exact ⟨by rw [hreq.2,Awj],.inr hreq.1,.inr hreq.1⟩
     refine ⟨Ns g? r.v,r.objs,r.frz,rfl,rfl,fun n ob hn=>h1 (n,ob) hn,Hs h2,⟨by unfold Ey; dsimp only; rw [hmut,hc]; simp only [Avb,hq],fun n hn e=>?_⟩,?_⟩
     ·rcases h4 with h4 | h4
      ·rw [h4] at hn; cases hn
      ·have:=h4 n hn; rw [e] at this; cases this
     intro I0 B A w a Q hm hsz hrd hnew
     exact Ai9 he hm (Ra hrd) (Afl hsz hrd hc) hq hreq.1 hreq.2.1 hreq.2.2 hnew (Hs h2)
    ·simp only [Bool.not_eq_true] at hcc; rw [hcc] at hs; cases hs
 cases op
 case pick c x y =>
  simp only at hs
  split at hs
  ·rename_i c' hsc
   cases hp:Aev c' (Gb st.tmps x) (Gb st.tmps y) with
   | none=>simp [hp] at hs
   | some rv =>
     obtain ⟨r,v⟩:=rv
     simp only [hp,Avf,Ava,Avg] at hs
     obtain ⟨hreq,rfl⟩:=hs
     refine ⟨Ns g? v,[],[],rfl,rfl,fun n ob hn=>(by cases hn),List.nodup_nil,⟨by unfold Ey; dsimp only [Rm]; rw [hc]; rfl,fun n hn=>(by cases hn)⟩,?_⟩
     intro I0 B A w a Q hm hsz hrd hnew
     have hr:=Ra (w:=w) hrd
     refine Hh.mono (Am7 (hr c (by simp [Op.operands])) (hr x (by simp [Op.operands])) (hr y (by simp [Op.operands])) (Afl hsz hrd hc) hsc hp hreq) ?_
     rintro u w' ⟨rfl,hu⟩
     exact ⟨A,H0.refl (.inl rfl),hu⟩
  ·cases hs
 case store=>simp [Rm] at hmut
 case call c =>
  obtain ⟨callee,args,ts⟩:=c
  cases callee
  case builtin b =>
   cases b
   case append=>simp [Rm] at hmut
   all_goals (dsimp only at hs; rw [hsp] at hs; exact quiet hs)
  all_goals (dsimp only at hs; rw [hsp] at hs; exact quiet hs)
 all_goals (dsimp only at hs; rw [hsp] at hs; exact quiet hs)
end
end Go.Den
namespace Go.Den
open Go.RowKit (Below)
theorem Ld (a b:Da) (n:Nat):look (a++b) n=match look a n with | some x=>some x | none=>look b n:=by
 induction a with
 | nil=>rfl
 | cons x a ih =>
   obtain ⟨m,y⟩:=x
   simp only [List.cons_append,look]
   cases m==n<;>simp [ih]
theorem Y7 (h:Da) (m n:Nat):look (match look h m with | some (_,o)=>Z5 h m (true,o) | none=>h) n=(look h n).map fun x=>(x.1||decide (n=m),x.2):=by
 cases hm:look h m with
 | none =>
   simp only
   cases hn:look h n with
   | none=>rfl
   | some x =>
     have:n≠m:=fun e=>by rw [e,hm] at hn; cases hn
     simp [this]
 | some x =>
   obtain ⟨f,o⟩:=x
   simp only
   rw [Fb hm]
   by_cases e:n=m
   ·subst e; simp [hm]
   ·rw [Avt e]
    cases look h n with
    | none=>rfl
    | some x=>simp [e]
theorem Oa:∀ (ns:List Nat) (h:Da) (n:Nat),look (Hu h ns) n=(look h n).map fun x=>(x.1||decide (n∈ns),x.2)
 | [],h,n=>by
   unfold Hu
   simp
 | m::ns,h,n=>by
   have e:Hu h (m::ns)=Hu (match look h m with | some (_,o)=>Z5 h m (true,o) | none=>h) ns:=rfl
   rw [e,Oa ns,Y7]
   cases look h n with
   | none=>rfl
   | some x=>simp [Bool.or_assoc]
theorem Sq {objs:List (Nat × OB)}:∀ {n:Nat} {x:Bool × OB},look (objs.map (fun (x:Nat × OB)=>(x.1,false,x.2))) n=some x→∃ ob,(n,ob)∈objs∧x=(false,ob):=by
 induction objs with
 | nil=>intro n x h; cases h
 | cons y l ih =>
   intro n x h
   simp only [List.map_cons,look] at h
   by_cases e:y.1=n
   ·rw [show (y.1==n)=true by simpa using e] at h
    simp only [Au7,Ava] at h
    exact ⟨y.2,by rw [← e]; exact Awm,h.symm⟩
   ·rw [show (y.1==n)=false by simpa using e] at h
    obtain ⟨ob,h1,h2⟩:=ih h
    exact ⟨ob,Awc _ h1,h2⟩
theorem Vj {objs:List (Nat × OB)} {n:Nat} (h:look (objs.map (fun (x:Nat × OB)=>(x.1,false,x.2))) n=none):∀ ob,(n,ob) ∉ objs:=by
 induction objs with
 | nil=>intro ob h; cases h
 | cons y l ih =>
   intro ob hm
   simp only [List.map_cons,look] at h
   by_cases e:y.1=n
   ·rw [show (y.1==n)=true by simpa using e] at h; simp at h
   ·rw [show (y.1==n)=false by simpa using e] at h
    rcases List.mem_cons.1 hm with rfl | hm
    ·exact e rfl
    ·exact ih h ob hm
theorem Ago {α:Type} {l:List (Nat × α)} (h:(l.map (·.1)).Nodup) {n:Nat} {x y:α} (h1:(n,x)∈l) (h2:(n,y)∈l):x=y:=by
 have e1:=Pa h h1
 have e2:=Pa h h2
 rw [e1] at e2; exact Option.some.inj e2
structure Ow (P:Program) (E:Env) (ops:Array Oper) (draw:Bool) (st:St) (o:Oper) (st':St) (d:DV):Prop where
 tmps:st'.tmps=Qw st.tmps o.dst d
 there:draw=true→∀ n,n∈Ey E ops st o→look st.heap n≠none
 stays:∀ n,look st.heap n≠none→look st'.heap n≠none
 same:draw=true→∀ n,n ∉ Ey E ops st o→look st.heap n≠none→look st'.heap n=look st.heap n
 run:∀ {I0:Nat→Prop} {B:Nat} {A:Nat→Option Place} {w:World} {a:Act} {Q:Exit→Act→World→Prop},Mem I0 B A st.heap w→a.tmps.size=st.tmps.length →
  (∀ t∈o.looksAt ops,Aj (Bl I0 B A w) w (st.tmps.getD t .undef) (a.tmps.getD t undef))→(∀ n,look st.heap n=none→look st'.heap n≠none→A n=none) →
  Hh P ops o a w Q fun v w'=>∃ A',Mem I0 B A' st'.heap w'∧G8 A w A' w'∧Below B w w'∧Aj (Bl I0 B A' w') w' d v ∧
   (∀ n p,A' n=some p→A n=none→look st.heap n=none∧look st'.heap n≠none) ∧
   (draw=true→Pg (Ey E ops st o) A w w'∧∀ m q,m ∉ Ey E ops st o→A m=some q→A' m=some q)
section
variable {P:Program} {E:Env}
theorem Aag (he:Hy P E) {ops:Array Oper} {draw:Bool} {st st':St} {o:Oper} (hs:Jw E ops draw st o=some (true,st')) (hmut:Rm o.op=false)
 (hsp:∀ g?,Mg ops st.tmps o=some g?→(bif draw then none else I9 E (Gb st.tmps) g? o.op)=none) :
 ∃ d,Ow P E ops draw st o st' d:=by
 obtain ⟨d,objs,frz,h1,h2,h3,h4,h5,h6⟩:=Ast he hs hmut hsp
 obtain ⟨hm0,h5'⟩:=h5
 have hlk:∀ n,look st'.heap n=match look (objs.map (fun (x:Nat × OB)=>(x.1,false,x.2))) n with | some x=>some x | none=>(look st.heap n).map fun x=>(x.1||decide (n∈frz),x.2):=by
  intro n; rw [h2,Ld,Oa]
 have hold:∀ n,look st.heap n≠none→look st'.heap n=(look st.heap n).map fun x=>(x.1||decide (n∈frz),x.2):=by
  intro n hn
  rw [hlk]
  cases hq:look (objs.map (fun (x:Nat × OB)=>(x.1,false,x.2))) n with
  | none=>rfl
  | some x =>
    obtain ⟨ob,hob,_⟩:=Sq hq
    exact absurd (h3 n ob hob) hn
 have hobj:∀ n ob,(n,ob)∈objs→look st'.heap n=some (false,ob):=by
  intro n ob hob
  rw [hlk]
  cases hq:look (objs.map (fun (x:Nat × OB)=>(x.1,false,x.2))) n with
  | none=>exact absurd hob (Vj hq ob)
  | some x =>
    obtain ⟨ob',hob',rfl⟩:=Sq hq
    rw [Ago h4 hob hob']
 refine ⟨d,h1,fun _ n hn=>h5' n (hm0 ▸ hn),fun n hn=>?_,fun hd n hf hn=>?_,?_⟩
 ·rw [hold n hn]
  cases hq:look st.heap n with
  | none=>exact absurd hq hn
  | some x=>simp
 ·rw [hm0] at hf
  rw [hold n hn]
  cases look st.heap n with
  | none=>rfl
  | some x=>simp [hf]
 ·intro I0 B A w a Q hm hsz hrd hnew
  have hnew':∀ n ob,(n,ob)∈objs→A n=none:=fun n ob hob=>hnew n (h3 n ob hob) (by rw [hobj n ob hob]; simp)
  refine (h6 hm hsz hrd hnew').mono ?_
  rintro v w' ⟨A',hg,hv⟩
  have hmem:Mem I0 B A' st'.heap w':=by
   refine hg.mem hm (fun n p fo' hp hl=>?_) (fun n ob fo' hob hn hl=>?_)
   ·rw [hlk] at hl
    cases hq:look (objs.map (fun (x:Nat × OB)=>(x.1,false,x.2))) n with
    | some x =>
      obtain ⟨ob,hob,_⟩:=Sq hq
      rw [hnew' n ob hob] at hp; cases hp
    | none =>
      rw [hq] at hl
      cases hf:look st.heap n with
      | none=>rw [hf] at hl; cases hl
      | some fo=>rw [hf] at hl; cases hl; exact ⟨fo,rfl,rfl⟩
   ·rw [hobj n ob hob] at hl; cases hl; rfl
  refine ⟨A',hmem,hg.Ao0,hg.below.mono hm.hB,hv,fun n p hp hn=>?_,fun hd=>⟨fun m q b _ hq hqd hqb=>hg.below.block b (hm.blkB m q b hq hqd hqb).2,fun m q hmf hq=>?_⟩⟩
  ·obtain ⟨_,_,ob,hob,_⟩:=hg.new n p hn hp
   exact ⟨h3 n ob hob,by rw [hobj n ob hob]; simp⟩
  ·have:=hg.old m q hq
   rw [this]
   rw [hm0] at hmf
   cases q
   simp [Ws,hmf]
end
end Go.Den
namespace Go.Den
open Go.RowKit (Below)
section
variable {P:Program} {E:Env}
theorem Nu {o:Oper} {y:Nat→Option Bool} (h:o.guard=none):Region.wanted o y=true:=by
 unfold Region.wanted; rw [h]
theorem Qi {ops:Array Oper} {l:List DV} {o:Oper} (h:Mg ops l o=some none):o.guard=none:=by
 unfold Mg at h
 split at h
 ·assumption
 ·split at h
  ·split at h<;>cases h
  ·cases h
structure Ox (ns:List Nat) (nm:Option Nat) (h h':Da):Prop where
 there:∀ m,m∈ns→look h m≠none
 stays:∀ m,look h m≠none→look h' m≠none
 same:∀ m,m ∉ ns→some m≠nm→look h' m=look h m
theorem Km {h:Da} {n:Nat} {x y:Bool × OB} (hl:look h n=some x):Ox [n] none h (Z5 h n y) where
 there:=fun m hm=>by rw [List.mem_singleton.1 hm,hl]; simp
 stays:=fun m hm=>by rw [Fb hl]; split<;>simp_all
 same:=fun m hm _=>by rw [Fb hl,Avt (fun e=>hm (by rw [e]; exact List.mem_singleton.2 rfl))]
theorem Oz {h:Da} {nm:Nat} {x:Bool × OB}:Ox [] (some nm) h ((nm,x)::h) where
 there:=fun m hm=>by cases hm
 stays:=fun m hm=>by simp only [look]; cases nm==m<;>simp [hm]
 same:=fun m _ hne=>by
  simp only [look]
  rw [show (nm==m)=false by simpa using fun e:nm=m=>hne (by rw [e])]; rfl
theorem W1 {h:Da} {n nm:Nat} {x y z:Bool × OB} (hl:look h n=some x):Ox [n] (some nm) h ((nm,z)::Z5 h n y) where
 there:=(Km (y:=y) hl).there
 stays:=fun m hm=>Oz.stays m ((Km (y:=y) hl).stays m hm)
 same:=fun m hm hne=>by rw [Oz.same m (by simp) hne,(Km (y:=y) hl).same m hm (by simp)]
theorem Aab {h h':Da} {t:TypeId} {a v:DV} {r:Bool} (hs:R4 E h t a v=some (r,h')):Ox (Ajt a) none h h':=by
 unfold R4 at hs
 cases hT:E.ty t with
 | none=>simp [hT] at hs
 | some ti =>
 simp only [hT,Avf] at hs
 cases hc:(Lj v&&(cells v).length==ti.size&&(cells v).all Py) with
 | false=>rw [hc] at hs; simp at hs
 | true =>
 rw [hc,Au7] at hs
 split at hs
 ·rename_i n i j
  split at hs
  ·rename_i cs hlk
   cases hq:(i==0&&decide (j+ti.size≤cs.length)) with
   | false=>rw [hq] at hs; simp at hs
   | true =>
     rw [hq,Au7,Ava,Avg] at hs
     obtain ⟨_,rfl⟩:=hs
     exact Km hlk
  ·rename_i e k l hlk
   split at hs
   ·rename_i k' x
    cases hq:(j==0&&decide (k=k')) with
    | false=>rw [hq] at hs; simp at hs
    | true =>
      rw [hq,Au7,Ava,Avg] at hs
      obtain ⟨_,rfl⟩:=hs
      exact Km hlk
   ·cases hs
  ·rename_i e sz l hlk
   cases hlow:Jh h (cells v) with
   | none=>simp [hlow] at hs
   | some q =>
   obtain ⟨vs,ns⟩:=q
   simp only [hlow,Avf] at hs
   cases hq:(decide (j+ti.size≤sz)&&ns.isEmpty) with
   | false=>rw [hq] at hs; simp at hs
   | true =>
     rw [hq,Au7,Ava,Avg] at hs
     obtain ⟨_,rfl⟩:=hs
     exact Km hlk
  ·cases hs
 ·cases hs
theorem Zw {h h':Da} {nm:Nat} {t:TypeId} {s x v:DV} {r:Bool} (ha:Lh E h nm t s x=some (r,v,h')):Ox (Y4 s) (some nm) h h'∧look h nm=none:=by
 unfold Lh at ha
 split at ha
 ·rename_i e _ hT
  cases hE:E.ty e with
  | none=>simp [hE] at ha
  | some ei =>
  simp only [hE,Avf] at ha
  cases hq:(decide (ei.bytes≤128)&&decide (0<ei.size)&&(look h nm).isNone) with
  | false=>rw [hq] at ha; simp at ha
  | true =>
  rw [hq,Au7] at ha
  simp only [Avi,Ave,Option.isNone_iff_eq_none] at hq
  refine ⟨?_,hq.2⟩
  split at ha
  ·split at ha
   ·rename_i k hk
    cases hs1:(ei.size==1) with
    | false=>rw [hs1] at ha; simp at ha
    | true =>
    rw [hs1,Au7] at ha
    cases hel:Lq h k x with
    | none=>simp [hel] at ha
    | some l =>
      simp only [hel,Avf,Ava,Avg] at ha
      obtain ⟨_,_,rfl⟩:=ha
      exact Oz
   ·cases hel:Lp h ei.size x with
    | none=>simp [hel] at ha
    | some l =>
      simp only [hel,Avf,Ava,Avg] at ha
      obtain ⟨_,_,rfl⟩:=ha
      exact Oz
  ·rename_i n
   split at ha
   ·rename_i e' k l' hlo
    cases hel:Lq h k x with
    | none=>simp [hel] at ha
    | some l =>
      simp only [hel,Avf] at ha
      cases hc:(e==e'&&ei.size==1) with
      | false=>rw [hc] at ha; simp at ha
      | true =>
        rw [hc,Au7] at ha
        simp only [Ava,Avg] at ha
        obtain ⟨_,_,rfl⟩:=ha
        exact W1 hlo
   ·rename_i e' sz l' hlo
    cases hel:Lp h sz x with
    | none=>simp [hel] at ha
    | some l =>
      simp only [hel,Avf] at ha
      cases hc:(e==e'&&sz==ei.size) with
      | false=>rw [hc] at ha; simp at ha
      | true =>
        rw [hc,Au7] at ha
        simp only [Ava,Avg] at ha
        obtain ⟨_,_,rfl⟩:=ha
        exact W1 hlo
   ·cases ha
  ·cases ha
 ·cases ha
theorem Tu {h h':Da} {nm:Nat} {t:TypeId} {s x v:DV} {r:Bool} (ha:Lh E h nm t s x=some (r,v,h')):(look h' nm).isSome=true:=by
 have push:∀ {y:Bool × OB} {k:Da},(look ((nm,y)::k) nm).isSome=true:=by intro y k; simp [look]
 unfold Lh at ha
 split at ha
 ·rename_i e _ hT
  cases hE:E.ty e with
  | none=>simp [hE] at ha
  | some ei =>
  simp only [hE,Avf] at ha
  cases hq:(decide (ei.bytes≤128)&&decide (0<ei.size)&&(look h nm).isNone) with
  | false=>rw [hq] at ha; simp at ha
  | true =>
  rw [hq,Au7] at ha
  split at ha
  ·split at ha
   ·rename_i k hk
    cases hs1:(ei.size==1) with
    | false=>rw [hs1] at ha; simp at ha
    | true =>
    rw [hs1,Au7] at ha
    cases hel:Lq h k x with
    | none=>simp [hel] at ha
    | some l =>
      simp only [hel,Avf,Ava,Avg] at ha
      obtain ⟨_,_,rfl⟩:=ha
      exact push
   ·cases hel:Lp h ei.size x with
    | none=>simp [hel] at ha
    | some l =>
      simp only [hel,Avf,Ava,Avg] at ha
      obtain ⟨_,_,rfl⟩:=ha
      exact push
  ·rename_i n
   split at ha
   ·rename_i e' k l' hlo
    cases hel:Lq h k x with
    | none=>simp [hel] at ha
    | some l =>
      simp only [hel,Avf] at ha
      cases hc:(e==e'&&ei.size==1) with
      | false=>rw [hc] at ha; simp at ha
      | true =>
        rw [hc,Au7] at ha
        simp only [Ava,Avg] at ha
        obtain ⟨_,_,rfl⟩:=ha
        exact push
   ·rename_i e' sz l' hlo
    cases hel:Lp h sz x with
    | none=>simp [hel] at ha
    | some l =>
      simp only [hel,Avf] at ha
      cases hc:(e==e'&&sz==ei.size) with
      | false=>rw [hc] at ha; simp at ha
      | true =>
        rw [hc,Au7] at ha
        simp only [Ava,Avg] at ha
        obtain ⟨_,_,rfl⟩:=ha
        exact push
   ·cases ha
  ·cases ha
 ·cases ha
theorem Aae (he:Hy P E) {ops:Array Oper} {draw:Bool} {st st':St} {dst:Option Tmp} {t:TypeId} {x y:Operand} {ty:TypeId} {pos:String} {after:Array Edge} {guard:Option (Nat × Bool)}
 (hs:Jw E ops draw st ⟨dst,.store t x y,ty,pos,after,guard⟩=some (true,st')):∃ d,Ow P E ops draw st ⟨dst,.store t x y,ty,pos,after,guard⟩ st' d:=by
 unfold Jw at hs
 cases hc:Mg ops st.tmps ⟨dst,.store t x y,ty,pos,after,guard⟩ with
 | none=>simp [hc] at hs
 | some g? =>
 cases g? with
 | some b=>simp [hc] at hs
 | none =>
 have hg:=Qi hc
 dsimp only at hg
 simp only [hc,Avf] at hs
 cases hst:R4 E st.heap t (Gb st.tmps x) (Gb st.tmps y) with
 | none=>simp [hst] at hs
 | some rh =>
 obtain ⟨r,h'⟩:=rh
 simp only [hst,Avf,Ava,Avg] at hs
 obtain ⟨rfl,rfl⟩:=hs
 have ht:=Aab hst
 refine ⟨.undef,rfl,fun _=>ht.there,ht.stays,fun _ n hn _=>ht.same n hn (by simp),?_⟩
 intro I0 B A w a Q hm hsz hrd hnew
 have hr:=Ra (w:=w) hrd
 obtain ⟨w',hrun,h1,h2,h3,h4,h5,h6,h7⟩:=Af2 he.ty hm (hr x (by simp [Op.operands])) (hr y (by simp [Op.operands])) hst rfl
 intro K hK
 rw [Avu (Nu hg)]
 unfold Oper.wp execOp
 simp only [Sem.run_bind,Sem.run_pure,Result.andThen_ok,hrun]
 rw [Oper.upon_skip]
 refine hK undef w' ⟨A,h1,h2,h3,by simp [Aj],fun n p hp hn=>(by rw [hn] at hp; cases hp),fun _=>⟨h5,fun m q _ hq=>hq⟩⟩
theorem Yo (he:Hy P E) {ops:Array Oper} {draw:Bool} {st st':St} {dst:Option Tmp} {args:Array Operand} {ts:Array TypeId} {ty:TypeId} {pos:String} {after:Array Edge} {guard:Option (Nat × Bool)}
 (hs:Jw E ops draw st ⟨dst,.call ⟨.builtin .append,args,ts⟩,ty,pos,after,guard⟩=some (true,st')):∃ d,Ow P E ops draw st ⟨dst,.call ⟨.builtin .append,args,ts⟩,ty,pos,after,guard⟩ st' d:=by
 unfold Jw at hs
 cases hc:Mg ops st.tmps ⟨dst,.call ⟨.builtin .append,args,ts⟩,ty,pos,after,guard⟩ with
 | none=>simp [hc] at hs
 | some g? =>
 simp only [hc,Avf] at hs
 split at hs
 ·rename_i s x t t' hargs hts
  have hg:=Qi hc
  dsimp only at hg
  cases hq:(t==t'&&dst.isSome) with
  | false=>rw [hq] at hs; simp at hs
  | true =>
  rw [hq,Au7] at hs
  simp only [Avi,beq_iff_eq] at hq
  obtain ⟨rfl,hdst⟩:=hq
  cases hap:Lh E st.heap (dst.getD 0) t (Gb st.tmps s) (Gb st.tmps x) with
  | none=>simp [hap] at hs
  | some rh =>
  obtain ⟨r,v,h'⟩:=rh
  simp only [hap,Avf,Ava,Avg] at hs
  obtain ⟨rfl,rfl⟩:=hs
  obtain ⟨ht,hnone⟩:=Zw hap
  have hmut:Ey E ops st ⟨dst,.call ⟨.builtin .append,args,ts⟩,ty,pos,after,guard⟩=Y4 (Gb st.tmps s):=by
   unfold Ey Asy; simp only [hargs,Rm,Au7]
  obtain rfl:args=#[s,x]:=by
   cases args with | mk l=>simp only at hargs; rw [hargs]
  obtain rfl:ts=#[t,t]:=by
   cases ts with | mk l=>simp only at hts; rw [hts]
  refine ⟨v,rfl,fun _ n hn=>ht.there n (hmut ▸ hn),ht.stays,fun _ n hn hl=>ht.same n (hmut ▸ hn) (fun e=>hl ?_),?_⟩
  ·cases dst with
   | none=>cases hdst
   | some d=>simp only [Awr] at e hnone; cases e; exact hnone
  ·intro I0 B A w a Q hm hsz hrd hnew
   have hr:=Ra (w:=w) hrd
   have hnm:A (dst.getD 0)=none:=hnew _ hnone (by
    have:=Tu hap
    exact fun e=>by rw [e] at this; cases this)
   obtain ⟨v',w',A',hrun,h1,h2,h3,h4,h5,h6,h7,h8,_⟩:=Ad7 (ty:=ty) he.ty hm hnm (hr s (by simp [Op.operands,Call.operands])) (hr x (by simp [Op.operands,Call.operands])) hap rfl
   intro K hK
   rw [Avu (Nu hg)]
   unfold Oper.wp execOp
   simp only [resolve,invoke,builtin,Sem.run_bind,Sem.run_pure,Result.andThen_ok,List.map_toArray,List.map_cons,List.map_nil,hrun]
   rw [Oper.upon_value]
   refine hK v' w' ⟨A',h1,h2,h3,h4,fun n p hp hn=>?_,fun _=>⟨hmut ▸ h7,fun m q hmn hq=>h8 m q (hmut ▸ hmn) hq⟩⟩
   have:=h5 n p hp hn
   subst this
   exact ⟨hnone,fun e=>by have:=Tu hap; rw [e] at this; cases this⟩
 ·cases hs
theorem N4 {c c':Ctx} {w w':World} (h:Jo c w c' w') {p:Place} (hb:p.st≠.dead→∀ b,p.Ft=some b→w'.heap[b]?=w.heap[b]?) {fo:Bool × OB} (hr:Ct c w p fo):Ct c' w' p fo:=by
 by_cases hd:p.st=.dead
 ·obtain ⟨fz,ob⟩:=fo
  cases ob with
  | dead=>exact hd
  | box cs=>exact absurd hd (Bp hr.1)
  | ints e k l=>exact absurd hd (Bp hr.1)
  | recs e sz l=>exact absurd hd (Bp hr.1)
 ·exact Ct.C0 h rfl rfl (hb hd) fo hr
theorem Yp {ρ:Operand→DV} {g?:Option Bool} {op:Op} {n:Nat} {e:TypeId} (h:I9 E ρ g? op=some (n,e)) :
 g?=none∧∃ f args ts g x r c,op=.call ⟨.value f,args,ts⟩∧args.toList=[x]∧ρ f=.fn g [] []∧E.spoil g=some e∧ρ x=.agg [.int .i64 r,.int .i64 c,.oref n]:=by
 unfold I9 at h
 split at h
 ·rename_i f args ts
  split at h
  ·rename_i g x hf ha
   split at h
   ·rename_i e' r c m he hx
    simp only [Ava,Avg] at h
    obtain ⟨rfl,rfl⟩:=h
    exact ⟨rfl,f,args,ts,g,x,r,c,rfl,ha,hf,he,hx⟩
   ·cases h
  ·cases h
 ·cases h
theorem Aaf (he:Hy P E) {ops:Array Oper} {draw:Bool} {st st':St} {o:Oper} (hs:Jw E ops draw st o=some (true,st'))
 (hsp:¬ ∀ g?,Mg ops st.tmps o=some g?→(bif draw then none else I9 E (Gb st.tmps) g? o.op)=none):∃ d,Ow P E ops draw st o st' d:=by
 obtain ⟨dst,op,ty,pos,after,guard⟩:=o
 rw [Classical.not_forall] at hsp
 obtain ⟨g?,hsp⟩:=hsp
 rw [Classical.not_imp] at hsp
 obtain ⟨hc,hsp⟩:=hsp
 cases draw with
 | true=>exact absurd rfl hsp
 | false =>
 dsimp only at hsp
 rw [Avb] at hsp
 cases hsa:I9 E (Gb st.tmps) g? op with
 | none=>exact absurd hsa hsp
 | some ne =>
 obtain ⟨n,e⟩:=ne
 obtain ⟨rfl,f,args,ts,g,x,r,c,rfl,hargs,hf,hE,hx⟩:=Yp hsa
 unfold Jw at hs
 simp only [hc,Avf,Avb,hsa] at hs
 have hg:=Qi hc
 dsimp only at hg
 split at hs
 ·rename_i e' l hlk
  cases hee:(e==e') with
  | false=>rw [hee] at hs; simp at hs
  | true =>
  rw [hee,Au7,Ava,Avg] at hs
  obtain ⟨_,rfl⟩:=hs
  obtain rfl:e=e':=by simpa using hee
  have ht:=Km (y:=(false,OB.dead)) hlk
  refine ⟨.undef,rfl,fun h=>(by cases h),ht.stays,fun h=>(by cases h),?_⟩
  intro I0 B A w a Q hm hsz hrd hnew
  have hr:=Ra (w:=w) hrd
  have hf':=hr f (by simp [Op.operands,Call.operands])
  have hx':=hr x (by simp [Op.operands,Call.operands]; exact .inr (by rw [← Array.mem_toList_iff,hargs]; simp))
  rw [hf] at hf'
  rw [hx] at hx'
  simp only [Aj] at hf' hx'
  obtain ⟨fs,cs,hfv,hfs,hcs⟩:=hf'
  obtain ⟨vs,hxv,hvs⟩:=hx'
  have e1:fs=#[]:=by
   have:=hfs.length; simp at this; exact Array.eq_empty_of_size_eq_zero this.symm
  have e2:cs=#[]:=by
   have:=hcs.length; simp at this; exact Array.eq_empty_of_size_eq_zero this.symm
  subst e1; subst e2
  simp only [A5,Aj] at hvs
  obtain ⟨u1,us1,h1,rfl,u2,us2,rfl,rfl,v,us3,rfl,⟨hcell,p,hp,hpd⟩,rfl⟩:=hvs
  have hp:A n=some p:=hp
  have hvs':vs=#[.int .i64 r,.int .i64 c,v]:=Array.toList_inj.1 (by simpa using h1)
  subst hvs'
  obtain ⟨hlive,sv,hkind,hown⟩:=Dz hm hp hlk
  simp only [Bool.false_eq_true,if_false] at hlive
  have hsv:v=sv:=by
   rcases hpd with hpd | ⟨size,hk⟩
   ·rw [hlive] at hpd; cases hpd
   ·rw [hkind] at hk; cases hk; rfl
  subst hsv
  have hblk:p.Ft=v.ownBlock:=by unfold Place.Ft; rw [hkind]
  have hrun:=(he.spoil g e hE).run w r c v l (P7 hown (Nat.zero_le _))
  let A':Nat→Option Place:=fun m=>if m=n then some ⟨.dead,p.kind⟩ else A m
  have hA':∀ {m:Nat} {q:Place},A' m=some q→q.st≠.dead→m≠n∧A m=some q:=by
   intro m q hq hqd
   by_cases hmn:m=n
   ·have hq:(if m=n then some ⟨.dead,p.kind⟩ else A m)=some q:=hq
    rw [Avu hmn] at hq; cases hq; exact absurd rfl hqd
   ·have hq:(if m=n then some ⟨.dead,p.kind⟩ else A m)=some q:=hq
    rw [Avt hmn] at hq; exact ⟨hmn,hq⟩
  intro K hK
  rw [Avu (Nu hg)]
  obtain rfl:args=#[x]:=by
   cases args with | mk l=>simp only at hargs; rw [hargs]
  refine D1.wp (K':=fun _ w'=>Below 0 w w'∧∀ b,b<w.heap.size→v.ownBlock≠some b→w'.heap[b]?=w.heap[b]?) ?_ ?_
  ·unfold D1
   have hexec:(execOp a.eval ⟨dst,.call ⟨.value f,#[x],ts⟩,ty,pos,after,guard⟩).run P w=.ok (.enter g #[.agg #[.int .i64 r,.int .i64 c,v]]) w:=by
    simp only [execOp,resolve,hfv,Deferred.ofValue,Sem.run_bind,Sem.run_pure,Result.andThen_ok,invoke]
    have:(#[]++Array.map a.eval #[x]++#[]:Array Value)=#[.agg #[.int .i64 r,.int .i64 c,v]]:=by simp [hxv]
    rw [this]
    exact (he.spoil g e hE).call _ _
   rw [hexec]
   exact hrun.mono fun en w' ⟨⟨u,hu⟩,hb,hk⟩=>⟨u,hu,hb,hk⟩
  ·rintro u w' ⟨hb,hk⟩
   have hmv:G8 A w A' w':=by
    refine ⟨hb.size,fun m q hq=>?_,fun m q b hq hql hqb _=>?_,fun b hlt hno=>hk b hlt (fun h=>hno n p hp hlive (by rw [hblk]; exact h))⟩
    ·by_cases hmn:m=n
     ·subst hmn
      exact ⟨⟨.dead,p.kind⟩,Avu rfl,.inl rfl⟩
     ·refine ⟨q,(Avt hmn).trans hq,?_⟩
      by_cases hd:q.st=.dead
      ·exact .inl hd
      ·exact .inr ⟨hd,rfl⟩
    ·obtain ⟨_,hq⟩:=hA' hq (by rw [hql]; simp)
     exact ⟨m,q,hq,hql,hqb⟩
   refine hK u w' ⟨A',⟨Awe hm.hB hb.size,hm.I0lt,fun m q fo hq hlo=>?_,fun m q b hq hqd hqb=>?_,fun m m' q q' b hq hq' hqd hqd' hqb hqb'=>?_⟩,hmv,⟨hb.os,hb.tape,hb.output,hb.size,fun b hlt=>hk b (Awi hlt hm.hB) fun h=>?_⟩,by simp [Aj],fun m q hq hn=>?_,fun h=>(by cases h)⟩
   ·rw [Fb hlk] at hlo
    by_cases hmn:m=n
    ·rw [Avu hmn] at hlo; cases hlo
     have hq:(if m=n then some ⟨.dead,p.kind⟩ else A m)=some q:=hq
     rw [Avu hmn] at hq; cases hq
     rfl
    ·rw [Avt hmn] at hlo
     have hq:(if m=n then some ⟨.dead,p.kind⟩ else A m)=some q:=hq
     rw [Avt hmn] at hq
     refine N4 hmv.C0 (fun hd b hb'=>hk b (hm.blkB m q b hq hd hb').2 fun h=>hmn (hm.inj m n q p b hq hp hd (by rw [hlive]; simp) hb' (by rw [hblk]; exact h))) (hm.obj m q fo hq hlo)
   ·obtain ⟨_,hq⟩:=hA' hq hqd
    have:=hm.blkB m q b hq hqd hqb
    exact ⟨this.1,Awi this.2 hb.size⟩
   ·obtain ⟨_,hq⟩:=hA' hq hqd
    obtain ⟨_,hq'⟩:=hA' hq' hqd'
    exact hm.inj m m' q q' b hq hq' hqd hqd' hqb hqb'
   ·have:=(hm.blkB n p b hp (by rw [hlive]; simp) (by rw [hblk]; exact h)).1
    omega
   ·by_cases hmn:m=n
    ·subst hmn; rw [hp] at hn; cases hn
    ·have hq:(if m=n then some ⟨.dead,p.kind⟩ else A m)=some q:=hq
     rw [Avt hmn,hn] at hq; cases hq
 ·cases hs
theorem Ut (he:Hy P E) {ops:Array Oper} {draw:Bool} {st st':St} {o:Oper} (hs:Jw E ops draw st o=some (true,st')):∃ d,Ow P E ops draw st o st' d:=by
 cases hmut:Rm o.op with
 | false =>
   by_cases hsp:∀ g?,Mg ops st.tmps o=some g?→(bif draw then none else I9 E (Gb st.tmps) g? o.op)=none
   ·exact Aag he hs hmut hsp
   ·exact Aaf he hs hsp
 | true =>
   obtain ⟨dst,op,ty,pos,after,guard⟩:=o
   dsimp only at hmut
   unfold Rm at hmut
   split at hmut
   ·exact Aae he hs
   ·exact Yo he hs
   ·cases hmut
end
end Go.Den
namespace Go.Den
open Go.RowKit (Below)
structure Hn (S I0:Nat→Prop) (B:Nat) (w0:World) (A:Nat→Option Place) (f:Nat→Option (Bool × OB)) (g:Nat→DV) (len:Nat) (a:Act) (w:World):Prop where
 defers:a.defers=[]
 size:a.tmps.size=len
 below:Below B w0 w
 hB:B≤w.heap.size
 I0lt:∀ b,I0 b→b<B
 obj:∀ n p,A n=some p→∃ fo,f n=some fo∧Ct (Bl I0 B A w) w p fo
 blkB:∀ n p b,A n=some p→p.st≠.dead→p.Ft=some b→B≤b∧b<w.heap.size
 inj:∀ n m p q b,A n=some p→A m=some q→p.st≠.dead→q.st≠.dead→p.Ft=some b→q.Ft=some b→n=m
 tmps:∀ t,Aj (Bl I0 B A w) w (g t) (a.tmps.getD t undef)
 kept:∀ b,S b→b<w.heap.size∧w.heap[b]?=w0.heap[b]?∧∀ n p,A n=some p→p.st=.live→p.Ft≠some b
theorem Xs {S:Nat→Prop} {A A':Nat→Option Place} {w0 w w':World} (h:∀ b,S b→b<w.heap.size∧w.heap[b]?=w0.heap[b]?∧∀ n p,A n=some p→p.st=.live→p.Ft≠some b) (hm:G8 A w A' w') :
 ∀ b,S b→b<w'.heap.size∧w'.heap[b]?=w0.heap[b]?∧∀ n p,A' n=some p→p.st=.live→p.Ft≠some b:=fun b hb=>by
 obtain ⟨k1,k2,k3⟩:=h b hb
 refine ⟨Awi k1 hm.size,(hm.kept b k1 k3).trans k2,fun n p hp hl hbk=>?_⟩
 obtain ⟨m,q,hq,hql,hqb⟩:=hm.live n p b hp hl hbk k1
 exact k3 m q hq hql hqb
section
variable {P:Program} {E:Env} {S I0:Nat→Prop} {B:Nat} {w0:World} {A:Nat→Option Place} {f f':Nat→Option (Bool × OB)} {g g':Nat→DV} {len:Nat} {a:Act} {w:World}
theorem Hn.mem (h:Hn S I0 B w0 A f g len a w) {hp:Da} (hf:∀ n p fo,A n=some p→look hp n=some fo→f n=some fo):Mem I0 B A hp w :=
 ⟨h.hB,h.I0lt,fun n p fo hn hl=>by
  obtain ⟨fo',h1,h2⟩:=h.obj n p hn
  rw [hf n p fo hn hl] at h1; cases h1; exact h2,h.blkB,h.inj⟩
theorem Abj {dst:Option Tmp} {v:Value} {t:Nat}:(a.put dst v).tmps.getD t undef=if dst=some t∧t<a.tmps.size then v else a.tmps.getD t undef:=by
 cases dst with
 | none=>simp [Act.put]
 | some d =>
   simp only [Act.put,Ava,Array.getD_eq_getD_getElem?]
   by_cases h:d=t
   ·subst h
    by_cases h2:d<a.tmps.size
    ·simp [h2]
    ·simp [h2]
   ·rw [Array.getElem?_setIfInBounds_ne h,Avt (fun e=>h e.1)]
theorem Xv {l:List DV} {dst:Option Nat} {d:DV} {t:Nat}:(Qw l dst d).getD t .undef=if dst=some t∧t<l.length then d else l.getD t .undef:=by
 cases dst with
 | none=>simp [Qw]
 | some e =>
   simp only [Qw,Ava,Avh]
   by_cases h:e=t
   ·subst h
    by_cases h2:e<l.length
    ·simp [h2]
    ·simp [h2]
   ·rw [List.getElem?_set_ne h,Avt (fun e=>h e.1)]
theorem Aav {dst:Option Tmp} {v:Value}:(a.put dst v).tmps.size=a.tmps.size:=by cases dst<;>simp [Act.put]
theorem put_defers {dst:Option Tmp} {v:Value}:(a.put dst v).defers=a.defers:=by cases dst<;>rfl
theorem Tc {l:List DV} {dst:Option Nat} {d:DV}:(Qw l dst d).length=l.length:=by cases dst<;>simp [Qw]
theorem Hn.step {ops:Array Oper} {st st':St} {o:Oper} {d:DV} (h:Hn S I0 B w0 A f g len a w) (hk:Ow P E ops true st o st' d)
 (h1:∀ n,A n≠none→look st.heap n≠none→look st.heap n=f n)
 (h2:∀ t∈o.looksAt ops,st.tmps.getD t .undef=g t) (h3:st.tmps.length=len)
 (h4:∀ n,look st.heap n=none→look st'.heap n≠none→f n=none)
 (h5:∀ n,look st'.heap n≠none→(n∈Ey E ops st o∨look st.heap n=none)→f' n=look st'.heap n)
 (h6:∀ n,n ∉ Ey E ops st o→¬(look st.heap n=none∧look st'.heap n≠none)→f' n=f n)
 (h7:∀ t,g' t=if o.dst=some t∧t<len then d else g t) {Q:Exit→Act→World→Prop} :
 Hh P ops o a w Q fun v w'=>∃ A',Hn S I0 B w0 A' f' g' len (a.put o.dst v) w':=by
 have hm:Mem I0 B A st.heap w:=h.mem fun n p fo hn hl=>by
  rw [← h1 n (by rw [hn]; simp) (by rw [hl]; simp)]; exact hl
 refine (hk.run hm (h.size.trans h3.symm) (fun t ht=>by rw [h2 t ht]; exact h.tmps t) (fun n hn hn'=>?_)).mono ?_
 ·cases hA:A n with
  | none=>rfl
  | some p =>
    obtain ⟨fo,hfo,_⟩:=h.obj n p hA
    rw [h4 n hn hn'] at hfo; cases hfo
 ·rintro v w' ⟨A',hm',hmv,hb,hv,hnew,hdr⟩
  obtain ⟨hkept,hsame⟩:=hdr rfl
  have hlater:=hmv.C0 (I0:=I0) (B:=B)
  refine ⟨A',put_defers.trans h.defers,Aav.trans h.size,h.below.trans hb,hm'.hB,hm'.I0lt,fun n p hp=>?_,hm'.blkB,hm'.inj,fun t=>?_,Xs h.kept hmv⟩
  ·have J2:look st'.heap n≠none→(n∈Ey E ops st o∨look st.heap n=none)→∃ fo,f' n=some fo∧Ct (Bl I0 B A' w') w' p fo:=by
    intro hl ht
    cases hq:look st'.heap n with
    | none=>exact absurd hq hl
    | some fo=>exact ⟨fo,by rw [h5 n hl ht,hq],hm'.obj n p fo hp hq⟩
   cases hA:A n with
   | none =>
     obtain ⟨e1,e2⟩:=hnew n p hp hA
     exact J2 e2 (.inr e1)
   | some q =>
     obtain ⟨fo,hfo,hr⟩:=h.obj n q hA
     by_cases hmu:n∈Ey E ops st o
     ·exact J2 (hk.stays n (hk.there rfl n hmu)) (.inl hmu)
     ·have hs:=hsame n q hmu hA
      rw [hp] at hs; cases hs
      refine ⟨fo,?_,N4 hlater (fun hd b hb=>hkept n _ b hmu hA hd hb) hr⟩
      rw [h6 n hmu (fun e=>by rw [h4 n e.1 e.2] at hfo; cases hfo)]; exact hfo
  ·rw [Abj,h7,h.size]
   split
   ·exact hv
   ·exact Aj.C0 hlater _ _ (h.tmps t)
def Ex (S I0:Nat→Prop) (B:Nat) (w0:World) (st:St) (a:Act) (w:World):Prop:=∃ A,Hn S I0 B w0 A (look st.heap) (fun t=>st.tmps.getD t .undef) st.tmps.length a w
theorem Ex.step {ops:Array Oper} {draw:Bool} {st st':St} {o:Oper} {d:DV} (h:Ex S I0 B w0 st a w) (hk:Ow P E ops draw st o st' d) {Q:Exit→Act→World→Prop} :
 Hh P ops o a w Q fun v w'=>Ex S I0 B w0 st' (a.put o.dst v) w':=by
 obtain ⟨A,h⟩:=h
 have hm:Mem I0 B A st.heap w:=h.mem fun n p fo hn hl=>hl
 refine (hk.run hm h.size (fun t _=>h.tmps t) (fun n hn _=>?_)).mono ?_
 ·cases hA:A n with
  | none=>rfl
  | some p =>
    obtain ⟨fo,hfo,_⟩:=h.obj n p hA
    rw [hn] at hfo; cases hfo
 ·rintro v w' ⟨A',hm',hmv,hb,hv,hnew,_⟩
  have hlater:=hmv.C0 (I0:=I0) (B:=B)
  refine ⟨A',put_defers.trans h.defers,Aav.trans (h.size.trans (by rw [hk.tmps,Tc])),h.below.trans hb,hm'.hB,hm'.I0lt,fun n p hp=>?_,hm'.blkB,hm'.inj,fun t=>?_,Xs h.kept hmv⟩
  ·have hl:look st'.heap n≠none:=by
    cases hA:A n with
    | none=>exact (hnew n p hp hA).2
    | some q =>
      obtain ⟨fo,hfo,_⟩:=h.obj n q hA
      exact hk.stays n (by rw [hfo]; simp)
   cases hq:look st'.heap n with
   | none=>exact absurd hq hl
   | some fo=>exact ⟨fo,rfl,hm'.obj n p fo hp hq⟩
  ·rw [Abj,hk.tmps,Xv,h.size]
   split
   ·exact hv
   ·exact Aj.C0 hlater _ _ (h.tmps t)
end
end Go.Den
namespace Go.Den
open Go.RowKit (Below)
theorem Jg {n:Nat}:∀ {l:List Nat},J9 n l=true↔n∈l
 | []=>by simp [J9]
 | m::l=>by
   simp only [J9,List.mem_cons]
   by_cases h:n=m
   ·subst h; simp
   ·rw [show Nat.beq n m=false from by cases hb:Nat.beq n m with | false=>rfl | true=>exact absurd (Avp hb) h]
    simp only [Avb,Jg,h,false_or]
theorem Qb {n:Nat} {l:List Nat}:J9 n l=false↔n ∉ l:=by rw [← Jg]; simp
section
variable {α:Type} {val:Nat→α} {touch S S':Nat→Prop}
open Classical in
def after (val:Nat→α) (touch S:Nat→Prop):Nat→α
 | 0=>val 0
 | k+1=>if S k∧touch k then val (k+1) else after val touch S k
theorem Li {N:Nat} (h:∀ j,j<N→touch j→(S j↔S' j)):after val touch S N=after val touch S' N:=by
 induction N with
 | zero=>rfl
 | succ k ih =>
   simp only [after]
   by_cases ht:touch k
   ·rw [ih fun j hj=>h j (by omega)]
    by_cases hs:S k
    ·rw [Avu ⟨hs,ht⟩,Avu ⟨(h k (by omega) ht).1 hs,ht⟩]
    ·rw [Avt (fun e=>hs e.1),Avt (fun e=>hs ((h k (by omega) ht).2 e.1))]
   ·rw [Avt (fun e=>ht e.2),Avt (fun e=>ht e.2)]
    exact ih fun j hj=>h j (by omega)
theorem Yb:∀ {k:Nat},(∀ j,j<k→¬ touch j→val (j+1)=val j)→(∀ j,j<k→touch j→S j)→after val touch S k=val k
 | 0,_,_=>rfl
 | k+1,hv,h=>by
   simp only [after]
   by_cases ht:touch k
   ·rw [Avu ⟨h k (by omega) ht,ht⟩]
   ·rw [Avt (fun e=>ht e.2),Yb (fun j hj=>hv j (by omega)) (fun j hj=>h j (by omega)),hv k (by omega) ht]
theorem Qo {k:Nat}:∀ {N:Nat},k≤N→(∀ j,k≤j→j<N→touch j→¬ S j)→after val touch S N=after val touch S k
 | 0,hk,_=>by obtain rfl:k=0:=by omega
              rfl
 | N+1,hk,h=>by
   by_cases e:k=N+1
   ·rw [e]
   ·simp only [after]
    rw [Avt (fun e'=>h N (by omega) (by omega) e'.2 e'.1)]
    exact Qo (by omega) fun j h1 h2=>h j h1 (by omega)
theorem Jn {k N:Nat} (hv:∀ j,j<N→¬ touch j→val (j+1)=val j) (hk:k≤N) (h:∀ j,j<N→touch j→(S j↔j<k)):after val touch S N=val k:=by
 rw [Qo hk fun j h1 h2 h3 h4=>by have:=(h j h2 h3).1 h4; omega]
 exact Yb (fun j hj=>hv j (by omega)) fun j h1 h2=>(h j (by omega) h2).2 h1
theorem Wf {k N:Nat} (hk:k<N) (ht:touch k) (hs:S k) (h:∀ j,k<j→j<N→touch j→¬ S j):after val touch S N=val (k+1):=by
 rw [Qo (k:=k+1) (by omega) fun j h1 h2=>h j (by omega) h2]
 simp only [after]
 rw [Avu ⟨hs,ht⟩]
end
theorem Ji {p:Nat→Bool}:∀ {h:Da} {n:Nat},look (h.filter fun x=>p x.1) n=bif p n then look h n else none
 | [],n=>by simp [look]
 | (m,x)::h,n=>by
   simp only [List.filter_cons,look]
   by_cases e:m=n
   ·subst e
    cases hp:p m<;>simp [look,Ji,hp]
   ·rw [show (m==n)=false by simpa using e]
    cases hp:p m
    ·simpa using Ji
    ·simp only [if_true,look,Avb,show (m==n)=false by simpa using e]
     exact Ji
theorem Ag1 {ms:List Nat} {h:Da} {n:Nat}:look (Aa6 ms h) n=if n∈ms then none else look h n:=by
 unfold Aa6
 rw [Ji (p:=fun m=>!(J9 m ms))]
 by_cases hn:n∈ms
 ·rw [Jg.2 hn,Avu hn]; rfl
 ·rw [Qb.2 hn,Avt hn]; rfl
theorem Aj3 {ms:List Nat} {h:Da} {n:Nat}:look (An1 ms h) n=if n∈ms then look h n else none:=by
 unfold An1
 rw [Ji (p:=fun m=>J9 m ms)]
 by_cases hn:n∈ms
 ·rw [Jg.2 hn,Avu hn]; rfl
 ·rw [Qb.2 hn,Avt hn]; rfl
theorem Aj2 {h:Da} {n:Nat} {x:Bool × OB} (hl:look h n=some x):(n,x)∈h:=by
 induction h with
 | nil=>cases hl
 | cons y h ih =>
   obtain ⟨m,z⟩:=y
   simp only [look] at hl
   by_cases e:m=n
   ·subst e; simp at hl; subst hl; exact Awm
   ·rw [show (m==n)=false by simpa using e] at hl
    exact Awc _ (ih hl)
structure Saw (P:Program) (E:Env) (ops:Array Oper) (ms:List Nat) (st:St) (o:Oper) (st':St) (mk mk':St) (d:DV):Prop where
 ok:Ow P E ops true mk o mk' d
 seen:mk=Lm ms st
 tmps:mk.tmps=st.tmps
 tmps':st'.tmps=mk'.tmps
 mask:∀ n,look mk.heap n=if n∈ms then none else look st.heap n
 out:∀ n,look mk'.heap n≠none→n ∉ ms
 heap:∀ n,look st'.heap n=if n∈ms then look st.heap n else look mk'.heap n
theorem Air {P:Program} {E:Env} (he:Hy P E) {ops:Array Oper} {ms:List Nat} {st st':St} {o:Oper} (h:Aad E ops ms st o=some (true,st')):∃ mk mk' d,Saw P E ops ms st o st' mk mk' d:=by
 cases ms with
 | nil =>
   simp only [Aad] at h
   obtain ⟨d,hd⟩:=Ut he h
   exact ⟨st,st',d,hd,rfl,rfl,rfl,fun n=>by simp,fun n _=>by simp,fun n=>by simp⟩
 | cons m ms =>
   simp only [Aad] at h
   cases hs:Jw E ops true ⟨st.tmps,Aa6 (m::ms) st.heap⟩ o with
   | none=>rw [hs] at h; cases h
   | some r =>
     obtain ⟨r,mk'⟩:=r
     rw [hs] at h
     simp only at h
     cases hc:(mk'.heap.all fun x=>!(J9 x.1 (m::ms))) with
     | false=>rw [hc] at h; cases h
     | true =>
       rw [hc,Au7,Ava,Avg] at h
       obtain ⟨rfl,rfl⟩:=h
       obtain ⟨d,hd⟩:=Ut he hs
       have hout:∀ n,look mk'.heap n≠none→n ∉ m::ms:=by
        intro n hn
        cases hq:look mk'.heap n with
        | none=>exact absurd hq hn
        | some x =>
          have:=List.all_eq_true.1 hc _ (Aj2 hq)
          rw [Bool.not_eq_true'] at this
          exact Qb.1 this
       refine ⟨_,mk',d,hd,rfl,rfl,rfl,fun n=>Ag1,hout,fun n=>?_⟩
       show look (mk'.heap++An1 (m::ms) st.heap) n=_
       rw [Ld,Aj3]
       by_cases hn:n∈m::ms
       ·rw [Avu hn]
        cases hq:look mk'.heap n with
        | none=>simp [hn]
        | some x=>exact absurd hn (hout n (by rw [hq]; simp))
       ·rw [Avt hn,Avt hn]
        cases look mk'.heap n<;>rfl
section
variable {P:Program} {E:Env} {ops:Array Oper} {ms:List Nat} {st st' mk mk':St} {o:Oper} {d:DV} (h:Saw P E ops ms st o st' mk mk' d)
include h
theorem Saw.Aqh {n:Nat} (hn:n∈Ey E ops (Lm ms st) o):look st.heap n≠none∧n ∉ ms:=by
 have h1:=h.ok.there rfl n (by rw [h.seen]; exact hn)
 rw [h.mask] at h1
 by_cases hm:n∈ms
 ·rw [Avu hm] at h1; exact absurd rfl h1
 ·rw [Avt hm] at h1; exact ⟨h1,hm⟩
theorem Saw.stays {n:Nat} (hn:look st.heap n≠none):look st'.heap n≠none:=by
 rw [h.heap]
 by_cases hm:n∈ms
 ·rw [Avu hm]; exact hn
 ·rw [Avt hm]
  exact h.ok.stays n (by rw [h.mask,Avt hm]; exact hn)
theorem Saw.same {n:Nat} (hn:n ∉ Ey E ops (Lm ms st) o) (hc:¬(look st.heap n=none∧look st'.heap n≠none)):look st'.heap n=look st.heap n:=by
 cases hq:look st.heap n with
 | none =>
   cases hq':look st'.heap n with
   | none=>rfl
   | some x=>exact absurd ⟨hq,by rw [hq']; simp⟩ hc
 | some x =>
   rw [h.heap]
   by_cases hm:n∈ms
   ·rw [Avu hm,hq]
   ·rw [Avt hm]
    have h1:look mk.heap n=some x:=by rw [h.mask,Avt hm,hq]
    rw [h.ok.same rfl n (by rw [h.seen]; exact hn) (by rw [h1]; simp),h1]
theorem Saw.made {n:Nat} (h1:look st.heap n=none) (h2:look st'.heap n≠none):n ∉ ms:=by
 intro hm
 rw [h.heap,Avu hm] at h2
 exact h2 h1
theorem Saw.getD {t:Nat}:st'.tmps.getD t .undef=if o.dst=some t∧t<st.tmps.length then d else st.tmps.getD t .undef:=by
 rw [h.tmps',h.ok.tmps,h.tmps,Xv]
theorem Saw.length:st'.tmps.length=st.tmps.length:=by rw [h.tmps',h.ok.tmps,Tc,h.tmps]
end
structure Trace (P:Program) (E:Env) (ops:Array Oper) (D:List (List Nat)) (M:List (Nat × List Nat)) (tr:Nat→St):Prop where
 saw:∀ k o,ops[k]?=some o→∃ mk mk' d,Saw P E ops (Gh D k M) (tr k) o (tr (k+1)) mk mk' d
 Aqh:∀ k o,ops[k]?=some o→N9 D k=true→∀ n,n∈Ey E ops (Lm (Gh D k M) (tr k)) o→n∈J8 k M
theorem Tg {β:Type} {P:Program} {E:Env} (he:Hy P E) {ops:Array Oper} {D:List (List Nat)} {M:List (Nat × List Nat)} {K:St→Option β} {b:β} :
 ∀ (l:List Oper) (k:Nat) (st:St),(∀ j,l[j]?=ops[k+j]?)→Aew E ops D M k l st K=some b →
 ∃ tr:Nat→St,tr 0=st∧K (tr l.length)=some b∧∀ j o,l[j]?=some o→(∃ mk mk' d,Saw P E ops (Gh D (k+j) M) (tr j) o (tr (j+1)) mk mk' d)∧(N9 D (k+j)=true→∀ n,n∈Ey E ops (Lm (Gh D (k+j) M) (tr j)) o→n∈J8 (k+j) M)
 | [],k,st,_,h=>⟨fun _=>st,rfl,h,fun j o hj=>(by cases hj)⟩
 | o::l,k,st,hl,h=>by
   simp only [Aew] at h
   cases hs:Aad E ops (Gh D k M) st o with
   | none=>rw [hs] at h; cases h
   | some r =>
     obtain ⟨r,st'⟩:=r
     rw [hs] at h
     simp only at h
     cases hc:(r&&(!(N9 D k)||(Ey E ops (Lm (Gh D k M) st) o).all fun n=>J9 n (J8 k M))) with
     | false=>rw [hc] at h; cases h
     | true =>
       rw [hc,Au7] at h
       simp only [Avi,Bool.or_eq_true,Bool.not_eq_true',List.all_eq_true] at hc
       obtain ⟨rfl,hc⟩:=hc
       obtain ⟨tr,h1,h2,h3⟩:=Tg he l (k+1) st' (fun j=>by have:=hl (j+1); simpa [Nat.add_assoc,Nat.add_comm 1 j] using this) h
       refine ⟨fun j=>match j with | 0=>st | j+1=>tr j,rfl,h2,fun j p hj=>?_⟩
       cases j with
       | zero =>
         simp only [List.getElem?_cons_zero,Ava] at hj
         subst hj
         refine ⟨by show ∃ mk mk' d,Saw P E ops (Gh D k M) st o (tr 0) mk mk' d; rw [h1]; exact Air he hs,fun hlo n hn=>?_⟩
         rcases hc with hc | hc
         ·have hlo':N9 D k=true:=hlo
          rw [hc] at hlo'; cases hlo'
         ·exact Jg.1 (hc n hn)
       | succ j =>
         rw [List.getElem?_cons_succ] at hj
         have:=h3 j p hj
         rw [show k+(j+1)=k+1+j by omega]
         exact this
end Go.Den
namespace Go.Den
open Go.RowKit (Below)
theorem Pw {ops:Array Oper} {k:Nat} {o:Oper} (h:ops[k]?=some o):(ops.toList.map Gz).getD k []=Gz o:=by
 have:ops.toList[k]?=some o:=by simpa using h
 simp [Avh,this]
theorem Et {ops:Array Oper} {k i:Nat} (h:i∈(ops.toList.map Gz).getD k []):∃ o,ops[k]?=some o∧i∈Gz o:=by
 cases hk:ops[k]? with
 | none =>
   have:ops.toList[k]?=none:=by simpa using hk
   simp [Avh,this] at h
 | some o=>rw [Pw hk] at h; exact ⟨o,rfl,h⟩
theorem Aa4 {o:Oper} {i:Nat}:i∈Gz o↔∃ e∈o.after,Region.binds .any e=true∧e.on=i:=by
 unfold Gz
 simp only [List.mem_filterMap,Array.mem_toList_iff]
 constructor
 ·rintro ⟨e,he,h⟩
  cases hb:Region.binds .any e with
  | false=>rw [hb] at h; simp at h
  | true=>rw [hb] at h; simp at h; exact ⟨e,he,hb,h⟩
 ·rintro ⟨e,he,hb,rfl⟩
  exact ⟨e,he,by rw [hb]; rfl⟩
structure Qp (ops:Array Oper):Prop where
 lt:∀ (k:Nat) o,ops[k]?=some o→∀ i∈Gz o,i<k
 once:∀ (k j:Nat) o p t,ops[k]?=some o→ops[j]?=some p→p.dst=some t→o.dst=some t→j=k
 told:∀ (k j:Nat) o p t,ops[k]?=some o→ops[j]?=some p→p.dst=some t→t∈o.looksAt ops→Ty (ops.toList.map Gz) j k=true∨Ty (ops.toList.map Gz) k j=true
theorem lt_size {ops:Array Oper} {k:Nat} {o:Oper} (h:ops[k]?=some o):k<ops.size:=by
 rcases Av4 k ops.size with h' | h'
 ·exact h'
 ·rw [Array.getElem?_eq_none h'] at h; cases h
theorem Abx {ops:Array Oper} (h:Zk ops (ops.toList.map Gz)=true):Qp ops:=by
 unfold Zk at h
 simp only [List.all_eq_true,List.mem_range,Awd,Array.length_toList] at h
 refine ⟨fun k o hk i hi=>?_,fun k j o p t hk hj hp ho=>?_,fun k j o p t hk hj hp ht=>?_⟩
 ·have h1:=h k (lt_size hk)
  rw [Avi,List.all_eq_true] at h1
  have:=h1.1 i (by rw [Pw hk]; exact hi)
  simpa [Nat.blt_eq] using this
 ·have h1:=h k (lt_size hk)
  rw [Avi,hk] at h1
  have h2:=h1.2
  simp only [List.all_eq_true,List.mem_range] at h2
  have h3:=h2 j (lt_size hj)
  rw [hj] at h3
  simp only [hp,Avi,Bool.or_eq_true] at h3
  rcases h3.1 with h4 | h4
  ·exact Avp h4
  ·rw [ho] at h4; simp at h4
 ·have h1:=h k (lt_size hk)
  rw [Avi,hk] at h1
  have h2:=h1.2
  simp only [List.all_eq_true,List.mem_range] at h2
  have h3:=h2 j (lt_size hj)
  rw [hj] at h3
  simp only [hp,Avi,Bool.or_eq_true] at h3
  rcases h3.2 with h4 | h4
  ·rw [Jg.2 ht] at h4; simp at h4
  ·exact h4
theorem X9 {D:List (List Nat)} {i j:Nat} (h:Ty D i j=true):i∈D.getD j []∨∃ m∈D.getD j [],i∈D.getD m []:=by
 unfold Ty at h
 simp only [Bool.or_eq_true,List.any_eq_true] at h
 exact h.imp Jg.1 fun ⟨m,h1,h2⟩=>⟨m,h1,Jg.1 h2⟩
section
variable {ops:Array Oper} (hd:Qp ops)
include hd
theorem Qp.We {i j:Nat} (h:Ty (ops.toList.map Gz) i j=true):i<j:=by
 rcases X9 h with h | ⟨m,h1,h2⟩
 ·obtain ⟨o,ho,hi⟩:=Et h
  exact hd.lt j o ho i hi
 ·obtain ⟨o,ho,hi⟩:=Et h1
  obtain ⟨p,hp,hj⟩:=Et h2
  have:=hd.lt j o ho m hi
  have:=hd.lt m p hp i hj
  omega
end
def S7 (ops:Array Oper) (S:Nat→Prop):Prop:=∀ k o,ops[k]?=some o→S k→∀ i∈Gz o,S i
theorem S7.bef {ops:Array Oper} {S:Nat→Prop} (hc:S7 ops S) {k:Nat} (hk:∀ o,ops[k]?=some o→∀ i∈Gz o,S i) {i:Nat} (h:Ty (ops.toList.map Gz) i k=true):S i:=by
 rcases X9 h with h | ⟨m,h1,h2⟩
 ·obtain ⟨o,ho,hi⟩:=Et h
  exact hk o ho i hi
 ·obtain ⟨o,ho,hi⟩:=Et h1
  obtain ⟨p,hp,hj⟩:=Et h2
  exact hc m p hp (hk o ho m hi) i hj
theorem S4 {D:List (List Nat)} {i j:Nat} (h1:i≠j) (h2:Ty D i j≠true) (h3:Ty D j i≠true):K4 D i j=true:=by
 unfold K4
 have e1:Nat.beq i j=false:=by
  cases hb:Nat.beq i j with
  | false=>rfl
  | true=>exact absurd (Avp hb) h1
 rw [e1,Bool.not_eq_true _ |>.mp h2,Bool.not_eq_true _ |>.mp h3]; rfl
theorem Qa {D:List (List Nat)} {s k n:Nat} (ha:K4 D s k=true):∀ {M:List (Nat × List Nat)},n∈J8 s M→n∈Gh D k M
 | [],h=>by simp [J8] at h
 | (s',ns)::M,h=>by
   simp only [J8] at h
   simp only [Gh]
   cases hb:Nat.beq s' s with
   | true =>
     have:=Avp hb
     subst this
     rw [hb] at h
     rw [ha]
     simp only [Au7,List.mem_append] at h ⊢
     exact h.imp id (Qa ha)
   | false =>
     rw [hb] at h
     simp only [Avb] at h
     have:=Qa ha h
     cases K4 D s' k
     ·exact this
     ·exact List.mem_append.2 (.inr this)
theorem Ag0 {D:List (List Nat)} {s k:Nat} (ha:K4 D s k=true) (hk:k<D.length):N9 D s=true:=by
 unfold N9
 exact List.any_eq_true.2 ⟨k,List.mem_range.2 hk,ha⟩
def Ym (E:Env) (ops:Array Oper) (M:List (Nat × List Nat)) (tr:Nat→St) (n:Nat) (k:Nat):Prop :=
 ∃ o,ops[k]?=some o∧(n∈Ey E ops (Lm (Gh (ops.toList.map Gz) k M) (tr k)) o∨(look (tr k).heap n=none∧look (tr (k+1)).heap n≠none))
def Aip (ops:Array Oper) (len:Nat) (t:Nat) (k:Nat):Prop:=t<len∧∃ o,ops[k]?=some o∧o.dst=some t
def Og (E:Env) (ops:Array Oper) (M:List (Nat × List Nat)) (tr:Nat→St) (S:Nat→Prop) (n:Nat):Option (Bool × OB):=after (fun k=>look (tr k).heap n) (Ym E ops M tr n) S ops.size
def W3 (ops:Array Oper) (tr:Nat→St) (S:Nat→Prop) (t:Nat):DV:=after (fun k=>(tr k).tmps.getD t .undef) (Aip ops (tr 0).tmps.length t) S ops.size
section
variable {P:Program} {E:Env} {ops:Array Oper} {M:List (Nat × List Nat)} {tr:Nat→St} (hd:Qp ops) (T:Trace P E ops (ops.toList.map Gz) M tr)
include T
theorem Trace.len {k:Nat} (h:k≤ops.size):(tr k).tmps.length=(tr 0).tmps.length:=by
 induction k with
 | zero=>rfl
 | succ k ih =>
   obtain ⟨mk,mk',d,hs⟩:=T.saw k ops[k] (Avr (by omega))
   rw [hs.length,ih (by omega)]
theorem Trace.stays {n j k:Nat} (hj:look (tr j).heap n≠none) (hjk:j≤k) (hk:k≤ops.size):look (tr k).heap n≠none:=by
 induction k with
 | zero=>obtain rfl:j=0:=by omega
         exact hj
 | succ k ih =>
   by_cases e:j=k+1
   ·rw [← e]; exact hj
   ·obtain ⟨mk,mk',d,hs⟩:=T.saw k ops[k] (Avr (by omega))
    exact hs.stays (ih (by omega) (by omega))
theorem Trace.Ah9 {n j:Nat} (hj:j<ops.size) (ht:¬ Ym E ops M tr n j):look (tr (j+1)).heap n=look (tr j).heap n:=by
 obtain ⟨mk,mk',d,hs⟩:=T.saw j ops[j] (Avr hj)
 exact hs.same (fun h=>ht ⟨_,Avr hj,.inl h⟩) (fun h=>ht ⟨_,Avr hj,.inr h⟩)
theorem Trace.Apd {t j:Nat} (hj:j<ops.size) (ht:¬ Aip ops (tr 0).tmps.length t j):(tr (j+1)).tmps.getD t .undef=(tr j).tmps.getD t .undef:=by
 obtain ⟨mk,mk',d,hs⟩:=T.saw j ops[j] (Avr hj)
 rw [hs.getD,T.len (by omega),Avt (fun e=>ht ⟨e.2,_,Avr hj,e.1⟩)]
theorem Trace.J2 {n j:Nat} {o:Oper} (ho:ops[j]?=some o) (ht:Ym E ops M tr n j):(n∈Ey E ops (Lm (Gh (ops.toList.map Gz) j M) (tr j)) o∧look (tr j).heap n≠none)∨(look (tr j).heap n=none∧look (tr (j+1)).heap n≠none):=by
 obtain ⟨o',ho',h⟩:=ht
 rw [ho] at ho'; cases ho'
 rcases h with h | h
 ·obtain ⟨mk,mk',d,hs⟩:=T.saw j o ho
  exact .inl ⟨h,(hs.Aqh h).1⟩
 ·exact .inr h
theorem Trace.Akq {s k n:Nat} {o:Oper} (hs:ops[s]?=some o) (hk:k<ops.size) (ha:K4 (ops.toList.map Gz) s k=true) (hn:n∈Ey E ops (Lm (Gh (ops.toList.map Gz) s M) (tr s)) o):n∈Gh (ops.toList.map Gz) k M :=
 Qa ha (T.Aqh s o hs (Ag0 ha (by simpa using hk)) n hn)
omit T in
theorem Ot {S:Nat→Prop} (hd:Qp ops) (hc:S7 ops S) {k:Nat} (hk:¬ S k) {j:Nat} (hj:S j) (hlt:k<j):K4 (ops.toList.map Gz) j k=true:=by
 refine S4 (by omega) (fun e=>?_) (fun e=>?_)
 ·have:=hd.We e; omega
 ·exact hk (hc.bef (fun p hp=>hc j p hp hj) e)
omit T in
theorem Zx {S:Nat→Prop} (hd:Qp ops) (hc:S7 ops S) {k:Nat} {o:Oper} (ho:ops[k]?=some o) (hr:∀ i∈Gz o,S i) {j:Nat} (hj:¬ S j) (hlt:j<k):K4 (ops.toList.map Gz) j k=true:=by
 refine S4 (by omega) (fun e=>?_) (fun e=>?_)
 ·exact hj (hc.bef (fun p hp=>by rw [ho] at hp; cases hp; exact hr) e)
 ·have:=hd.We e; omega
include hd
variable {S:Nat→Prop} (hc:S7 ops S) {k:Nat} {o:Oper} (ho:ops[k]?=some o) (hk:¬ S k) (hr:∀ i∈Gz o,S i)
include hc ho hk hr
theorem Trace.Anj {n:Nat} (hm:n ∉ Gh (ops.toList.map Gz) k M) (h1:look (tr k).heap n≠none) (h2:Og E ops M tr S n≠none):Og E ops M tr S n=look (tr k).heap n:=by
 have hkN:=lt_size ho
 refine Jn (val:=fun k=>look (tr k).heap n) (fun j hj ht=>T.Ah9 hj ht) (by omega) fun j hj ht=>?_
 have hoj:ops[j]?=some ops[j]:=Avr hj
 constructor
 ·intro hS
  rcases Av4 j k with h | h
  ·exact h
  ·have hne:j≠k:=fun e=>hk (e ▸ hS)
   have ha:=Ot hd hc hk hS (by omega)
   rcases T.J2 hoj ht with ⟨h3,_⟩ | ⟨h3,_⟩
   ·exact absurd (T.Akq hoj hkN ha h3) hm
   ·exact absurd h3 (T.stays h1 (by omega) (by omega))
 ·intro hlt
  refine Classical.byContradiction fun hS=>?_
  have ha:=Zx hd hc ho hr hS hlt
  rcases T.J2 hoj ht with ⟨h3,_⟩ | ⟨h3,h4⟩
  ·exact hm (T.Akq hoj hkN ha h3)
  ·
   refine h2 ?_
   have:Og E ops M tr S n=look (tr 0).heap n:=by
    refine Jn (k:=0) (val:=fun k=>look (tr k).heap n) (fun j hj ht=>T.Ah9 hj ht) (by omega) fun i hi hti=>⟨fun hSi=>?_,fun h=>by omega⟩
    exfalso
    have hoi:ops[i]?=some ops[i]:=Avr hi
    have hij:i≠j:=fun e=>hS (e ▸ hSi)
    have hji:j<i:=by
     rcases T.J2 hoi hti with ⟨_,h5⟩ | ⟨h5,h6⟩
     ·rcases Av4 j i with h | h
      ·exact h
      ·exact absurd h3 (T.stays h5 h (by omega))
     ·rcases Av4 j i with h | h
      ·exact h
      ·exact absurd h3 (T.stays h6 (by omega) (by omega))
    have hap:K4 (ops.toList.map Gz) i j=true:=by
     refine S4 hij (fun e=>?_) (fun e=>?_)
     ·have:=hd.We e; omega
     ·exact hS (hc.bef (fun p hp=>hc i p hp hSi) e)
    rcases T.J2 hoi hti with ⟨h5,_⟩ | ⟨h5,_⟩
    ·obtain ⟨mk,mk',d,hsj⟩:=T.saw j _ hoj
     exact hsj.made h3 h4 (T.Akq hoi hj hap h5)
    ·exact absurd h5 (T.stays h4 (by omega) (by omega))
   rw [this]
   cases hq:look (tr 0).heap n with
   | none=>rfl
   | some x=>exact absurd h3 (T.stays (j:=0) (by rw [hq]; simp) (by omega) (by omega))
theorem Trace.Apz {t:Nat} (ht:t∈o.looksAt ops):W3 ops tr S t=(tr k).tmps.getD t .undef:=by
 have hkN:=lt_size ho
 refine Jn (val:=fun k=>(tr k).tmps.getD t .undef) (fun j hj h=>T.Apd hj h) (by omega) fun j hj hj'=>?_
 obtain ⟨_,p,hp,hdst⟩:=hj'
 rcases hd.told k j o p t ho hp hdst ht with h | h
 ·have:=hd.We h
  exact ⟨fun _=>this,fun _=>hc.bef (fun p hp=>by rw [ho] at hp; cases hp; exact hr) h⟩
 ·have:=hd.We h
  exact ⟨fun hS=>absurd (hc.bef (fun p hp=>hc j p hp hS) h) hk,fun h=>by omega⟩
theorem Trace.step {S0 I0:Nat→Prop} {B:Nat} {w0:World} {A:Nat→Option Place} {a:Act} {w:World} (h:Hn S0 I0 B w0 A (Og E ops M tr S) (W3 ops tr S) (tr 0).tmps.length a w) {Q:Exit→Act→World→Prop} :
 Hh P ops o a w Q fun v w'=>∃ A',Hn S0 I0 B w0 A' (Og E ops M tr fun j=>S j∨j=k) (W3 ops tr fun j=>S j∨j=k) (tr 0).tmps.length (a.put o.dst v) w':=by
 have hkN:=lt_size ho
 obtain ⟨mk,mk',d,hs⟩:=T.saw k o ho
 have hout:∀ {n},look mk'.heap n≠none→look mk'.heap n=look (tr (k+1)).heap n:=by
  intro n hn
  rw [hs.heap,Avt (hs.out n hn)]
 refine h.step hs.ok (fun n hA hl=>?_) (fun t ht=>?_) (by rw [hs.tmps,T.len (by omega)]) (fun n h1 h2=>?_) (fun n h1 h2=>?_) (fun n h1 h2=>?_) (fun t=>?_)
 ·have hm:n ∉ Gh (ops.toList.map Gz) k M:=fun e=>hl (by rw [hs.mask,Avu e])
  rw [hs.mask,Avt hm] at hl ⊢
  refine (T.Anj hd hc ho hk hr hm hl ?_).symm
  cases hA':A n with
  | none=>exact absurd hA' hA
  | some p =>
    obtain ⟨fo,hfo,_⟩:=h.obj n p hA'
    rw [hfo]; simp
 ·rw [hs.tmps]; exact (T.Apz hd hc ho hk hr ht).symm
 ·
  have hm:=hs.out n h2
  rw [hs.mask,Avt hm] at h1
  rw [hout h2] at h2
  have:Og E ops M tr S n=look (tr 0).heap n:=by
   refine Jn (k:=0) (val:=fun k=>look (tr k).heap n) (fun j hj ht=>T.Ah9 hj ht) (by omega) fun i hi hti=>⟨fun hSi=>?_,fun h=>by omega⟩
   exfalso
   have hoi:ops[i]?=some ops[i]:=Avr hi
   have hik:i≠k:=fun e=>hk (e ▸ hSi)
   rcases T.J2 hoi hti with ⟨h5,h6⟩ | ⟨h5,h6⟩
   ·rcases Av4 i k with hlt | hge
    ·exact absurd h1 (T.stays h6 (by omega) (by omega))
    ·exact hm (T.Akq hoi hkN (Ot hd hc hk hSi (by omega)) h5)
   ·rcases Av4 i k with hlt | hge
    ·exact absurd h1 (T.stays h6 (by omega) (by omega))
    ·exact absurd h5 (T.stays h2 (by omega) (by omega))
  rw [this]
  cases hq:look (tr 0).heap n with
  | none=>rfl
  | some x=>exact absurd h1 (T.stays (j:=0) (by rw [hq]; simp) (by omega) (by omega))
 ·have hm:=hs.out n h1
  rw [hs.mask,Avt hm,hs.seen] at h2
  have e1:=hout h1
  rw [e1] at h1 ⊢
  have ht:Ym E ops M tr n k:=⟨o,ho,h2.imp id fun e=>⟨e,h1⟩⟩
  refine Wf (val:=fun k=>look (tr k).heap n) hkN ht (.inr rfl) fun i hlt hi hti hSi=>?_
  have hSi:=hSi.resolve_right (by omega)
  have hoi:ops[i]?=some ops[i]:=Avr hi
  rcases T.J2 hoi hti with ⟨h5,_⟩ | ⟨h5,_⟩
  ·exact hm (T.Akq hoi hkN (Ot hd hc hk hSi hlt) h5)
  ·exact absurd h5 (T.stays h1 (by omega) (by omega))
 ·rw [hs.seen] at h1
  refine Li fun j hj ht=>⟨fun h=>h.resolve_right fun e=>?_,.inl⟩
  subst e
  obtain ⟨o',ho',h3⟩:=ht
  rw [ho] at ho'; cases ho'
  rcases h3 with h3 | ⟨h3,h4⟩
  ·exact h1 h3
  ·have hm:=hs.made h3 h4
   refine h2 ⟨by rw [hs.mask,Avt hm]; exact h3,?_⟩
   rw [hs.heap,Avt hm] at h4; exact h4
 ·split
  ·rename_i ht
   have h1:W3 ops tr (fun j=>S j∨j=k) t=(tr (k+1)).tmps.getD t .undef:=by
    refine Wf (val:=fun k=>(tr k).tmps.getD t .undef) hkN ⟨ht.2,o,ho,ht.1⟩ (.inr rfl) fun i hlt hi hti hSi=>?_
    obtain ⟨_,p,hp,hdst⟩:=hti
    have:=hd.once i k p o t hp ho ht.1 hdst
    omega
   rw [h1,hs.getD,Avu ⟨ht.1,by rw [T.len (by omega)]; exact ht.2⟩]
  ·rename_i ht
   refine Li fun j hj hj'=>⟨fun h=>h.resolve_right fun e=>?_,.inl⟩
   subst e
   obtain ⟨h1,p,hp,hdst⟩:=hj'
   rw [ho] at hp; cases hp
   exact ht ⟨hdst,h1⟩
end
end Go.Den
namespace Go.Den
open Go.RowKit (Below)
section
variable {P:Program} {E:Env} {S I0:Nat→Prop} {B:Nat} {w0:World}
theorem Aez {β:Type} (he:Hy P E) {ops:Array Oper} {draw:Bool} {Q:Exit→Act→World→Prop} {K:St→Option β} {r:β} :
 ∀ (l:List Oper) (k:Nat) (st:St),(∀ j,l[j]?=ops[k+j]?)→Ana E ops draw l st K=some r→∀ a w,Ex S I0 B w0 st a w →
 (∀ st a w,K st=some r→Ex S I0 B w0 st a w→Q .normal a w)→wpOps P ops Q (List.range' k l.length) a w
 | [],k,st,_,h,a,w,hh,hQ=>hQ st a w h hh
 | o::l,k,st,hl,h,a,w,hh,hQ=>by
   simp only [Ana] at h
   cases hs:Jw E ops draw st o with
   | none=>rw [hs] at h; cases h
   | some x =>
     obtain ⟨b,st'⟩:=x
     rw [hs] at h
     simp only at h
     cases b with
     | false=>cases h
     | true =>
       simp only [Au7] at h
       obtain ⟨d,hd⟩:=Ut he hs
       have ho:ops[k]?=some o:=by simpa using (hl 0).symm
       rw [List.length_cons,List.range'_succ]
       simp only [wpOps,ho]
       have:=hh.step hd (Q:=Q) (wpOps P ops Q (List.range' (k+1) l.length)) (fun v w' hv=>Aez he l (k+1) st' (fun j=>by have:=hl (j+1); simpa [Nat.add_assoc,Nat.add_comm 1 j] using this) h _ _ hv hQ)
       split
       ·rename_i hw; rw [Avu hw] at this; exact .inl this
       ·rename_i hw; rw [Avt hw] at this; exact this
theorem Hn.congr {A:Nat→Option Place} {f f':Nat→Option (Bool × OB)} {g g':Nat→DV} {len len':Nat} {a:Act} {w:World} (h:Hn S I0 B w0 A f g len a w) (hf:∀ n,f n=f' n) (hg:∀ t,g t=g' t) (hl:len=len'):Hn S I0 B w0 A f' g' len' a w:=by
 obtain rfl:f=f':=funext hf
 obtain rfl:g=g':=funext hg
 subst hl; exact h
def Jz (listed:Array Bool) (j:Nat):Prop:=listed.getD j false=true
theorem No {l:Array Bool} {j:Nat} (h:l.getD j true=false):j<l.size∧l.getD j false=false:=by
 rcases Av4 j l.size with h' | h'
 ·refine ⟨h',?_⟩
  simp only [Array.getD_eq_getD_getElem?,Avr h',Awr] at h ⊢; exact h
 ·simp [Array.getD_eq_getD_getElem?,Array.getElem?_eq_none h'] at h
theorem Sw {listed:Array Bool} {k:Nat} (hk:k<listed.size) (j:Nat):Jz (listed.setIfInBounds k true) j↔Jz listed j∨j=k:=by
 unfold Jz
 simp only [Array.getD_eq_getD_getElem?]
 by_cases e:k=j
 ·subst e; simp [hk]
 ·rw [Array.getElem?_setIfInBounds_ne e]
  exact ⟨.inl,fun h=>h.resolve_right (fun h=>e h.symm)⟩
theorem count_set {listed:Array Bool} {k:Nat} (h:listed.getD k true=false):(listed.setIfInBounds k true).toList.count false+1=listed.toList.count false:=by
 obtain ⟨hk,h2⟩:=No h
 have hk':k<listed.toList.length:=by simpa using hk
 have hv:listed.toList[k]=false:=by
  simpa [Array.getD_eq_getD_getElem?,Avr hk] using h2
 have hp:0<List.count false listed.toList:=List.count_pos_iff.2 (hv ▸ List.getElem_mem hk')
 rw [Array.toList_setIfInBounds,List.count_set hk',hv,Avu (Av7 _),Avt (by simp)]
 omega
theorem Aqy {ops:Array Oper} {M:List (Nat × List Nat)} {tr:Nat→St} (hd:Qp ops) (T:Trace P E ops (ops.toList.map Gz) M tr) {Q:Exit→Act→World→Prop}
 (hQ:∀ a w,Ex S I0 B w0 (tr ops.size) a w→Q .normal a w):∀ (fuel:Nat) (listed:Array Bool) (a:Act) (w:World),listed.size=ops.size→S7 ops (Jz listed)→listed.toList.count false=fuel →
 (∃ A,Hn S I0 B w0 A (Og E ops M tr (Jz listed)) (W3 ops tr (Jz listed)) (tr 0).tmps.length a w)→wpAny P .any ops Q fuel listed a w:=by
 have last:∀ (listed:Array Bool) (a:Act) (w:World),listed.size=ops.size→Region.ready .any ops listed=[]→(∃ A,Hn S I0 B w0 A (Og E ops M tr (Jz listed)) (W3 ops tr (Jz listed)) (tr 0).tmps.length a w)→Q .normal a w:=by
  rintro listed a w hsz hr ⟨A,h⟩
  have all:∀ k,k<ops.size→Jz listed k:=by
   intro k
   induction k using Nat.strongRecOn with
   | _ k ih =>
     intro hk
     refine Classical.byContradiction fun hn=>?_
     have:k∈Region.ready .any ops listed:=mem_ready.2 ⟨?_,ops[k],Avr hk,fun e he hb=>?_⟩
     ·rw [hr] at this; cases this
     ·unfold Jz at hn
      have hk':k<listed.size:=by omega
      simp only [Array.getD_eq_getD_getElem?,Avr hk',Awr,Bool.not_eq_true] at hn ⊢
      exact hn
     ·have hlt:=hd.lt k ops[k] (Avr hk) e.on (Aa4.2 ⟨e,he,hb,rfl⟩)
      exact ih e.on hlt (by omega)
  refine hQ a w ⟨A,h.congr (fun n=>?_) (fun t=>?_) (T.len (Av1 _)).symm⟩
  ·exact Jn (val:=fun k=>look (tr k).heap n) (fun j hj ht=>T.Ah9 hj ht) (Av1 _) fun j hj _=>⟨fun _=>hj,fun _=>all j hj⟩
  ·exact Jn (val:=fun k=>(tr k).tmps.getD t .undef) (fun j hj ht=>T.Apd hj ht) (Av1 _) fun j hj _=>⟨fun _=>hj,fun _=>all j hj⟩
 intro fuel
 induction fuel with
 | zero =>
   intro listed a w hsz hc hf h
   have hr:Region.ready .any ops listed=[]:=by
    refine List.eq_nil_iff_forall_not_mem.2 fun k hk=>?_
    have h1:=count_set (mem_ready.1 hk).1
    omega
   exact ⟨hr,last listed a w hsz hr h⟩
 | succ fuel ih =>
   intro listed a w hsz hc hf h
   refine ⟨fun hr=>last listed a w hsz hr h,fun k hk=>?_⟩
   obtain ⟨hun,o,ho,hall⟩:=mem_ready.1 hk
   obtain ⟨hks,hkf⟩:=No hun
   have hkS:¬ Jz listed k:=by unfold Jz; rw [hkf]; simp
   have hrS:∀ i∈Gz o,Jz listed i:=fun i hi=>by
    obtain ⟨e,he,hb,rfl⟩:=Aa4.1 hi
    exact hall e he hb
   obtain ⟨A,h⟩:=h
   have hstep:=T.step hd hc ho hkS hrS h (Q:=Q) (wpAny P .any ops Q fuel (listed.setIfInBounds k true)) (fun v w' hv=>by
    obtain ⟨A',hv⟩:=hv
    refine ih _ _ _ (by simp [hsz]) ?_ ?_ ⟨A',hv.congr (fun n=>?_) (fun t=>?_) rfl⟩
    ·intro j p hp hj i hi
     rw [Sw hks] at hj ⊢
     rcases hj with hj | rfl
     ·exact .inl (hc j p hp hj i hi)
     ·rw [ho] at hp; cases hp
      exact .inl (hrS i hi)
    ·have:=count_set hun; omega
    ·exact Li fun j _ _=>(Sw hks j).symm
    ·exact Li fun j _ _=>(Sw hks j).symm)
   unfold wpOp
   rw [ho]
   simp only
   split
   ·rename_i hw; rw [Avu hw] at hstep; exact .inl hstep
   ·rename_i hw; rw [Avt hw] at hstep; exact hstep
theorem Ex.drew {st:St} {a:Act} {w:World} (h:Ex S I0 B w0 st a w):Ex S I0 B w0 st a { w with drawn:=w.drawn+1 }:=by
 obtain ⟨A,h⟩:=h
 have hmv:G8 A w A { w with drawn:=w.drawn+1 }:=⟨Av1 _,(G8.refl A w).names,(G8.refl A w).live,fun _ _ _=>rfl⟩
 have hl:=hmv.C0 (I0:=I0) (B:=B)
 exact ⟨A,h.defers,h.size,h.below.trans ⟨rfl,rfl,rfl,Av1 _,fun _ _=>rfl⟩,h.hB,h.I0lt,fun n p hp=>by
  obtain ⟨fo,h1,h2⟩:=h.obj n p hp
  exact ⟨fo,h1,N4 hl (fun _ _ _=>rfl) h2⟩,h.blkB,h.inj,fun t=>Aj.C0 hl _ _ (h.tmps t),h.kept⟩
theorem Ak8 {β:Type} (he:Hy P E) {id:Nat} {ops:Array Oper} {Q:Exit→Act→World→Prop} {K:St→Option β} {r:β} {st:St} (h:Ak9 E ops st K=some r) {a:Act} {w:World} (hh:Ex S I0 B w0 st a w)
 (hQ:∀ st a w,K st=some r→Ex S I0 B w0 st a w→Q .normal a w):(Code.region id ops true).wp P Q a w:=by
 unfold Ak9 at h
 cases hc:Zk ops (ops.toList.map Gz) with
 | false=>rw [hc] at h; cases h
 | true =>
   rw [hc,Au7] at h
   have hd:=Abx hc
   generalize (bif Adi ops (ops.toList.map Gz) 0 ops.toList then Zd E ops 0 ops.toList st else [])=M at h
   obtain ⟨tr,h0,h1,h2⟩:=Tg he ops.toList 0 st (fun j=>by simp) h
   have T:Trace P E ops (ops.toList.map Gz) M tr:=⟨fun k o ho=>by
    have:=(h2 k o (by simpa using ho)).1
    rw [Awh] at this; exact this,fun k o ho hlo=>by
    have:=(h2 k o (by simpa using ho)).2
    rw [Awh] at this; exact this hlo⟩
   refine wp_region_any he.mixed (Aqy hd T (fun a w hw=>hQ _ a w (by simpa using h1) hw) _ _ _ _ (by simp) ?_ (by simp) ?_)
   ·intro k o _ hk
    unfold Jz at hk
    simp only [Array.getD_eq_getD_getElem?,Array.getElem?_replicate] at hk
    split at hk<;>cases hk
   ·obtain ⟨A,hA⟩:=hh.drew
    subst h0
    refine ⟨A,hA.congr (fun n=>?_) (fun t=>?_) rfl⟩
    ·refine (Jn (k:=0) (val:=fun k=>look (tr k).heap n) (fun j hj ht=>T.Ah9 hj ht) (by omega) fun j hj _=>⟨fun hk=>?_,fun h=>by omega⟩).symm
     unfold Jz at hk
     simp only [Array.getD_eq_getD_getElem?,Array.getElem?_replicate] at hk
     split at hk<;>cases hk
    ·refine (Jn (k:=0) (val:=fun k=>(tr k).tmps.getD t .undef) (fun j hj ht=>T.Apd hj ht) (by omega) fun j hj _=>⟨fun hk=>?_,fun h=>by omega⟩).symm
     unfold Jz at hk
     simp only [Array.getD_eq_getD_getElem?,Array.getElem?_replicate] at hk
     split at hk<;>cases hk
end
end Go.Den
namespace Go.Den
open Go.RowKit (Below)
def Ctx.only (c:Ctx) (ns:List Nat):Ctx:={ c with at_:=fun n=>if n∈ns then c.at_ n else none }
theorem M9 {n:Nat} {l:List Nat} (h:l.contains n=true):n∈l:=by simpa using h
theorem Yx {c:Ctx} {w:World} (ns:List Nat):∀ (f:Nat) (d:DV) (v:Value),D2 f ns d=true→Aj c w d v→Aj (c.only ns) w d v:=by
 intro f
 induction f with
 | zero=>intro d v h; simp [D2] at h
 | succ f ih =>
   have all:∀ (l:List DV) (vs:List Value),l.all (D2 f ns)=true→A5 c w l vs→A5 (c.only ns) w l vs:=by
    intro l
    induction l with
    | nil=>intro vs _ h; rw [A5.Ff] at h ⊢; exact h
    | cons d l ihl =>
      intro vs h hv
      simp only [List.all_cons,Avi] at h
      rw [A5.Ce] at hv ⊢
      obtain ⟨u,us,e,h1,h2⟩:=hv
      exact ⟨u,us,e,ih d u h.1 h1,ihl us h.2 h2⟩
   intro d v h hv
   cases d with
   | agg l =>
     simp only [D2] at h
     simp only [Aj] at hv ⊢
     obtain ⟨vs,e,hl⟩:=hv
     exact ⟨vs,e,all l _ h hl⟩
   | tup l =>
     simp only [D2] at h
     simp only [Aj] at hv ⊢
     obtain ⟨vs,e,hl⟩:=hv
     exact ⟨vs,e,all l _ h hl⟩
   | fn g a b =>
     simp only [D2,Avi] at h
     simp only [Aj] at hv ⊢
     obtain ⟨fs,cs,e,h1,h2⟩:=hv
     exact ⟨fs,cs,e,all a _ h.1 h1,all b _ h.2 h2⟩
   | gd g d =>
     simp only [D2] at h
     simp only [Aj] at hv ⊢
     exact ⟨fun e=>ih d v h (hv.1 e),hv.2⟩
   | oref n =>
     simp only [D2] at h
     simp only [Aj] at hv ⊢
     obtain ⟨h1,p,hp,hd⟩:=hv
     exact ⟨h1,p,by simp only [Ctx.only,M9 h,if_true]; exact hp,hd⟩
   | sref n o m =>
     simp only [D2] at h
     simp only [Aj] at hv ⊢
     obtain ⟨h1,p,hp,hd⟩:=hv
     exact ⟨h1,p,by simp only [Ctx.only,M9 h,if_true]; exact hp,hd⟩
   | ptr n i j =>
     simp only [D2] at h
     simp only [Aj] at hv ⊢
     obtain ⟨h1,p,hp,hd⟩:=hv
     exact ⟨h1,p,by simp only [Ctx.only,M9 h,if_true]; exact hp,hd⟩
   | ints g k l=>cases g<;>(simp only [Aj] at hv ⊢; exact hv)
   | recs g k l=>cases g<;>(simp only [Aj] at hv ⊢; exact hv)
   | undef=>simp only [Aj]
   | _=>simp only [Aj] at hv ⊢; exact hv
def Vz (n:Nat):List (Nat × Nat × Nat × OB)→Option (Nat × Nat × Nat × OB)
 | []=>none
 | x::xs=>if x.2.2.1=n then some x else Vz n xs
theorem Su {n:Nat}:∀ {l:List (Nat × Nat × Nat × OB)} {x},Vz n l=some x→x∈l∧x.2.2.1=n
 | [],x,h=>by cases h
 | y::l,x,h=>by
   simp only [Vz] at h
   split at h
   ·cases h; exact ⟨Awm,‹_›⟩
   ·exact ⟨Awc _ (Su h).1,(Su h).2⟩
theorem Rp:∀ {l:List (Nat × Nat × Nat × OB)} {x},(l.map (·.2.2.1)).Nodup→x∈l→Vz x.2.2.1 l=some x
 | [],x,_,h=>by cases h
 | y::l,x,hn,h=>by
   simp only [List.map_cons,List.nodup_cons] at hn
   simp only [Vz]
   rcases List.mem_cons.1 h with rfl | h
   ·rw [Avu rfl]
   ·rw [Avt (fun e=>hn.1 (by rw [e]; exact List.mem_map.2 ⟨x,h,rfl⟩))]
    exact Rp hn.2 h
theorem P8 {b j nm:Nat}:∀ {l:List (Nat × Nat × Nat × OB)},Ix b j l=some nm→∃ ob,(b,j,nm,ob)∈l
 | [],h=>by cases h
 | (b',j',nm',ob)::l,h=>by
   simp only [Ix] at h
   cases hb:(Nat.beq b b'&&Nat.beq j j') with
   | true =>
     rw [hb] at h
     simp only [Au7,Ava] at h
     simp only [Avi] at hb
     have e1:=Avp hb.1
     have e2:=Avp hb.2
     subst e1 e2 h
     exact ⟨ob,Awm⟩
   | false =>
     rw [hb] at h
     obtain ⟨ob',h'⟩:=P8 h
     exact ⟨ob',Awc _ h'⟩
theorem U8 {st:St}:∀ {l:List (Nat × Nat × Nat × OB)} {h:Da} {ns:List Nat},U9 st l=some (h,ns)→(l.map (·.2.2.1)).Nodup→ns.Nodup →
 (∀ x∈l,∃ s ob,Yz st x=some (s,ob)∧look h x.2.2.1=some (false,ob)∧∀ n,s=some n→n∈ns) ∧
 (∀ n fo,look h n=some fo→∃ x∈l,x.2.2.1=n) ∧
 (∀ x∈l,∀ y∈l,∀ n ob ob',Yz st x=some (some n,ob)→Yz st y=some (some n,ob')→x=y)
 | [],h,ns,hs,_,_=>by
   simp only [U9,Ava,Avg] at hs
   obtain ⟨rfl,rfl⟩:=hs
   exact ⟨fun x hx=>(by cases hx),fun n fo hl=>(by cases hl),fun x hx=>(by cases hx)⟩
 | x::l,h,ns,hs,hn,hns=>by
   simp only [U9] at hs
   cases ho:Yz st x with
   | none=>simp [ho] at hs
   | some r =>
     obtain ⟨s,ob⟩:=r
     cases hl:U9 st l with
     | none=>simp [ho,hl] at hs
     | some r =>
       obtain ⟨h',ns'⟩:=r
       simp only [ho,hl,Ava,Avg] at hs
       obtain ⟨rfl,rfl⟩:=hs
       simp only [List.map_cons,List.nodup_cons] at hn
       rw [List.nodup_append] at hns
       obtain ⟨i1,i2,i3⟩:=U8 hl hn.2 hns.2.1
       have hx:∀ y∈l,x.2.2.1≠y.2.2.1:=fun y hy e=>hn.1 (by rw [e]; exact List.mem_map.2 ⟨y,hy,rfl⟩)
       have cross:∀ y∈l,∀ n ob ob',Yz st x=some (some n,ob)→Yz st y=some (some n,ob')→False:=by
        intro y hy n o1 o2 h1 h2
        rw [ho] at h1; cases h1
        obtain ⟨s',ob',h3,_,h4⟩:=i1 y hy
        rw [h2] at h3; cases h3
        exact hns.2.2 n (by simp) n (h4 n rfl) rfl
       refine ⟨fun y hy=>?_,fun n fo hl'=>?_,fun y hy z hz n o1 o2 h1 h2=>?_⟩
       ·rcases List.mem_cons.1 hy with rfl | hy
        ·exact ⟨s,ob,ho,by simp [look],fun n e=>by rw [e]; simp⟩
        ·obtain ⟨s',ob',h1,h2,h3⟩:=i1 y hy
         refine ⟨s',ob',h1,?_,fun n e=>List.mem_append.2 (.inr (h3 n e))⟩
         simp only [look,show (x.2.2.1==y.2.2.1)=false by simpa using hx y hy,Avb]
         exact h2
       ·simp only [look] at hl'
        by_cases e:x.2.2.1=n
        ·exact ⟨x,Awm,e⟩
        ·rw [show (x.2.2.1==n)=false by simpa using e] at hl'
         obtain ⟨y,hy,hyn⟩:=i2 n fo hl'
         exact ⟨y,Awc _ hy,hyn⟩
       ·rcases List.mem_cons.1 hy with e1 | hy2
        ·rcases List.mem_cons.1 hz with e2 | hz2
         ·rw [e1,e2]
         ·exact (cross z hz2 n o1 o2 (e1 ▸ h1) h2).elim
        ·rcases List.mem_cons.1 hz with e2 | hz2
         ·exact (cross y hy2 n o2 o1 (e2 ▸ h2) h1).elim
         ·exact i3 y hy2 z hz2 n o1 o2 h1 h2
theorem Tr {st:St} {H:A9}:∀ {bs:List Nat} {h:Da},Qm st H bs=some h→bs.Nodup →
 (∀ b∈bs,∃ f cs,look st.heap b=some (f,.box cs)∧O6 H.objs H.boxes (b+1) 0 cs=true∧look h b=some (f,.box (Ql H.objs (b+1) 0 cs)))∧(∀ n fo,look h n=some fo→n∈bs)
 | [],h,hs,_=>by
   simp only [Qm,Ava] at hs
   subst hs
   exact ⟨fun x hx=>(by cases hx),fun n fo hl=>(by cases hl)⟩
 | b::bs,h,hs,hn=>by
   simp only [Qm] at hs
   split at hs
   ·rename_i f cs hl
    cases hc:O6 H.objs H.boxes (b+1) 0 cs with
    | false=>rw [hc] at hs; cases hs
    | true =>
      rw [hc,Au7] at hs
      cases hb:Qm st H bs with
      | none=>rw [hb] at hs; cases hs
      | some h' =>
        rw [hb] at hs
        simp only [Ava] at hs
        subst hs
        simp only [List.nodup_cons] at hn
        obtain ⟨i1,i2⟩:=Tr hb hn.2
        refine ⟨fun c hc'=>?_,fun n fo hl'=>?_⟩
        ·rcases List.mem_cons.1 hc' with rfl | hc'
         ·exact ⟨f,cs,hl,hc,by simp [look]⟩
         ·obtain ⟨f',cs',h1,h2,h3⟩:=i1 c hc'
          refine ⟨f',cs',h1,h2,?_⟩
          have:b≠c:=fun e=>hn.1 (e ▸ hc')
          simp only [look,show (b==c)=false by simpa using this,Avb]
          exact h3
        ·simp only [look] at hl'
         by_cases e:b=n
         ·rw [e]; exact Awm
         ·rw [show (b==n)=false by simpa using e] at hl'
          exact Awc _ (i2 n fo hl')
   ·cases hs
theorem W2 {H:A9}:∀ (l:List DV) (k i:Nat),i<l.length→(Uq H k l).getD i .undef=(match Ix 0 (k+i) H.objs with | some nm=>.oref nm | none=>bif J9 (k+i) H.keep then l.getD i .undef else .undef)
 | [],k,i,h=>by simp at h
 | d::l,k,i,h=>by
   cases i with
   | zero =>
     simp only [Uq,List.getD_cons_zero,Awf]
     cases Ix 0 k H.objs<;>rfl
   | succ i =>
     have:=W2 (H:=H) l (k+1) i (by simpa using h)
     simp only [Uq,List.getD_cons_succ,this]
     rw [show k+1+i=k+(i+1) by omega]
theorem Mn {H:A9}:∀ (l:List DV) (k:Nat),(Uq H k l).length=l.length
 | [],k=>rfl
 | d::l,k=>by simp [Uq,Mn l]
theorem U5 {H:A9}:∀ {l:List DV} {k i:Nat},U6 H k l=true→i<l.length→Ix 0 (k+i) H.objs=none→J9 (k+i) H.keep=true→D2 8 H.boxes (l.getD i .undef)=true
 | [],k,i,_,h,_,_=>by simp at h
 | d::l,k,i,h,hi,h1,h2=>by
   simp only [U6,Avi,Bool.or_eq_true,Bool.not_eq_true'] at h
   cases i with
   | zero =>
     rcases h.1 with h | h | h
     ·rw [Awf] at h1; rw [h1] at h; cases h
     ·rw [Awf] at h2; rw [h2] at h; cases h
     ·exact h
   | succ i =>
     rw [List.getD_cons_succ]
     exact U5 (k:=k+1) h.2 (by simpa using hi) (by rw [show k+1+i=k+(i+1) by omega]; exact h1) (by rw [show k+1+i=k+(i+1) by omega]; exact h2)
theorem V9 {c c':Ctx} {w:World} {objs:List (Nat × Nat × Nat × OB)} {boxes:List Nat} {b:Nat} :
 ∀ (l:List DV) (vs:List Value) (k:Nat),O6 objs boxes b k l=true→A5 c w l vs →
 (∀ d v,D2 8 boxes d=true→Aj c w d v→Aj c' w d v)→(∀ i nm d v,l[i]?=some d→Ix b (k+i) objs=some nm→Aj c w d v→Aj c' w (.oref nm) v)→A5 c' w (Ql objs b k l) vs
 | [],vs,k,_,h,_,_=>by rw [A5.Ff] at h; subst h; simp [Ql,A5]
 | d::l,vs,k,hok,h,h1,h2=>by
   simp only [O6,Avi,Bool.or_eq_true] at hok
   rw [A5.Ce] at h
   obtain ⟨u,us,rfl,hu,hus⟩:=h
   simp only [Ql]
   rw [A5.Ce]
   refine ⟨u,us,rfl,?_,V9 l us (k+1) hok.2 hus h1 fun i nm e v hi hn=>h2 (i+1) nm e v hi (by rw [show k+(i+1)=k+1+i by omega]; exact hn)⟩
   cases hn:Ix b k objs with
   | some nm=>exact h2 0 nm d u rfl hn hu
   | none =>
     rw [hn] at hok
     exact h1 d u (hok.1.resolve_left (by simp)) hu
end Go.Den
namespace Go.Den
open Go.RowKit (Below)
def Aqe:OB→Nat
 | .recs _ sz _=>sz
 | _=>1
def Ie (ob:OB):Place:=⟨.live,.row (.slice none 0 0) (Aqe ob)⟩
open Classical in
def Ma (st:St) (H:A9) (A:Nat→Option Place) (n:Nat):Option Place :=
 if n∈H.boxes then A n else
 match Vz n H.objs with
 | some x=>match Qt st x with
   | .nil=>some (Ie x.2.2.2)
   | .oref m=>A m
   | _=>none
 | none=>none
theorem Iz {st:St} {H:A9} {A:Nat→Option Place} {n:Nat} {p:Place} (h:Ma st H A n=some p) :
 (n∈H.boxes∧A n=some p)∨(n ∉ H.boxes∧∃ x∈H.objs,x.2.2.1=n∧((Qt st x=.nil∧p=Ie x.2.2.2)∨∃ m,Qt st x=.oref m∧A m=some p)):=by
 unfold Ma at h
 by_cases hb:n∈H.boxes
 ·rw [Avu hb] at h; exact .inl ⟨hb,h⟩
 ·rw [Avt hb] at h
  refine .inr ⟨hb,?_⟩
  cases hf:Vz n H.objs with
  | none=>rw [hf] at h; cases h
  | some x =>
    rw [hf] at h
    obtain ⟨hx,hn⟩:=Su hf
    refine ⟨x,hx,hn,?_⟩
    simp only at h
    split at h
    ·rename_i e; cases h; exact .inl ⟨e,rfl⟩
    ·rename_i m e; exact .inr ⟨m,e,h⟩
    ·cases h
theorem N5 {st:St} {x:Nat × Nat × Nat × OB} {s:Option Nat} {ob:OB} (h:Yz st x=some (s,ob)) :
 (Qt st x=.nil∧s=none∧ob=x.2.2.2∧((∃ e k,ob=.ints e k [])∨∃ e sz,0<sz∧ob=.recs e sz [])) ∨
 (∃ m,Qt st x=.oref m∧s=some m∧look st.heap m=some (false,ob)∧((∃ e k l,ob=.ints e k l)∨∃ e sz l,ob=.recs e sz l)):=by
 unfold Yz at h
 split at h
 ·rename_i hs
  left
  split at h
  ·rename_i e k hx
   simp only [Ava,Avg] at h
   exact ⟨hs,h.1.symm,by rw [hx]; exact h.2.symm,.inl ⟨e,k,h.2.symm⟩⟩
  ·rename_i e sz hx
   cases hb:Nat.blt 0 sz with
   | false=>rw [hb] at h; cases h
   | true =>
     rw [hb] at h
     simp only [Au7,Ava,Avg] at h
     exact ⟨hs,h.1.symm,by rw [hx]; exact h.2.symm,.inr ⟨e,sz,by simpa [Nat.blt_eq] using hb,h.2.symm⟩⟩
  ·cases h
 ·rename_i m hs
  right
  split at h
  ·rename_i e k l hl
   simp only [Ava,Avg] at h
   exact ⟨m,hs,h.1.symm,by rw [hl,h.2],.inl ⟨e,k,l,h.2.symm⟩⟩
  ·rename_i e sz l hl
   simp only [Ava,Avg] at h
   exact ⟨m,hs,h.1.symm,by rw [hl,h.2],.inr ⟨e,sz,l,h.2.symm⟩⟩
  ·cases h
 ·cases h
section
variable {S I0:Nat→Prop} {B:Nat} {w0:World}
theorem Ahr {H:A9} {st st1:St} (h:Ad3 (some H) st=some st1) {a:Act} {w:World} (hh:Ex S I0 B w0 st a w):Ex S I0 B w0 st1 a w:=by
 obtain ⟨A,hA⟩:=hh
 simp only [Ad3] at h
 cases hbd:Qm st H H.boxes with
 | none=>rw [hbd] at h; cases h
 | some hb =>
 cases hod:U9 st H.objs with
 | none=>rw [hbd,hod] at h; cases h
 | some r =>
 obtain ⟨ho,ns⟩:=r
 rw [hbd,hod] at h
 simp only at h
 cases hc:(Ju (H.boxes++H.objs.map (·.2.2.1))&&Ju ns&&U6 H 0 st.tmps) with
 | false=>rw [hc] at h; cases h
 | true =>
 rw [hc,Au7,Ava] at h
 subst h
 simp only [Avi] at hc
 obtain ⟨⟨hn,hns⟩,hok⟩:=hc
 have hnd:=Hs hn
 rw [List.nodup_append] at hnd
 obtain ⟨hnb,hno,hdis⟩:=hnd
 obtain ⟨o1,o2,o3⟩:=U8 hod hno (Hs hns)
 obtain ⟨b1,b2⟩:=Tr hbd hnb
 have hnin:∀ x∈H.objs,x.2.2.1 ∉ H.boxes:=fun x hx e=>hdis _ e _ (List.mem_map.2 ⟨x,hx,rfl⟩) rfl
 have hat:∀ x∈H.objs,Ma st H A x.2.2.1=match Qt st x with | .nil=>some (Ie x.2.2.2) | .oref m=>A m | _=>none:=by
  intro x hx
  unfold Ma
  rw [Avt (hnin x hx),Rp hno hx]
 have hokc:∀ b,(Bl I0 B A w).ok b→(Bl I0 B (Ma st H A) w).ok b:=by
  rintro b ⟨h1,h2,h3⟩
  refine ⟨h1,h2,fun n p hp hl=>?_⟩
  rcases Iz hp with ⟨_,hp⟩ | ⟨_,x,_,_,⟨_,rfl⟩ | ⟨m,_,hp⟩⟩
  ·exact h3 n p hp hl
  ·simp [Ie,Place.Ft,Value.ownBlock]
  ·exact h3 m p hp hl
 have hrefs:∀ d v,D2 8 H.boxes d=true→Aj (Bl I0 B A w) w d v→Aj (Bl I0 B (Ma st H A) w) w d v:=by
  intro d v hd hv
  have hl:Jo ((Bl I0 B A w).only H.boxes) w (Bl I0 B (Ma st H A) w) w:=by
   refine ⟨hokc,rfl,rfl,fun _ _ h=>(by cases h),fun n p hp=>?_,fun _ _ _=>rfl,fun _ _ h=>(by cases h)⟩
   simp only [Ctx.only] at hp
   split at hp
   ·rename_i hnb'
    refine ⟨p,?_,?_⟩
    ·show Ma st H A n=some p
     unfold Ma
     rw [Avu hnb']; exact hp
    ·by_cases hpd:p.st=.dead
     ·exact .inl hpd
     ·exact .inr ⟨hpd,rfl⟩
   ·cases hp
  exact Aj.C0 hl d v (Yx H.boxes 8 d v hd hv)
 have hbare:∀ l rows,Cs (Bl I0 B A w).bare w l rows→Cs (Bl I0 B (Ma st H A) w).bare w l rows:=fun l rows =>
  Cs.C0 (c:=(Bl I0 B A w).bare) (c':=(Bl I0 B (Ma st H A) w).bare) (w:=w) (w':=w) ⟨hokc,rfl,rfl,fun _ _ h=>(by cases h),fun _ _ h=>(by cases h),fun _ _ _=>rfl,fun _ _ h=>(by cases h)⟩ l rows
 have hnamed:∀ x∈H.objs,∀ v,Aj (Bl I0 B A w) w (Qt st x) v→Aj (Bl I0 B (Ma st H A) w) w (.oref x.2.2.1) v:=by
  intro x hx v hv
  obtain ⟨s,ob,h1,_,_⟩:=o1 x hx
  have hax:=hat x hx
  rcases N5 h1 with ⟨e,_⟩ | ⟨m,e,_⟩
  ·rw [e] at hv hax
   simp only [Aj] at hv ⊢
   subst hv
   exact ⟨rfl,_,hax,.inr ⟨_,rfl⟩⟩
  ·rw [e] at hv hax
   simp only [Aj] at hv ⊢
   obtain ⟨h1,p,hp,hd⟩:=hv
   exact ⟨h1,p,hax.trans hp,hd⟩
 refine ⟨Ma st H A,hA.defers,hA.size.trans (Mn _ _).symm,hA.below,hA.hB,hA.I0lt,fun n p hp=>?_,fun n p b hp hd hpb=>?_,fun n m p q b hp hq hpd hqd hpb hqb=>?_,fun t=>?_,fun b hb=>⟨(hA.kept b hb).1,(hA.kept b hb).2.1,fun n p hp hl hbk=>by
  rcases Iz hp with ⟨_,hp⟩ | ⟨_,x,_,_,⟨_,rfl⟩ | ⟨m,_,hp⟩⟩
  ·exact (hA.kept b hb).2.2 n p hp hl hbk
  ·simp [Ie,Place.Ft,Value.ownBlock] at hbk
  ·exact (hA.kept b hb).2.2 m p hp hl hbk⟩⟩
 ·rcases Iz hp with ⟨hnb',hp⟩ | ⟨hnb',x,hx,rfl,hsrc⟩
  ·obtain ⟨f,cs,h1,h2,h3⟩:=b1 n hnb'
   obtain ⟨fo,h4,h5⟩:=hA.obj n p hp
   rw [h1] at h4; cases h4
   refine ⟨(f,.box (Ql H.objs (n+1) 0 cs)),by rw [Ld,h3],?_⟩
   obtain ⟨hst,b,e,cells,hk,hh,hl⟩:=h5
   refine ⟨hst,b,e,cells,hk,hh,V9 cs _ 0 h2 hl hrefs fun i nm d v hi hnm hv=>?_⟩
   obtain ⟨ob,hx⟩:=P8 hnm
   refine hnamed _ hx v ?_
   have:Qt st (n+1,0+i,nm,ob)=d:=by
    simp [Qt,h1,Avh,hi]
   rw [this]; exact hv
  ·obtain ⟨s,ob,h1,h2,_⟩:=o1 x hx
   have hl:look (hb++ho) x.2.2.1=some (false,ob):=by
    rw [Ld]
    cases hq:look hb x.2.2.1 with
    | none=>exact h2
    | some fo=>exact absurd (b2 _ _ hq) hnb'
   refine ⟨_,hl,?_⟩
   rcases N5 h1 with ⟨e,_,e2,hob⟩ | ⟨m,e,_,hlm,hob⟩
   ·rcases hsrc with ⟨_,rfl⟩ | ⟨m,e',_⟩
    ·rw [← e2]
     rcases hob with ⟨e,k,rfl⟩ | ⟨e,sz,hsz,rfl⟩
     ·exact ⟨rfl,_,rfl,World.ownsRow_nil w B e 1⟩
     ·exact ⟨rfl,hsz,_,[],rfl,by simp [Cs],fun r hr=>(by cases hr),World.ownsRow_nil w B e sz⟩
    ·rw [e] at e'; cases e'
   ·rcases hsrc with ⟨e',_⟩ | ⟨m',e',hp'⟩
    ·rw [e] at e'; cases e'
    ·rw [e] at e'; cases e'
     obtain ⟨fo,h4,h5⟩:=hA.obj m p hp'
     rw [hlm] at h4; cases h4
     rcases hob with ⟨e,k,l,rfl⟩ | ⟨e,sz,l,rfl⟩
     ·exact h5
     ·obtain ⟨i1,i2,sv,rows,i3,i4,i5,i6⟩:=h5
      exact ⟨i1,i2,sv,rows,i3,hbare _ _ i4,i5,i6⟩
 ·rcases Iz hp with ⟨_,hp⟩ | ⟨_,x,hx,rfl,⟨_,rfl⟩ | ⟨m,_,hp⟩⟩
  ·exact hA.blkB n p b hp hd hpb
  ·simp [Ie,Place.Ft,Value.ownBlock] at hpb
  ·exact hA.blkB m p b hp hd hpb
 ·have isBox:∀ n p,n∈H.boxes→A n=some p→∃ b,p.kind=.box b:=by
   intro n p hnb' hp
   obtain ⟨f,cs,h1,_,_⟩:=b1 n hnb'
   obtain ⟨fo,h4,h5⟩:=hA.obj n p hp
   rw [h1] at h4; cases h4
   obtain ⟨_,b,_,_,hk,_⟩:=h5
   exact ⟨b,hk⟩
  have isRow:∀ x∈H.objs,∀ m p,Qt st x=.oref m→A m=some p→∃ sv sz,p.kind=.row sv sz:=by
   intro x hx m p e hp
   obtain ⟨s,ob,h1,_,_⟩:=o1 x hx
   rcases N5 h1 with ⟨e',_⟩ | ⟨m',e',_,hlm,hob⟩
   ·rw [e] at e'; cases e'
   ·rw [e] at e'; cases e'
    obtain ⟨fo,h4,h5⟩:=hA.obj m p hp
    rw [hlm] at h4; cases h4
    rcases hob with ⟨e,k,l,rfl⟩ | ⟨e,sz,l,rfl⟩
    ·obtain ⟨_,sv,hk,_⟩:=h5; exact ⟨sv,1,hk⟩
    ·obtain ⟨_,_,sv,_,hk,_⟩:=h5; exact ⟨sv,sz,hk⟩
  have same:∀ m m':Nat,∀ p q:Place,A m=some p→A m'=some q→p.st≠.dead→q.st≠.dead→p.Ft=some b→q.Ft=some b→m=m':=fun m m' p q h1 h2 h3 h4 h5 h6=>hA.inj m m' p q b h1 h2 h3 h4 h5 h6
  rcases Iz hp with ⟨hnb',hp⟩ | ⟨_,x,hx,rfl,⟨_,rfl⟩ | ⟨i,hi,hp⟩⟩
  ·rcases Iz hq with ⟨_,hq⟩ | ⟨_,y,hy,rfl,⟨_,rfl⟩ | ⟨j,hj,hq⟩⟩
   ·exact same n m p q hp hq hpd hqd hpb hqb
   ·simp [Ie,Place.Ft,Value.ownBlock] at hqb
   ·have e:=same n j p q hp hq hpd hqd hpb hqb
    subst e
    rw [hp] at hq; cases hq
    obtain ⟨b',hk⟩:=isBox n p hnb' hp
    obtain ⟨sv,sz,hk'⟩:=isRow y hy n p hj hp
    rw [hk] at hk'; cases hk'
  ·simp [Ie,Place.Ft,Value.ownBlock] at hpb
  ·rcases Iz hq with ⟨hmb,hq⟩ | ⟨_,y,hy,rfl,⟨_,rfl⟩ | ⟨j,hj,hq⟩⟩
   ·have e:=same i m p q hp hq hpd hqd hpb hqb
    subst e
    rw [hp] at hq; cases hq
    obtain ⟨b',hk⟩:=isBox i p hmb hp
    obtain ⟨sv,sz,hk'⟩:=isRow x hx i p hi hp
    rw [hk] at hk'; cases hk'
   ·simp [Ie,Place.Ft,Value.ownBlock] at hqb
   ·have e:=same i j p q hp hq hpd hqd hpb hqb
    subst e
    obtain ⟨s,ob,h1,_,_⟩:=o1 x hx
    obtain ⟨s',ob',h1',_,_⟩:=o1 y hy
    have hs:s=some i:=by
     rcases N5 h1 with ⟨e',_⟩ | ⟨m',e',e2,_⟩
     ·rw [hi] at e'; cases e'
     ·rw [hi] at e'; cases e'; exact e2
    have hs':s'=some i:=by
     rcases N5 h1' with ⟨e',_⟩ | ⟨m',e',e2,_⟩
     ·rw [hj] at e'; cases e'
     ·rw [hj] at e'; cases e'; exact e2
    subst hs hs'
    rw [o3 x hx y hy i ob ob' h1 h1']
 ·rcases Av4 t st.tmps.length with hlt | hge
  ·rw [W2 st.tmps 0 t hlt]
   cases hnm:Ix 0 (0+t) H.objs with
   | some nm =>
     obtain ⟨ob,hx⟩:=P8 hnm
     refine hnamed _ hx _ ?_
     have:Qt st (0,0+t,nm,ob)=st.tmps.getD t .undef:=by simp [Qt]
     rw [this]; exact hA.tmps t
   | none =>
     simp only
     cases hk:J9 (0+t) H.keep with
     | true=>exact hrefs _ _ (U5 hok hlt hnm hk) (hA.tmps t)
     | false=>simp only [Avb,Aj]
  ·rw [Avh,Awp (by rw [Mn]; exact hge)]
   simp only [Option.getD_none,Aj]
theorem Alk {H:A9} {st st1:St} (h:canon (some H) st=some st1) {a:Act} {w:World} (hh:Ex S I0 B w0 st a w):Ex S I0 B w0 st1 a w:=Ahr (H:=Aoy st H) h hh
end
end Go.Den
namespace Go.Den
open Go.RowKit (Below)
section
variable {P:Program} {E:Env} {S I0:Nat→Prop} {B:Nat} {w0:World}
theorem Ado {keep:Option (List Nat)} {st:St} (t:Nat):(forget keep st).tmps.getD t .undef=st.tmps.getD t .undef∨(forget keep st).tmps.getD t .undef=.undef:=by
 cases keep with
 | none=>exact .inl rfl
 | some ks =>
   simp only [forget,Avh,Awo,List.getElem?_zipIdx]
   cases st.tmps[t]? with
   | none=>exact .inl rfl
   | some d =>
     simp only [Option.map_some,Awr]
     cases ks.contains (0+t)
     ·exact .inr rfl
     ·exact .inl rfl
theorem Wt {keep:Option (List Nat)} {st:St}:(forget keep st).tmps.length=st.tmps.length:=by
 cases keep<;>simp [forget]
theorem Abk {keep:Option (List Nat)} {st:St}:(forget keep st).heap=st.heap:=by
 cases keep<;>rfl
theorem Ex.forget {keep:Option (List Nat)} {st:St} {a:Act} {w:World} (h:Ex S I0 B w0 st a w):Ex S I0 B w0 (forget keep st) a w:=by
 obtain ⟨A,h⟩:=h
 refine ⟨A,h.defers,h.size.trans Wt.symm,h.below,h.hB,h.I0lt,by rw [Abk]; exact h.obj,h.blkB,h.inj,fun t=>?_,h.kept⟩
 rcases Ado (keep:=keep) (st:=st) t with e | e
 ·rw [e]; exact h.tmps t
 ·rw [e]; simp only [Aj]
def Al3 {β:Type} (P:Program) (S I0:Nat→Prop) (B:Nat) (w0:World) (r:β) (c:Code) (body:St→(St→Option β)→(Nat→St→Option β)→(St→Option β)→Option β):Prop :=
 ∀ (st:St) (Kn:St→Option β) (Kx:Nat→St→Option β) (Kr:St→Option β),body st Kn Kx Kr=some r→∀ (a:Act) (w:World),Ex S I0 B w0 st a w→∀ Q:Exit→Act→World→Prop,
  (∀ st a w,Kn st=some r→Ex S I0 B w0 st a w→Q .normal a w)→(∀ id st a w,Kx id st=some r→Ex S I0 B w0 st a w→Q (.exit id) a w) →
  (∀ st a w,Kr st=some r→Ex S I0 B w0 st a w→Q .ret a w)→c.wp P Q a w
theorem X6 {H:Option A9} {st st1:St} (hc:canon H st=some st1) {a:Act} {w:World} (hh:Ex S I0 B w0 st a w):Ex S I0 B w0 st1 a w:=by
 cases H with
 | none=>simp only [canon,Ava] at hc; subst hc; exact hh
 | some H=>exact Alk hc hh
theorem Abe {β:Type} {r:β} {c:Code} {body:St→(St→Option β)→(Nat→St→Option β)→(St→Option β)→Option β} (hb:Al3 P S I0 B w0 r c body) {H:Option A9} {Kx:Nat→St→Option β} {Kr:St→Option β}
 {Q:Exit→Act→World→Prop} (hx:∀ id st a w,Kx id st=some r→Ex S I0 B w0 st a w→Q (.exit id) a w) (hr:∀ st a w,Kr st=some r→Ex S I0 B w0 st a w→Q .ret a w) :
 ∀ (n:Nat) (st:St),Vt H body n st Kx Kr=some r→∀ a w,Ex S I0 B w0 st a w→Code.rounds P c Q n a w
 | 0,st,h,_,_,_=>by simp [Vt] at h
 | n+1,st,h,a,w,hh=>by
   simp only [Vt] at h
   rw [rounds_succ]
   refine hb st _ Kx Kr h a w hh _ (fun st2 a2 w2 hk hh2=>?_) (fun id st2 a2 w2 hk hh2=>hx id st2 a2 w2 hk hh2) (fun st2 a2 w2 hk hh2=>hr st2 a2 w2 hk hh2)
   cases hc:canon H st2 with
   | none=>rw [hc] at hk; cases hk
   | some st3 =>
     rw [hc] at hk
     exact Abe hb hx hr n st3 hk a2 w2 (X6 hc hh2)
theorem An0 {β:Type} {r:β} {c:Code} {body:St→(St→Option β)→(Nat→St→Option β)→(St→Option β)→Option β} (hb:Al3 P S I0 B w0 r c body) {H:Option A9} {Kx:Nat→St→Option β} {Kr:St→Option β}
 {Q:Exit→Act→World→Prop} (hx:∀ id st a w,Kx id st=some r→Ex S I0 B w0 st a w→Q (.exit id) a w) (hr:∀ st a w,Kr st=some r→Ex S I0 B w0 st a w→Q .ret a w)
 (n:Nat) (st:St) (h:iter H body n st Kx Kr=some r) (a:Act) (w:World) (hh:Ex S I0 B w0 st a w):Code.rounds P c Q n a w:=by
 unfold iter at h
 cases hc:canon H st with
 | none=>rw [hc] at h; cases h
 | some st1 =>
   rw [hc] at h
   exact Abe hb hx hr n st1 h a w (X6 hc hh)
theorem Ol {β:Type} (he:Hy P E) (fuel:Nat) (r:β):∀ (c:Code) (b:Nat),Al3 P S I0 B w0 r c (den E fuel b c)
 | .skip,b=>fun st Kn Kx Kr h a w hh Q hn hx hr=>by
   simp only [den] at h
   exact wp_skip (hn st a w h hh)
 | .label l,b=>fun st Kn Kx Kr h a w hh Q hn hx hr=>by
   simp only [den] at h
   exact wp_label (hn st a w h hh)
 | .region id ops draw,b=>fun st Kn Kx Kr h a w hh Q hn hx hr=>by
   simp only [den] at h
   have reg:∀ st,Aat E ops draw Kn st=some r→Ex S I0 B w0 st a w→(Code.region id ops draw).wp P Q a w:=by
    intro st h hh
    cases draw with
    | true=>exact Ak8 he h hh hn
    | false =>
      simp only [Aat,Avb] at h
      have:=Aez he ops.toList 0 _ (fun j=>by simp) h a w hh hn
      rw [Array.length_toList,← List.range_eq_range'] at this
      exact wp_region this
   cases hl:E.live id with
   | none=>rw [hl] at h; exact reg st h hh
   | some ks =>
     rw [hl] at h
     simp only [W5] at h
     exact reg _ h hh.forget
 | .seq x y,b=>fun st Kn Kx Kr h a w hh Q hn hx hr=>by
   simp only [den] at h
   refine wp_seq (Ol he fuel r x b st _ Kx Kr h a w hh _ (fun st' a' w' hk hh'=>?_) (fun id st' a' w' hk hh'=>hx id st' a' w' hk hh') (fun st' a' w' hk hh'=>hr st' a' w' hk hh'))
   exact Ol he fuel r y b st' Kn Kx Kr hk a' w' hh' Q hn hx hr
 | .cond c x y,b=>fun st Kn Kx Kr h a w hh Q hn hx hr=>by
   simp only [den] at h
   cases hv:Gb st.tmps c with
   | bool t =>
     rw [hv] at h
     simp only at h
     have hev:a.eval c=.bool t:=by
      obtain ⟨A,hA⟩:=hh
      have:Aj (Bl I0 B A w) w (Gb st.tmps c) (a.eval c):=by
       cases c with
       | tmp t=>exact hA.tmps t
       | const v=>exact X2 v
       | global g=>simp only [Gb,Aj]
       | func f=>simp [Gb] at hv
      rw [hv] at this
      simpa only [Aj] using this
     refine wp_cond hev ?_
     cases t with
     | true=>exact Ol he fuel r x b st Kn Kx Kr h a w hh Q hn hx hr
     | false=>exact Ol he fuel r y b st Kn Kx Kr h a w hh Q hn hx hr
   | _=>rw [hv] at h; cases h
 | .block id c,b=>fun st Kn Kx Kr h a w hh Q hn hx hr=>by
   simp only [den] at h
   refine wp_block (Ol he fuel r c id st Kn _ Kr h a w hh _ (fun st' a' w' hk hh'=>hn st' a' w' hk hh') (fun id' st' a' w' hk hh'=>?_) (fun st' a' w' hk hh'=>hr st' a' w' hk hh'))
   simp only [Exit.inBlock]
   by_cases e:id'=id
   ·rw [Avu e]
    rw [show (id'==id)=true by simpa using e] at hk
    exact hn st' a' w' hk hh'
   ·rw [Avt e]
    rw [show (id'==id)=false by simpa using e] at hk
    exact hx id' st' a' w' hk hh'
 | .loop c,b=>fun st Kn Kx Kr h a w hh Q hn hx hr=>by
   simp only [den] at h
   exact wp_loop_rounds fuel (An0 (Ol he fuel r c b) hx hr fuel st h a w hh)
 | .scope c,b=>fun st Kn Kx Kr h a w hh Q hn hx hr=>by
   simp only [den] at h
   exact wp_scope_straight (Ol he fuel r c b st Kn Kx Kr h a w hh _ (fun st' a' w' hk hh'=>hn st' a' w' hk hh') (fun id st' a' w' hk hh'=>hx id st' a' w' hk hh') (fun st' a' w' hk hh'=>hr st' a' w' hk hh'))
 | .exit id,b=>fun st Kn Kx Kr h a w hh Q hn hx hr=>by
   simp only [den] at h
   exact wp_exit (hx id st a w h hh)
 | .ret,b=>fun st Kn Kx Kr h a w hh Q hn hx hr=>by
   simp only [den] at h
   exact wp_ret (hr st a w h hh)
 | .rangeFunc ..,b=>fun st Kn Kx Kr h=>by simp [den] at h
 | .goto l,b=>fun st Kn Kx Kr h=>by simp [den] at h
 | .refuse s,b=>fun st Kn Kx Kr h=>by simp [den] at h
end
end Go.Den
namespace Go.Den
open Go.RowKit (Below)
def Ajj:List Value→Value
 | [v]=>v
 | vs=>.tuple vs.toArray
def Se (tmps:Array Value):ResultVar→Sem Value
 | .tmp t=>pure (tmps.getD t undef)
 | .cell a t=>do loadVar t (← asAddr (tmps.getD a undef))
section
variable {P:Program} {E:Env} {S I0:Nat→Prop} {B:Nat} {w0:World} {A:Nat→Option Place}
theorem Acv {t:TypeId} {va v:Value} {w:World} (h:(Instr.loadAt t va).run P w=.ok v w):(do loadVar t (← asAddr va):Sem Value).run P w=.ok v w:=by
 unfold Instr.loadAt at h
 cases va with
 | pointer a =>
   cases a with
   | none=>simp [Instr.sureAddr] at h
   | some a =>
     simp only [Instr.sureAddr,asAddr] at h ⊢
     exact h
 | _=>simp [Instr.sureAddr] at h
theorem Agh (hty:∀ t ti,E.ty t=some ti→Bu P t ti) {st:St} {a:Act} {w:World} (hA:Hn S I0 B w0 A (look st.heap) (fun t=>st.tmps.getD t .undef) st.tmps.length a w)
 {r:ResultVar} {d:DV} (h1:U2 E st r=some d):∃ v,Aj (Bl I0 B A w) w d v∧(Se a.tmps r).run P w=.ok v w:=by
 cases r with
 | tmp t =>
   simp only [U2,Ava] at h1
   subst h1
   exact ⟨_,hA.tmps t,by simp [Se]⟩
 | cell x t =>
   simp only [U2] at h1
   cases hT:E.ty t with
   | none=>simp [hT] at h1
   | some ti =>
     rw [hT,Avf] at h1
     cases hl:Xo st.heap ti (st.tmps.getD x .undef) with
     | none=>rw [hl] at h1; cases h1
     | some q =>
       rw [hl,Avf] at h1
       cases hq:q.req with
       | false=>rw [hq] at h1; cases h1
       | true =>
         rw [hq,Au7,Ava] at h1
         subst h1
         have hm:Mem I0 B A st.heap w:=hA.mem fun n p fo _ hl=>hl
         obtain ⟨v,hr,hv⟩:=Aa9 hm (hty _ _ hT) (hA.tmps x) hl hq
         exact ⟨v,hv,Acv hr⟩
theorem Xc (hty:∀ t ti,E.ty t=some ti→Bu P t ti) {st:St} {a:Act} {w:World} (hA:Hn S I0 B w0 A (look st.heap) (fun t=>st.tmps.getD t .undef) st.tmps.length a w) :
 ∀ (rs:List ResultVar) (ds:List DV),P5 E st rs=some ds→∃ vs:List Value,A5 (Bl I0 B A w) w ds vs∧(rs.mapM (Se a.tmps)).run P w=.ok vs w
 | [],ds,h=>by
   simp only [P5,Ava] at h; subst h
   exact ⟨[],by simp [A5],rfl⟩
 | r::rs,ds,h=>by
   simp only [P5] at h
   cases h1:U2 E st r with
   | none=>simp [h1] at h
   | some d =>
     cases h2:P5 E st rs with
     | none=>simp [h1,h2] at h
     | some ds' =>
       simp only [h1,h2,Avf,Ava] at h
       subst h
       obtain ⟨vs,i1,i2⟩:=Xc hty hA rs ds' h2
       obtain ⟨v,hv,hr⟩:=Agh hty hA h1
       refine ⟨v::vs,by rw [A5.Ce]; exact ⟨v,vs,rfl,hv,i1⟩,?_⟩
       simp only [List.mapM_cons,Sem.run_bind,hr,Result.andThen_ok,i2,Sem.run_pure]
theorem Aap {fn:Func} {tmps:Array Value} {w:World} {vs:List Value} (h:(fn.results.toList.mapM (Se tmps)).run P w=.ok vs w) :
 (results fn tmps).run P w=.ok (Ajj vs) w:=by
 have h':(fn.results.mapM (Se tmps)).run P w=.ok vs.toArray w:=by
  rw [Array.mapM_eq_mapM_toList]
  simp only [Sem.run_map,h,Result.andThen_ok]
 have e:results fn tmps=(do let vs←fn.results.mapM (Se tmps); pure (if h:vs.size=1 then vs[0] else .tuple vs)):=by
  unfold results
  congr 2
 rw [e]
 simp only [Sem.run_bind,h',Result.andThen_ok,Sem.run_pure]
 congr 1
 match vs with
 | []=>rfl
 | [v]=>rfl
 | v::u::us=>simp [Ajj]
def Kq (h:Da) (f:Nat) (l:List DV):Option (List DV × List Nat × List Nat) :=
 l.foldr (fun d acc=>(E9 h f d).bind fun (x,ns,os)=>acc.bind fun (xs,ms,ps)=>some (x::xs,ns++ms,os++ps)) (some ([],[],[]))
theorem Sg {h:Da} {f:Nat} {d:DV} {l:List DV} {r:List DV × List Nat × List Nat} (hh:Kq h f (d::l)=some r) :
 ∃ x ns os xs ms ps,E9 h f d=some (x,ns,os)∧Kq h f l=some (xs,ms,ps)∧r=(x::xs,ns++ms,os++ps):=by
 have e:Kq h f (d::l)=(E9 h f d).bind fun (x,ns,os)=>(Kq h f l).bind fun (xs,ms,ps)=>some (x::xs,ns++ms,os++ps):=rfl
 rw [e] at hh
 cases h1:E9 h f d with
 | none=>simp [h1] at hh
 | some a =>
   obtain ⟨x,ns,os⟩:=a
   cases h2:Kq h f l with
   | none=>simp [h1,h2] at hh
   | some b =>
     obtain ⟨xs,ms,ps⟩:=b
     simp only [h1,h2,Avf,Ava] at hh
     exact ⟨x,ns,os,xs,ms,ps,rfl,rfl,hh.symm⟩
def Jd (A:Nat→Option Place) (OS:List Nat) (i:Nat):Option Nat :=
 if i∈OS then match A i with
  | some p=>if p.st=.live then p.Ft else none
  | none=>none
 else none
theorem L5 {OS:List Nat} {i b:Nat} (h:Jd A OS i=some b):i∈OS∧∃ p,A i=some p∧p.st=.live∧p.Ft=some b:=by
 unfold Jd at h
 split at h
 ·cases hA:A i with
  | none=>rw [hA] at h; cases h
  | some p =>
    rw [hA] at h
    simp only at h
    split at h
    ·exact ⟨‹_›,p,rfl,‹_›,h⟩
    ·cases h
 ·cases h
theorem Aaw {OS:List Nat} {i b:Nat} {p:Place} (h:i∈OS) (hp:A i=some p) (hl:p.st=.live) (hb:p.Ft=some b):Jd A OS i=some b:=by
 unfold Jd
 rw [Avu h,hp]
 simp only [hl,if_true,hb]
theorem Ai8 {h:Da} {w w':World} (hm:Mem I0 w.heap.size A h w') {NS OS:List Nat} (hdis:∀ n∈NS,n ∉ OS) :
 ∀ (f:Nat) (d:DV) (v:Value) d' ns os,E9 h f d=some (d',ns,os)→(∀ n∈ns,n∈NS)→(∀ n∈os,n∈OS)→Aj (Bl I0 w.heap.size A w') w' d v→Aj (C5 I0 (Jd A OS) w w') w' d' v:=by
 have hok:∀ b,(Bl I0 w.heap.size A w').ok b→(C5 I0 (Jd A OS) w w').ok b:=by
  rintro b ⟨h1,h2,h3⟩
  refine ⟨h1,h2,fun i hi=>?_⟩
  obtain ⟨_,p,hp,hl,hb⟩:=L5 hi
  exact h3 i p hp hl hb
 have hbare:∀ l rows,Cs (Bl I0 w.heap.size A w').bare w' l rows→Cs (C5 I0 (Jd A OS) w w').bare w' l rows:=fun l rows =>
  Cs.C0 (c:=(Bl I0 w.heap.size A w').bare) (c':=(C5 I0 (Jd A OS) w w').bare) (w:=w') (w':=w') ⟨hok,rfl,rfl,fun _ _ h=>(by cases h),fun _ _ h=>(by cases h),fun _ _ _=>rfl,fun _ _ h=>(by cases h)⟩ l rows
 have hleaf:∀ d v,D2 1 [] d=true→Aj (Bl I0 w.heap.size A w') w' d v→Aj (C5 I0 (Jd A OS) w w') w' d v:=by
  intro d v hd hv
  have hl:Jo ((Bl I0 w.heap.size A w').only []) w' (C5 I0 (Jd A OS) w w') w' :=
   ⟨hok,rfl,rfl,fun _ _ h=>(by cases h),fun n p hp=>(by simp [Ctx.only] at hp),fun _ _ _=>rfl,fun _ _ h=>(by cases h)⟩
  exact Aj.C0 hl d v (Yx [] 1 d v hd hv)
 have frozenBlk:∀ n p,A n=some p→p.st≠.dead→(p.st≠.live∨n ∉ OS)→∀ b,p.Ft=some b→(C5 I0 (Jd A OS) w w').Ft .fresh b:=by
  intro n p hp hd hc b hb
  obtain ⟨h1,h2⟩:=hm.blkB n p b hp hd hb
  refine ⟨⟨h2,.inr h1,fun i hi=>?_⟩,rfl,h1⟩
  obtain ⟨hio,q,hq,hl,hqb⟩:=L5 hi
  have e:=hm.inj n i p q b hp hq hd (by rw [hl]; simp) hb hqb
  subst e
  rw [hp] at hq; cases hq
  rcases hc with hc | hc
  ·exact hc hl
  ·exact hc hio
 intro f
 induction f with
 | zero=>intro d v d' ns os h; simp [E9] at h
 | succ f ih =>
   have all:∀ (l:List DV) (vs:List Value) l' ns os,Kq h f l=some (l',ns,os)→(∀ n∈ns,n∈NS)→(∀ n∈os,n∈OS)→A5 (Bl I0 w.heap.size A w') w' l vs→A5 (C5 I0 (Jd A OS) w w') w' l' vs:=by
    intro l
    induction l with
    | nil =>
      intro vs l' ns os hr _ _ hv
      simp only [Kq,List.foldr_nil,Ava,Avg] at hr
      obtain ⟨rfl,_,_⟩:=hr
      rw [A5.Ff] at hv ⊢; exact hv
    | cons d l ihl =>
      intro vs l' ns os hr h1 h2 hv
      obtain ⟨x,n1,o1,xs,ms,ps,e1,e2,e⟩:=Sg hr
      cases e
      rw [A5.Ce] at hv ⊢
      obtain ⟨u,us,e,hu,hus⟩:=hv
      exact ⟨u,us,e,ih d u x n1 o1 e1 (fun n hn=>h1 n (List.mem_append.2 (.inl hn))) (fun n hn=>h2 n (List.mem_append.2 (.inl hn))) hu,
       ihl us xs ms ps e2 (fun n hn=>h1 n (List.mem_append.2 (.inr hn))) (fun n hn=>h2 n (List.mem_append.2 (.inr hn))) hus⟩
   intro d v d' ns os hr hns hos hv
   cases d with
   | agg l =>
     have hr:(Kq h f l).bind (fun (l,ns,os)=>some (DV.agg l,ns,os))=some (d',ns,os):=hr
     cases hl:Kq h f l with
     | none=>rw [hl] at hr; cases hr
     | some r =>
       obtain ⟨l',ns',os'⟩:=r
       rw [hl] at hr
       simp only [Avf,Ava,Avg] at hr
       obtain ⟨rfl,rfl,rfl⟩:=hr
       simp only [Aj] at hv ⊢
       obtain ⟨vs,e,h1⟩:=hv
       exact ⟨vs,e,all l _ l' _ _ hl hns hos h1⟩
   | tup l =>
     have hr:(Kq h f l).bind (fun (l,ns,os)=>some (DV.tup l,ns,os))=some (d',ns,os):=hr
     cases hl:Kq h f l with
     | none=>rw [hl] at hr; cases hr
     | some r =>
       obtain ⟨l',ns',os'⟩:=r
       rw [hl] at hr
       simp only [Avf,Ava,Avg] at hr
       obtain ⟨rfl,rfl,rfl⟩:=hr
       simp only [Aj] at hv ⊢
       obtain ⟨vs,e,h1⟩:=hv
       exact ⟨vs,e,all l _ l' _ _ hl hns hos h1⟩
   | oref n =>
     simp only [Aj] at hv
     obtain ⟨hone,p,hp,hd⟩:=hv
     simp only [E9] at hr
     split at hr
     ·rename_i e k l hl
      simp only [Ava,Avg] at hr
      obtain ⟨rfl,rfl,rfl⟩:=hr
      obtain ⟨hst,sv,hk,ho⟩:=Dz hm hp hl
      obtain ⟨size,hk'⟩:=hd.resolve_left (Bp hst)
      rw [hk] at hk'; cases hk'
      simp only [Aj]
      exact ⟨ho,fun b hb=>Aaw (hos n (by simp)) hp hst (by unfold Place.Ft; rw [hk]; exact hb)⟩
     ·rename_i e sz l hl
      simp only [Ava,Avg] at hr
      obtain ⟨rfl,rfl,rfl⟩:=hr
      obtain ⟨hst,hsz,sv,rows,hk,hrr,hlen,ho⟩:=D3 hm hp hl
      obtain ⟨size,hk'⟩:=hd.resolve_left (Bp hst)
      rw [hk] at hk'; cases hk'
      simp only [Aj]
      exact ⟨rows,hbare _ _ hrr,hlen,ho,fun b hb=>Aaw (hos n (by simp)) hp hst (by unfold Place.Ft; rw [hk]; exact hb)⟩
     ·rename_i e k l hl
      simp only [Ava,Avg] at hr
      obtain ⟨rfl,rfl,rfl⟩:=hr
      obtain ⟨hst,sv,hk,ho⟩:=Dz hm hp hl
      obtain ⟨size,hk'⟩:=hd.resolve_left (Bp hst)
      rw [hk] at hk'; cases hk'
      have hst':p.st=.frozen:=hst
      have:=Iv hk ho (E2 ho) (ok:=(C5 I0 (Jd A OS) w w').Ft .fresh) (frozenBlk n p hp (Bp hst) (.inl (by rw [hst']; simp)))
      simp only [List.drop_zero,List.take_length] at this
      simp only [Aj]
      exact this
     ·rename_i e sz l hl
      simp only [Ava,Avg] at hr
      obtain ⟨rfl,rfl,rfl⟩:=hr
      obtain ⟨hst,hsz,sv,rows,hk,hrr,hlen,ho⟩:=D3 hm hp hl
      obtain ⟨size,hk'⟩:=hd.resolve_left (Bp hst)
      rw [hk] at hk'; cases hk'
      have hst':p.st=.frozen:=hst
      have:=Iu hk (hbare _ _ hrr) hlen ho (E2 ho) (ok:=(C5 I0 (Jd A OS) w w').Ft .fresh) (frozenBlk n p hp (Bp hst) (.inl (by rw [hst']; simp)))
      simp only [List.drop_zero,List.take_length] at this
      simp only [Aj]
      exact this
     ·cases hr
   | sref n off len =>
     simp only [Aj] at hv
     obtain ⟨hone,p,hp,hd⟩:=hv
     simp only [E9] at hr
     split at hr
     ·rename_i fz e k l hl
      simp only [Ava,Avg] at hr
      obtain ⟨rfl,rfl,rfl⟩:=hr
      obtain ⟨hst,sv,hk,ho⟩:=Dz hm hp hl
      obtain ⟨sv',size,hk',hs⟩:=hd.resolve_left (Bp hst)
      rw [hk] at hk'; cases hk'
      have:=Iv hk ho hs (ok:=(C5 I0 (Jd A OS) w w').Ft .fresh) (frozenBlk n p hp (Bp hst) (.inr (hdis n (hns n (by simp)))))
      simp only [Aj]
      exact this
     ·rename_i fz e sz l hl
      simp only [Ava,Avg] at hr
      obtain ⟨rfl,rfl,rfl⟩:=hr
      obtain ⟨hst,hsz,sv,rows,hk,hrr,hlen,ho⟩:=D3 hm hp hl
      obtain ⟨sv',size,hk',hs⟩:=hd.resolve_left (Bp hst)
      rw [hk] at hk'; cases hk'
      have:=Iu hk (hbare _ _ hrr) hlen ho hs (ok:=(C5 I0 (Jd A OS) w w').Ft .fresh) (frozenBlk n p hp (Bp hst) (.inr (hdis n (hns n (by simp)))))
      simp only [Aj]
      exact this
     ·cases hr
   | ptr n i j=>simp [E9] at hr
   | fn g a b=>simp [E9] at hr
   | gd g d=>simp [E9] at hr
   | undef=>simp [E9] at hr
   | cellp cs=>simp [E9] at hr
   | nil=>simp only [E9,Ava,Avg] at hr; obtain ⟨rfl,_,_⟩:=hr; exact hleaf _ _ rfl hv
   | bool b=>simp only [E9,Ava,Avg] at hr; obtain ⟨rfl,_,_⟩:=hr; exact hleaf _ _ rfl hv
   | int k n=>simp only [E9,Ava,Avg] at hr; obtain ⟨rfl,_,_⟩:=hr; exact hleaf _ _ rfl hv
   | fl n=>simp only [E9,Ava,Avg] at hr; obtain ⟨rfl,_,_⟩:=hr; exact hleaf _ _ rfl hv
   | nb n=>simp only [E9,Ava,Avg] at hr; obtain ⟨rfl,_,_⟩:=hr; exact hleaf _ _ rfl hv
   | ints g k l=>simp only [E9,Ava,Avg] at hr; obtain ⟨rfl,_,_⟩:=hr; exact hleaf _ _ rfl hv
   | recs g k l=>simp only [E9,Ava,Avg] at hr; obtain ⟨rfl,_,_⟩:=hr; exact hleaf _ _ rfl hv
end
end Go.Den
namespace Go.Den
open Go.RowKit (Below)
theorem Aet {S:Nat→Prop} {P:Program} {E:Env} (hty:∀ t ti,E.ty t=some ti→Bu P t ti) {I:Nat→Prop} {fn:Func} {st:St} {out:DV} (h:Wn E fn st=some out) {w w':World} {a:Act} (hh:Ex S I w.heap.size w st a w') :
 ∃ v own,(results fn a.tmps).run P w'=.ok v w'∧Below w.heap.size w w'∧Afq own w w'∧Aj (C5 I own w w') w' out v:=by
 obtain ⟨A,hA⟩:=hh
 unfold Wn at h
 cases hds:P5 E st fn.results.toList with
 | none=>simp [hds] at h
 | some ds =>
   rw [hds,Avf] at h
   obtain ⟨vs,hv,hr⟩:=Xc hty hA _ ds hds
   have hm:Mem I w.heap.size A st.heap w':=hA.mem fun n p fo _ hl=>hl
   have hone:Aj (Bl I w.heap.size A w') w' (Ajk ds) (Ajj vs):=by
    match ds,vs,hv with
    | [],vs,hv =>
      rw [A5.Ff] at hv; subst hv
      simp only [Aj,Ajk,Ajj]
      exact ⟨#[],rfl,by simp [A5]⟩
    | [d],vs,hv =>
      rw [A5.Ce] at hv
      obtain ⟨u,us,rfl,h1,h2⟩:=hv
      rw [A5.Ff] at h2; subst h2
      exact h1
    | d::d'::ds,vs,hv =>
      have hv':=hv
      rw [A5.Ce] at hv
      obtain ⟨u,us,rfl,h1,h2⟩:=hv
      rw [A5.Ce] at h2
      obtain ⟨u',us',rfl,h3,h4⟩:=h2
      simp only [Aj,Ajk,Ajj]
      exact ⟨_,rfl,by simpa using hv'⟩
   cases hrs:E9 st.heap 6 (Ajk ds) with
   | none=>rw [hrs] at h; cases h
   | some r =>
     obtain ⟨d,ns,os⟩:=r
     rw [hrs,Avf] at h
     simp only at h
     cases hc:(ns.all fun n=>!(os.contains n)) with
     | false=>rw [hc] at h; cases h
     | true =>
       rw [hc,Au7,Ava] at h
       subst h
       have hdis:∀ n∈ns,n ∉ os:=fun n hn hno=>by
        have:=List.all_eq_true.1 hc n hn
        simp [hno] at this
       refine ⟨_,Jd A os,Aap hr,hA.below,⟨fun i b hb=>?_,fun i j b hi hj=>?_⟩,Ai8 hm hdis 6 _ _ _ ns os hrs (fun _ h=>h) (fun _ h=>h) hone⟩
       ·obtain ⟨_,p,hp,hl,hpb⟩:=L5 hb
        exact hm.blkB i p b hp (by rw [hl]; simp) hpb
       ·obtain ⟨_,p,hp,hl,hpb⟩:=L5 hi
        obtain ⟨_,q,hq,hl',hqb⟩:=L5 hj
        exact hm.inj i j p q b hp hq (by rw [hl]; simp) (by rw [hl']; simp) hpb hqb
theorem Aqo {P:Program} {E:Env} (he:Hy P E) {fuel:Nat} {f:FuncId} {fn:Func} {body:Code} (hf:P.funcs[f]?=some fn) (hb:fn.body=some body) {args:List DV} {out:DV} (h:By E fuel fn body args=some out):Lu P f args out:=by
 intro w vals I hI hv
 refine calls_of_wp hf hb ?_
 unfold By at h
 have hlen:args.length=vals.size:=by have:=hv.length; simpa using this
 have hh:Ex (fun _=>False) I w.heap.size w ⟨args++List.replicate (fn.ntmps-args.length) .undef,[]⟩ ⟨vals++Array.replicate (fn.ntmps-vals.size) undef,[]⟩ w:=by
  refine ⟨fun _=>none,rfl,by simp only [Array.size_append,Array.size_replicate,Avz,List.length_replicate]; omega,Below.refl _ _,Av1 _,hI,fun n p h=>(by cases h),fun n p b h=>(by cases h),fun n m p q b h=>(by cases h),fun t=>?_,fun b h=>h.elim⟩
  have hw:Il (Ij I) (Bl I w.heap.size (fun _=>none) w):=⟨fun b hb=>⟨hI b hb,.inl hb,fun n p h=>(by cases h)⟩,rfl,fun _=>rfl,fun _=>rfl⟩
  have hl:=A5.Es hw _ _ hv
  rcases Av4 t args.length with hlt | hge
  ·obtain ⟨v,h1,h2⟩:=hl.getD t hlt
   simp only [Avh,List.getElem?_append_left hlt] at h2 ⊢
   have hlt':t<vals.size:=by omega
   have e:(vals++Array.replicate (fn.ntmps-vals.size) undef).getD t undef=v:=by
    rw [Array.getD_eq_getD_getElem?,Array.getElem?_append_left hlt']
    rw [Array.getElem?_toList] at h1
    rw [h1]; rfl
   rw [e]; exact h2
  ·rw [Avh,Awl hge,List.getElem?_replicate]
   split<;>simp only [Awr,Option.getD_none,Aj]
 refine Ol he fuel out body 0 _ _ _ _ h _ _ hh _ (fun st a w' hk hh'=>?_) (fun id st a w' hk=>by cases hk) (fun st a w' hk hh'=>?_)
 ·obtain ⟨v,own,h1,h2,h3,h4⟩:=Aet he.ty hk hh'
  have hd:a.defers=[]:=by obtain ⟨A,hA⟩:=hh'; exact hA.defers
  exact ⟨hd,v,h1,v,own,rfl,h2,h3,h4⟩
 ·obtain ⟨v,own,h1,h2,h3,h4⟩:=Aet he.ty hk hh'
  have hd:a.defers=[]:=by obtain ⟨A,hA⟩:=hh'; exact hA.defers
  exact ⟨hd,v,h1,v,own,rfl,h2,h3,h4⟩
end Go.Den
end
