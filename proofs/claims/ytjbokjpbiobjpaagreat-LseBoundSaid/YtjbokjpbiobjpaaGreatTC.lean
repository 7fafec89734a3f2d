/- A verified evaluator of the program's form and its use for this seat: Den21, Den22, Den23, Den24, Den25, Den26, Den27, Den28, Den29, Den30, Den31, Den32. -/
import Derived.Orders
import Derived.Test.YtjbokjpbiobjpaaGreatTB
import Derived.LoopN
import Derived.Scope
set_option linter.unusedVariables false
set_option linter.unusedSimpArgs false
noncomputable section
open Int (toNat)
open List (length getD)
namespace Go.Den
open Go.RowKit (Below)
def Hy (P:Program) (ops:Array Oper) (o:Oper) (a:Act) (w:World) (Q:Exit→Act→World→Prop) (G:Value→World→Prop):Prop :=
 ∀ K:Act→World→Prop,(∀ v w',G v w'→K (a.put o.dst v) w') →
  if Region.wanted o (yielded ops a.tmps) then o.wp P a w K Q else K (a.put o.dst undef) w
theorem Hy.mono {P:Program} {ops:Array Oper} {o:Oper} {a:Act} {w:World} {Q:Exit→Act→World→Prop} {G G':Value→World→Prop} (h:Hy P ops o a w Q G) (hg:∀ v w',G v w'→G' v w'):Hy P ops o a w Q G' :=
 fun K hK=>h K fun v w' hh=>hK v w' (hg v w' hh)
theorem D8.wp {P:Program} {o:Oper} {a:Act} {w:World} {K:Act→World→Prop} {Q:Exit→Act→World→Prop} {K':Value→World→Prop} (h:D8 P (execOp a.eval o) w K') (hK:∀ v w',K' v w'→K (a.put o.dst v) w'):o.wp P a w K Q:=by
 unfold D8 at h
 unfold Oper.wp
 split at h
 ·rename_i v w' hr
  rw [hr,Oper.upon_value]; exact hK _ _ h
 ·rename_i f args w' hr
  rw [hr,Oper.upon_enter]
  refine Calls.mono h fun e w'' ⟨v,he,hk⟩=>?_
  subst he; exact hK _ _ hk
 ·exact h.elim
section
variable {P:Program} {E:Env} {I0:Nat→Prop} {B:Nat} {A:Nat→Option Place} {h:Dc} {w:World}
theorem Kz {c:Ctx} {g:Bool} {d:DV} {v:Value} (hv:Aj c w d v) (hg:g=true) (hs:(Ge g d).2=true):Aj c w (Ge g d).1 v:=by
 subst hg
 cases d<;>try exact hv
 rename_i c' d'
 simp only [Ge,Ax2,Bool.false_or] at hs ⊢
 simp only [Aj] at hv
 exact hv.1 hs
theorem Agu {c:Ctx} {ops:Array Oper} {l:List DV} {o:Oper} {a:Act} (hsz:a.tmps.size=l.length)
 (hrd:∀ t∈o.looksAt ops,Aj c w (l.getD t .undef) (a.tmps.getD t undef)) {g?:Option Bool} (hc:M4 ops l o=some g?) :
 (g?=none∧o.guard=none)∨∃ b,g?=some b∧Region.wanted o (yielded ops a.tmps)=b:=by
 unfold M4 at hc
 split at hc
 ·rename_i hg
  cases hc; exact .inl ⟨rfl,hg⟩
 ·rename_i j want hg
  cases hd:(ops[j]?).bind (·.dst) with
  | none=>simp [hd] at hc
  | some d =>
    simp only [hd] at hc
    have hv:=hrd d (by unfold Oper.looksAt; simp [hg,hd])
    have hlt:∀ {x:DV},l.getD d .undef=x→x≠.undef→d<a.tmps.size:=fun {x} hx hne=>by
     rw [hsz]
     refine Nat.lt_of_not_le fun hle=>hne ?_
     rw [← hx,Axd,Ayl hle]; rfl
    have hy:∀ {u:Value},d<a.tmps.size→a.tmps.getD d undef=u→yielded ops a.tmps j=match u with | .bool b=>some b | _=>none:=fun {u} hl hu=>by
     unfold yielded
     rw [hd,Axb]
     have:a.tmps[d]?=some u:=by
      rw [Axn hl]
      rw [Array.getD_eq_getD_getElem?,Axn hl] at hu
      exact congrArg some hu
     rw [this]
     cases u<;>rfl
    split at hc
    ·rename_i b hb
     cases hc
     rw [hb] at hv; simp only [Aj] at hv
     refine .inr ⟨_,rfl,?_⟩
     unfold Region.wanted; rw [hg]; simp only
     rw [hy (hlt hb (by simp)) hv]
     cases b<;>cases want<;>rfl
    ·rename_i c' b hb
     cases hc
     rw [hb] at hv; simp only [Aj] at hv
     refine .inr ⟨_,rfl,?_⟩
     unfold Region.wanted; rw [hg]; simp only
     cases c' with
     | true =>
       rw [hy (hlt hb (by simp)) (hv.1 rfl)]
       cases b<;>cases want<;>rfl
     | false =>
       rw [hy (hlt hb (by simp)) (hv.2 rfl)]
       cases want<;>rfl
    ·cases hc
def Oe (g?:Option Bool) (v:DV):DV:=match g? with | some c=>.gd c v | none=>v
theorem Aa6 {c:Ctx} {g?:Option Bool} {d:DV} {v:Value} (hg:g?.getD true=true) (hv:Aj c w d v):Aj c w (Oe g? d) v:=by
 cases g? with
 | none=>exact hv
 | some b =>
   simp only [Ayn] at hg; subst hg
   simp only [Oe,Aj]
   exact ⟨fun _=>hv,fun e=>by cases e⟩
theorem Akm (he:I2 P E) (hm:Mem I0 B A h w) {ops:Array Oper} {l:List DV} {o:Oper} {a:Act}
 (hops:∀ x∈o.op.operands.toList,Aj (Be I0 B A w) w (Gp l x) (a.eval x))
 {g?:Option Bool} (hg:(g?=none∧o.guard=none)∨∃ b,g?=some b∧Region.wanted o (yielded ops a.tmps)=b)
 {nm:Nat} {r:R2} (hq:D3 E h nm (fun x=>(Ge (g?.getD true) (Gp l x)).1) o.op=some r)
 (hreq:(!(g?.getD true)||(Qs (g?.getD true) (Gp l) o.op.operands.toList&&r.req))=true)
 (hobj:r.objs=[]∨g?.getD true=true) (hfrz:r.frz=[]∨g?.getD true=true)
 (hnew:∀ n ob,(n,ob)∈r.objs→A n=none) (hnd:(r.objs.map (·.1)).Nodup) {Q:Exit→Act→World→Prop} :
 Hy P ops o a w Q fun v w'=>∃ A',Il I0 B A w r.objs r.frz A' w'∧Aj (Be I0 B A' w') w' (Oe g? r.v) v:=by
 intro K hK
 have hwant:Region.wanted o (yielded ops a.tmps)=g?.getD true:=by
  rcases hg with ⟨rfl,hg⟩ | ⟨b,rfl,hg⟩
  ·simp [Region.wanted,hg]
  ·simpa using hg
 rw [hwant]
 by_cases hgt:g?.getD true=true
 ·rw [Axq hgt]
  rw [hgt] at hreq hq
  simp only [Ax2,Bool.false_or,Axe] at hreq
  have hops':Ops (Be I0 B A w) w (fun x=>(Ge true (Gp l x)).1) a.eval o.op:=fun x hx=>by
   refine Kz (hops x hx) rfl ?_
   have:=hreq.1
   unfold Qs at this
   rw [List.all_eq_true] at this
   exact this x hx
  exact D8.wp (K':=fun v w'=>∃ A',Il I0 B A w r.objs r.frz A' w'∧Aj (Be I0 B A' w') w' (Oe g? r.v) v)
   (Ahv he hm hops' hq hreq.2 hnew hnd fun v w' A' h1 h2=>⟨A',h1,Aa6 hgt h2⟩) hK
 ·rw [Axp hgt]
  have hgf:g?=some false:=by
   cases g? with
   | none=>simp at hgt
   | some b=>simp only [Ayn,Bool.not_eq_true] at hgt; rw [hgt]
  have h1:r.objs=[]:=hobj.resolve_right hgt
  have h2:r.frz=[]:=hfrz.resolve_right hgt
  subst hgf
  refine hK undef w ⟨A,by rw [h1,h2]; exact Il.refl (.inl rfl),?_⟩
  simp only [Oe,Aj]
  exact ⟨fun e=>(by cases e),fun _=>trivial⟩
theorem Aoj {ops:Array Oper} {l:List DV} {dst:Option Tmp} {c x y:Operand} {ty:TypeId} {pos:String} {after:Array Edge} {guard:Option (Nat × Bool)} {a:Act} {cx:Ctx}
 (hc:Aj cx w (Gp l c) (a.eval c)) (hx:Aj cx w (Gp l x) (a.eval x)) (hy:Aj cx w (Gp l y) (a.eval y))
 {g?:Option Bool} (hg:(g?=none∧guard=none)∨∃ b,g?=some b∧Region.wanted ⟨dst,.pick c x y,ty,pos,after,guard⟩ (yielded ops a.tmps)=b)
 {c' r:Bool} {v:DV} (hsc:(Ge (g?.getD true) (Gp l c)).1=.bool c') (hp:Af3 c' (Gp l x) (Gp l y)=some (r,v))
 (hreq:(!(g?.getD true)||((Ge (g?.getD true) (Gp l c)).2&&r))=true) {Q:Exit→Act→World→Prop} :
 Hy P ops ⟨dst,.pick c x y,ty,pos,after,guard⟩ a w Q fun u w'=>w'=w∧Aj cx w (Oe g? v) u:=by
 intro K hK
 have hwant:Region.wanted ⟨dst,.pick c x y,ty,pos,after,guard⟩ (yielded ops a.tmps)=g?.getD true:=by
  rcases hg with ⟨rfl,hg⟩ | ⟨b,rfl,hg⟩
  ·simp [Region.wanted,hg]
  ·simpa using hg
 rw [hwant]
 by_cases hgt:g?.getD true=true
 ·rw [Axq hgt]
  rw [hgt] at hreq hsc
  simp only [Ax2,Bool.false_or,Axe] at hreq
  have hcv:=Kz hc rfl hreq.1
  rw [hsc] at hcv; simp only [Aj] at hcv
  refine D8.wp (K':=fun u w'=>w'=w∧Aj cx w (Oe g? v) u) (D8.value (v:=if c' then a.eval x else a.eval y) (w':=w) ?_ ⟨rfl,Aa6 hgt ?_⟩) hK
  ·simp [execOp,hcv,asBool]
  ·have h2:=hreq.2
   unfold Af3 at hp
   cases c' with
   | true =>
     simp only [if_true]
     split at hp
     ·rename_i p q e1 e2
      simp only [Aw6,Axc] at hp
      obtain ⟨rfl,rfl⟩:=hp
      simp only [Axe] at h2
      have:=Kz hx rfl h2.1
      rw [e1] at this; exact this
     ·rename_i k p k' q e1 e2
      by_cases hk:k=k'
      ·simp only [hk,decide_true,Aw3,Aw6,Axc] at hp
       obtain ⟨rfl,rfl⟩:=hp
       simp only [Axe] at h2
       have:=Kz hx rfl h2.1
       rw [e1] at this; subst hk; exact this
      ·simp [hk] at hp
     ·cases hp
   | false =>
     simp only [Bool.false_eq_true,if_false]
     split at hp
     ·rename_i p q e1 e2
      simp only [Aw6,Axc] at hp
      obtain ⟨rfl,rfl⟩:=hp
      simp only [Axe] at h2
      have:=Kz hy rfl h2.2
      rw [show (!false)=true from rfl] at e2
      rw [e2] at this; exact this
     ·rename_i k p k' q e1 e2
      by_cases hk:k=k'
      ·simp only [hk,decide_true,Aw3,Aw6,Axc] at hp
       obtain ⟨rfl,rfl⟩:=hp
       simp only [Axe] at h2
       have:=Kz hy rfl h2.2
       rw [show (!false)=true from rfl] at e2
       rw [e2] at this; exact this
      ·simp [hk] at hp
     ·cases hp
 ·rw [Axp hgt]
  have hgf:g?=some false:=by
   cases g? with
   | none=>simp at hgt
   | some b=>simp only [Ayn,Bool.not_eq_true] at hgt; rw [hgt]
  subst hgf
  refine hK undef w ⟨rfl,?_⟩
  simp only [Oe,Aj]
  exact ⟨fun e=>(by cases e),fun _=>trivial⟩
theorem Ale {ops:Array Oper} {o:Oper} {t:Tmp} (h:Operand.tmp t∈o.op.operands.toList):t∈o.looksAt ops:=by
 unfold Oper.looksAt
 exact List.mem_append.2 (.inl (List.mem_filterMap.2 ⟨_,h,rfl⟩))
theorem Y1 {c:Ctx} (v:Value):Aj c w (Ae7 v) v:=by
 unfold Ae7
 split<;>simp only [Aj]
 exact ⟨_,rfl,.inl rfl⟩
theorem R1 {c:Ctx} {ops:Array Oper} {l:List DV} {o:Oper} {a:Act}
 (hrd:∀ t∈o.looksAt ops,Aj c w (l.getD t .undef) (a.tmps.getD t undef)):∀ x∈o.op.operands.toList,Aj c w (Gp l x) (a.eval x):=by
 intro x hx
 cases x with
 | tmp t=>exact hrd t (Ale hx)
 | const v=>exact Y1 v
 | global g=>simp only [Gp,Aj]
 | func f=>simp [Gp,Aj,Act.eval,Az]
theorem Aul (he:I2 P E) {ops:Array Oper} {draw:Bool} {st st':St} {o:Oper} (hs:Km E ops draw st o=some (true,st')) (hmut:Sd o.op=false)
 (hsp:∀ g?,M4 ops st.tmps o=some g?→(bif draw then none else Jw E (Gp st.tmps) g? o.op)=none) :
 ∃ d objs frz,st'.tmps=Rn st.tmps o.dst d∧st'.heap=objs.map (fun (x:Nat × OB)=>(x.1,false,x.2))++Ig st.heap frz ∧
  (∀ n ob,(n,ob)∈objs→look st.heap n=none)∧(objs.map (·.1)).Nodup∧(Fb E ops st o=frz∧∀ n∈frz,look st.heap n≠none) ∧
  ∀ {I0:Nat→Prop} {B:Nat} {A:Nat→Option Place} {w:World} {a:Act} {Q:Exit→Act→World→Prop},Mem I0 B A st.heap w→a.tmps.size=st.tmps.length →
   (∀ t∈o.looksAt ops,Aj (Be I0 B A w) w (st.tmps.getD t .undef) (a.tmps.getD t undef))→(∀ n ob,(n,ob)∈objs→A n=none) →
   Hy P ops o a w Q fun v w'=>∃ A',Il I0 B A w objs frz A' w'∧Aj (Be I0 B A' w') w' d v:=by
 obtain ⟨dst,op,ty,pos,after,guard⟩:=o
 unfold Km at hs
 cases hc:M4 ops st.tmps ⟨dst,op,ty,pos,after,guard⟩ with
 | none=>simp [hc] at hs
 | some g? =>
 simp only [hc,Axb] at hs
 dsimp only at hmut
 replace hsp:=hsp g? hc
 dsimp only at hsp
 have quiet:∀ (hs:((D3 E st.heap (dst.getD 0) (fun x=>(Ge (g?.getD true) (Gp st.tmps x)).1) op).bind fun r =>
  bif (r.objs.all fun (n,_)=>(look st.heap n).isNone)&&Ki (r.objs.map (·.1))&&(r.objs.isEmpty||dst.isSome)&&(r.frz.isEmpty||r.frz.all fun n=>(look st.heap n).isSome) then
   some (bif r.objs.isEmpty&&r.frz.isEmpty then !(g?.getD true)||(Qs (g?.getD true) (Gp st.tmps) op.operands.toList&&r.req) else g?.getD true&&(Qs (g?.getD true) (Gp st.tmps) op.operands.toList&&r.req),
    ({ tmps:=Rn st.tmps dst (Oe g? r.v),heap:=(r.objs.map fun (n,ob)=>(n,false,ob))++Ig st.heap r.frz }:St))
  else none)=some (true,st')),∃ d objs frz,st'.tmps=Rn st.tmps dst d∧st'.heap=objs.map (fun (x:Nat × OB)=>(x.1,false,x.2))++Ig st.heap frz ∧
  (∀ n ob,(n,ob)∈objs→look st.heap n=none)∧(objs.map (·.1)).Nodup∧(Fb E ops st ⟨dst,op,ty,pos,after,guard⟩=frz∧∀ n∈frz,look st.heap n≠none) ∧
  ∀ {I0:Nat→Prop} {B:Nat} {A:Nat→Option Place} {w:World} {a:Act} {Q:Exit→Act→World→Prop},Mem I0 B A st.heap w→a.tmps.size=st.tmps.length →
   (∀ t∈Oper.looksAt ops ⟨dst,op,ty,pos,after,guard⟩,Aj (Be I0 B A w) w (st.tmps.getD t .undef) (a.tmps.getD t undef))→(∀ n ob,(n,ob)∈objs→A n=none) →
   Hy P ops ⟨dst,op,ty,pos,after,guard⟩ a w Q fun v w'=>∃ A',Il I0 B A w objs frz A' w'∧Aj (Be I0 B A' w') w' d v:=by
  intro hs
  cases hq:D3 E st.heap (dst.getD 0) (fun x=>(Ge (g?.getD true) (Gp st.tmps x)).1) op with
  | none=>simp [hq] at hs
  | some r =>
    simp only [hq,Axb] at hs
    by_cases hcc:((r.objs.all fun (n,_)=>(look st.heap n).isNone)&&Ki (r.objs.map (·.1))&&(r.objs.isEmpty||dst.isSome)&&(r.frz.isEmpty||r.frz.all fun n=>(look st.heap n).isSome))=true
    ·rw [hcc,Aw3,Aw6,Axc] at hs
     obtain ⟨hreq,rfl⟩:=hs
     simp only [Axe,Bool.or_eq_true,List.isEmpty_iff,Option.isNone_iff_eq_none,List.all_eq_true] at hcc
     obtain ⟨⟨⟨h1,h2⟩,h3⟩,h4⟩:=hcc
     replace hreq:(!(g?.getD true)||(Qs (g?.getD true) (Gp st.tmps) op.operands.toList&&r.req))=true∧(r.objs=[]∨g?.getD true=true)∧(r.frz=[]∨g?.getD true=true):=by
      cases ho:r.objs.isEmpty&&r.frz.isEmpty with
      | true =>
        rw [ho,Aw3] at hreq
        simp only [Axe,List.isEmpty_iff] at ho
        exact ⟨hreq,.inl ho.1,.inl ho.2⟩
      | false =>
        rw [ho,Aw7,Axe] at hreq
        exact ⟨by rw [hreq.2,Ayf],.inr hreq.1,.inr hreq.1⟩
     refine ⟨Oe g? r.v,r.objs,r.frz,rfl,rfl,fun n ob hn=>h1 (n,ob) hn,Ib h2,⟨by unfold Fb; dsimp only; rw [hmut,hc]; simp only [Aw7,hq],fun n hn e=>?_⟩,?_⟩
     ·rcases h4 with h4 | h4
      ·rw [h4] at hn; cases hn
      ·have:=h4 n hn; rw [e] at this; cases this
     intro I0 B A w a Q hm hsz hrd hnew
     exact Akm he hm (R1 hrd) (Agu hsz hrd hc) hq hreq.1 hreq.2.1 hreq.2.2 hnew (Ib h2)
    ·simp only [Bool.not_eq_true] at hcc; rw [hcc] at hs; cases hs
 cases op
 case pick c x y =>
  simp only at hs
  split at hs
  ·rename_i c' hsc
   cases hp:Af3 c' (Gp st.tmps x) (Gp st.tmps y) with
   | none=>simp [hp] at hs
   | some rv =>
     obtain ⟨r,v⟩:=rv
     simp only [hp,Axb,Aw6,Axc] at hs
     obtain ⟨hreq,rfl⟩:=hs
     refine ⟨Oe g? v,[],[],rfl,rfl,fun n ob hn=>(by cases hn),List.nodup_nil,⟨by unfold Fb; dsimp only [Sd]; rw [hc]; rfl,fun n hn=>(by cases hn)⟩,?_⟩
     intro I0 B A w a Q hm hsz hrd hnew
     have hr:=R1 (w:=w) hrd
     refine Hy.mono (Aoj (hr c (by simp [Op.operands])) (hr x (by simp [Op.operands])) (hr y (by simp [Op.operands])) (Agu hsz hrd hc) hsc hp hreq) ?_
     rintro u w' ⟨rfl,hu⟩
     exact ⟨A,Il.refl (.inl rfl),hu⟩
  ·cases hs
 case store=>simp [Sd] at hmut
 case call c =>
  obtain ⟨callee,args,ts⟩:=c
  cases callee
  case builtin b =>
   cases b
   case append=>simp [Sd] at hmut
   all_goals (dsimp only at hs; rw [hsp] at hs; exact quiet hs)
  all_goals (dsimp only at hs; rw [hsp] at hs; exact quiet hs)
 all_goals (dsimp only at hs; rw [hsp] at hs; exact quiet hs)
end
end Go.Den
namespace Go.Den
open Go.RowKit (Below)
theorem Lw (a b:Dc) (n:Nat):look (a++b) n=match look a n with | some x=>some x | none=>look b n:=by
 induction a with
 | nil=>rfl
 | cons x a ih =>
   obtain ⟨m,y⟩:=x
   simp only [List.cons_append,look]
   cases m==n<;>simp [ih]
theorem Aaa (h:Dc) (m n:Nat):look (match look h m with | some (_,o)=>upd h m (true,o) | none=>h) n=(look h n).map fun x=>(x.1||decide (n=m),x.2):=by
 cases hm:look h m with
 | none =>
   simp only
   cases hn:look h n with
   | none=>rfl
   | some x =>
     have:n≠m:=fun e=>by rw [e,hm] at hn; cases hn
     simp [this]
 | some x =>
   obtain ⟨f,o⟩:=x
   simp only
   rw [Fu hm]
   by_cases e:n=m
   ·subst e; simp [hm]
   ·rw [Axp e]
    cases look h n with
    | none=>rfl
    | some x=>simp [e]
theorem Ox:∀ (ns:List Nat) (h:Dc) (n:Nat),look (Ig h ns) n=(look h n).map fun x=>(x.1||decide (n∈ns),x.2)
 | [],h,n=>by
   unfold Ig
   simp
 | m::ns,h,n=>by
   have e:Ig h (m::ns)=Ig (match look h m with | some (_,o)=>upd h m (true,o) | none=>h) ns:=rfl
   rw [e,Ox ns,Aaa]
   cases look h n with
   | none=>rfl
   | some x=>simp [Bool.or_assoc]
theorem Tr {objs:List (Nat × OB)}:∀ {n:Nat} {x:Bool × OB},look (objs.map (fun (x:Nat × OB)=>(x.1,false,x.2))) n=some x→∃ ob,(n,ob)∈objs∧x=(false,ob):=by
 induction objs with
 | nil=>intro n x h; cases h
 | cons y l ih =>
   intro n x h
   simp only [List.map_cons,look] at h
   by_cases e:y.1=n
   ·rw [show (y.1==n)=true by simpa using e] at h
    simp only [Aw3,Aw6] at h
    exact ⟨y.2,by rw [← e]; exact Ayi,h.symm⟩
   ·rw [show (y.1==n)=false by simpa using e] at h
    obtain ⟨ob,h1,h2⟩:=ih h
    exact ⟨ob,Ax8 _ h1,h2⟩
theorem Wo {objs:List (Nat × OB)} {n:Nat} (h:look (objs.map (fun (x:Nat × OB)=>(x.1,false,x.2))) n=none):∀ ob,(n,ob) ∉ objs:=by
 induction objs with
 | nil=>intro ob h; cases h
 | cons y l ih =>
   intro ob hm
   simp only [List.map_cons,look] at h
   by_cases e:y.1=n
   ·rw [show (y.1==n)=true by simpa using e] at h; simp at h
   ·rw [show (y.1==n)=false by simpa using e] at h
    rcases List.mem_cons.1 hm with rfl | hm
    ·exact e rfl
    ·exact ih h ob hm
theorem Ah2 {α:Type} {l:List (Nat × α)} (h:(l.map (·.1)).Nodup) {n:Nat} {x y:α} (h1:(n,x)∈l) (h2:(n,y)∈l):x=y:=by
 have e1:=Pv h h1
 have e2:=Pv h h2
 rw [e1] at e2; exact Option.some.inj e2
structure Pd (P:Program) (E:Env) (ops:Array Oper) (draw:Bool) (st:St) (o:Oper) (st':St) (d:DV):Prop where
 tmps:st'.tmps=Rn st.tmps o.dst d
 there:draw=true→∀ n,n∈Fb E ops st o→look st.heap n≠none
 stays:∀ n,look st.heap n≠none→look st'.heap n≠none
 same:draw=true→∀ n,n ∉ Fb E ops st o→look st.heap n≠none→look st'.heap n=look st.heap n
 run:∀ {I0:Nat→Prop} {B:Nat} {A:Nat→Option Place} {w:World} {a:Act} {Q:Exit→Act→World→Prop},Mem I0 B A st.heap w→a.tmps.size=st.tmps.length →
  (∀ t∈o.looksAt ops,Aj (Be I0 B A w) w (st.tmps.getD t .undef) (a.tmps.getD t undef))→(∀ n,look st.heap n=none→look st'.heap n≠none→A n=none) →
  Hy P ops o a w Q fun v w'=>∃ A',Mem I0 B A' st'.heap w'∧Hl A w A' w'∧Below B w w'∧Aj (Be I0 B A' w') w' d v ∧
   (∀ n p,A' n=some p→A n=none→look st.heap n=none∧look st'.heap n≠none) ∧
   (draw=true→P5 (Fb E ops st o) A w w'∧∀ m q,m ∉ Fb E ops st o→A m=some q→A' m=some q)
section
variable {P:Program} {E:Env}
theorem Abj (he:I2 P E) {ops:Array Oper} {draw:Bool} {st st':St} {o:Oper} (hs:Km E ops draw st o=some (true,st')) (hmut:Sd o.op=false)
 (hsp:∀ g?,M4 ops st.tmps o=some g?→(bif draw then none else Jw E (Gp st.tmps) g? o.op)=none) :
 ∃ d,Pd P E ops draw st o st' d:=by
 obtain ⟨d,objs,frz,h1,h2,h3,h4,h5,h6⟩:=Aul he hs hmut hsp
 obtain ⟨hm0,h5'⟩:=h5
 have hlk:∀ n,look st'.heap n=match look (objs.map (fun (x:Nat × OB)=>(x.1,false,x.2))) n with | some x=>some x | none=>(look st.heap n).map fun x=>(x.1||decide (n∈frz),x.2):=by
  intro n; rw [h2,Lw,Ox]
 have hold:∀ n,look st.heap n≠none→look st'.heap n=(look st.heap n).map fun x=>(x.1||decide (n∈frz),x.2):=by
  intro n hn
  rw [hlk]
  cases hq:look (objs.map (fun (x:Nat × OB)=>(x.1,false,x.2))) n with
  | none=>rfl
  | some x =>
    obtain ⟨ob,hob,_⟩:=Tr hq
    exact absurd (h3 n ob hob) hn
 have hobj:∀ n ob,(n,ob)∈objs→look st'.heap n=some (false,ob):=by
  intro n ob hob
  rw [hlk]
  cases hq:look (objs.map (fun (x:Nat × OB)=>(x.1,false,x.2))) n with
  | none=>exact absurd hob (Wo hq ob)
  | some x =>
    obtain ⟨ob',hob',rfl⟩:=Tr hq
    rw [Ah2 h4 hob hob']
 refine ⟨d,h1,fun _ n hn=>h5' n (hm0 ▸ hn),fun n hn=>?_,fun hd n hf hn=>?_,?_⟩
 ·rw [hold n hn]
  cases hq:look st.heap n with
  | none=>exact absurd hq hn
  | some x=>simp
 ·rw [hm0] at hf
  rw [hold n hn]
  cases look st.heap n with
  | none=>rfl
  | some x=>simp [hf]
 ·intro I0 B A w a Q hm hsz hrd hnew
  have hnew':∀ n ob,(n,ob)∈objs→A n=none:=fun n ob hob=>hnew n (h3 n ob hob) (by rw [hobj n ob hob]; simp)
  refine (h6 hm hsz hrd hnew').mono ?_
  rintro v w' ⟨A',hg,hv⟩
  have hmem:Mem I0 B A' st'.heap w':=by
   refine hg.mem hm (fun n p fo' hp hl=>?_) (fun n ob fo' hob hn hl=>?_)
   ·rw [hlk] at hl
    cases hq:look (objs.map (fun (x:Nat × OB)=>(x.1,false,x.2))) n with
    | some x =>
      obtain ⟨ob,hob,_⟩:=Tr hq
      rw [hnew' n ob hob] at hp; cases hp
    | none =>
      rw [hq] at hl
      cases hf:look st.heap n with
      | none=>rw [hf] at hl; cases hl
      | some fo=>rw [hf] at hl; cases hl; exact ⟨fo,rfl,rfl⟩
   ·rw [hobj n ob hob] at hl; cases hl; rfl
  refine ⟨A',hmem,hg.Aqt,hg.below.mono hm.hB,hv,fun n p hp hn=>?_,fun hd=>⟨fun m q b _ hq hqd hqb=>hg.below.block b (hm.blkB m q b hq hqd hqb).2,fun m q hmf hq=>?_⟩⟩
  ·obtain ⟨_,_,ob,hob,_⟩:=hg.new n p hn hp
   exact ⟨h3 n ob hob,by rw [hobj n ob hob]; simp⟩
  ·have:=hg.old m q hq
   rw [this]
   rw [hm0] at hmf
   cases q
   simp [Xp,hmf]
end
end Go.Den
namespace Go.Den
open Go.RowKit (Below)
section
variable {P:Program} {E:Env}
theorem Og {o:Oper} {y:Nat→Option Bool} (h:o.guard=none):Region.wanted o y=true:=by
 unfold Region.wanted; rw [h]
theorem Q6 {ops:Array Oper} {l:List DV} {o:Oper} (h:M4 ops l o=some none):o.guard=none:=by
 unfold M4 at h
 split at h
 ·assumption
 ·split at h
  ·split at h<;>cases h
  ·cases h
structure Pf (ns:List Nat) (nm:Option Nat) (h h':Dc):Prop where
 there:∀ m,m∈ns→look h m≠none
 stays:∀ m,look h m≠none→look h' m≠none
 same:∀ m,m ∉ ns→some m≠nm→look h' m=look h m
theorem K3 {h:Dc} {n:Nat} {x y:Bool × OB} (hl:look h n=some x):Pf [n] none h (upd h n y) where
 there:=fun m hm=>by rw [List.mem_singleton.1 hm,hl]; simp
 stays:=fun m hm=>by rw [Fu hl]; split<;>simp_all
 same:=fun m hm _=>by rw [Fu hl,Axp (fun e=>hm (by rw [e]; exact List.mem_singleton.2 rfl))]
theorem Ph {h:Dc} {nm:Nat} {x:Bool × OB}:Pf [] (some nm) h ((nm,x)::h) where
 there:=fun m hm=>by cases hm
 stays:=fun m hm=>by simp only [look]; cases nm==m<;>simp [hm]
 same:=fun m _ hne=>by
  simp only [look]
  rw [show (nm==m)=false by simpa using fun e:nm=m=>hne (by rw [e])]; rfl
theorem X0 {h:Dc} {n nm:Nat} {x y z:Bool × OB} (hl:look h n=some x):Pf [n] (some nm) h ((nm,z)::upd h n y) where
 there:=(K3 (y:=y) hl).there
 stays:=fun m hm=>Ph.stays m ((K3 (y:=y) hl).stays m hm)
 same:=fun m hm hne=>by rw [Ph.same m (by simp) hne,(K3 (y:=y) hl).same m hm (by simp)]
theorem Abe {h h':Dc} {t:TypeId} {a v:DV} {r:Bool} (hs:S7 E h t a v=some (r,h')):Pf (Ak5 a) none h h':=by
 unfold S7 at hs
 cases hT:E.ty t with
 | none=>simp [hT] at hs
 | some ti =>
 simp only [hT,Axb] at hs
 cases hc:(L7 v&&(cells v).length==ti.size&&(cells v).all Qi) with
 | false=>rw [hc] at hs; simp at hs
 | true =>
 rw [hc,Aw3] at hs
 split at hs
 ·rename_i n i j
  split at hs
  ·rename_i cs hlk
   cases hq:(i==0&&decide (j+ti.size≤cs.length)) with
   | false=>rw [hq] at hs; simp at hs
   | true =>
     rw [hq,Aw3,Aw6,Axc] at hs
     obtain ⟨_,rfl⟩:=hs
     exact K3 hlk
  ·rename_i e k l hlk
   split at hs
   ·rename_i k' x
    cases hq:(j==0&&decide (k=k')) with
    | false=>rw [hq] at hs; simp at hs
    | true =>
      rw [hq,Aw3,Aw6,Axc] at hs
      obtain ⟨_,rfl⟩:=hs
      exact K3 hlk
   ·cases hs
  ·rename_i e sz l hlk
   cases hlow:J4 h (cells v) with
   | none=>simp [hlow] at hs
   | some q =>
   obtain ⟨vs,ns⟩:=q
   simp only [hlow,Axb] at hs
   cases hq:(decide (j+ti.size≤sz)&&ns.isEmpty) with
   | false=>rw [hq] at hs; simp at hs
   | true =>
     rw [hq,Aw3,Aw6,Axc] at hs
     obtain ⟨_,rfl⟩:=hs
     exact K3 hlk
  ·cases hs
 ·cases hs
theorem Aaz {h h':Dc} {nm:Nat} {t:TypeId} {s x v:DV} {r:Bool} (ha:L3 E h nm t s x=some (r,v,h')):Pf (Z7 s) (some nm) h h'∧look h nm=none:=by
 unfold L3 at ha
 split at ha
 ·rename_i e _ hT
  cases hE:E.ty e with
  | none=>simp [hE] at ha
  | some ei =>
  simp only [hE,Axb] at ha
  cases hq:(decide (ei.bytes≤128)&&decide (0<ei.size)&&(look h nm).isNone) with
  | false=>rw [hq] at ha; simp at ha
  | true =>
  rw [hq,Aw3] at ha
  simp only [Axe,Axa,Option.isNone_iff_eq_none] at hq
  refine ⟨?_,hq.2⟩
  split at ha
  ·split at ha
   ·rename_i k hk
    cases hs1:(ei.size==1) with
    | false=>rw [hs1] at ha; simp at ha
    | true =>
    rw [hs1,Aw3] at ha
    cases hel:Mb h k x with
    | none=>simp [hel] at ha
    | some l =>
      simp only [hel,Axb,Aw6,Axc] at ha
      obtain ⟨_,_,rfl⟩:=ha
      exact Ph
   ·cases hel:Ma h ei.size x with
    | none=>simp [hel] at ha
    | some l =>
      simp only [hel,Axb,Aw6,Axc] at ha
      obtain ⟨_,_,rfl⟩:=ha
      exact Ph
  ·rename_i n
   split at ha
   ·rename_i e' k l' hlo
    cases hel:Mb h k x with
    | none=>simp [hel] at ha
    | some l =>
      simp only [hel,Axb] at ha
      cases hc:(e==e'&&ei.size==1) with
      | false=>rw [hc] at ha; simp at ha
      | true =>
        rw [hc,Aw3] at ha
        simp only [Aw6,Axc] at ha
        obtain ⟨_,_,rfl⟩:=ha
        exact X0 hlo
   ·rename_i e' sz l' hlo
    cases hel:Ma h sz x with
    | none=>simp [hel] at ha
    | some l =>
      simp only [hel,Axb] at ha
      cases hc:(e==e'&&sz==ei.size) with
      | false=>rw [hc] at ha; simp at ha
      | true =>
        rw [hc,Aw3] at ha
        simp only [Aw6,Axc] at ha
        obtain ⟨_,_,rfl⟩:=ha
        exact X0 hlo
   ·cases ha
  ·cases ha
 ·cases ha
theorem Ut {h h':Dc} {nm:Nat} {t:TypeId} {s x v:DV} {r:Bool} (ha:L3 E h nm t s x=some (r,v,h')):(look h' nm).isSome=true:=by
 have push:∀ {y:Bool × OB} {k:Dc},(look ((nm,y)::k) nm).isSome=true:=by intro y k; simp [look]
 unfold L3 at ha
 split at ha
 ·rename_i e _ hT
  cases hE:E.ty e with
  | none=>simp [hE] at ha
  | some ei =>
  simp only [hE,Axb] at ha
  cases hq:(decide (ei.bytes≤128)&&decide (0<ei.size)&&(look h nm).isNone) with
  | false=>rw [hq] at ha; simp at ha
  | true =>
  rw [hq,Aw3] at ha
  split at ha
  ·split at ha
   ·rename_i k hk
    cases hs1:(ei.size==1) with
    | false=>rw [hs1] at ha; simp at ha
    | true =>
    rw [hs1,Aw3] at ha
    cases hel:Mb h k x with
    | none=>simp [hel] at ha
    | some l =>
      simp only [hel,Axb,Aw6,Axc] at ha
      obtain ⟨_,_,rfl⟩:=ha
      exact push
   ·cases hel:Ma h ei.size x with
    | none=>simp [hel] at ha
    | some l =>
      simp only [hel,Axb,Aw6,Axc] at ha
      obtain ⟨_,_,rfl⟩:=ha
      exact push
  ·rename_i n
   split at ha
   ·rename_i e' k l' hlo
    cases hel:Mb h k x with
    | none=>simp [hel] at ha
    | some l =>
      simp only [hel,Axb] at ha
      cases hc:(e==e'&&ei.size==1) with
      | false=>rw [hc] at ha; simp at ha
      | true =>
        rw [hc,Aw3] at ha
        simp only [Aw6,Axc] at ha
        obtain ⟨_,_,rfl⟩:=ha
        exact push
   ·rename_i e' sz l' hlo
    cases hel:Ma h sz x with
    | none=>simp [hel] at ha
    | some l =>
      simp only [hel,Axb] at ha
      cases hc:(e==e'&&sz==ei.size) with
      | false=>rw [hc] at ha; simp at ha
      | true =>
        rw [hc,Aw3] at ha
        simp only [Aw6,Axc] at ha
        obtain ⟨_,_,rfl⟩:=ha
        exact push
   ·cases ha
  ·cases ha
 ·cases ha
theorem Abh (he:I2 P E) {ops:Array Oper} {draw:Bool} {st st':St} {dst:Option Tmp} {t:TypeId} {x y:Operand} {ty:TypeId} {pos:String} {after:Array Edge} {guard:Option (Nat × Bool)}
 (hs:Km E ops draw st ⟨dst,.store t x y,ty,pos,after,guard⟩=some (true,st')):∃ d,Pd P E ops draw st ⟨dst,.store t x y,ty,pos,after,guard⟩ st' d:=by
 unfold Km at hs
 cases hc:M4 ops st.tmps ⟨dst,.store t x y,ty,pos,after,guard⟩ with
 | none=>simp [hc] at hs
 | some g? =>
 cases g? with
 | some b=>simp [hc] at hs
 | none =>
 have hg:=Q6 hc
 dsimp only at hg
 simp only [hc,Axb] at hs
 cases hst:S7 E st.heap t (Gp st.tmps x) (Gp st.tmps y) with
 | none=>simp [hst] at hs
 | some rh =>
 obtain ⟨r,h'⟩:=rh
 simp only [hst,Axb,Aw6,Axc] at hs
 obtain ⟨rfl,rfl⟩:=hs
 have ht:=Abe hst
 refine ⟨.undef,rfl,fun _=>ht.there,ht.stays,fun _ n hn _=>ht.same n hn (by simp),?_⟩
 intro I0 B A w a Q hm hsz hrd hnew
 have hr:=R1 (w:=w) hrd
 obtain ⟨w',hrun,h1,h2,h3,h4,h5,h6,h7⟩:=Ag9 he.ty hm (hr x (by simp [Op.operands])) (hr y (by simp [Op.operands])) hst rfl
 intro K hK
 rw [Axq (Og hg)]
 unfold Oper.wp execOp
 simp only [Sem.run_bind,Sem.run_pure,Result.andThen_ok,hrun]
 rw [Oper.upon_skip]
 refine hK undef w' ⟨A,h1,h2,h3,by simp [Aj],fun n p hp hn=>(by rw [hn] at hp; cases hp),fun _=>⟨h5,fun m q _ hq=>hq⟩⟩
theorem Zp (he:I2 P E) {ops:Array Oper} {draw:Bool} {st st':St} {dst:Option Tmp} {args:Array Operand} {ts:Array TypeId} {ty:TypeId} {pos:String} {after:Array Edge} {guard:Option (Nat × Bool)}
 (hs:Km E ops draw st ⟨dst,.call ⟨.builtin .append,args,ts⟩,ty,pos,after,guard⟩=some (true,st')):∃ d,Pd P E ops draw st ⟨dst,.call ⟨.builtin .append,args,ts⟩,ty,pos,after,guard⟩ st' d:=by
 unfold Km at hs
 cases hc:M4 ops st.tmps ⟨dst,.call ⟨.builtin .append,args,ts⟩,ty,pos,after,guard⟩ with
 | none=>simp [hc] at hs
 | some g? =>
 simp only [hc,Axb] at hs
 split at hs
 ·rename_i s x t t' hargs hts
  have hg:=Q6 hc
  dsimp only at hg
  cases hq:(t==t'&&dst.isSome) with
  | false=>rw [hq] at hs; simp at hs
  | true =>
  rw [hq,Aw3] at hs
  simp only [Axe,beq_iff_eq] at hq
  obtain ⟨rfl,hdst⟩:=hq
  cases hap:L3 E st.heap (dst.getD 0) t (Gp st.tmps s) (Gp st.tmps x) with
  | none=>simp [hap] at hs
  | some rh =>
  obtain ⟨r,v,h'⟩:=rh
  simp only [hap,Axb,Aw6,Axc] at hs
  obtain ⟨rfl,rfl⟩:=hs
  obtain ⟨ht,hnone⟩:=Aaz hap
  have hmut:Fb E ops st ⟨dst,.call ⟨.builtin .append,args,ts⟩,ty,pos,after,guard⟩=Z7 (Gp st.tmps s):=by
   unfold Fb Auq; simp only [hargs,Sd,Aw3]
  obtain rfl:args=#[s,x]:=by
   cases args with | mk l=>simp only at hargs; rw [hargs]
  obtain rfl:ts=#[t,t]:=by
   cases ts with | mk l=>simp only at hts; rw [hts]
  refine ⟨v,rfl,fun _ n hn=>ht.there n (hmut ▸ hn),ht.stays,fun _ n hn hl=>ht.same n (hmut ▸ hn) (fun e=>hl ?_),?_⟩
  ·cases dst with
   | none=>cases hdst
   | some d=>simp only [Ayn] at e hnone; cases e; exact hnone
  ·intro I0 B A w a Q hm hsz hrd hnew
   have hr:=R1 (w:=w) hrd
   have hnm:A (dst.getD 0)=none:=hnew _ hnone (by
    have:=Ut hap
    exact fun e=>by rw [e] at this; cases this)
   obtain ⟨v',w',A',hrun,h1,h2,h3,h4,h5,h6,h7,h8,_⟩:=Afl (ty:=ty) he.ty hm hnm (hr s (by simp [Op.operands,Call.operands])) (hr x (by simp [Op.operands,Call.operands])) hap rfl
   intro K hK
   rw [Axq (Og hg)]
   unfold Oper.wp execOp
   simp only [resolve,invoke,builtin,Sem.run_bind,Sem.run_pure,Result.andThen_ok,List.map_toArray,List.map_cons,List.map_nil,hrun]
   rw [Oper.upon_value]
   refine hK v' w' ⟨A',h1,h2,h3,h4,fun n p hp hn=>?_,fun _=>⟨hmut ▸ h7,fun m q hmn hq=>h8 m q (hmut ▸ hmn) hq⟩⟩
   have:=h5 n p hp hn
   subst this
   exact ⟨hnone,fun e=>by have:=Ut hap; rw [e] at this; cases this⟩
 ·cases hs
theorem Oq {c c':Ctx} {w w':World} (h:Kd c w c' w') {p:Place} (hb:p.st≠.dead→∀ b,p.Gb=some b→w'.heap[b]?=w.heap[b]?) {fo:Bool × OB} (hr:Cm c w p fo):Cm c' w' p fo:=by
 by_cases hd:p.st=.dead
 ·obtain ⟨fz,ob⟩:=fo
  cases ob with
  | dead=>exact hd
  | box cs=>exact absurd hd (Bk hr.1)
  | ints e k l=>exact absurd hd (Bk hr.1)
  | recs e sz l=>exact absurd hd (Bk hr.1)
 ·exact Cm.Cz h rfl rfl (hb hd) fo hr
theorem Zq {ρ:Operand→DV} {g?:Option Bool} {op:Op} {n:Nat} {e:TypeId} (h:Jw E ρ g? op=some (n,e)) :
 g?=none∧∃ f args ts g x r c,op=.call ⟨.value f,args,ts⟩∧args.toList=[x]∧ρ f=.fn g [] []∧E.spoil g=some e∧ρ x=.agg [.int .i64 r,.int .i64 c,.oref n]:=by
 unfold Jw at h
 split at h
 ·rename_i f args ts
  split at h
  ·rename_i g x hf ha
   split at h
   ·rename_i e' r c m he hx
    simp only [Aw6,Axc] at h
    obtain ⟨rfl,rfl⟩:=h
    exact ⟨rfl,f,args,ts,g,x,r,c,rfl,ha,hf,he,hx⟩
   ·cases h
  ·cases h
 ·cases h
theorem Abi (he:I2 P E) {ops:Array Oper} {draw:Bool} {st st':St} {o:Oper} (hs:Km E ops draw st o=some (true,st'))
 (hsp:¬ ∀ g?,M4 ops st.tmps o=some g?→(bif draw then none else Jw E (Gp st.tmps) g? o.op)=none):∃ d,Pd P E ops draw st o st' d:=by
 obtain ⟨dst,op,ty,pos,after,guard⟩:=o
 rw [Classical.not_forall] at hsp
 obtain ⟨g?,hsp⟩:=hsp
 rw [Classical.not_imp] at hsp
 obtain ⟨hc,hsp⟩:=hsp
 cases draw with
 | true=>exact absurd rfl hsp
 | false =>
 dsimp only at hsp
 rw [Aw7] at hsp
 cases hsa:Jw E (Gp st.tmps) g? op with
 | none=>exact absurd hsa hsp
 | some ne =>
 obtain ⟨n,e⟩:=ne
 obtain ⟨rfl,f,args,ts,g,x,r,c,rfl,hargs,hf,hE,hx⟩:=Zq hsa
 unfold Km at hs
 simp only [hc,Axb,Aw7,hsa] at hs
 have hg:=Q6 hc
 dsimp only at hg
 split at hs
 ·rename_i e' l hlk
  cases hee:(e==e') with
  | false=>rw [hee] at hs; simp at hs
  | true =>
  rw [hee,Aw3,Aw6,Axc] at hs
  obtain ⟨_,rfl⟩:=hs
  obtain rfl:e=e':=by simpa using hee
  have ht:=K3 (y:=(false,OB.dead)) hlk
  refine ⟨.undef,rfl,fun h=>(by cases h),ht.stays,fun h=>(by cases h),?_⟩
  intro I0 B A w a Q hm hsz hrd hnew
  have hr:=R1 (w:=w) hrd
  have hf':=hr f (by simp [Op.operands,Call.operands])
  have hx':=hr x (by simp [Op.operands,Call.operands]; exact .inr (by rw [← Array.mem_toList_iff,hargs]; simp))
  rw [hf] at hf'
  rw [hx] at hx'
  simp only [Aj] at hf' hx'
  obtain ⟨fs,cs,hfv,hfs,hcs⟩:=hf'
  obtain ⟨vs,hxv,hvs⟩:=hx'
  have e1:fs=#[]:=by
   have:=hfs.length; simp at this; exact Array.eq_empty_of_size_eq_zero this.symm
  have e2:cs=#[]:=by
   have:=hcs.length; simp at this; exact Array.eq_empty_of_size_eq_zero this.symm
  subst e1; subst e2
  simp only [Az,Aj] at hvs
  obtain ⟨u1,us1,h1,rfl,u2,us2,rfl,rfl,v,us3,rfl,⟨hcell,p,hp,hpd⟩,rfl⟩:=hvs
  have hp:A n=some p:=hp
  have hvs':vs=#[.int .i64 r,.int .i64 c,v]:=Array.toList_inj.1 (by simpa using h1)
  subst hvs'
  obtain ⟨hlive,sv,hkind,hown⟩:=D6 hm hp hlk
  simp only [Bool.false_eq_true,if_false] at hlive
  have hsv:v=sv:=by
   rcases hpd with hpd | ⟨size,hk⟩
   ·rw [hlive] at hpd; cases hpd
   ·rw [hkind] at hk; cases hk; rfl
  subst hsv
  have hblk:p.Gb=v.ownBlock:=by unfold Place.Gb; rw [hkind]
  have hrun:=(he.spoil g e hE).run w r c v l (Qt hown (Nat.zero_le _))
  let A':Nat→Option Place:=fun m=>if m=n then some ⟨.dead,p.kind⟩ else A m
  have hA':∀ {m:Nat} {q:Place},A' m=some q→q.st≠.dead→m≠n∧A m=some q:=by
   intro m q hq hqd
   by_cases hmn:m=n
   ·have hq:(if m=n then some ⟨.dead,p.kind⟩ else A m)=some q:=hq
    rw [Axq hmn] at hq; cases hq; exact absurd rfl hqd
   ·have hq:(if m=n then some ⟨.dead,p.kind⟩ else A m)=some q:=hq
    rw [Axp hmn] at hq; exact ⟨hmn,hq⟩
  intro K hK
  rw [Axq (Og hg)]
  obtain rfl:args=#[x]:=by
   cases args with | mk l=>simp only at hargs; rw [hargs]
  refine D8.wp (K':=fun _ w'=>Below 0 w w'∧∀ b,b<w.heap.size→v.ownBlock≠some b→w'.heap[b]?=w.heap[b]?) ?_ ?_
  ·unfold D8
   have hexec:(execOp a.eval ⟨dst,.call ⟨.value f,#[x],ts⟩,ty,pos,after,guard⟩).run P w=.ok (.enter g #[.agg #[.int .i64 r,.int .i64 c,v]]) w:=by
    simp only [execOp,resolve,hfv,Deferred.ofValue,Sem.run_bind,Sem.run_pure,Result.andThen_ok,invoke]
    have:(#[]++Array.map a.eval #[x]++#[]:Array Value)=#[.agg #[.int .i64 r,.int .i64 c,v]]:=by simp [hxv]
    rw [this]
    exact (he.spoil g e hE).call _ _
   rw [hexec]
   exact hrun.mono fun en w' ⟨⟨u,hu⟩,hb,hk⟩=>⟨u,hu,hb,hk⟩
  ·rintro u w' ⟨hb,hk⟩
   have hmv:Hl A w A' w':=by
    refine ⟨hb.size,fun m q hq=>?_,fun m q b hq hql hqb _=>?_,fun b hlt hno=>hk b hlt (fun h=>hno n p hp hlive (by rw [hblk]; exact h))⟩
    ·by_cases hmn:m=n
     ·subst hmn
      exact ⟨⟨.dead,p.kind⟩,Axq rfl,.inl rfl⟩
     ·refine ⟨q,(Axp hmn).trans hq,?_⟩
      by_cases hd:q.st=.dead
      ·exact .inl hd
      ·exact .inr ⟨hd,rfl⟩
    ·obtain ⟨_,hq⟩:=hA' hq (by rw [hql]; simp)
     exact ⟨m,q,hq,hql,hqb⟩
   refine hK u w' ⟨A',⟨Aya hm.hB hb.size,hm.I0lt,fun m q fo hq hlo=>?_,fun m q b hq hqd hqb=>?_,fun m m' q q' b hq hq' hqd hqd' hqb hqb'=>?_⟩,hmv,⟨hb.os,hb.tape,hb.output,hb.size,fun b hlt=>hk b (Aye hlt hm.hB) fun h=>?_⟩,by simp [Aj],fun m q hq hn=>?_,fun h=>(by cases h)⟩
   ·rw [Fu hlk] at hlo
    by_cases hmn:m=n
    ·rw [Axq hmn] at hlo; cases hlo
     have hq:(if m=n then some ⟨.dead,p.kind⟩ else A m)=some q:=hq
     rw [Axq hmn] at hq; cases hq
     rfl
    ·rw [Axp hmn] at hlo
     have hq:(if m=n then some ⟨.dead,p.kind⟩ else A m)=some q:=hq
     rw [Axp hmn] at hq
     refine Oq hmv.Cz (fun hd b hb'=>hk b (hm.blkB m q b hq hd hb').2 fun h=>hmn (hm.inj m n q p b hq hp hd (by rw [hlive]; simp) hb' (by rw [hblk]; exact h))) (hm.obj m q fo hq hlo)
   ·obtain ⟨_,hq⟩:=hA' hq hqd
    have:=hm.blkB m q b hq hqd hqb
    exact ⟨this.1,Aye this.2 hb.size⟩
   ·obtain ⟨_,hq⟩:=hA' hq hqd
    obtain ⟨_,hq'⟩:=hA' hq' hqd'
    exact hm.inj m m' q q' b hq hq' hqd hqd' hqb hqb'
   ·have:=(hm.blkB n p b hp (by rw [hlive]; simp) (by rw [hblk]; exact h)).1
    omega
   ·by_cases hmn:m=n
    ·subst hmn; rw [hp] at hn; cases hn
    ·have hq:(if m=n then some ⟨.dead,p.kind⟩ else A m)=some q:=hq
     rw [Axp hmn,hn] at hq; cases hq
 ·cases hs
theorem Vx (he:I2 P E) {ops:Array Oper} {draw:Bool} {st st':St} {o:Oper} (hs:Km E ops draw st o=some (true,st')):∃ d,Pd P E ops draw st o st' d:=by
 cases hmut:Sd o.op with
 | false =>
   by_cases hsp:∀ g?,M4 ops st.tmps o=some g?→(bif draw then none else Jw E (Gp st.tmps) g? o.op)=none
   ·exact Abj he hs hmut hsp
   ·exact Abi he hs hsp
 | true =>
   obtain ⟨dst,op,ty,pos,after,guard⟩:=o
   dsimp only at hmut
   unfold Sd at hmut
   split at hmut
   ·exact Abh he hs
   ·exact Zp he hs
   ·cases hmut
end
end Go.Den
namespace Go.Den
open Go.RowKit (Below)
structure H6 (S I0:Nat→Prop) (B:Nat) (w0:World) (A:Nat→Option Place) (f:Nat→Option (Bool × OB)) (g:Nat→DV) (len:Nat) (a:Act) (w:World):Prop where
 defers:a.defers=[]
 size:a.tmps.size=len
 below:Below B w0 w
 hB:B≤w.heap.size
 I0lt:∀ b,I0 b→b<B
 obj:∀ n p,A n=some p→∃ fo,f n=some fo∧Cm (Be I0 B A w) w p fo
 blkB:∀ n p b,A n=some p→p.st≠.dead→p.Gb=some b→B≤b∧b<w.heap.size
 inj:∀ n m p q b,A n=some p→A m=some q→p.st≠.dead→q.st≠.dead→p.Gb=some b→q.Gb=some b→n=m
 tmps:∀ t,Aj (Be I0 B A w) w (g t) (a.tmps.getD t undef)
 kept:∀ b,S b→b<w.heap.size∧w.heap[b]?=w0.heap[b]?∧∀ n p,A n=some p→p.st=.live→p.Gb≠some b
theorem Yt {S:Nat→Prop} {A A':Nat→Option Place} {w0 w w':World} (h:∀ b,S b→b<w.heap.size∧w.heap[b]?=w0.heap[b]?∧∀ n p,A n=some p→p.st=.live→p.Gb≠some b) (hm:Hl A w A' w') :
 ∀ b,S b→b<w'.heap.size∧w'.heap[b]?=w0.heap[b]?∧∀ n p,A' n=some p→p.st=.live→p.Gb≠some b:=fun b hb=>by
 obtain ⟨k1,k2,k3⟩:=h b hb
 refine ⟨Aye k1 hm.size,(hm.kept b k1 k3).trans k2,fun n p hp hl hbk=>?_⟩
 obtain ⟨m,q,hq,hql,hqb⟩:=hm.live n p b hp hl hbk k1
 exact k3 m q hq hql hqb
section
variable {P:Program} {E:Env} {S I0:Nat→Prop} {B:Nat} {w0:World} {A:Nat→Option Place} {f f':Nat→Option (Bool × OB)} {g g':Nat→DV} {len:Nat} {a:Act} {w:World}
theorem H6.mem (h:H6 S I0 B w0 A f g len a w) {hp:Dc} (hf:∀ n p fo,A n=some p→look hp n=some fo→f n=some fo):Mem I0 B A hp w :=
 ⟨h.hB,h.I0lt,fun n p fo hn hl=>by
  obtain ⟨fo',h1,h2⟩:=h.obj n p hn
  rw [hf n p fo hn hl] at h1; cases h1; exact h2,h.blkB,h.inj⟩
theorem Acm {dst:Option Tmp} {v:Value} {t:Nat}:(a.put dst v).tmps.getD t undef=if dst=some t∧t<a.tmps.size then v else a.tmps.getD t undef:=by
 cases dst with
 | none=>simp [Act.put]
 | some d =>
   simp only [Act.put,Aw6,Array.getD_eq_getD_getElem?]
   by_cases h:d=t
   ·subst h
    by_cases h2:d<a.tmps.size
    ·simp [h2]
    ·simp [h2]
   ·rw [Array.getElem?_setIfInBounds_ne h,Axp (fun e=>h e.1)]
theorem Yv {l:List DV} {dst:Option Nat} {d:DV} {t:Nat}:(Rn l dst d).getD t .undef=if dst=some t∧t<l.length then d else l.getD t .undef:=by
 cases dst with
 | none=>simp [Rn]
 | some e =>
   simp only [Rn,Aw6,Axd]
   by_cases h:e=t
   ·subst h
    by_cases h2:e<l.length
    ·simp [h2]
    ·simp [h2]
   ·rw [List.getElem?_set_ne h,Axp (fun e=>h e.1)]
theorem Abv {dst:Option Tmp} {v:Value}:(a.put dst v).tmps.size=a.tmps.size:=by cases dst<;>simp [Act.put]
theorem put_defers {dst:Option Tmp} {v:Value}:(a.put dst v).defers=a.defers:=by cases dst<;>rfl
theorem T8 {l:List DV} {dst:Option Nat} {d:DV}:(Rn l dst d).length=l.length:=by cases dst<;>simp [Rn]
theorem H6.step {ops:Array Oper} {st st':St} {o:Oper} {d:DV} (h:H6 S I0 B w0 A f g len a w) (hk:Pd P E ops true st o st' d)
 (h1:∀ n,A n≠none→look st.heap n≠none→look st.heap n=f n)
 (h2:∀ t∈o.looksAt ops,st.tmps.getD t .undef=g t) (h3:st.tmps.length=len)
 (h4:∀ n,look st.heap n=none→look st'.heap n≠none→f n=none)
 (h5:∀ n,look st'.heap n≠none→(n∈Fb E ops st o∨look st.heap n=none)→f' n=look st'.heap n)
 (h6:∀ n,n ∉ Fb E ops st o→¬(look st.heap n=none∧look st'.heap n≠none)→f' n=f n)
 (h7:∀ t,g' t=if o.dst=some t∧t<len then d else g t) {Q:Exit→Act→World→Prop} :
 Hy P ops o a w Q fun v w'=>∃ A',H6 S I0 B w0 A' f' g' len (a.put o.dst v) w':=by
 have hm:Mem I0 B A st.heap w:=h.mem fun n p fo hn hl=>by
  rw [← h1 n (by rw [hn]; simp) (by rw [hl]; simp)]; exact hl
 refine (hk.run hm (h.size.trans h3.symm) (fun t ht=>by rw [h2 t ht]; exact h.tmps t) (fun n hn hn'=>?_)).mono ?_
 ·cases hA:A n with
  | none=>rfl
  | some p =>
    obtain ⟨fo,hfo,_⟩:=h.obj n p hA
    rw [h4 n hn hn'] at hfo; cases hfo
 ·rintro v w' ⟨A',hm',hmv,hb,hv,hnew,hdr⟩
  obtain ⟨hkept,hsame⟩:=hdr rfl
  have hlater:=hmv.Cz (I0:=I0) (B:=B)
  refine ⟨A',put_defers.trans h.defers,Abv.trans h.size,h.below.trans hb,hm'.hB,hm'.I0lt,fun n p hp=>?_,hm'.blkB,hm'.inj,fun t=>?_,Yt h.kept hmv⟩
  ·have Kp:look st'.heap n≠none→(n∈Fb E ops st o∨look st.heap n=none)→∃ fo,f' n=some fo∧Cm (Be I0 B A' w') w' p fo:=by
    intro hl ht
    cases hq:look st'.heap n with
    | none=>exact absurd hq hl
    | some fo=>exact ⟨fo,by rw [h5 n hl ht,hq],hm'.obj n p fo hp hq⟩
   cases hA:A n with
   | none =>
     obtain ⟨e1,e2⟩:=hnew n p hp hA
     exact Kp e2 (.inr e1)
   | some q =>
     obtain ⟨fo,hfo,hr⟩:=h.obj n q hA
     by_cases hmu:n∈Fb E ops st o
     ·exact Kp (hk.stays n (hk.there rfl n hmu)) (.inl hmu)
     ·have hs:=hsame n q hmu hA
      rw [hp] at hs; cases hs
      refine ⟨fo,?_,Oq hlater (fun hd b hb=>hkept n _ b hmu hA hd hb) hr⟩
      rw [h6 n hmu (fun e=>by rw [h4 n e.1 e.2] at hfo; cases hfo)]; exact hfo
  ·rw [Acm,h7,h.size]
   split
   ·exact hv
   ·exact Aj.Cz hlater _ _ (h.tmps t)
def Fa (S I0:Nat→Prop) (B:Nat) (w0:World) (st:St) (a:Act) (w:World):Prop:=∃ A,H6 S I0 B w0 A (look st.heap) (fun t=>st.tmps.getD t .undef) st.tmps.length a w
theorem Fa.step {ops:Array Oper} {draw:Bool} {st st':St} {o:Oper} {d:DV} (h:Fa S I0 B w0 st a w) (hk:Pd P E ops draw st o st' d) {Q:Exit→Act→World→Prop} :
 Hy P ops o a w Q fun v w'=>Fa S I0 B w0 st' (a.put o.dst v) w':=by
 obtain ⟨A,h⟩:=h
 have hm:Mem I0 B A st.heap w:=h.mem fun n p fo hn hl=>hl
 refine (hk.run hm h.size (fun t _=>h.tmps t) (fun n hn _=>?_)).mono ?_
 ·cases hA:A n with
  | none=>rfl
  | some p =>
    obtain ⟨fo,hfo,_⟩:=h.obj n p hA
    rw [hn] at hfo; cases hfo
 ·rintro v w' ⟨A',hm',hmv,hb,hv,hnew,_⟩
  have hlater:=hmv.Cz (I0:=I0) (B:=B)
  refine ⟨A',put_defers.trans h.defers,Abv.trans (h.size.trans (by rw [hk.tmps,T8])),h.below.trans hb,hm'.hB,hm'.I0lt,fun n p hp=>?_,hm'.blkB,hm'.inj,fun t=>?_,Yt h.kept hmv⟩
  ·have hl:look st'.heap n≠none:=by
    cases hA:A n with
    | none=>exact (hnew n p hp hA).2
    | some q =>
      obtain ⟨fo,hfo,_⟩:=h.obj n q hA
      exact hk.stays n (by rw [hfo]; simp)
   cases hq:look st'.heap n with
   | none=>exact absurd hq hl
   | some fo=>exact ⟨fo,rfl,hm'.obj n p fo hp hq⟩
  ·rw [Acm,hk.tmps,Yv,h.size]
   split
   ·exact hv
   ·exact Aj.Cz hlater _ _ (h.tmps t)
end
end Go.Den
namespace Go.Den
open Go.RowKit (Below)
theorem J1 {n:Nat}:∀ {l:List Nat},Kv n l=true↔n∈l
 | []=>by simp [Kv]
 | m::l=>by
   simp only [Kv,List.mem_cons]
   by_cases h:n=m
   ·subst h; simp
   ·rw [show Nat.beq n m=false from by cases hb:Nat.beq n m with | false=>rfl | true=>exact absurd (Axl hb) h]
    simp only [Aw7,J1,h,false_or]
theorem Q0 {n:Nat} {l:List Nat}:Kv n l=false↔n ∉ l:=by rw [← J1]; simp
section
variable {α:Type} {val:Nat→α} {touch S S':Nat→Prop}
open Classical in
def after (val:Nat→α) (touch S:Nat→Prop):Nat→α
 | 0=>val 0
 | k+1=>if S k∧touch k then val (k+1) else after val touch S k
theorem L5 {N:Nat} (h:∀ j,j<N→touch j→(S j↔S' j)):after val touch S N=after val touch S' N:=by
 induction N with
 | zero=>rfl
 | succ k ih =>
   simp only [after]
   by_cases ht:touch k
   ·rw [ih fun j hj=>h j (by omega)]
    by_cases hs:S k
    ·rw [Axq ⟨hs,ht⟩,Axq ⟨(h k (by omega) ht).1 hs,ht⟩]
    ·rw [Axp (fun e=>hs e.1),Axp (fun e=>hs ((h k (by omega) ht).2 e.1))]
   ·rw [Axp (fun e=>ht e.2),Axp (fun e=>ht e.2)]
    exact ih fun j hj=>h j (by omega)
theorem Zb:∀ {k:Nat},(∀ j,j<k→¬ touch j→val (j+1)=val j)→(∀ j,j<k→touch j→S j)→after val touch S k=val k
 | 0,_,_=>rfl
 | k+1,hv,h=>by
   simp only [after]
   by_cases ht:touch k
   ·rw [Axq ⟨h k (by omega) ht,ht⟩]
   ·rw [Axp (fun e=>ht e.2),Zb (fun j hj=>hv j (by omega)) (fun j hj=>h j (by omega)),hv k (by omega) ht]
theorem Rc {k:Nat}:∀ {N:Nat},k≤N→(∀ j,k≤j→j<N→touch j→¬ S j)→after val touch S N=after val touch S k
 | 0,hk,_=>by obtain rfl:k=0:=by omega
              rfl
 | N+1,hk,h=>by
   by_cases e:k=N+1
   ·rw [e]
   ·simp only [after]
    rw [Axp (fun e'=>h N (by omega) (by omega) e'.2 e'.1)]
    exact Rc (by omega) fun j h1 h2=>h j h1 (by omega)
theorem Kc {k N:Nat} (hv:∀ j,j<N→¬ touch j→val (j+1)=val j) (hk:k≤N) (h:∀ j,j<N→touch j→(S j↔j<k)):after val touch S N=val k:=by
 rw [Rc hk fun j h1 h2 h3 h4=>by have:=(h j h2 h3).1 h4; omega]
 exact Zb (fun j hj=>hv j (by omega)) fun j h1 h2=>(h j (by omega) h2).2 h1
theorem Xe {k N:Nat} (hk:k<N) (ht:touch k) (hs:S k) (h:∀ j,k<j→j<N→touch j→¬ S j):after val touch S N=val (k+1):=by
 rw [Rc (k:=k+1) (by omega) fun j h1 h2=>h j (by omega) h2]
 simp only [after]
 rw [Axq ⟨hs,ht⟩]
end
theorem J5 {p:Nat→Bool}:∀ {h:Dc} {n:Nat},look (h.filter fun x=>p x.1) n=bif p n then look h n else none
 | [],n=>by simp [look]
 | (m,x)::h,n=>by
   simp only [List.filter_cons,look]
   by_cases e:m=n
   ·subst e
    cases hp:p m<;>simp [look,J5,hp]
   ·rw [show (m==n)=false by simpa using e]
    cases hp:p m
    ·simpa using J5
    ·simp only [if_true,look,Aw7,show (m==n)=false by simpa using e]
     exact J5
theorem Aig {ms:List Nat} {h:Dc} {n:Nat}:look (Ab7 ms h) n=if n∈ms then none else look h n:=by
 unfold Ab7
 rw [J5 (p:=fun m=>!(Kv m ms))]
 by_cases hn:n∈ms
 ·rw [J1.2 hn,Axq hn]; rfl
 ·rw [Q0.2 hn,Axp hn]; rfl
theorem Alg {ms:List Nat} {h:Dc} {n:Nat}:look (Apl ms h) n=if n∈ms then look h n else none:=by
 unfold Apl
 rw [J5 (p:=fun m=>Kv m ms)]
 by_cases hn:n∈ms
 ·rw [J1.2 hn,Axq hn]; rfl
 ·rw [Q0.2 hn,Axp hn]; rfl
theorem Alf {h:Dc} {n:Nat} {x:Bool × OB} (hl:look h n=some x):(n,x)∈h:=by
 induction h with
 | nil=>cases hl
 | cons y h ih =>
   obtain ⟨m,z⟩:=y
   simp only [look] at hl
   by_cases e:m=n
   ·subst e; simp at hl; subst hl; exact Ayi
   ·rw [show (m==n)=false by simpa using e] at hl
    exact Ax8 _ (ih hl)
structure Saw (P:Program) (E:Env) (ops:Array Oper) (ms:List Nat) (st:St) (o:Oper) (st':St) (mk mk':St) (d:DV):Prop where
 ok:Pd P E ops true mk o mk' d
 seen:mk=L9 ms st
 tmps:mk.tmps=st.tmps
 tmps':st'.tmps=mk'.tmps
 mask:∀ n,look mk.heap n=if n∈ms then none else look st.heap n
 out:∀ n,look mk'.heap n≠none→n ∉ ms
 heap:∀ n,look st'.heap n=if n∈ms then look st.heap n else look mk'.heap n
theorem Aj4 {P:Program} {E:Env} (he:I2 P E) {ops:Array Oper} {ms:List Nat} {st st':St} {o:Oper} (h:Abg E ops ms st o=some (true,st')):∃ mk mk' d,Saw P E ops ms st o st' mk mk' d:=by
 cases ms with
 | nil =>
   simp only [Abg] at h
   obtain ⟨d,hd⟩:=Vx he h
   exact ⟨st,st',d,hd,rfl,rfl,rfl,fun n=>by simp,fun n _=>by simp,fun n=>by simp⟩
 | cons m ms =>
   simp only [Abg] at h
   cases hs:Km E ops true ⟨st.tmps,Ab7 (m::ms) st.heap⟩ o with
   | none=>rw [hs] at h; cases h
   | some r =>
     obtain ⟨r,mk'⟩:=r
     rw [hs] at h
     simp only at h
     cases hc:(mk'.heap.all fun x=>!(Kv x.1 (m::ms))) with
     | false=>rw [hc] at h; cases h
     | true =>
       rw [hc,Aw3,Aw6,Axc] at h
       obtain ⟨rfl,rfl⟩:=h
       obtain ⟨d,hd⟩:=Vx he hs
       have hout:∀ n,look mk'.heap n≠none→n ∉ m::ms:=by
        intro n hn
        cases hq:look mk'.heap n with
        | none=>exact absurd hq hn
        | some x =>
          have:=List.all_eq_true.1 hc _ (Alf hq)
          rw [Bool.not_eq_true'] at this
          exact Q0.1 this
       refine ⟨_,mk',d,hd,rfl,rfl,rfl,fun n=>Aig,hout,fun n=>?_⟩
       show look (mk'.heap++Apl (m::ms) st.heap) n=_
       rw [Lw,Alg]
       by_cases hn:n∈m::ms
       ·rw [Axq hn]
        cases hq:look mk'.heap n with
        | none=>simp [hn]
        | some x=>exact absurd hn (hout n (by rw [hq]; simp))
       ·rw [Axp hn,Axp hn]
        cases look mk'.heap n<;>rfl
section
variable {P:Program} {E:Env} {ops:Array Oper} {ms:List Nat} {st st' mk mk':St} {o:Oper} {d:DV} (h:Saw P E ops ms st o st' mk mk' d)
include h
theorem Saw.Ar7 {n:Nat} (hn:n∈Fb E ops (L9 ms st) o):look st.heap n≠none∧n ∉ ms:=by
 have h1:=h.ok.there rfl n (by rw [h.seen]; exact hn)
 rw [h.mask] at h1
 by_cases hm:n∈ms
 ·rw [Axq hm] at h1; exact absurd rfl h1
 ·rw [Axp hm] at h1; exact ⟨h1,hm⟩
theorem Saw.stays {n:Nat} (hn:look st.heap n≠none):look st'.heap n≠none:=by
 rw [h.heap]
 by_cases hm:n∈ms
 ·rw [Axq hm]; exact hn
 ·rw [Axp hm]
  exact h.ok.stays n (by rw [h.mask,Axp hm]; exact hn)
theorem Saw.same {n:Nat} (hn:n ∉ Fb E ops (L9 ms st) o) (hc:¬(look st.heap n=none∧look st'.heap n≠none)):look st'.heap n=look st.heap n:=by
 cases hq:look st.heap n with
 | none =>
   cases hq':look st'.heap n with
   | none=>rfl
   | some x=>exact absurd ⟨hq,by rw [hq']; simp⟩ hc
 | some x =>
   rw [h.heap]
   by_cases hm:n∈ms
   ·rw [Axq hm,hq]
   ·rw [Axp hm]
    have h1:look mk.heap n=some x:=by rw [h.mask,Axp hm,hq]
    rw [h.ok.same rfl n (by rw [h.seen]; exact hn) (by rw [h1]; simp),h1]
theorem Saw.made {n:Nat} (h1:look st.heap n=none) (h2:look st'.heap n≠none):n ∉ ms:=by
 intro hm
 rw [h.heap,Axq hm] at h2
 exact h2 h1
theorem Saw.getD {t:Nat}:st'.tmps.getD t .undef=if o.dst=some t∧t<st.tmps.length then d else st.tmps.getD t .undef:=by
 rw [h.tmps',h.ok.tmps,h.tmps,Yv]
theorem Saw.length:st'.tmps.length=st.tmps.length:=by rw [h.tmps',h.ok.tmps,T8,h.tmps]
end
structure Trace (P:Program) (E:Env) (ops:Array Oper) (D:List (List Nat)) (M:List (Nat × List Nat)) (tr:Nat→St):Prop where
 saw:∀ k o,ops[k]?=some o→∃ mk mk' d,Saw P E ops (Gt D k M) (tr k) o (tr (k+1)) mk mk' d
 Ar7:∀ k o,ops[k]?=some o→Ow D k=true→∀ n,n∈Fb E ops (L9 (Gt D k M) (tr k)) o→n∈Ku k M
theorem Uc {β:Type} {P:Program} {E:Env} (he:I2 P E) {ops:Array Oper} {D:List (List Nat)} {M:List (Nat × List Nat)} {K:St→Option β} {b:β} :
 ∀ (l:List Oper) (k:Nat) (st:St),(∀ j,l[j]?=ops[k+j]?)→Af4 E ops D M k l st K=some b →
 ∃ tr:Nat→St,tr 0=st∧K (tr l.length)=some b∧∀ j o,l[j]?=some o→(∃ mk mk' d,Saw P E ops (Gt D (k+j) M) (tr j) o (tr (j+1)) mk mk' d)∧(Ow D (k+j)=true→∀ n,n∈Fb E ops (L9 (Gt D (k+j) M) (tr j)) o→n∈Ku (k+j) M)
 | [],k,st,_,h=>⟨fun _=>st,rfl,h,fun j o hj=>(by cases hj)⟩
 | o::l,k,st,hl,h=>by
   simp only [Af4] at h
   cases hs:Abg E ops (Gt D k M) st o with
   | none=>rw [hs] at h; cases h
   | some r =>
     obtain ⟨r,st'⟩:=r
     rw [hs] at h
     simp only at h
     cases hc:(r&&(!(Ow D k)||(Fb E ops (L9 (Gt D k M) st) o).all fun n=>Kv n (Ku k M))) with
     | false=>rw [hc] at h; cases h
     | true =>
       rw [hc,Aw3] at h
       simp only [Axe,Bool.or_eq_true,Bool.not_eq_true',List.all_eq_true] at hc
       obtain ⟨rfl,hc⟩:=hc
       obtain ⟨tr,h1,h2,h3⟩:=Uc he l (k+1) st' (fun j=>by have:=hl (j+1); simpa [Nat.add_assoc,Nat.add_comm 1 j] using this) h
       refine ⟨fun j=>match j with | 0=>st | j+1=>tr j,rfl,h2,fun j p hj=>?_⟩
       cases j with
       | zero =>
         simp only [List.getElem?_cons_zero,Aw6] at hj
         subst hj
         refine ⟨by show ∃ mk mk' d,Saw P E ops (Gt D k M) st o (tr 0) mk mk' d; rw [h1]; exact Aj4 he hs,fun hlo n hn=>?_⟩
         rcases hc with hc | hc
         ·have hlo':Ow D k=true:=hlo
          rw [hc] at hlo'; cases hlo'
         ·exact J1.1 (hc n hn)
       | succ j =>
         rw [List.getElem?_cons_succ] at hj
         have:=h3 j p hj
         rw [show k+(j+1)=k+1+j by omega]
         exact this
end Go.Den
namespace Go.Den
open Go.RowKit (Below)
theorem Qg {ops:Array Oper} {k:Nat} {o:Oper} (h:ops[k]?=some o):(ops.toList.map G9).getD k []=G9 o:=by
 have:ops.toList[k]?=some o:=by simpa using h
 simp [Axd,this]
theorem E1 {ops:Array Oper} {k i:Nat} (h:i∈(ops.toList.map G9).getD k []):∃ o,ops[k]?=some o∧i∈G9 o:=by
 cases hk:ops[k]? with
 | none =>
   have:ops.toList[k]?=none:=by simpa using hk
   simp [Axd,this] at h
 | some o=>rw [Qg hk] at h; exact ⟨o,rfl,h⟩
theorem Ab5 {o:Oper} {i:Nat}:i∈G9 o↔∃ e∈o.after,Region.binds .any e=true∧e.on=i:=by
 unfold G9
 simp only [List.mem_filterMap,Array.mem_toList_iff]
 constructor
 ·rintro ⟨e,he,h⟩
  cases hb:Region.binds .any e with
  | false=>rw [hb] at h; simp at h
  | true=>rw [hb] at h; simp at h; exact ⟨e,he,hb,h⟩
 ·rintro ⟨e,he,hb,rfl⟩
  exact ⟨e,he,by rw [hb]; rfl⟩
structure Rd (ops:Array Oper):Prop where
 lt:∀ (k:Nat) o,ops[k]?=some o→∀ i∈G9 o,i<k
 once:∀ (k j:Nat) o p t,ops[k]?=some o→ops[j]?=some p→p.dst=some t→o.dst=some t→j=k
 told:∀ (k j:Nat) o p t,ops[k]?=some o→ops[j]?=some p→p.dst=some t→t∈o.looksAt ops→Ux (ops.toList.map G9) j k=true∨Ux (ops.toList.map G9) k j=true
theorem lt_size {ops:Array Oper} {k:Nat} {o:Oper} (h:ops[k]?=some o):k<ops.size:=by
 rcases Ax0 k ops.size with h' | h'
 ·exact h'
 ·rw [Array.getElem?_eq_none h'] at h; cases h
theorem Acy {ops:Array Oper} (h:Aam ops (ops.toList.map G9)=true):Rd ops:=by
 unfold Aam at h
 simp only [List.all_eq_true,List.mem_range,Ax9,Array.length_toList] at h
 refine ⟨fun k o hk i hi=>?_,fun k j o p t hk hj hp ho=>?_,fun k j o p t hk hj hp ht=>?_⟩
 ·have h1:=h k (lt_size hk)
  rw [Axe,List.all_eq_true] at h1
  have:=h1.1 i (by rw [Qg hk]; exact hi)
  simpa [Nat.blt_eq] using this
 ·have h1:=h k (lt_size hk)
  rw [Axe,hk] at h1
  have h2:=h1.2
  simp only [List.all_eq_true,List.mem_range] at h2
  have h3:=h2 j (lt_size hj)
  rw [hj] at h3
  simp only [hp,Axe,Bool.or_eq_true] at h3
  rcases h3.1 with h4 | h4
  ·exact Axl h4
  ·rw [ho] at h4; simp at h4
 ·have h1:=h k (lt_size hk)
  rw [Axe,hk] at h1
  have h2:=h1.2
  simp only [List.all_eq_true,List.mem_range] at h2
  have h3:=h2 j (lt_size hj)
  rw [hj] at h3
  simp only [hp,Axe,Bool.or_eq_true] at h3
  rcases h3.2 with h4 | h4
  ·rw [J1.2 ht] at h4; simp at h4
  ·exact h4
theorem Y7 {D:List (List Nat)} {i j:Nat} (h:Ux D i j=true):i∈D.getD j []∨∃ m∈D.getD j [],i∈D.getD m []:=by
 unfold Ux at h
 simp only [Bool.or_eq_true,List.any_eq_true] at h
 exact h.imp J1.1 fun ⟨m,h1,h2⟩=>⟨m,h1,J1.1 h2⟩
section
variable {ops:Array Oper} (hd:Rd ops)
include hd
theorem Rd.Xd {i j:Nat} (h:Ux (ops.toList.map G9) i j=true):i<j:=by
 rcases Y7 h with h | ⟨m,h1,h2⟩
 ·obtain ⟨o,ho,hi⟩:=E1 h
  exact hd.lt j o ho i hi
 ·obtain ⟨o,ho,hi⟩:=E1 h1
  obtain ⟨p,hp,hj⟩:=E1 h2
  have:=hd.lt j o ho m hi
  have:=hd.lt m p hp i hj
  omega
end
def T4 (ops:Array Oper) (S:Nat→Prop):Prop:=∀ k o,ops[k]?=some o→S k→∀ i∈G9 o,S i
theorem T4.bef {ops:Array Oper} {S:Nat→Prop} (hc:T4 ops S) {k:Nat} (hk:∀ o,ops[k]?=some o→∀ i∈G9 o,S i) {i:Nat} (h:Ux (ops.toList.map G9) i k=true):S i:=by
 rcases Y7 h with h | ⟨m,h1,h2⟩
 ·obtain ⟨o,ho,hi⟩:=E1 h
  exact hk o ho i hi
 ·obtain ⟨o,ho,hi⟩:=E1 h1
  obtain ⟨p,hp,hj⟩:=E1 h2
  exact hc m p hp (hk o ho m hi) i hj
theorem T1 {D:List (List Nat)} {i j:Nat} (h1:i≠j) (h2:Ux D i j≠true) (h3:Ux D j i≠true):Lj D i j=true:=by
 unfold Lj
 have e1:Nat.beq i j=false:=by
  cases hb:Nat.beq i j with
  | false=>rfl
  | true=>exact absurd (Axl hb) h1
 rw [e1,Bool.not_eq_true _ |>.mp h2,Bool.not_eq_true _ |>.mp h3]; rfl
theorem Qz {D:List (List Nat)} {s k n:Nat} (ha:Lj D s k=true):∀ {M:List (Nat × List Nat)},n∈Ku s M→n∈Gt D k M
 | [],h=>by simp [Ku] at h
 | (s',ns)::M,h=>by
   simp only [Ku] at h
   simp only [Gt]
   cases hb:Nat.beq s' s with
   | true =>
     have:=Axl hb
     subst this
     rw [hb] at h
     rw [ha]
     simp only [Aw3,List.mem_append] at h ⊢
     exact h.imp id (Qz ha)
   | false =>
     rw [hb] at h
     simp only [Aw7] at h
     have:=Qz ha h
     cases Lj D s' k
     ·exact this
     ·exact List.mem_append.2 (.inr this)
theorem Aif {D:List (List Nat)} {s k:Nat} (ha:Lj D s k=true) (hk:k<D.length):Ow D s=true:=by
 unfold Ow
 exact List.any_eq_true.2 ⟨k,List.mem_range.2 hk,ha⟩
def Zn (E:Env) (ops:Array Oper) (M:List (Nat × List Nat)) (tr:Nat→St) (n:Nat) (k:Nat):Prop :=
 ∃ o,ops[k]?=some o∧(n∈Fb E ops (L9 (Gt (ops.toList.map G9) k M) (tr k)) o∨(look (tr k).heap n=none∧look (tr (k+1)).heap n≠none))
def Aj0 (ops:Array Oper) (len:Nat) (t:Nat) (k:Nat):Prop:=t<len∧∃ o,ops[k]?=some o∧o.dst=some t
def O4 (E:Env) (ops:Array Oper) (M:List (Nat × List Nat)) (tr:Nat→St) (S:Nat→Prop) (n:Nat):Option (Bool × OB):=after (fun k=>look (tr k).heap n) (Zn E ops M tr n) S ops.size
def X2 (ops:Array Oper) (tr:Nat→St) (S:Nat→Prop) (t:Nat):DV:=after (fun k=>(tr k).tmps.getD t .undef) (Aj0 ops (tr 0).tmps.length t) S ops.size
section
variable {P:Program} {E:Env} {ops:Array Oper} {M:List (Nat × List Nat)} {tr:Nat→St} (hd:Rd ops) (T:Trace P E ops (ops.toList.map G9) M tr)
include T
theorem Trace.len {k:Nat} (h:k≤ops.size):(tr k).tmps.length=(tr 0).tmps.length:=by
 induction k with
 | zero=>rfl
 | succ k ih =>
   obtain ⟨mk,mk',d,hs⟩:=T.saw k ops[k] (Axn (by omega))
   rw [hs.length,ih (by omega)]
theorem Trace.stays {n j k:Nat} (hj:look (tr j).heap n≠none) (hjk:j≤k) (hk:k≤ops.size):look (tr k).heap n≠none:=by
 induction k with
 | zero=>obtain rfl:j=0:=by omega
         exact hj
 | succ k ih =>
   by_cases e:j=k+1
   ·rw [← e]; exact hj
   ·obtain ⟨mk,mk',d,hs⟩:=T.saw k ops[k] (Axn (by omega))
    exact hs.stays (ih (by omega) (by omega))
theorem Trace.Ajj {n j:Nat} (hj:j<ops.size) (ht:¬ Zn E ops M tr n j):look (tr (j+1)).heap n=look (tr j).heap n:=by
 obtain ⟨mk,mk',d,hs⟩:=T.saw j ops[j] (Axn hj)
 exact hs.same (fun h=>ht ⟨_,Axn hj,.inl h⟩) (fun h=>ht ⟨_,Axn hj,.inr h⟩)
theorem Trace.Aq8 {t j:Nat} (hj:j<ops.size) (ht:¬ Aj0 ops (tr 0).tmps.length t j):(tr (j+1)).tmps.getD t .undef=(tr j).tmps.getD t .undef:=by
 obtain ⟨mk,mk',d,hs⟩:=T.saw j ops[j] (Axn hj)
 rw [hs.getD,T.len (by omega),Axp (fun e=>ht ⟨e.2,_,Axn hj,e.1⟩)]
theorem Trace.Kp {n j:Nat} {o:Oper} (ho:ops[j]?=some o) (ht:Zn E ops M tr n j):(n∈Fb E ops (L9 (Gt (ops.toList.map G9) j M) (tr j)) o∧look (tr j).heap n≠none)∨(look (tr j).heap n=none∧look (tr (j+1)).heap n≠none):=by
 obtain ⟨o',ho',h⟩:=ht
 rw [ho] at ho'; cases ho'
 rcases h with h | h
 ·obtain ⟨mk,mk',d,hs⟩:=T.saw j o ho
  exact .inl ⟨h,(hs.Ar7 h).1⟩
 ·exact .inr h
theorem Trace.Al1 {s k n:Nat} {o:Oper} (hs:ops[s]?=some o) (hk:k<ops.size) (ha:Lj (ops.toList.map G9) s k=true) (hn:n∈Fb E ops (L9 (Gt (ops.toList.map G9) s M) (tr s)) o):n∈Gt (ops.toList.map G9) k M :=
 Qz ha (T.Ar7 s o hs (Aif ha (by simpa using hk)) n hn)
omit T in
theorem Pa {S:Nat→Prop} (hd:Rd ops) (hc:T4 ops S) {k:Nat} (hk:¬ S k) {j:Nat} (hj:S j) (hlt:k<j):Lj (ops.toList.map G9) j k=true:=by
 refine T1 (by omega) (fun e=>?_) (fun e=>?_)
 ·have:=hd.Xd e; omega
 ·exact hk (hc.bef (fun p hp=>hc j p hp hj) e)
omit T in
theorem Aa0 {S:Nat→Prop} (hd:Rd ops) (hc:T4 ops S) {k:Nat} {o:Oper} (ho:ops[k]?=some o) (hr:∀ i∈G9 o,S i) {j:Nat} (hj:¬ S j) (hlt:j<k):Lj (ops.toList.map G9) j k=true:=by
 refine T1 (by omega) (fun e=>?_) (fun e=>?_)
 ·exact hj (hc.bef (fun p hp=>by rw [ho] at hp; cases hp; exact hr) e)
 ·have:=hd.Xd e; omega
include hd
variable {S:Nat→Prop} (hc:T4 ops S) {k:Nat} {o:Oper} (ho:ops[k]?=some o) (hk:¬ S k) (hr:∀ i∈G9 o,S i)
include hc ho hk hr
theorem Trace.Ao5 {n:Nat} (hm:n ∉ Gt (ops.toList.map G9) k M) (h1:look (tr k).heap n≠none) (h2:O4 E ops M tr S n≠none):O4 E ops M tr S n=look (tr k).heap n:=by
 have hkN:=lt_size ho
 refine Kc (val:=fun k=>look (tr k).heap n) (fun j hj ht=>T.Ajj hj ht) (by omega) fun j hj ht=>?_
 have hoj:ops[j]?=some ops[j]:=Axn hj
 constructor
 ·intro hS
  rcases Ax0 j k with h | h
  ·exact h
  ·have hne:j≠k:=fun e=>hk (e ▸ hS)
   have ha:=Pa hd hc hk hS (by omega)
   rcases T.Kp hoj ht with ⟨h3,_⟩ | ⟨h3,_⟩
   ·exact absurd (T.Al1 hoj hkN ha h3) hm
   ·exact absurd h3 (T.stays h1 (by omega) (by omega))
 ·intro hlt
  refine Classical.byContradiction fun hS=>?_
  have ha:=Aa0 hd hc ho hr hS hlt
  rcases T.Kp hoj ht with ⟨h3,_⟩ | ⟨h3,h4⟩
  ·exact hm (T.Al1 hoj hkN ha h3)
  ·
   refine h2 ?_
   have:O4 E ops M tr S n=look (tr 0).heap n:=by
    refine Kc (k:=0) (val:=fun k=>look (tr k).heap n) (fun j hj ht=>T.Ajj hj ht) (by omega) fun i hi hti=>⟨fun hSi=>?_,fun h=>by omega⟩
    exfalso
    have hoi:ops[i]?=some ops[i]:=Axn hi
    have hij:i≠j:=fun e=>hS (e ▸ hSi)
    have hji:j<i:=by
     rcases T.Kp hoi hti with ⟨_,h5⟩ | ⟨h5,h6⟩
     ·rcases Ax0 j i with h | h
      ·exact h
      ·exact absurd h3 (T.stays h5 h (by omega))
     ·rcases Ax0 j i with h | h
      ·exact h
      ·exact absurd h3 (T.stays h6 (by omega) (by omega))
    have hap:Lj (ops.toList.map G9) i j=true:=by
     refine T1 hij (fun e=>?_) (fun e=>?_)
     ·have:=hd.Xd e; omega
     ·exact hS (hc.bef (fun p hp=>hc i p hp hSi) e)
    rcases T.Kp hoi hti with ⟨h5,_⟩ | ⟨h5,_⟩
    ·obtain ⟨mk,mk',d,hsj⟩:=T.saw j _ hoj
     exact hsj.made h3 h4 (T.Al1 hoi hj hap h5)
    ·exact absurd h5 (T.stays h4 (by omega) (by omega))
   rw [this]
   cases hq:look (tr 0).heap n with
   | none=>rfl
   | some x=>exact absurd h3 (T.stays (j:=0) (by rw [hq]; simp) (by omega) (by omega))
theorem Trace.Arr {t:Nat} (ht:t∈o.looksAt ops):X2 ops tr S t=(tr k).tmps.getD t .undef:=by
 have hkN:=lt_size ho
 refine Kc (val:=fun k=>(tr k).tmps.getD t .undef) (fun j hj h=>T.Aq8 hj h) (by omega) fun j hj hj'=>?_
 obtain ⟨_,p,hp,hdst⟩:=hj'
 rcases hd.told k j o p t ho hp hdst ht with h | h
 ·have:=hd.Xd h
  exact ⟨fun _=>this,fun _=>hc.bef (fun p hp=>by rw [ho] at hp; cases hp; exact hr) h⟩
 ·have:=hd.Xd h
  exact ⟨fun hS=>absurd (hc.bef (fun p hp=>hc j p hp hS) h) hk,fun h=>by omega⟩
theorem Trace.step {S0 I0:Nat→Prop} {B:Nat} {w0:World} {A:Nat→Option Place} {a:Act} {w:World} (h:H6 S0 I0 B w0 A (O4 E ops M tr S) (X2 ops tr S) (tr 0).tmps.length a w) {Q:Exit→Act→World→Prop} :
 Hy P ops o a w Q fun v w'=>∃ A',H6 S0 I0 B w0 A' (O4 E ops M tr fun j=>S j∨j=k) (X2 ops tr fun j=>S j∨j=k) (tr 0).tmps.length (a.put o.dst v) w':=by
 have hkN:=lt_size ho
 obtain ⟨mk,mk',d,hs⟩:=T.saw k o ho
 have hout:∀ {n},look mk'.heap n≠none→look mk'.heap n=look (tr (k+1)).heap n:=by
  intro n hn
  rw [hs.heap,Axp (hs.out n hn)]
 refine h.step hs.ok (fun n hA hl=>?_) (fun t ht=>?_) (by rw [hs.tmps,T.len (by omega)]) (fun n h1 h2=>?_) (fun n h1 h2=>?_) (fun n h1 h2=>?_) (fun t=>?_)
 ·have hm:n ∉ Gt (ops.toList.map G9) k M:=fun e=>hl (by rw [hs.mask,Axq e])
  rw [hs.mask,Axp hm] at hl ⊢
  refine (T.Ao5 hd hc ho hk hr hm hl ?_).symm
  cases hA':A n with
  | none=>exact absurd hA' hA
  | some p =>
    obtain ⟨fo,hfo,_⟩:=h.obj n p hA'
    rw [hfo]; simp
 ·rw [hs.tmps]; exact (T.Arr hd hc ho hk hr ht).symm
 ·
  have hm:=hs.out n h2
  rw [hs.mask,Axp hm] at h1
  rw [hout h2] at h2
  have:O4 E ops M tr S n=look (tr 0).heap n:=by
   refine Kc (k:=0) (val:=fun k=>look (tr k).heap n) (fun j hj ht=>T.Ajj hj ht) (by omega) fun i hi hti=>⟨fun hSi=>?_,fun h=>by omega⟩
   exfalso
   have hoi:ops[i]?=some ops[i]:=Axn hi
   have hik:i≠k:=fun e=>hk (e ▸ hSi)
   rcases T.Kp hoi hti with ⟨h5,h6⟩ | ⟨h5,h6⟩
   ·rcases Ax0 i k with hlt | hge
    ·exact absurd h1 (T.stays h6 (by omega) (by omega))
    ·exact hm (T.Al1 hoi hkN (Pa hd hc hk hSi (by omega)) h5)
   ·rcases Ax0 i k with hlt | hge
    ·exact absurd h1 (T.stays h6 (by omega) (by omega))
    ·exact absurd h5 (T.stays h2 (by omega) (by omega))
  rw [this]
  cases hq:look (tr 0).heap n with
  | none=>rfl
  | some x=>exact absurd h1 (T.stays (j:=0) (by rw [hq]; simp) (by omega) (by omega))
 ·have hm:=hs.out n h1
  rw [hs.mask,Axp hm,hs.seen] at h2
  have e1:=hout h1
  rw [e1] at h1 ⊢
  have ht:Zn E ops M tr n k:=⟨o,ho,h2.imp id fun e=>⟨e,h1⟩⟩
  refine Xe (val:=fun k=>look (tr k).heap n) hkN ht (.inr rfl) fun i hlt hi hti hSi=>?_
  have hSi:=hSi.resolve_right (by omega)
  have hoi:ops[i]?=some ops[i]:=Axn hi
  rcases T.Kp hoi hti with ⟨h5,_⟩ | ⟨h5,_⟩
  ·exact hm (T.Al1 hoi hkN (Pa hd hc hk hSi hlt) h5)
  ·exact absurd h5 (T.stays h1 (by omega) (by omega))
 ·rw [hs.seen] at h1
  refine L5 fun j hj ht=>⟨fun h=>h.resolve_right fun e=>?_,.inl⟩
  subst e
  obtain ⟨o',ho',h3⟩:=ht
  rw [ho] at ho'; cases ho'
  rcases h3 with h3 | ⟨h3,h4⟩
  ·exact h1 h3
  ·have hm:=hs.made h3 h4
   refine h2 ⟨by rw [hs.mask,Axp hm]; exact h3,?_⟩
   rw [hs.heap,Axp hm] at h4; exact h4
 ·split
  ·rename_i ht
   have h1:X2 ops tr (fun j=>S j∨j=k) t=(tr (k+1)).tmps.getD t .undef:=by
    refine Xe (val:=fun k=>(tr k).tmps.getD t .undef) hkN ⟨ht.2,o,ho,ht.1⟩ (.inr rfl) fun i hlt hi hti hSi=>?_
    obtain ⟨_,p,hp,hdst⟩:=hti
    have:=hd.once i k p o t hp ho ht.1 hdst
    omega
   rw [h1,hs.getD,Axq ⟨ht.1,by rw [T.len (by omega)]; exact ht.2⟩]
  ·rename_i ht
   refine L5 fun j hj hj'=>⟨fun h=>h.resolve_right fun e=>?_,.inl⟩
   subst e
   obtain ⟨h1,p,hp,hdst⟩:=hj'
   rw [ho] at hp; cases hp
   exact ht ⟨hdst,h1⟩
end
end Go.Den
namespace Go.Den
open Go.RowKit (Below)
section
variable {P:Program} {E:Env} {S I0:Nat→Prop} {B:Nat} {w0:World}
theorem Af6 {β:Type} (he:I2 P E) {ops:Array Oper} {draw:Bool} {Q:Exit→Act→World→Prop} {K:St→Option β} {r:β} :
 ∀ (l:List Oper) (k:Nat) (st:St),(∀ j,l[j]?=ops[k+j]?)→Aon E ops draw l st K=some r→∀ a w,Fa S I0 B w0 st a w →
 (∀ st a w,K st=some r→Fa S I0 B w0 st a w→Q .normal a w)→wpOps P ops Q (List.range' k l.length) a w
 | [],k,st,_,h,a,w,hh,hQ=>hQ st a w h hh
 | o::l,k,st,hl,h,a,w,hh,hQ=>by
   simp only [Aon] at h
   cases hs:Km E ops draw st o with
   | none=>rw [hs] at h; cases h
   | some x =>
     obtain ⟨b,st'⟩:=x
     rw [hs] at h
     simp only at h
     cases b with
     | false=>cases h
     | true =>
       simp only [Aw3] at h
       obtain ⟨d,hd⟩:=Vx he hs
       have ho:ops[k]?=some o:=by simpa using (hl 0).symm
       rw [List.length_cons,List.range'_succ]
       simp only [wpOps,ho]
       have:=hh.step hd (Q:=Q) (wpOps P ops Q (List.range' (k+1) l.length)) (fun v w' hv=>Af6 he l (k+1) st' (fun j=>by have:=hl (j+1); simpa [Nat.add_assoc,Nat.add_comm 1 j] using this) h _ _ hv hQ)
       split
       ·rename_i hw; rw [Axq hw] at this; exact .inl this
       ·rename_i hw; rw [Axp hw] at this; exact this
theorem H6.congr {A:Nat→Option Place} {f f':Nat→Option (Bool × OB)} {g g':Nat→DV} {len len':Nat} {a:Act} {w:World} (h:H6 S I0 B w0 A f g len a w) (hf:∀ n,f n=f' n) (hg:∀ t,g t=g' t) (hl:len=len'):H6 S I0 B w0 A f' g' len' a w:=by
 obtain rfl:f=f':=funext hf
 obtain rfl:g=g':=funext hg
 subst hl; exact h
def Ko (listed:Array Bool) (j:Nat):Prop:=listed.getD j false=true
theorem N6 {l:Array Bool} {j:Nat} (h:l.getD j true=false):j<l.size∧l.getD j false=false:=by
 rcases Ax0 j l.size with h' | h'
 ·refine ⟨h',?_⟩
  simp only [Array.getD_eq_getD_getElem?,Axn h',Ayn] at h ⊢; exact h
 ·simp [Array.getD_eq_getD_getElem?,Array.getElem?_eq_none h'] at h
theorem Tw {listed:Array Bool} {k:Nat} (hk:k<listed.size) (j:Nat):Ko (listed.setIfInBounds k true) j↔Ko listed j∨j=k:=by
 unfold Ko
 simp only [Array.getD_eq_getD_getElem?]
 by_cases e:k=j
 ·subst e; simp [hk]
 ·rw [Array.getElem?_setIfInBounds_ne e]
  exact ⟨.inl,fun h=>h.resolve_right (fun h=>e h.symm)⟩
theorem count_set {listed:Array Bool} {k:Nat} (h:listed.getD k true=false):(listed.setIfInBounds k true).toList.count false+1=listed.toList.count false:=by
 obtain ⟨hk,h2⟩:=N6 h
 have hk':k<listed.toList.length:=by simpa using hk
 have hv:listed.toList[k]=false:=by
  simpa [Array.getD_eq_getD_getElem?,Axn hk] using h2
 have hp:0<List.count false listed.toList:=List.count_pos_iff.2 (hv ▸ List.getElem_mem hk')
 rw [Array.toList_setIfInBounds,List.count_set hk',hv,Axq (Ax3 _),Axp (by simp)]
 omega
theorem Asr {ops:Array Oper} {M:List (Nat × List Nat)} {tr:Nat→St} (hd:Rd ops) (T:Trace P E ops (ops.toList.map G9) M tr) {Q:Exit→Act→World→Prop}
 (hQ:∀ a w,Fa S I0 B w0 (tr ops.size) a w→Q .normal a w):∀ (fuel:Nat) (listed:Array Bool) (a:Act) (w:World),listed.size=ops.size→T4 ops (Ko listed)→listed.toList.count false=fuel →
 (∃ A,H6 S I0 B w0 A (O4 E ops M tr (Ko listed)) (X2 ops tr (Ko listed)) (tr 0).tmps.length a w)→wpAny P .any ops Q fuel listed a w:=by
 have last:∀ (listed:Array Bool) (a:Act) (w:World),listed.size=ops.size→Region.ready .any ops listed=[]→(∃ A,H6 S I0 B w0 A (O4 E ops M tr (Ko listed)) (X2 ops tr (Ko listed)) (tr 0).tmps.length a w)→Q .normal a w:=by
  rintro listed a w hsz hr ⟨A,h⟩
  have all:∀ k,k<ops.size→Ko listed k:=by
   intro k
   induction k using Nat.strongRecOn with
   | _ k ih =>
     intro hk
     refine Classical.byContradiction fun hn=>?_
     have:k∈Region.ready .any ops listed:=mem_ready.2 ⟨?_,ops[k],Axn hk,fun e he hb=>?_⟩
     ·rw [hr] at this; cases this
     ·unfold Ko at hn
      have hk':k<listed.size:=by omega
      simp only [Array.getD_eq_getD_getElem?,Axn hk',Ayn,Bool.not_eq_true] at hn ⊢
      exact hn
     ·have hlt:=hd.lt k ops[k] (Axn hk) e.on (Ab5.2 ⟨e,he,hb,rfl⟩)
      exact ih e.on hlt (by omega)
  refine hQ a w ⟨A,h.congr (fun n=>?_) (fun t=>?_) (T.len (Axx _)).symm⟩
  ·exact Kc (val:=fun k=>look (tr k).heap n) (fun j hj ht=>T.Ajj hj ht) (Axx _) fun j hj _=>⟨fun _=>hj,fun _=>all j hj⟩
  ·exact Kc (val:=fun k=>(tr k).tmps.getD t .undef) (fun j hj ht=>T.Aq8 hj ht) (Axx _) fun j hj _=>⟨fun _=>hj,fun _=>all j hj⟩
 intro fuel
 induction fuel with
 | zero =>
   intro listed a w hsz hc hf h
   have hr:Region.ready .any ops listed=[]:=by
    refine List.eq_nil_iff_forall_not_mem.2 fun k hk=>?_
    have h1:=count_set (mem_ready.1 hk).1
    omega
   exact ⟨hr,last listed a w hsz hr h⟩
 | succ fuel ih =>
   intro listed a w hsz hc hf h
   refine ⟨fun hr=>last listed a w hsz hr h,fun k hk=>?_⟩
   obtain ⟨hun,o,ho,hall⟩:=mem_ready.1 hk
   obtain ⟨hks,hkf⟩:=N6 hun
   have hkS:¬ Ko listed k:=by unfold Ko; rw [hkf]; simp
   have hrS:∀ i∈G9 o,Ko listed i:=fun i hi=>by
    obtain ⟨e,he,hb,rfl⟩:=Ab5.1 hi
    exact hall e he hb
   obtain ⟨A,h⟩:=h
   have hstep:=T.step hd hc ho hkS hrS h (Q:=Q) (wpAny P .any ops Q fuel (listed.setIfInBounds k true)) (fun v w' hv=>by
    obtain ⟨A',hv⟩:=hv
    refine ih _ _ _ (by simp [hsz]) ?_ ?_ ⟨A',hv.congr (fun n=>?_) (fun t=>?_) rfl⟩
    ·intro j p hp hj i hi
     rw [Tw hks] at hj ⊢
     rcases hj with hj | rfl
     ·exact .inl (hc j p hp hj i hi)
     ·rw [ho] at hp; cases hp
      exact .inl (hrS i hi)
    ·have:=count_set hun; omega
    ·exact L5 fun j _ _=>(Tw hks j).symm
    ·exact L5 fun j _ _=>(Tw hks j).symm)
   unfold wpOp
   rw [ho]
   simp only
   split
   ·rename_i hw; rw [Axq hw] at hstep; exact .inl hstep
   ·rename_i hw; rw [Axp hw] at hstep; exact hstep
theorem Fa.drew {st:St} {a:Act} {w:World} (h:Fa S I0 B w0 st a w):Fa S I0 B w0 st a { w with drawn:=w.drawn+1 }:=by
 obtain ⟨A,h⟩:=h
 have hmv:Hl A w A { w with drawn:=w.drawn+1 }:=⟨Axx _,(Hl.refl A w).names,(Hl.refl A w).live,fun _ _ _=>rfl⟩
 have hl:=hmv.Cz (I0:=I0) (B:=B)
 exact ⟨A,h.defers,h.size,h.below.trans ⟨rfl,rfl,rfl,Axx _,fun _ _=>rfl⟩,h.hB,h.I0lt,fun n p hp=>by
  obtain ⟨fo,h1,h2⟩:=h.obj n p hp
  exact ⟨fo,h1,Oq hl (fun _ _ _=>rfl) h2⟩,h.blkB,h.inj,fun t=>Aj.Cz hl _ _ (h.tmps t),h.kept⟩
theorem Amg {β:Type} (he:I2 P E) {id:Nat} {ops:Array Oper} {Q:Exit→Act→World→Prop} {K:St→Option β} {r:β} {st:St} (h:Amh E ops st K=some r) {a:Act} {w:World} (hh:Fa S I0 B w0 st a w)
 (hQ:∀ st a w,K st=some r→Fa S I0 B w0 st a w→Q .normal a w):(Code.region id ops true).wp P Q a w:=by
 unfold Amh at h
 cases hc:Aam ops (ops.toList.map G9) with
 | false=>rw [hc] at h; cases h
 | true =>
   rw [hc,Aw3] at h
   have hd:=Acy hc
   generalize (bif Aep ops (ops.toList.map G9) 0 ops.toList then Aag E ops 0 ops.toList st else [])=M at h
   obtain ⟨tr,h0,h1,h2⟩:=Uc he ops.toList 0 st (fun j=>by simp) h
   have T:Trace P E ops (ops.toList.map G9) M tr:=⟨fun k o ho=>by
    have:=(h2 k o (by simpa using ho)).1
    rw [Ayd] at this; exact this,fun k o ho hlo=>by
    have:=(h2 k o (by simpa using ho)).2
    rw [Ayd] at this; exact this hlo⟩
   refine wp_region_any he.mixed (Asr hd T (fun a w hw=>hQ _ a w (by simpa using h1) hw) _ _ _ _ (by simp) ?_ (by simp) ?_)
   ·intro k o _ hk
    unfold Ko at hk
    simp only [Array.getD_eq_getD_getElem?,Array.getElem?_replicate] at hk
    split at hk<;>cases hk
   ·obtain ⟨A,hA⟩:=hh.drew
    subst h0
    refine ⟨A,hA.congr (fun n=>?_) (fun t=>?_) rfl⟩
    ·refine (Kc (k:=0) (val:=fun k=>look (tr k).heap n) (fun j hj ht=>T.Ajj hj ht) (by omega) fun j hj _=>⟨fun hk=>?_,fun h=>by omega⟩).symm
     unfold Ko at hk
     simp only [Array.getD_eq_getD_getElem?,Array.getElem?_replicate] at hk
     split at hk<;>cases hk
    ·refine (Kc (k:=0) (val:=fun k=>(tr k).tmps.getD t .undef) (fun j hj ht=>T.Aq8 hj ht) (by omega) fun j hj _=>⟨fun hk=>?_,fun h=>by omega⟩).symm
     unfold Ko at hk
     simp only [Array.getD_eq_getD_getElem?,Array.getElem?_replicate] at hk
     split at hk<;>cases hk
end
end Go.Den
namespace Go.Den
open Go.RowKit (Below)
def Ctx.only (c:Ctx) (ns:List Nat):Ctx:={ c with at_:=fun n=>if n∈ns then c.at_ n else none }
theorem Nu {n:Nat} {l:List Nat} (h:l.contains n=true):n∈l:=by simpa using h
theorem Zw {c:Ctx} {w:World} (ns:List Nat):∀ (f:Nat) (d:DV) (v:Value),Eb f ns d=true→Aj c w d v→Aj (c.only ns) w d v:=by
 intro f
 induction f with
 | zero=>intro d v h; simp [Eb] at h
 | succ f ih =>
   have all:∀ (l:List DV) (vs:List Value),l.all (Eb f ns)=true→Az c w l vs→Az (c.only ns) w l vs:=by
    intro l
    induction l with
    | nil=>intro vs _ h; rw [Az.F1] at h ⊢; exact h
    | cons d l ihl =>
      intro vs h hv
      simp only [List.all_cons,Axe] at h
      rw [Az.B9] at hv ⊢
      obtain ⟨u,us,e,h1,h2⟩:=hv
      exact ⟨u,us,e,ih d u h.1 h1,ihl us h.2 h2⟩
   intro d v h hv
   cases d with
   | agg l =>
     simp only [Eb] at h
     simp only [Aj] at hv ⊢
     obtain ⟨vs,e,hl⟩:=hv
     exact ⟨vs,e,all l _ h hl⟩
   | tup l =>
     simp only [Eb] at h
     simp only [Aj] at hv ⊢
     obtain ⟨vs,e,hl⟩:=hv
     exact ⟨vs,e,all l _ h hl⟩
   | fn g a b =>
     simp only [Eb,Axe] at h
     simp only [Aj] at hv ⊢
     obtain ⟨fs,cs,e,h1,h2⟩:=hv
     exact ⟨fs,cs,e,all a _ h.1 h1,all b _ h.2 h2⟩
   | gd g d =>
     simp only [Eb] at h
     simp only [Aj] at hv ⊢
     exact ⟨fun e=>ih d v h (hv.1 e),hv.2⟩
   | oref n =>
     simp only [Eb] at h
     simp only [Aj] at hv ⊢
     obtain ⟨h1,p,hp,hd⟩:=hv
     exact ⟨h1,p,by simp only [Ctx.only,Nu h,if_true]; exact hp,hd⟩
   | sref n o m =>
     simp only [Eb] at h
     simp only [Aj] at hv ⊢
     obtain ⟨h1,p,hp,hd⟩:=hv
     exact ⟨h1,p,by simp only [Ctx.only,Nu h,if_true]; exact hp,hd⟩
   | ptr n i j =>
     simp only [Eb] at h
     simp only [Aj] at hv ⊢
     obtain ⟨h1,p,hp,hd⟩:=hv
     exact ⟨h1,p,by simp only [Ctx.only,Nu h,if_true]; exact hp,hd⟩
   | ints g k l=>cases g<;>(simp only [Aj] at hv ⊢; exact hv)
   | recs g k l=>cases g<;>(simp only [Aj] at hv ⊢; exact hv)
   | undef=>simp only [Aj]
   | _=>simp only [Aj] at hv ⊢; exact hv
def W0 (n:Nat):List (Nat × Nat × Nat × OB)→Option (Nat × Nat × Nat × OB)
 | []=>none
 | x::xs=>if x.2.2.1=n then some x else W0 n xs
theorem Tv {n:Nat}:∀ {l:List (Nat × Nat × Nat × OB)} {x},W0 n l=some x→x∈l∧x.2.2.1=n
 | [],x,h=>by cases h
 | y::l,x,h=>by
   simp only [W0] at h
   split at h
   ·cases h; exact ⟨Ayi,‹_›⟩
   ·exact ⟨Ax8 _ (Tv h).1,(Tv h).2⟩
theorem Sh:∀ {l:List (Nat × Nat × Nat × OB)} {x},(l.map (·.2.2.1)).Nodup→x∈l→W0 x.2.2.1 l=some x
 | [],x,_,h=>by cases h
 | y::l,x,hn,h=>by
   simp only [List.map_cons,List.nodup_cons] at hn
   simp only [W0]
   rcases List.mem_cons.1 h with rfl | h
   ·rw [Axq rfl]
   ·rw [Axp (fun e=>hn.1 (by rw [e]; exact List.mem_map.2 ⟨x,h,rfl⟩))]
    exact Sh hn.2 h
theorem Qw {b j nm:Nat}:∀ {l:List (Nat × Nat × Nat × OB)},Jf b j l=some nm→∃ ob,(b,j,nm,ob)∈l
 | [],h=>by cases h
 | (b',j',nm',ob)::l,h=>by
   simp only [Jf] at h
   cases hb:(Nat.beq b b'&&Nat.beq j j') with
   | true =>
     rw [hb] at h
     simp only [Aw3,Aw6] at h
     simp only [Axe] at hb
     have e1:=Axl hb.1
     have e2:=Axl hb.2
     subst e1 e2 h
     exact ⟨ob,Ayi⟩
   | false =>
     rw [hb] at h
     obtain ⟨ob',h'⟩:=Qw h
     exact ⟨ob',Ax8 _ h'⟩
theorem Wd {st:St}:∀ {l:List (Nat × Nat × Nat × OB)} {h:Dc} {ns:List Nat},We st l=some (h,ns)→(l.map (·.2.2.1)).Nodup→ns.Nodup →
 (∀ x∈l,∃ s ob,Z3 st x=some (s,ob)∧look h x.2.2.1=some (false,ob)∧∀ n,s=some n→n∈ns) ∧
 (∀ n fo,look h n=some fo→∃ x∈l,x.2.2.1=n) ∧
 (∀ x∈l,∀ y∈l,∀ n ob ob',Z3 st x=some (some n,ob)→Z3 st y=some (some n,ob')→x=y)
 | [],h,ns,hs,_,_=>by
   simp only [We,Aw6,Axc] at hs
   obtain ⟨rfl,rfl⟩:=hs
   exact ⟨fun x hx=>(by cases hx),fun n fo hl=>(by cases hl),fun x hx=>(by cases hx)⟩
 | x::l,h,ns,hs,hn,hns=>by
   simp only [We] at hs
   cases ho:Z3 st x with
   | none=>simp [ho] at hs
   | some r =>
     obtain ⟨s,ob⟩:=r
     cases hl:We st l with
     | none=>simp [ho,hl] at hs
     | some r =>
       obtain ⟨h',ns'⟩:=r
       simp only [ho,hl,Aw6,Axc] at hs
       obtain ⟨rfl,rfl⟩:=hs
       simp only [List.map_cons,List.nodup_cons] at hn
       rw [List.nodup_append] at hns
       obtain ⟨i1,i2,i3⟩:=Wd hl hn.2 hns.2.1
       have hx:∀ y∈l,x.2.2.1≠y.2.2.1:=fun y hy e=>hn.1 (by rw [e]; exact List.mem_map.2 ⟨y,hy,rfl⟩)
       have cross:∀ y∈l,∀ n ob ob',Z3 st x=some (some n,ob)→Z3 st y=some (some n,ob')→False:=by
        intro y hy n o1 o2 h1 h2
        rw [ho] at h1; cases h1
        obtain ⟨s',ob',h3,_,h4⟩:=i1 y hy
        rw [h2] at h3; cases h3
        exact hns.2.2 n (by simp) n (h4 n rfl) rfl
       refine ⟨fun y hy=>?_,fun n fo hl'=>?_,fun y hy z hz n o1 o2 h1 h2=>?_⟩
       ·rcases List.mem_cons.1 hy with rfl | hy
        ·exact ⟨s,ob,ho,by simp [look],fun n e=>by rw [e]; simp⟩
        ·obtain ⟨s',ob',h1,h2,h3⟩:=i1 y hy
         refine ⟨s',ob',h1,?_,fun n e=>List.mem_append.2 (.inr (h3 n e))⟩
         simp only [look,show (x.2.2.1==y.2.2.1)=false by simpa using hx y hy,Aw7]
         exact h2
       ·simp only [look] at hl'
        by_cases e:x.2.2.1=n
        ·exact ⟨x,Ayi,e⟩
        ·rw [show (x.2.2.1==n)=false by simpa using e] at hl'
         obtain ⟨y,hy,hyn⟩:=i2 n fo hl'
         exact ⟨y,Ax8 _ hy,hyn⟩
       ·rcases List.mem_cons.1 hy with e1 | hy2
        ·rcases List.mem_cons.1 hz with e2 | hz2
         ·rw [e1,e2]
         ·exact (cross z hz2 n o1 o2 (e1 ▸ h1) h2).elim
        ·rcases List.mem_cons.1 hz with e2 | hz2
         ·exact (cross y hy2 n o2 o1 (e2 ▸ h2) h1).elim
         ·exact i3 y hy2 z hz2 n o1 o2 h1 h2
theorem Ur {st:St} {H:A5}:∀ {bs:List Nat} {h:Dc},Ra st H bs=some h→bs.Nodup →
 (∀ b∈bs,∃ f cs,look st.heap b=some (f,.box cs)∧Pq H.objs H.boxes (b+1) 0 cs=true∧look h b=some (f,.box (Q8 H.objs (b+1) 0 cs)))∧(∀ n fo,look h n=some fo→n∈bs)
 | [],h,hs,_=>by
   simp only [Ra,Aw6] at hs
   subst hs
   exact ⟨fun x hx=>(by cases hx),fun n fo hl=>(by cases hl)⟩
 | b::bs,h,hs,hn=>by
   simp only [Ra] at hs
   split at hs
   ·rename_i f cs hl
    cases hc:Pq H.objs H.boxes (b+1) 0 cs with
    | false=>rw [hc] at hs; cases hs
    | true =>
      rw [hc,Aw3] at hs
      cases hb:Ra st H bs with
      | none=>rw [hb] at hs; cases hs
      | some h' =>
        rw [hb] at hs
        simp only [Aw6] at hs
        subst hs
        simp only [List.nodup_cons] at hn
        obtain ⟨i1,i2⟩:=Ur hb hn.2
        refine ⟨fun c hc'=>?_,fun n fo hl'=>?_⟩
        ·rcases List.mem_cons.1 hc' with rfl | hc'
         ·exact ⟨f,cs,hl,hc,by simp [look]⟩
         ·obtain ⟨f',cs',h1,h2,h3⟩:=i1 c hc'
          refine ⟨f',cs',h1,h2,?_⟩
          have:b≠c:=fun e=>hn.1 (e ▸ hc')
          simp only [look,show (b==c)=false by simpa using this,Aw7]
          exact h3
        ·simp only [look] at hl'
         by_cases e:b=n
         ·rw [e]; exact Ayi
         ·rw [show (b==n)=false by simpa using e] at hl'
          exact Ax8 _ (i2 n fo hl')
   ·cases hs
theorem X1 {H:A5}:∀ (l:List DV) (k i:Nat),i<l.length→(Vu H k l).getD i .undef=(match Jf 0 (k+i) H.objs with | some nm=>.oref nm | none=>bif Kv (k+i) H.keep then l.getD i .undef else .undef)
 | [],k,i,h=>by simp at h
 | d::l,k,i,h=>by
   cases i with
   | zero =>
     simp only [Vu,List.getD_cons_zero,Ayb]
     cases Jf 0 k H.objs<;>rfl
   | succ i =>
     have:=X1 (H:=H) l (k+1) i (by simpa using h)
     simp only [Vu,List.getD_cons_succ,this]
     rw [show k+1+i=k+(i+1) by omega]
theorem Nb {H:A5}:∀ (l:List DV) (k:Nat),(Vu H k l).length=l.length
 | [],k=>rfl
 | d::l,k=>by simp [Vu,Nb l]
theorem Wb {H:A5}:∀ {l:List DV} {k i:Nat},Wc H k l=true→i<l.length→Jf 0 (k+i) H.objs=none→Kv (k+i) H.keep=true→Eb 8 H.boxes (l.getD i .undef)=true
 | [],k,i,_,h,_,_=>by simp at h
 | d::l,k,i,h,hi,h1,h2=>by
   simp only [Wc,Axe,Bool.or_eq_true,Bool.not_eq_true'] at h
   cases i with
   | zero =>
     rcases h.1 with h | h | h
     ·rw [Ayb] at h1; rw [h1] at h; cases h
     ·rw [Ayb] at h2; rw [h2] at h; cases h
     ·exact h
   | succ i =>
     rw [List.getD_cons_succ]
     exact Wb (k:=k+1) h.2 (by simpa using hi) (by rw [show k+1+i=k+(i+1) by omega]; exact h1) (by rw [show k+1+i=k+(i+1) by omega]; exact h2)
theorem W9 {c c':Ctx} {w:World} {objs:List (Nat × Nat × Nat × OB)} {boxes:List Nat} {b:Nat} :
 ∀ (l:List DV) (vs:List Value) (k:Nat),Pq objs boxes b k l=true→Az c w l vs →
 (∀ d v,Eb 8 boxes d=true→Aj c w d v→Aj c' w d v)→(∀ i nm d v,l[i]?=some d→Jf b (k+i) objs=some nm→Aj c w d v→Aj c' w (.oref nm) v)→Az c' w (Q8 objs b k l) vs
 | [],vs,k,_,h,_,_=>by rw [Az.F1] at h; subst h; simp [Q8,Az]
 | d::l,vs,k,hok,h,h1,h2=>by
   simp only [Pq,Axe,Bool.or_eq_true] at hok
   rw [Az.B9] at h
   obtain ⟨u,us,rfl,hu,hus⟩:=h
   simp only [Q8]
   rw [Az.B9]
   refine ⟨u,us,rfl,?_,W9 l us (k+1) hok.2 hus h1 fun i nm e v hi hn=>h2 (i+1) nm e v hi (by rw [show k+(i+1)=k+1+i by omega]; exact hn)⟩
   cases hn:Jf b k objs with
   | some nm=>exact h2 0 nm d u rfl hn hu
   | none =>
     rw [hn] at hok
     exact h1 d u (hok.1.resolve_left (by simp)) hu
end Go.Den
namespace Go.Den
open Go.RowKit (Below)
def Ar6:OB→Nat
 | .recs _ sz _=>sz
 | _=>1
def Is (ob:OB):Place:=⟨.live,.row (.slice none 0 0) (Ar6 ob)⟩
open Classical in
def Mz (st:St) (H:A5) (A:Nat→Option Place) (n:Nat):Option Place :=
 if n∈H.boxes then A n else
 match W0 n H.objs with
 | some x=>match Rk st x with
   | .nil=>some (Is x.2.2.2)
   | .oref m=>A m
   | _=>none
 | none=>none
theorem Jj {st:St} {H:A5} {A:Nat→Option Place} {n:Nat} {p:Place} (h:Mz st H A n=some p) :
 (n∈H.boxes∧A n=some p)∨(n ∉ H.boxes∧∃ x∈H.objs,x.2.2.1=n∧((Rk st x=.nil∧p=Is x.2.2.2)∨∃ m,Rk st x=.oref m∧A m=some p)):=by
 unfold Mz at h
 by_cases hb:n∈H.boxes
 ·rw [Axq hb] at h; exact .inl ⟨hb,h⟩
 ·rw [Axp hb] at h
  refine .inr ⟨hb,?_⟩
  cases hf:W0 n H.objs with
  | none=>rw [hf] at h; cases h
  | some x =>
    rw [hf] at h
    obtain ⟨hx,hn⟩:=Tv hf
    refine ⟨x,hx,hn,?_⟩
    simp only at h
    split at h
    ·rename_i e; cases h; exact .inl ⟨e,rfl⟩
    ·rename_i m e; exact .inr ⟨m,e,h⟩
    ·cases h
theorem Ot {st:St} {x:Nat × Nat × Nat × OB} {s:Option Nat} {ob:OB} (h:Z3 st x=some (s,ob)) :
 (Rk st x=.nil∧s=none∧ob=x.2.2.2∧((∃ e k,ob=.ints e k [])∨∃ e sz,0<sz∧ob=.recs e sz [])) ∨
 (∃ m,Rk st x=.oref m∧s=some m∧look st.heap m=some (false,ob)∧((∃ e k l,ob=.ints e k l)∨∃ e sz l,ob=.recs e sz l)):=by
 unfold Z3 at h
 split at h
 ·rename_i hs
  left
  split at h
  ·rename_i e k hx
   simp only [Aw6,Axc] at h
   exact ⟨hs,h.1.symm,by rw [hx]; exact h.2.symm,.inl ⟨e,k,h.2.symm⟩⟩
  ·rename_i e sz hx
   cases hb:Nat.blt 0 sz with
   | false=>rw [hb] at h; cases h
   | true =>
     rw [hb] at h
     simp only [Aw3,Aw6,Axc] at h
     exact ⟨hs,h.1.symm,by rw [hx]; exact h.2.symm,.inr ⟨e,sz,by simpa [Nat.blt_eq] using hb,h.2.symm⟩⟩
  ·cases h
 ·rename_i m hs
  right
  split at h
  ·rename_i e k l hl
   simp only [Aw6,Axc] at h
   exact ⟨m,hs,h.1.symm,by rw [hl,h.2],.inl ⟨e,k,l,h.2.symm⟩⟩
  ·rename_i e sz l hl
   simp only [Aw6,Axc] at h
   exact ⟨m,hs,h.1.symm,by rw [hl,h.2],.inr ⟨e,sz,l,h.2.symm⟩⟩
  ·cases h
 ·cases h
section
variable {S I0:Nat→Prop} {B:Nat} {w0:World}
theorem Ai4 {H:A5} {st st1:St} (h:Aff (some H) st=some st1) {a:Act} {w:World} (hh:Fa S I0 B w0 st a w):Fa S I0 B w0 st1 a w:=by
 obtain ⟨A,hA⟩:=hh
 simp only [Aff] at h
 cases hbd:Ra st H H.boxes with
 | none=>rw [hbd] at h; cases h
 | some hb =>
 cases hod:We st H.objs with
 | none=>rw [hbd,hod] at h; cases h
 | some r =>
 obtain ⟨ho,ns⟩:=r
 rw [hbd,hod] at h
 simp only at h
 cases hc:(Ki (H.boxes++H.objs.map (·.2.2.1))&&Ki ns&&Wc H 0 st.tmps) with
 | false=>rw [hc] at h; cases h
 | true =>
 rw [hc,Aw3,Aw6] at h
 subst h
 simp only [Axe] at hc
 obtain ⟨⟨hn,hns⟩,hok⟩:=hc
 have hnd:=Ib hn
 rw [List.nodup_append] at hnd
 obtain ⟨hnb,hno,hdis⟩:=hnd
 obtain ⟨o1,o2,o3⟩:=Wd hod hno (Ib hns)
 obtain ⟨b1,b2⟩:=Ur hbd hnb
 have hnin:∀ x∈H.objs,x.2.2.1 ∉ H.boxes:=fun x hx e=>hdis _ e _ (List.mem_map.2 ⟨x,hx,rfl⟩) rfl
 have hat:∀ x∈H.objs,Mz st H A x.2.2.1=match Rk st x with | .nil=>some (Is x.2.2.2) | .oref m=>A m | _=>none:=by
  intro x hx
  unfold Mz
  rw [Axp (hnin x hx),Sh hno hx]
 have hokc:∀ b,(Be I0 B A w).ok b→(Be I0 B (Mz st H A) w).ok b:=by
  rintro b ⟨h1,h2,h3⟩
  refine ⟨h1,h2,fun n p hp hl=>?_⟩
  rcases Jj hp with ⟨_,hp⟩ | ⟨_,x,_,_,⟨_,rfl⟩ | ⟨m,_,hp⟩⟩
  ·exact h3 n p hp hl
  ·simp [Is,Place.Gb,Value.ownBlock]
  ·exact h3 m p hp hl
 have hrefs:∀ d v,Eb 8 H.boxes d=true→Aj (Be I0 B A w) w d v→Aj (Be I0 B (Mz st H A) w) w d v:=by
  intro d v hd hv
  have hl:Kd ((Be I0 B A w).only H.boxes) w (Be I0 B (Mz st H A) w) w:=by
   refine ⟨hokc,rfl,rfl,fun _ _ h=>(by cases h),fun n p hp=>?_,fun _ _ _=>rfl,fun _ _ h=>(by cases h)⟩
   simp only [Ctx.only] at hp
   split at hp
   ·rename_i hnb'
    refine ⟨p,?_,?_⟩
    ·show Mz st H A n=some p
     unfold Mz
     rw [Axq hnb']; exact hp
    ·by_cases hpd:p.st=.dead
     ·exact .inl hpd
     ·exact .inr ⟨hpd,rfl⟩
   ·cases hp
  exact Aj.Cz hl d v (Zw H.boxes 8 d v hd hv)
 have hbare:∀ l rows,Cl (Be I0 B A w).bare w l rows→Cl (Be I0 B (Mz st H A) w).bare w l rows:=fun l rows =>
  Cl.Cz (c:=(Be I0 B A w).bare) (c':=(Be I0 B (Mz st H A) w).bare) (w:=w) (w':=w) ⟨hokc,rfl,rfl,fun _ _ h=>(by cases h),fun _ _ h=>(by cases h),fun _ _ _=>rfl,fun _ _ h=>(by cases h)⟩ l rows
 have hnamed:∀ x∈H.objs,∀ v,Aj (Be I0 B A w) w (Rk st x) v→Aj (Be I0 B (Mz st H A) w) w (.oref x.2.2.1) v:=by
  intro x hx v hv
  obtain ⟨s,ob,h1,_,_⟩:=o1 x hx
  have hax:=hat x hx
  rcases Ot h1 with ⟨e,_⟩ | ⟨m,e,_⟩
  ·rw [e] at hv hax
   simp only [Aj] at hv ⊢
   subst hv
   exact ⟨rfl,_,hax,.inr ⟨_,rfl⟩⟩
  ·rw [e] at hv hax
   simp only [Aj] at hv ⊢
   obtain ⟨h1,p,hp,hd⟩:=hv
   exact ⟨h1,p,hax.trans hp,hd⟩
 refine ⟨Mz st H A,hA.defers,hA.size.trans (Nb _ _).symm,hA.below,hA.hB,hA.I0lt,fun n p hp=>?_,fun n p b hp hd hpb=>?_,fun n m p q b hp hq hpd hqd hpb hqb=>?_,fun t=>?_,fun b hb=>⟨(hA.kept b hb).1,(hA.kept b hb).2.1,fun n p hp hl hbk=>by
  rcases Jj hp with ⟨_,hp⟩ | ⟨_,x,_,_,⟨_,rfl⟩ | ⟨m,_,hp⟩⟩
  ·exact (hA.kept b hb).2.2 n p hp hl hbk
  ·simp [Is,Place.Gb,Value.ownBlock] at hbk
  ·exact (hA.kept b hb).2.2 m p hp hl hbk⟩⟩
 ·rcases Jj hp with ⟨hnb',hp⟩ | ⟨hnb',x,hx,rfl,hsrc⟩
  ·obtain ⟨f,cs,h1,h2,h3⟩:=b1 n hnb'
   obtain ⟨fo,h4,h5⟩:=hA.obj n p hp
   rw [h1] at h4; cases h4
   refine ⟨(f,.box (Q8 H.objs (n+1) 0 cs)),by rw [Lw,h3],?_⟩
   obtain ⟨hst,b,e,cells,hk,hh,hl⟩:=h5
   refine ⟨hst,b,e,cells,hk,hh,W9 cs _ 0 h2 hl hrefs fun i nm d v hi hnm hv=>?_⟩
   obtain ⟨ob,hx⟩:=Qw hnm
   refine hnamed _ hx v ?_
   have:Rk st (n+1,0+i,nm,ob)=d:=by
    simp [Rk,h1,Axd,hi]
   rw [this]; exact hv
  ·obtain ⟨s,ob,h1,h2,_⟩:=o1 x hx
   have hl:look (hb++ho) x.2.2.1=some (false,ob):=by
    rw [Lw]
    cases hq:look hb x.2.2.1 with
    | none=>exact h2
    | some fo=>exact absurd (b2 _ _ hq) hnb'
   refine ⟨_,hl,?_⟩
   rcases Ot h1 with ⟨e,_,e2,hob⟩ | ⟨m,e,_,hlm,hob⟩
   ·rcases hsrc with ⟨_,rfl⟩ | ⟨m,e',_⟩
    ·rw [← e2]
     rcases hob with ⟨e,k,rfl⟩ | ⟨e,sz,hsz,rfl⟩
     ·exact ⟨rfl,_,rfl,World.ownsRow_nil w B e 1⟩
     ·exact ⟨rfl,hsz,_,[],rfl,by simp [Cl],fun r hr=>(by cases hr),World.ownsRow_nil w B e sz⟩
    ·rw [e] at e'; cases e'
   ·rcases hsrc with ⟨e',_⟩ | ⟨m',e',hp'⟩
    ·rw [e] at e'; cases e'
    ·rw [e] at e'; cases e'
     obtain ⟨fo,h4,h5⟩:=hA.obj m p hp'
     rw [hlm] at h4; cases h4
     rcases hob with ⟨e,k,l,rfl⟩ | ⟨e,sz,l,rfl⟩
     ·exact h5
     ·obtain ⟨i1,i2,sv,rows,i3,i4,i5,i6⟩:=h5
      exact ⟨i1,i2,sv,rows,i3,hbare _ _ i4,i5,i6⟩
 ·rcases Jj hp with ⟨_,hp⟩ | ⟨_,x,hx,rfl,⟨_,rfl⟩ | ⟨m,_,hp⟩⟩
  ·exact hA.blkB n p b hp hd hpb
  ·simp [Is,Place.Gb,Value.ownBlock] at hpb
  ·exact hA.blkB m p b hp hd hpb
 ·have isBox:∀ n p,n∈H.boxes→A n=some p→∃ b,p.kind=.box b:=by
   intro n p hnb' hp
   obtain ⟨f,cs,h1,_,_⟩:=b1 n hnb'
   obtain ⟨fo,h4,h5⟩:=hA.obj n p hp
   rw [h1] at h4; cases h4
   obtain ⟨_,b,_,_,hk,_⟩:=h5
   exact ⟨b,hk⟩
  have isRow:∀ x∈H.objs,∀ m p,Rk st x=.oref m→A m=some p→∃ sv sz,p.kind=.row sv sz:=by
   intro x hx m p e hp
   obtain ⟨s,ob,h1,_,_⟩:=o1 x hx
   rcases Ot h1 with ⟨e',_⟩ | ⟨m',e',_,hlm,hob⟩
   ·rw [e] at e'; cases e'
   ·rw [e] at e'; cases e'
    obtain ⟨fo,h4,h5⟩:=hA.obj m p hp
    rw [hlm] at h4; cases h4
    rcases hob with ⟨e,k,l,rfl⟩ | ⟨e,sz,l,rfl⟩
    ·obtain ⟨_,sv,hk,_⟩:=h5; exact ⟨sv,1,hk⟩
    ·obtain ⟨_,_,sv,_,hk,_⟩:=h5; exact ⟨sv,sz,hk⟩
  have same:∀ m m':Nat,∀ p q:Place,A m=some p→A m'=some q→p.st≠.dead→q.st≠.dead→p.Gb=some b→q.Gb=some b→m=m':=fun m m' p q h1 h2 h3 h4 h5 h6=>hA.inj m m' p q b h1 h2 h3 h4 h5 h6
  rcases Jj hp with ⟨hnb',hp⟩ | ⟨_,x,hx,rfl,⟨_,rfl⟩ | ⟨i,hi,hp⟩⟩
  ·rcases Jj hq with ⟨_,hq⟩ | ⟨_,y,hy,rfl,⟨_,rfl⟩ | ⟨j,hj,hq⟩⟩
   ·exact same n m p q hp hq hpd hqd hpb hqb
   ·simp [Is,Place.Gb,Value.ownBlock] at hqb
   ·have e:=same n j p q hp hq hpd hqd hpb hqb
    subst e
    rw [hp] at hq; cases hq
    obtain ⟨b',hk⟩:=isBox n p hnb' hp
    obtain ⟨sv,sz,hk'⟩:=isRow y hy n p hj hp
    rw [hk] at hk'; cases hk'
  ·simp [Is,Place.Gb,Value.ownBlock] at hpb
  ·rcases Jj hq with ⟨hmb,hq⟩ | ⟨_,y,hy,rfl,⟨_,rfl⟩ | ⟨j,hj,hq⟩⟩
   ·have e:=same i m p q hp hq hpd hqd hpb hqb
    subst e
    rw [hp] at hq; cases hq
    obtain ⟨b',hk⟩:=isBox i p hmb hp
    obtain ⟨sv,sz,hk'⟩:=isRow x hx i p hi hp
    rw [hk] at hk'; cases hk'
   ·simp [Is,Place.Gb,Value.ownBlock] at hqb
   ·have e:=same i j p q hp hq hpd hqd hpb hqb
    subst e
    obtain ⟨s,ob,h1,_,_⟩:=o1 x hx
    obtain ⟨s',ob',h1',_,_⟩:=o1 y hy
    have hs:s=some i:=by
     rcases Ot h1 with ⟨e',_⟩ | ⟨m',e',e2,_⟩
     ·rw [hi] at e'; cases e'
     ·rw [hi] at e'; cases e'; exact e2
    have hs':s'=some i:=by
     rcases Ot h1' with ⟨e',_⟩ | ⟨m',e',e2,_⟩
     ·rw [hj] at e'; cases e'
     ·rw [hj] at e'; cases e'; exact e2
    subst hs hs'
    rw [o3 x hx y hy i ob ob' h1 h1']
 ·rcases Ax0 t st.tmps.length with hlt | hge
  ·rw [X1 st.tmps 0 t hlt]
   cases hnm:Jf 0 (0+t) H.objs with
   | some nm =>
     obtain ⟨ob,hx⟩:=Qw hnm
     refine hnamed _ hx _ ?_
     have:Rk st (0,0+t,nm,ob)=st.tmps.getD t .undef:=by simp [Rk]
     rw [this]; exact hA.tmps t
   | none =>
     simp only
     cases hk:Kv (0+t) H.keep with
     | true=>exact hrefs _ _ (Wb hok hlt hnm hk) (hA.tmps t)
     | false=>simp only [Aw7,Aj]
  ·rw [Axd,Ayl (by rw [Nb]; exact hge)]
   simp only [Option.getD_none,Aj]
theorem Ams {H:A5} {st st1:St} (h:canon (some H) st=some st1) {a:Act} {w:World} (hh:Fa S I0 B w0 st a w):Fa S I0 B w0 st1 a w:=Ai4 (H:=Aqq st H) h hh
end
end Go.Den
namespace Go.Den
open Go.RowKit (Below)
section
variable {P:Program} {E:Env} {S I0:Nat→Prop} {B:Nat} {w0:World}
theorem Ae0 {keep:Option (List Nat)} {st:St} (t:Nat):(forget keep st).tmps.getD t .undef=st.tmps.getD t .undef∨(forget keep st).tmps.getD t .undef=.undef:=by
 cases keep with
 | none=>exact .inl rfl
 | some ks =>
   simp only [forget,Axd,Ayk,List.getElem?_zipIdx]
   cases st.tmps[t]? with
   | none=>exact .inl rfl
   | some d =>
     simp only [Option.map_some,Ayn]
     cases ks.contains (0+t)
     ·exact .inr rfl
     ·exact .inl rfl
theorem Xq {keep:Option (List Nat)} {st:St}:(forget keep st).tmps.length=st.tmps.length:=by
 cases keep<;>simp [forget]
theorem Acn {keep:Option (List Nat)} {st:St}:(forget keep st).heap=st.heap:=by
 cases keep<;>rfl
theorem Fa.forget {keep:Option (List Nat)} {st:St} {a:Act} {w:World} (h:Fa S I0 B w0 st a w):Fa S I0 B w0 (forget keep st) a w:=by
 obtain ⟨A,h⟩:=h
 refine ⟨A,h.defers,h.size.trans Xq.symm,h.below,h.hB,h.I0lt,by rw [Acn]; exact h.obj,h.blkB,h.inj,fun t=>?_,h.kept⟩
 rcases Ae0 (keep:=keep) (st:=st) t with e | e
 ·rw [e]; exact h.tmps t
 ·rw [e]; simp only [Aj]
def Am5 {β:Type} (P:Program) (S I0:Nat→Prop) (B:Nat) (w0:World) (r:β) (c:Code) (body:St→(St→Option β)→(Nat→St→Option β)→(St→Option β)→Option β):Prop :=
 ∀ (st:St) (Kn:St→Option β) (Kx:Nat→St→Option β) (Kr:St→Option β),body st Kn Kx Kr=some r→∀ (a:Act) (w:World),Fa S I0 B w0 st a w→∀ Q:Exit→Act→World→Prop,
  (∀ st a w,Kn st=some r→Fa S I0 B w0 st a w→Q .normal a w)→(∀ id st a w,Kx id st=some r→Fa S I0 B w0 st a w→Q (.exit id) a w) →
  (∀ st a w,Kr st=some r→Fa S I0 B w0 st a w→Q .ret a w)→c.wp P Q a w
theorem Y4 {H:Option A5} {st st1:St} (hc:canon H st=some st1) {a:Act} {w:World} (hh:Fa S I0 B w0 st a w):Fa S I0 B w0 st1 a w:=by
 cases H with
 | none=>simp only [canon,Aw6] at hc; subst hc; exact hh
 | some H=>exact Ams hc hh
theorem Ack {β:Type} {r:β} {c:Code} {body:St→(St→Option β)→(Nat→St→Option β)→(St→Option β)→Option β} (hb:Am5 P S I0 B w0 r c body) {H:Option A5} {Kx:Nat→St→Option β} {Kr:St→Option β}
 {Q:Exit→Act→World→Prop} (hx:∀ id st a w,Kx id st=some r→Fa S I0 B w0 st a w→Q (.exit id) a w) (hr:∀ st a w,Kr st=some r→Fa S I0 B w0 st a w→Q .ret a w) :
 ∀ (n:Nat) (st:St),Wv H body n st Kx Kr=some r→∀ a w,Fa S I0 B w0 st a w→Code.rounds P c Q n a w
 | 0,st,h,_,_,_=>by simp [Wv] at h
 | n+1,st,h,a,w,hh=>by
   simp only [Wv] at h
   rw [rounds_succ]
   refine hb st _ Kx Kr h a w hh _ (fun st2 a2 w2 hk hh2=>?_) (fun id st2 a2 w2 hk hh2=>hx id st2 a2 w2 hk hh2) (fun st2 a2 w2 hk hh2=>hr st2 a2 w2 hk hh2)
   cases hc:canon H st2 with
   | none=>rw [hc] at hk; cases hk
   | some st3 =>
     rw [hc] at hk
     exact Ack hb hx hr n st3 hk a2 w2 (Y4 hc hh2)
theorem Apj {β:Type} {r:β} {c:Code} {body:St→(St→Option β)→(Nat→St→Option β)→(St→Option β)→Option β} (hb:Am5 P S I0 B w0 r c body) {H:Option A5} {Kx:Nat→St→Option β} {Kr:St→Option β}
 {Q:Exit→Act→World→Prop} (hx:∀ id st a w,Kx id st=some r→Fa S I0 B w0 st a w→Q (.exit id) a w) (hr:∀ st a w,Kr st=some r→Fa S I0 B w0 st a w→Q .ret a w)
 (n:Nat) (st:St) (h:iter H body n st Kx Kr=some r) (a:Act) (w:World) (hh:Fa S I0 B w0 st a w):Code.rounds P c Q n a w:=by
 unfold iter at h
 cases hc:canon H st with
 | none=>rw [hc] at h; cases h
 | some st1 =>
   rw [hc] at h
   exact Ack hb hx hr n st1 h a w (Y4 hc hh)
theorem O8 {β:Type} (he:I2 P E) (fuel:Nat) (r:β):∀ (c:Code) (b:Nat),Am5 P S I0 B w0 r c (den E fuel b c)
 | .skip,b=>fun st Kn Kx Kr h a w hh Q hn hx hr=>by
   simp only [den] at h
   exact wp_skip (hn st a w h hh)
 | .label l,b=>fun st Kn Kx Kr h a w hh Q hn hx hr=>by
   simp only [den] at h
   exact wp_label (hn st a w h hh)
 | .region id ops draw,b=>fun st Kn Kx Kr h a w hh Q hn hx hr=>by
   simp only [den] at h
   have reg:∀ st,Abt E ops draw Kn st=some r→Fa S I0 B w0 st a w→(Code.region id ops draw).wp P Q a w:=by
    intro st h hh
    cases draw with
    | true=>exact Amg he h hh hn
    | false =>
      simp only [Abt,Aw7] at h
      have:=Af6 he ops.toList 0 _ (fun j=>by simp) h a w hh hn
      rw [Array.length_toList,← List.range_eq_range'] at this
      exact wp_region this
   cases hl:E.live id with
   | none=>rw [hl] at h; exact reg st h hh
   | some ks =>
     rw [hl] at h
     simp only [X5] at h
     exact reg _ h hh.forget
 | .seq x y,b=>fun st Kn Kx Kr h a w hh Q hn hx hr=>by
   simp only [den] at h
   refine wp_seq (O8 he fuel r x b st _ Kx Kr h a w hh _ (fun st' a' w' hk hh'=>?_) (fun id st' a' w' hk hh'=>hx id st' a' w' hk hh') (fun st' a' w' hk hh'=>hr st' a' w' hk hh'))
   exact O8 he fuel r y b st' Kn Kx Kr hk a' w' hh' Q hn hx hr
 | .cond c x y,b=>fun st Kn Kx Kr h a w hh Q hn hx hr=>by
   simp only [den] at h
   cases hv:Gp st.tmps c with
   | bool t =>
     rw [hv] at h
     simp only at h
     have hev:a.eval c=.bool t:=by
      obtain ⟨A,hA⟩:=hh
      have:Aj (Be I0 B A w) w (Gp st.tmps c) (a.eval c):=by
       cases c with
       | tmp t=>exact hA.tmps t
       | const v=>exact Y1 v
       | global g=>simp only [Gp,Aj]
       | func f=>simp [Gp] at hv
      rw [hv] at this
      simpa only [Aj] using this
     refine wp_cond hev ?_
     cases t with
     | true=>exact O8 he fuel r x b st Kn Kx Kr h a w hh Q hn hx hr
     | false=>exact O8 he fuel r y b st Kn Kx Kr h a w hh Q hn hx hr
   | _=>rw [hv] at h; cases h
 | .block id c,b=>fun st Kn Kx Kr h a w hh Q hn hx hr=>by
   simp only [den] at h
   refine wp_block (O8 he fuel r c id st Kn _ Kr h a w hh _ (fun st' a' w' hk hh'=>hn st' a' w' hk hh') (fun id' st' a' w' hk hh'=>?_) (fun st' a' w' hk hh'=>hr st' a' w' hk hh'))
   simp only [Exit.inBlock]
   by_cases e:id'=id
   ·rw [Axq e]
    rw [show (id'==id)=true by simpa using e] at hk
    exact hn st' a' w' hk hh'
   ·rw [Axp e]
    rw [show (id'==id)=false by simpa using e] at hk
    exact hx id' st' a' w' hk hh'
 | .loop c,b=>fun st Kn Kx Kr h a w hh Q hn hx hr=>by
   simp only [den] at h
   exact wp_loop_rounds fuel (Apj (O8 he fuel r c b) hx hr fuel st h a w hh)
 | .scope c,b=>fun st Kn Kx Kr h a w hh Q hn hx hr=>by
   simp only [den] at h
   exact wp_scope_straight (O8 he fuel r c b st Kn Kx Kr h a w hh _ (fun st' a' w' hk hh'=>hn st' a' w' hk hh') (fun id st' a' w' hk hh'=>hx id st' a' w' hk hh') (fun st' a' w' hk hh'=>hr st' a' w' hk hh'))
 | .exit id,b=>fun st Kn Kx Kr h a w hh Q hn hx hr=>by
   simp only [den] at h
   exact wp_exit (hx id st a w h hh)
 | .ret,b=>fun st Kn Kx Kr h a w hh Q hn hx hr=>by
   simp only [den] at h
   exact wp_ret (hr st a w h hh)
 | .rangeFunc ..,b=>fun st Kn Kx Kr h=>by simp [den] at h
 | .goto l,b=>fun st Kn Kx Kr h=>by simp [den] at h
 | .refuse s,b=>fun st Kn Kx Kr h=>by simp [den] at h
end
end Go.Den
namespace Go.Den
open Go.RowKit (Below)
def Aku:List Value→Value
 | [v]=>v
 | vs=>.tuple vs.toArray
def Te (tmps:Array Value):ResultVar→Sem Value
 | .tmp t=>pure (tmps.getD t undef)
 | .cell a t=>do loadVar t (← asAddr (tmps.getD a undef))
section
variable {P:Program} {E:Env} {S I0:Nat→Prop} {B:Nat} {w0:World} {A:Nat→Option Place}
theorem Ad4 {t:TypeId} {va v:Value} {w:World} (h:(Instr.loadAt t va).run P w=.ok v w):(do loadVar t (← asAddr va):Sem Value).run P w=.ok v w:=by
 unfold Instr.loadAt at h
 cases va with
 | pointer a =>
   cases a with
   | none=>simp [Instr.sureAddr] at h
   | some a =>
     simp only [Instr.sureAddr,asAddr] at h ⊢
     exact h
 | _=>simp [Instr.sureAddr] at h
theorem Ahs (hty:∀ t ti,E.ty t=some ti→Bq P t ti) {st:St} {a:Act} {w:World} (hA:H6 S I0 B w0 A (look st.heap) (fun t=>st.tmps.getD t .undef) st.tmps.length a w)
 {r:ResultVar} {d:DV} (h1:V9 E st r=some d):∃ v,Aj (Be I0 B A w) w d v∧(Te a.tmps r).run P w=.ok v w:=by
 cases r with
 | tmp t =>
   simp only [V9,Aw6] at h1
   subst h1
   exact ⟨_,hA.tmps t,by simp [Te]⟩
 | cell x t =>
   simp only [V9] at h1
   cases hT:E.ty t with
   | none=>simp [hT] at h1
   | some ti =>
     rw [hT,Axb] at h1
     cases hl:Yp st.heap ti (st.tmps.getD x .undef) with
     | none=>rw [hl] at h1; cases h1
     | some q =>
       rw [hl,Axb] at h1
       cases hq:q.req with
       | false=>rw [hq] at h1; cases h1
       | true =>
         rw [hq,Aw3,Aw6] at h1
         subst h1
         have hm:Mem I0 B A st.heap w:=hA.mem fun n p fo _ hl=>hl
         obtain ⟨v,hr,hv⟩:=Ace hm (hty _ _ hT) (hA.tmps x) hl hq
         exact ⟨v,hv,Ad4 hr⟩
theorem Yc (hty:∀ t ti,E.ty t=some ti→Bq P t ti) {st:St} {a:Act} {w:World} (hA:H6 S I0 B w0 A (look st.heap) (fun t=>st.tmps.getD t .undef) st.tmps.length a w) :
 ∀ (rs:List ResultVar) (ds:List DV),Qr E st rs=some ds→∃ vs:List Value,Az (Be I0 B A w) w ds vs∧(rs.mapM (Te a.tmps)).run P w=.ok vs w
 | [],ds,h=>by
   simp only [Qr,Aw6] at h; subst h
   exact ⟨[],by simp [Az],rfl⟩
 | r::rs,ds,h=>by
   simp only [Qr] at h
   cases h1:V9 E st r with
   | none=>simp [h1] at h
   | some d =>
     cases h2:Qr E st rs with
     | none=>simp [h1,h2] at h
     | some ds' =>
       simp only [h1,h2,Axb,Aw6] at h
       subst h
       obtain ⟨vs,i1,i2⟩:=Yc hty hA rs ds' h2
       obtain ⟨v,hv,hr⟩:=Ahs hty hA h1
       refine ⟨v::vs,by rw [Az.B9]; exact ⟨v,vs,rfl,hv,i1⟩,?_⟩
       simp only [List.mapM_cons,Sem.run_bind,hr,Result.andThen_ok,i2,Sem.run_pure]
theorem Abo {fn:Func} {tmps:Array Value} {w:World} {vs:List Value} (h:(fn.results.toList.mapM (Te tmps)).run P w=.ok vs w) :
 (results fn tmps).run P w=.ok (Aku vs) w:=by
 have h':(fn.results.mapM (Te tmps)).run P w=.ok vs.toArray w:=by
  rw [Array.mapM_eq_mapM_toList]
  simp only [Sem.run_map,h,Result.andThen_ok]
 have e:results fn tmps=(do let vs←fn.results.mapM (Te tmps); pure (if h:vs.size=1 then vs[0] else .tuple vs)):=by
  unfold results
  congr 2
 rw [e]
 simp only [Sem.run_bind,h',Result.andThen_ok,Sem.run_pure]
 congr 1
 match vs with
 | []=>rfl
 | [v]=>rfl
 | v::u::us=>simp [Aku]
def K9 (h:Dc) (f:Nat) (l:List DV):Option (List DV × List Nat × List Nat) :=
 l.foldr (fun d acc=>(Fs h f d).bind fun (x,ns,os)=>acc.bind fun (xs,ms,ps)=>some (x::xs,ns++ms,os++ps)) (some ([],[],[]))
theorem Ti {h:Dc} {f:Nat} {d:DV} {l:List DV} {r:List DV × List Nat × List Nat} (hh:K9 h f (d::l)=some r) :
 ∃ x ns os xs ms ps,Fs h f d=some (x,ns,os)∧K9 h f l=some (xs,ms,ps)∧r=(x::xs,ns++ms,os++ps):=by
 have e:K9 h f (d::l)=(Fs h f d).bind fun (x,ns,os)=>(K9 h f l).bind fun (xs,ms,ps)=>some (x::xs,ns++ms,os++ps):=rfl
 rw [e] at hh
 cases h1:Fs h f d with
 | none=>simp [h1] at hh
 | some a =>
   obtain ⟨x,ns,os⟩:=a
   cases h2:K9 h f l with
   | none=>simp [h1,h2] at hh
   | some b =>
     obtain ⟨xs,ms,ps⟩:=b
     simp only [h1,h2,Axb,Aw6] at hh
     exact ⟨x,ns,os,xs,ms,ps,rfl,rfl,hh.symm⟩
def Jz (A:Nat→Option Place) (OS:List Nat) (i:Nat):Option Nat :=
 if i∈OS then match A i with
  | some p=>if p.st=.live then p.Gb else none
  | none=>none
 else none
theorem Mq {OS:List Nat} {i b:Nat} (h:Jz A OS i=some b):i∈OS∧∃ p,A i=some p∧p.st=.live∧p.Gb=some b:=by
 unfold Jz at h
 split at h
 ·cases hA:A i with
  | none=>rw [hA] at h; cases h
  | some p =>
    rw [hA] at h
    simp only at h
    split at h
    ·exact ⟨‹_›,p,rfl,‹_›,h⟩
    ·cases h
 ·cases h
theorem Aby {OS:List Nat} {i b:Nat} {p:Place} (h:i∈OS) (hp:A i=some p) (hl:p.st=.live) (hb:p.Gb=some b):Jz A OS i=some b:=by
 unfold Jz
 rw [Axq h,hp]
 simp only [hl,if_true,hb]
theorem Akl {h:Dc} {w w':World} (hm:Mem I0 w.heap.size A h w') {NS OS:List Nat} (hdis:∀ n∈NS,n ∉ OS) :
 ∀ (f:Nat) (d:DV) (v:Value) d' ns os,Fs h f d=some (d',ns,os)→(∀ n∈ns,n∈NS)→(∀ n∈os,n∈OS)→Aj (Be I0 w.heap.size A w') w' d v→Aj (Dd I0 (Jz A OS) w w') w' d' v:=by
 have hok:∀ b,(Be I0 w.heap.size A w').ok b→(Dd I0 (Jz A OS) w w').ok b:=by
  rintro b ⟨h1,h2,h3⟩
  refine ⟨h1,h2,fun i hi=>?_⟩
  obtain ⟨_,p,hp,hl,hb⟩:=Mq hi
  exact h3 i p hp hl hb
 have hbare:∀ l rows,Cl (Be I0 w.heap.size A w').bare w' l rows→Cl (Dd I0 (Jz A OS) w w').bare w' l rows:=fun l rows =>
  Cl.Cz (c:=(Be I0 w.heap.size A w').bare) (c':=(Dd I0 (Jz A OS) w w').bare) (w:=w') (w':=w') ⟨hok,rfl,rfl,fun _ _ h=>(by cases h),fun _ _ h=>(by cases h),fun _ _ _=>rfl,fun _ _ h=>(by cases h)⟩ l rows
 have hleaf:∀ d v,Eb 1 [] d=true→Aj (Be I0 w.heap.size A w') w' d v→Aj (Dd I0 (Jz A OS) w w') w' d v:=by
  intro d v hd hv
  have hl:Kd ((Be I0 w.heap.size A w').only []) w' (Dd I0 (Jz A OS) w w') w' :=
   ⟨hok,rfl,rfl,fun _ _ h=>(by cases h),fun n p hp=>(by simp [Ctx.only] at hp),fun _ _ _=>rfl,fun _ _ h=>(by cases h)⟩
  exact Aj.Cz hl d v (Zw [] 1 d v hd hv)
 have frozenBlk:∀ n p,A n=some p→p.st≠.dead→(p.st≠.live∨n ∉ OS)→∀ b,p.Gb=some b→(Dd I0 (Jz A OS) w w').Gb .fresh b:=by
  intro n p hp hd hc b hb
  obtain ⟨h1,h2⟩:=hm.blkB n p b hp hd hb
  refine ⟨⟨h2,.inr h1,fun i hi=>?_⟩,rfl,h1⟩
  obtain ⟨hio,q,hq,hl,hqb⟩:=Mq hi
  have e:=hm.inj n i p q b hp hq hd (by rw [hl]; simp) hb hqb
  subst e
  rw [hp] at hq; cases hq
  rcases hc with hc | hc
  ·exact hc hl
  ·exact hc hio
 intro f
 induction f with
 | zero=>intro d v d' ns os h; simp [Fs] at h
 | succ f ih =>
   have all:∀ (l:List DV) (vs:List Value) l' ns os,K9 h f l=some (l',ns,os)→(∀ n∈ns,n∈NS)→(∀ n∈os,n∈OS)→Az (Be I0 w.heap.size A w') w' l vs→Az (Dd I0 (Jz A OS) w w') w' l' vs:=by
    intro l
    induction l with
    | nil =>
      intro vs l' ns os hr _ _ hv
      simp only [K9,List.foldr_nil,Aw6,Axc] at hr
      obtain ⟨rfl,_,_⟩:=hr
      rw [Az.F1] at hv ⊢; exact hv
    | cons d l ihl =>
      intro vs l' ns os hr h1 h2 hv
      obtain ⟨x,n1,o1,xs,ms,ps,e1,e2,e⟩:=Ti hr
      cases e
      rw [Az.B9] at hv ⊢
      obtain ⟨u,us,e,hu,hus⟩:=hv
      exact ⟨u,us,e,ih d u x n1 o1 e1 (fun n hn=>h1 n (List.mem_append.2 (.inl hn))) (fun n hn=>h2 n (List.mem_append.2 (.inl hn))) hu,
       ihl us xs ms ps e2 (fun n hn=>h1 n (List.mem_append.2 (.inr hn))) (fun n hn=>h2 n (List.mem_append.2 (.inr hn))) hus⟩
   intro d v d' ns os hr hns hos hv
   cases d with
   | agg l =>
     have hr:(K9 h f l).bind (fun (l,ns,os)=>some (DV.agg l,ns,os))=some (d',ns,os):=hr
     cases hl:K9 h f l with
     | none=>rw [hl] at hr; cases hr
     | some r =>
       obtain ⟨l',ns',os'⟩:=r
       rw [hl] at hr
       simp only [Axb,Aw6,Axc] at hr
       obtain ⟨rfl,rfl,rfl⟩:=hr
       simp only [Aj] at hv ⊢
       obtain ⟨vs,e,h1⟩:=hv
       exact ⟨vs,e,all l _ l' _ _ hl hns hos h1⟩
   | tup l =>
     have hr:(K9 h f l).bind (fun (l,ns,os)=>some (DV.tup l,ns,os))=some (d',ns,os):=hr
     cases hl:K9 h f l with
     | none=>rw [hl] at hr; cases hr
     | some r =>
       obtain ⟨l',ns',os'⟩:=r
       rw [hl] at hr
       simp only [Axb,Aw6,Axc] at hr
       obtain ⟨rfl,rfl,rfl⟩:=hr
       simp only [Aj] at hv ⊢
       obtain ⟨vs,e,h1⟩:=hv
       exact ⟨vs,e,all l _ l' _ _ hl hns hos h1⟩
   | oref n =>
     simp only [Aj] at hv
     obtain ⟨hone,p,hp,hd⟩:=hv
     simp only [Fs] at hr
     split at hr
     ·rename_i e k l hl
      simp only [Aw6,Axc] at hr
      obtain ⟨rfl,rfl,rfl⟩:=hr
      obtain ⟨hst,sv,hk,ho⟩:=D6 hm hp hl
      obtain ⟨size,hk'⟩:=hd.resolve_left (Bk hst)
      rw [hk] at hk'; cases hk'
      simp only [Aj]
      exact ⟨ho,fun b hb=>Aby (hos n (by simp)) hp hst (by unfold Place.Gb; rw [hk]; exact hb)⟩
     ·rename_i e sz l hl
      simp only [Aw6,Axc] at hr
      obtain ⟨rfl,rfl,rfl⟩:=hr
      obtain ⟨hst,hsz,sv,rows,hk,hrr,hlen,ho⟩:=Ec hm hp hl
      obtain ⟨size,hk'⟩:=hd.resolve_left (Bk hst)
      rw [hk] at hk'; cases hk'
      simp only [Aj]
      exact ⟨rows,hbare _ _ hrr,hlen,ho,fun b hb=>Aby (hos n (by simp)) hp hst (by unfold Place.Gb; rw [hk]; exact hb)⟩
     ·rename_i e k l hl
      simp only [Aw6,Axc] at hr
      obtain ⟨rfl,rfl,rfl⟩:=hr
      obtain ⟨hst,sv,hk,ho⟩:=D6 hm hp hl
      obtain ⟨size,hk'⟩:=hd.resolve_left (Bk hst)
      rw [hk] at hk'; cases hk'
      have hst':p.st=.frozen:=hst
      have:=Jd hk ho (Fi ho) (ok:=(Dd I0 (Jz A OS) w w').Gb .fresh) (frozenBlk n p hp (Bk hst) (.inl (by rw [hst']; simp)))
      simp only [List.drop_zero,List.take_length] at this
      simp only [Aj]
      exact this
     ·rename_i e sz l hl
      simp only [Aw6,Axc] at hr
      obtain ⟨rfl,rfl,rfl⟩:=hr
      obtain ⟨hst,hsz,sv,rows,hk,hrr,hlen,ho⟩:=Ec hm hp hl
      obtain ⟨size,hk'⟩:=hd.resolve_left (Bk hst)
      rw [hk] at hk'; cases hk'
      have hst':p.st=.frozen:=hst
      have:=Jc hk (hbare _ _ hrr) hlen ho (Fi ho) (ok:=(Dd I0 (Jz A OS) w w').Gb .fresh) (frozenBlk n p hp (Bk hst) (.inl (by rw [hst']; simp)))
      simp only [List.drop_zero,List.take_length] at this
      simp only [Aj]
      exact this
     ·cases hr
   | sref n off len =>
     simp only [Aj] at hv
     obtain ⟨hone,p,hp,hd⟩:=hv
     simp only [Fs] at hr
     split at hr
     ·rename_i fz e k l hl
      simp only [Aw6,Axc] at hr
      obtain ⟨rfl,rfl,rfl⟩:=hr
      obtain ⟨hst,sv,hk,ho⟩:=D6 hm hp hl
      obtain ⟨sv',size,hk',hs⟩:=hd.resolve_left (Bk hst)
      rw [hk] at hk'; cases hk'
      have:=Jd hk ho hs (ok:=(Dd I0 (Jz A OS) w w').Gb .fresh) (frozenBlk n p hp (Bk hst) (.inr (hdis n (hns n (by simp)))))
      simp only [Aj]
      exact this
     ·rename_i fz e sz l hl
      simp only [Aw6,Axc] at hr
      obtain ⟨rfl,rfl,rfl⟩:=hr
      obtain ⟨hst,hsz,sv,rows,hk,hrr,hlen,ho⟩:=Ec hm hp hl
      obtain ⟨sv',size,hk',hs⟩:=hd.resolve_left (Bk hst)
      rw [hk] at hk'; cases hk'
      have:=Jc hk (hbare _ _ hrr) hlen ho hs (ok:=(Dd I0 (Jz A OS) w w').Gb .fresh) (frozenBlk n p hp (Bk hst) (.inr (hdis n (hns n (by simp)))))
      simp only [Aj]
      exact this
     ·cases hr
   | ptr n i j=>simp [Fs] at hr
   | fn g a b=>simp [Fs] at hr
   | gd g d=>simp [Fs] at hr
   | undef=>simp [Fs] at hr
   | cellp cs=>simp [Fs] at hr
   | nil=>simp only [Fs,Aw6,Axc] at hr; obtain ⟨rfl,_,_⟩:=hr; exact hleaf _ _ rfl hv
   | bool b=>simp only [Fs,Aw6,Axc] at hr; obtain ⟨rfl,_,_⟩:=hr; exact hleaf _ _ rfl hv
   | int k n=>simp only [Fs,Aw6,Axc] at hr; obtain ⟨rfl,_,_⟩:=hr; exact hleaf _ _ rfl hv
   | fl n=>simp only [Fs,Aw6,Axc] at hr; obtain ⟨rfl,_,_⟩:=hr; exact hleaf _ _ rfl hv
   | nb n=>simp only [Fs,Aw6,Axc] at hr; obtain ⟨rfl,_,_⟩:=hr; exact hleaf _ _ rfl hv
   | ints g k l=>simp only [Fs,Aw6,Axc] at hr; obtain ⟨rfl,_,_⟩:=hr; exact hleaf _ _ rfl hv
   | recs g k l=>simp only [Fs,Aw6,Axc] at hr; obtain ⟨rfl,_,_⟩:=hr; exact hleaf _ _ rfl hv
end
end Go.Den
namespace Go.Den
open Go.RowKit (Below)
theorem Af0 {S:Nat→Prop} {P:Program} {E:Env} (hty:∀ t ti,E.ty t=some ti→Bq P t ti) {I:Nat→Prop} {fn:Func} {st:St} {out:DV} (h:Xl E fn st=some out) {w w':World} {a:Act} (hh:Fa S I w.heap.size w st a w') :
 ∃ v own,(results fn a.tmps).run P w'=.ok v w'∧Below w.heap.size w w'∧Am7 own w w'∧Aj (Dd I own w w') w' out v:=by
 obtain ⟨A,hA⟩:=hh
 unfold Xl at h
 cases hds:Qr E st fn.results.toList with
 | none=>simp [hds] at h
 | some ds =>
   rw [hds,Axb] at h
   obtain ⟨vs,hv,hr⟩:=Yc hty hA _ ds hds
   have hm:Mem I w.heap.size A st.heap w':=hA.mem fun n p fo _ hl=>hl
   have hone:Aj (Be I w.heap.size A w') w' (Akv ds) (Aku vs):=by
    match ds,vs,hv with
    | [],vs,hv =>
      rw [Az.F1] at hv; subst hv
      simp only [Aj,Akv,Aku]
      exact ⟨#[],rfl,by simp [Az]⟩
    | [d],vs,hv =>
      rw [Az.B9] at hv
      obtain ⟨u,us,rfl,h1,h2⟩:=hv
      rw [Az.F1] at h2; subst h2
      exact h1
    | d::d'::ds,vs,hv =>
      have hv':=hv
      rw [Az.B9] at hv
      obtain ⟨u,us,rfl,h1,h2⟩:=hv
      rw [Az.B9] at h2
      obtain ⟨u',us',rfl,h3,h4⟩:=h2
      simp only [Aj,Akv,Aku]
      exact ⟨_,rfl,by simpa using hv'⟩
   cases hrs:Fs st.heap 6 (Akv ds) with
   | none=>rw [hrs] at h; cases h
   | some r =>
     obtain ⟨d,ns,os⟩:=r
     rw [hrs,Axb] at h
     simp only at h
     cases hc:(ns.all fun n=>!(os.contains n)) with
     | false=>rw [hc] at h; cases h
     | true =>
       rw [hc,Aw3,Aw6] at h
       subst h
       have hdis:∀ n∈ns,n ∉ os:=fun n hn hno=>by
        have:=List.all_eq_true.1 hc n hn
        simp [hno] at this
       refine ⟨_,Jz A os,Abo hr,hA.below,⟨fun i b hb=>?_,fun i j b hi hj=>?_⟩,Akl hm hdis 6 _ _ _ ns os hrs (fun _ h=>h) (fun _ h=>h) hone⟩
       ·obtain ⟨_,p,hp,hl,hpb⟩:=Mq hb
        exact hm.blkB i p b hp (by rw [hl]; simp) hpb
       ·obtain ⟨_,p,hp,hl,hpb⟩:=Mq hi
        obtain ⟨_,q,hq,hl',hqb⟩:=Mq hj
        exact hm.inj i j p q b hp hq (by rw [hl]; simp) (by rw [hl']; simp) hpb hqb
theorem Ase {P:Program} {E:Env} (he:I2 P E) {fuel:Nat} {f:FuncId} {fn:Func} {body:Code} (hf:P.funcs[f]?=some fn) (hb:fn.body=some body) {args:List DV} {out:DV} (h:B0 E fuel fn body args=some out):N3 P f args out:=by
 intro w vals I hI hv
 refine calls_of_wp hf hb ?_
 unfold B0 at h
 have hlen:args.length=vals.size:=by have:=hv.length; simpa using this
 have hh:Fa (fun _=>False) I w.heap.size w ⟨args++List.replicate (fn.ntmps-args.length) .undef,[]⟩ ⟨vals++Array.replicate (fn.ntmps-vals.size) undef,[]⟩ w:=by
  refine ⟨fun _=>none,rfl,by simp only [Array.size_append,Array.size_replicate,Axv,List.length_replicate]; omega,Below.refl _ _,Axx _,hI,fun n p h=>(by cases h),fun n p b h=>(by cases h),fun n m p q b h=>(by cases h),fun t=>?_,fun b h=>h.elim⟩
  have hw:Ix (Iv I) (Be I w.heap.size (fun _=>none) w):=⟨fun b hb=>⟨hI b hb,.inl hb,fun n p h=>(by cases h)⟩,rfl,fun _=>rfl,fun _=>rfl⟩
  have hl:=Az.Ez hw _ _ hv
  rcases Ax0 t args.length with hlt | hge
  ·obtain ⟨v,h1,h2⟩:=hl.getD t hlt
   simp only [Axd,List.getElem?_append_left hlt] at h2 ⊢
   have hlt':t<vals.size:=by omega
   have e:(vals++Array.replicate (fn.ntmps-vals.size) undef).getD t undef=v:=by
    rw [Array.getD_eq_getD_getElem?,Array.getElem?_append_left hlt']
    rw [Array.getElem?_toList] at h1
    rw [h1]; rfl
   rw [e]; exact h2
  ·rw [Axd,Ayh hge,List.getElem?_replicate]
   split<;>simp only [Ayn,Option.getD_none,Aj]
 refine O8 he fuel out body 0 _ _ _ _ h _ _ hh _ (fun st a w' hk hh'=>?_) (fun id st a w' hk=>by cases hk) (fun st a w' hk hh'=>?_)
 ·obtain ⟨v,own,h1,h2,h3,h4⟩:=Af0 he.ty hk hh'
  have hd:a.defers=[]:=by obtain ⟨A,hA⟩:=hh'; exact hA.defers
  exact ⟨hd,v,h1,v,own,rfl,h2,h3,h4⟩
 ·obtain ⟨v,own,h1,h2,h3,h4⟩:=Af0 he.ty hk hh'
  have hd:a.defers=[]:=by obtain ⟨A,hA⟩:=hh'; exact hA.defers
  exact ⟨hd,v,h1,v,own,rfl,h2,h3,h4⟩
end Go.Den
end
