/- A verified evaluator of the program's form and its use for this seat: Den21, Den22, Den23, Den24, Den25, Den26, Den27, Den28, Den29, Den30, Den31. -/
import Derived.Orders
import Derived.Test.YthajngaadbanfaaGreatTB
import Derived.Laws.CopyRow
import Derived.Laws.IdiomCopy
import Derived.LoopN
import Derived.Scope
set_option linter.unusedVariables false
set_option linter.unusedSimpArgs false
noncomputable section
open Int (toNat)
open List (length getD)
namespace Go.Den
open Go.RowKit (Below)
def Ks (P:Program) (ops:Array Oper) (o:Oper) (a:Act) (w:World) (Q:Exit→Act→World→Prop) (G:Value→World→Prop):Prop :=
 ∀ K:Act→World→Prop,(∀ v w',G v w'→K (a.put o.dst v) w') →
  if Region.wanted o (yielded ops a.tmps) then o.wp P a w K Q else K (a.put o.dst undef) w
theorem Ks.mono {P:Program} {ops:Array Oper} {o:Oper} {a:Act} {w:World} {Q:Exit→Act→World→Prop} {G G':Value→World→Prop} (h:Ks P ops o a w Q G) (hg:∀ v w',G v w'→G' v w'):Ks P ops o a w Q G' :=
 fun K hK=>h K fun v w' hh=>hK v w' (hg v w' hh)
theorem Fl.wp {P:Program} {o:Oper} {a:Act} {w:World} {K:Act→World→Prop} {Q:Exit→Act→World→Prop} {K':Value→World→Prop} (h:Fl P (execOp a.eval o) w K') (hK:∀ v w',K' v w'→K (a.put o.dst v) w'):o.wp P a w K Q:=by
 unfold Fl at h
 unfold Oper.wp
 split at h
 ·rename_i v w' hr
  rw [hr,Oper.upon_value]; exact hK _ _ h
 ·rename_i f args w' hr
  rw [hr,Oper.upon_enter]
  refine Calls.mono h fun e w'' ⟨v,he,hk⟩=>?_
  subst he; exact hK _ _ hk
 ·exact h.elim
section
variable {P:Program} {E:Env} {I0:Nat→Prop} {B:Nat} {A:Nat→Option Place} {h:El} {w:World}
theorem N4 {c:Ctx} {g:Bool} {d:DV} {v:Value} (hv:Au c w d v) (hg:g=true) (hs:(Ih g d).2=true):Au c w (Ih g d).1 v:=by
 subst hg
 cases d<;>try exact hv
 rename_i c' d'
 simp only [Ih,A5f,Bool.false_or] at hs ⊢
 simp only [Au] at hv
 exact hv.1 hs
theorem Ams {c:Ctx} {ops:Array Oper} {l:List DV} {o:Oper} {a:Act} (hsz:a.tmps.size=l.length)
 (hrd:∀ t∈o.looksAt ops,Au c w (l.getD t .undef) (a.tmps.getD t undef)) {g?:Option Bool} (hc:Qv ops l o=some g?) :
 (g?=none∧o.guard=none)∨∃ b,g?=some b∧Region.wanted o (yielded ops a.tmps)=b:=by
 unfold Qv at hc
 split at hc
 ·rename_i hg
  cases hc; exact .inl ⟨rfl,hg⟩
 ·rename_i j want hg
  cases hd:(ops[j]?).bind (·.dst) with
  | none=>simp [hd] at hc
  | some d =>
    simp only [hd] at hc
    have hv:=hrd d (by unfold Oper.looksAt; simp [hg,hd])
    have hlt:∀ {x:DV},l.getD d .undef=x→x≠.undef→d<a.tmps.size:=fun {x} hx hne=>by
     rw [hsz]
     refine Nat.lt_of_not_le fun hle=>hne ?_
     rw [← hx,A4q,A5y hle]; rfl
    have hy:∀ {u:Value},d<a.tmps.size→a.tmps.getD d undef=u→yielded ops a.tmps j=match u with | .bool b=>some b | _=>none:=fun {u} hl hu=>by
     unfold yielded
     rw [hd,A4o]
     have:a.tmps[d]?=some u:=by
      rw [A40 hl]
      rw [Array.getD_eq_getD_getElem?,A40 hl] at hu
      exact congrArg some hu
     rw [this]
     cases u<;>rfl
    split at hc
    ·rename_i b hb
     cases hc
     rw [hb] at hv; simp only [Au] at hv
     refine .inr ⟨_,rfl,?_⟩
     unfold Region.wanted; rw [hg]; simp only
     rw [hy (hlt hb (by simp)) hv]
     cases b<;>cases want<;>rfl
    ·rename_i c' b hb
     cases hc
     rw [hb] at hv; simp only [Au] at hv
     refine .inr ⟨_,rfl,?_⟩
     unfold Region.wanted; rw [hg]; simp only
     cases c' with
     | true =>
       rw [hy (hlt hb (by simp)) (hv.1 rfl)]
       cases b<;>cases want<;>rfl
     | false =>
       rw [hy (hlt hb (by simp)) (hv.2 rfl)]
       cases want<;>rfl
    ·cases hc
def R7 (g?:Option Bool) (v:DV):DV:=match g? with | some c=>.gd c v | none=>v
theorem Agi {c:Ctx} {g?:Option Bool} {d:DV} {v:Value} (hg:g?.getD true=true) (hv:Au c w d v):Au c w (R7 g? d) v:=by
 cases g? with
 | none=>exact hv
 | some b =>
   simp only [A50] at hg; subst hg
   simp only [R7,Au]
   exact ⟨fun _=>hv,fun e=>by cases e⟩
theorem Aro (he:Kb P E) (hm:Mem I0 B A h w) {ops:Array Oper} {l:List DV} {o:Oper} {a:Act}
 (hops:∀ x∈o.op.operands.toList,Au (B3 I0 B A w) w (H6 l x) (a.eval x))
 {g?:Option Bool} (hg:(g?=none∧o.guard=none)∨∃ b,g?=some b∧Region.wanted o (yielded ops a.tmps)=b)
 {nm:Nat} {r:R2} (hq:Fj E h nm (fun x=>(Ih (g?.getD true) (H6 l x)).1) o.op=some r)
 (hreq:(!(g?.getD true)||(Ut (g?.getD true) (H6 l) o.op.operands.toList&&r.req))=true)
 (hfrz:r.frz=[]∨g?.getD true=true)
 (hnew:∀ n ob,(n,ob)∈r.objs→A n=none) (hnd:(r.objs.map (·.1)).Nodup) {Q:Exit→Act→World→Prop} :
 Ks P ops o a w Q fun v w'=>∃ A',Kl I0 B A w r.objs r.frz A' w'∧Au (B3 I0 B A' w') w' (R7 g? r.v) v:=by
 intro K hK
 have hwant:Region.wanted o (yielded ops a.tmps)=g?.getD true:=by
  rcases hg with ⟨rfl,hg⟩ | ⟨b,rfl,hg⟩
  ·simp [Region.wanted,hg]
  ·simpa using hg
 rw [hwant]
 by_cases hgt:g?.getD true=true
 ·rw [A43 hgt]
  rw [hgt] at hreq hq
  simp only [A5f,Bool.false_or,A4r] at hreq
  have hops':Ops (B3 I0 B A w) w (fun x=>(Ih true (H6 l x)).1) a.eval o.op:=fun x hx=>by
   refine N4 (hops x hx) rfl ?_
   have:=hreq.1
   unfold Ut at this
   rw [List.all_eq_true] at this
   exact this x hx
  exact Fl.wp (K':=fun v w'=>∃ A',Kl I0 B A w r.objs r.frz A' w'∧Au (B3 I0 B A' w') w' (R7 g? r.v) v)
   (An9 he hm hops' hq hreq.2 hnew hnd fun v w' A' h1 h2=>⟨A',h1,Agi hgt h2⟩) hK
 ·rw [A42 hgt]
  have hgf:g?=some false:=by
   cases g? with
   | none=>simp at hgt
   | some b=>simp only [A50,Bool.not_eq_true] at hgt; rw [hgt]
  have h2:r.frz=[]:=hfrz.resolve_right hgt
  subst hgf
  refine hK undef w ⟨A,by rw [h2]; exact Kl.idle _,?_⟩
  simp only [R7,Au]
  exact ⟨fun e=>(by cases e),fun _=>trivial⟩
theorem Avc {ops:Array Oper} {l:List DV} {dst:Option Tmp} {c x y:Operand} {ty:TypeId} {pos:String} {after:Array Edge} {guard:Option (Nat × Bool)} {a:Act} {cx:Ctx}
 (hc:Au cx w (H6 l c) (a.eval c)) (hx:Au cx w (H6 l x) (a.eval x)) (hy:Au cx w (H6 l y) (a.eval y))
 {g?:Option Bool} (hg:(g?=none∧guard=none)∨∃ b,g?=some b∧Region.wanted ⟨dst,.pick c x y,ty,pos,after,guard⟩ (yielded ops a.tmps)=b)
 {c' r:Bool} {v:DV} (hsc:(Ih (g?.getD true) (H6 l c)).1=.bool c') (hp:Al7 c' (H6 l x) (H6 l y)=some (r,v))
 (hreq:(!(g?.getD true)||((Ih (g?.getD true) (H6 l c)).2&&r))=true) {Q:Exit→Act→World→Prop} :
 Ks P ops ⟨dst,.pick c x y,ty,pos,after,guard⟩ a w Q fun u w'=>w'=w∧Au cx w (R7 g? v) u:=by
 intro K hK
 have hwant:Region.wanted ⟨dst,.pick c x y,ty,pos,after,guard⟩ (yielded ops a.tmps)=g?.getD true:=by
  rcases hg with ⟨rfl,hg⟩ | ⟨b,rfl,hg⟩
  ·simp [Region.wanted,hg]
  ·simpa using hg
 rw [hwant]
 by_cases hgt:g?.getD true=true
 ·rw [A43 hgt]
  rw [hgt] at hreq hsc
  simp only [A5f,Bool.false_or,A4r] at hreq
  have hcv:=N4 hc rfl hreq.1
  rw [hsc] at hcv; simp only [Au] at hcv
  refine Fl.wp (K':=fun u w'=>w'=w∧Au cx w (R7 g? v) u) (Fl.value (v:=if c' then a.eval x else a.eval y) (w':=w) ?_ ⟨rfl,Agi hgt ?_⟩) hK
  ·simp [execOp,hcv,asBool]
  ·have h2:=hreq.2
   unfold Al7 at hp
   cases c' with
   | true =>
     simp only [if_true]
     split at hp
     ·rename_i p q e1 e2
      simp only [A4j,A4p] at hp
      obtain ⟨rfl,rfl⟩:=hp
      simp only [A4r] at h2
      have:=N4 hx rfl h2.1
      rw [e1] at this; exact this
     ·rename_i k p k' q e1 e2
      by_cases hk:k=k'
      ·simp only [hk,decide_true,A4g,A4j,A4p] at hp
       obtain ⟨rfl,rfl⟩:=hp
       simp only [A4r] at h2
       have:=N4 hx rfl h2.1
       rw [e1] at this; subst hk; exact this
      ·simp [hk] at hp
     ·cases hp
   | false =>
     simp only [Bool.false_eq_true,if_false]
     split at hp
     ·rename_i p q e1 e2
      simp only [A4j,A4p] at hp
      obtain ⟨rfl,rfl⟩:=hp
      simp only [A4r] at h2
      have:=N4 hy rfl h2.2
      rw [show (!false)=true from rfl] at e2
      rw [e2] at this; exact this
     ·rename_i k p k' q e1 e2
      by_cases hk:k=k'
      ·simp only [hk,decide_true,A4g,A4j,A4p] at hp
       obtain ⟨rfl,rfl⟩:=hp
       simp only [A4r] at h2
       have:=N4 hy rfl h2.2
       rw [show (!false)=true from rfl] at e2
       rw [e2] at this; exact this
      ·simp [hk] at hp
     ·cases hp
 ·rw [A42 hgt]
  have hgf:g?=some false:=by
   cases g? with
   | none=>simp at hgt
   | some b=>simp only [A50,Bool.not_eq_true] at hgt; rw [hgt]
  subst hgf
  refine hK undef w ⟨rfl,?_⟩
  simp only [R7,Au]
  exact ⟨fun e=>(by cases e),fun _=>trivial⟩
theorem Asi {ops:Array Oper} {o:Oper} {t:Tmp} (h:Operand.tmp t∈o.op.operands.toList):t∈o.looksAt ops:=by
 unfold Oper.looksAt
 exact List.mem_append.2 (.inl (List.mem_filterMap.2 ⟨_,h,rfl⟩))
theorem Ad1 {c:Ctx} (v:Value):Au c w (Ak6 v) v:=by
 unfold Ak6
 split<;>simp only [Au]
 exact ⟨_,rfl,.inl rfl⟩
theorem V2 {c:Ctx} {ops:Array Oper} {l:List DV} {o:Oper} {a:Act}
 (hrd:∀ t∈o.looksAt ops,Au c w (l.getD t .undef) (a.tmps.getD t undef)):∀ x∈o.op.operands.toList,Au c w (H6 l x) (a.eval x):=by
 intro x hx
 cases x with
 | tmp t=>exact hrd t (Asi hx)
 | const v=>exact Ad1 v
 | global g=>simp only [H6,Au]
 | func f=>simp [H6,Au,Act.eval,Bj]
theorem A1h (he:Kb P E) {ops:Array Oper} {draw:Bool} {st st':St} {o:Oper} (hs:Nh E ops draw st o=some (true,st')) (hmut:Uf o.op=false)
 (hsp:∀ g?,Qv ops st.tmps o=some g?→(bif draw then none else Pk E st.heap (H6 st.tmps) g? o.op)=none) :
 ∃ d objs frz,st'.tmps=Uo st.tmps o.dst d∧st'.heap=objs.map (fun (x:Nat × OB)=>(x.1,false,x.2))++K5 st.heap frz ∧
  (∀ n ob,(n,ob)∈objs→look st.heap n=none)∧(objs.map (·.1)).Nodup∧(Hc E ops st o=frz∧∀ n∈frz,look st.heap n≠none) ∧
  ∀ {I0:Nat→Prop} {B:Nat} {A:Nat→Option Place} {w:World} {a:Act} {Q:Exit→Act→World→Prop},Mem I0 B A st.heap w→a.tmps.size=st.tmps.length →
   (∀ t∈o.looksAt ops,Au (B3 I0 B A w) w (st.tmps.getD t .undef) (a.tmps.getD t undef))→(∀ n ob,(n,ob)∈objs→A n=none) →
   Ks P ops o a w Q fun v w'=>∃ A',Kl I0 B A w objs frz A' w'∧Au (B3 I0 B A' w') w' d v:=by
 obtain ⟨dst,op,ty,pos,after,guard⟩:=o
 unfold Nh at hs
 cases hc:Qv ops st.tmps ⟨dst,op,ty,pos,after,guard⟩ with
 | none=>simp [hc] at hs
 | some g? =>
 simp only [hc,A4o] at hs
 dsimp only at hmut
 replace hsp:=hsp g? hc
 dsimp only at hsp
 have quiet:∀ (hs:((Fj E st.heap (dst.getD 0) (fun x=>(Ih (g?.getD true) (H6 st.tmps x)).1) op).bind fun r =>
  bif (r.objs.all fun (n,_)=>(look st.heap n).isNone)&&Nk (r.objs.map (·.1))&&(r.objs.isEmpty||dst.isSome)&&(r.frz.isEmpty||r.frz.all fun n=>(look st.heap n).isSome) then
   some (bif r.frz.isEmpty then !(g?.getD true)||(Ut (g?.getD true) (H6 st.tmps) op.operands.toList&&r.req) else g?.getD true&&(Ut (g?.getD true) (H6 st.tmps) op.operands.toList&&r.req),
    ({ tmps:=Uo st.tmps dst (R7 g? r.v),heap:=(r.objs.map fun (n,ob)=>(n,false,ob))++K5 st.heap r.frz }:St))
  else none)=some (true,st')),∃ d objs frz,st'.tmps=Uo st.tmps dst d∧st'.heap=objs.map (fun (x:Nat × OB)=>(x.1,false,x.2))++K5 st.heap frz ∧
  (∀ n ob,(n,ob)∈objs→look st.heap n=none)∧(objs.map (·.1)).Nodup∧(Hc E ops st ⟨dst,op,ty,pos,after,guard⟩=frz∧∀ n∈frz,look st.heap n≠none) ∧
  ∀ {I0:Nat→Prop} {B:Nat} {A:Nat→Option Place} {w:World} {a:Act} {Q:Exit→Act→World→Prop},Mem I0 B A st.heap w→a.tmps.size=st.tmps.length →
   (∀ t∈Oper.looksAt ops ⟨dst,op,ty,pos,after,guard⟩,Au (B3 I0 B A w) w (st.tmps.getD t .undef) (a.tmps.getD t undef))→(∀ n ob,(n,ob)∈objs→A n=none) →
   Ks P ops ⟨dst,op,ty,pos,after,guard⟩ a w Q fun v w'=>∃ A',Kl I0 B A w objs frz A' w'∧Au (B3 I0 B A' w') w' d v:=by
  intro hs
  cases hq:Fj E st.heap (dst.getD 0) (fun x=>(Ih (g?.getD true) (H6 st.tmps x)).1) op with
  | none=>simp [hq] at hs
  | some r =>
    simp only [hq,A4o] at hs
    by_cases hcc:((r.objs.all fun (n,_)=>(look st.heap n).isNone)&&Nk (r.objs.map (·.1))&&(r.objs.isEmpty||dst.isSome)&&(r.frz.isEmpty||r.frz.all fun n=>(look st.heap n).isSome))=true
    ·rw [hcc,A4g,A4j,A4p] at hs
     obtain ⟨hreq,rfl⟩:=hs
     simp only [A4r,Bool.or_eq_true,List.isEmpty_iff,Option.isNone_iff_eq_none,List.all_eq_true] at hcc
     obtain ⟨⟨⟨h1,h2⟩,h3⟩,h4⟩:=hcc
     replace hreq:(!(g?.getD true)||(Ut (g?.getD true) (H6 st.tmps) op.operands.toList&&r.req))=true∧(r.frz=[]∨g?.getD true=true):=by
      cases ho:r.frz.isEmpty with
      | true =>
        rw [ho,A4g] at hreq
        exact ⟨hreq,.inl (List.isEmpty_iff.1 ho)⟩
      | false =>
        rw [ho,A4k,A4r] at hreq
        exact ⟨by rw [hreq.2,A5s],.inr hreq.1⟩
     refine ⟨R7 g? r.v,r.objs,r.frz,rfl,rfl,fun n ob hn=>h1 (n,ob) hn,K3 h2,⟨by unfold Hc; dsimp only; rw [hmut,hc]; simp only [A4k,hq],fun n hn e=>?_⟩,?_⟩
     ·rcases h4 with h4 | h4
      ·rw [h4] at hn; cases hn
      ·have:=h4 n hn; rw [e] at this; cases this
     intro I0 B A w a Q hm hsz hrd hnew
     exact Aro he hm (V2 hrd) (Ams hsz hrd hc) hq hreq.1 hreq.2 hnew (K3 h2)
    ·simp only [Bool.not_eq_true] at hcc; rw [hcc] at hs; cases hs
 cases op
 case pick c x y =>
  simp only at hs
  split at hs
  ·rename_i c' hsc
   cases hp:Al7 c' (H6 st.tmps x) (H6 st.tmps y) with
   | none=>simp [hp] at hs
   | some rv =>
     obtain ⟨r,v⟩:=rv
     simp only [hp,A4o,A4j,A4p] at hs
     obtain ⟨hreq,rfl⟩:=hs
     refine ⟨R7 g? v,[],[],rfl,rfl,fun n ob hn=>(by cases hn),List.nodup_nil,⟨by unfold Hc; dsimp only [Uf]; rw [hc]; rfl,fun n hn=>(by cases hn)⟩,?_⟩
     intro I0 B A w a Q hm hsz hrd hnew
     have hr:=V2 (w:=w) hrd
     refine Ks.mono (Avc (hr c (by simp [Op.operands])) (hr x (by simp [Op.operands])) (hr y (by simp [Op.operands])) (Ams hsz hrd hc) hsc hp hreq) ?_
     rintro u w' ⟨rfl,hu⟩
     exact ⟨A,Kl.refl (.inl rfl),hu⟩
  ·cases hs
 case store=>simp [Uf] at hmut
 case call c =>
  obtain ⟨callee,args,ts⟩:=c
  cases callee
  case builtin b =>
   cases b
   case append=>simp [Uf] at hmut
   all_goals (dsimp only at hs; rw [hsp] at hs; exact quiet hs)
  all_goals (dsimp only at hs; rw [hsp] at hs; exact quiet hs)
 all_goals (dsimp only at hs; rw [hsp] at hs; exact quiet hs)
end
end Go.Den
namespace Go.Den
open Go.RowKit (Below)
theorem Po (a b:El) (n:Nat):look (a++b) n=match look a n with | some x=>some x | none=>look b n:=by
 induction a with
 | nil=>rfl
 | cons x a ih =>
   obtain ⟨m,y⟩:=x
   simp only [List.cons_append,look]
   cases m==n<;>simp [ih]
theorem Afl (h:El) (m n:Nat):look (match look h m with | some (_,o)=>upd h m (true,o) | none=>h) n=(look h n).map fun x=>(x.1||decide (n=m),x.2):=by
 cases hm:look h m with
 | none =>
   simp only
   cases hn:look h n with
   | none=>rfl
   | some x =>
     have:n≠m:=fun e=>by rw [e,hm] at hn; cases hn
     simp [this]
 | some x =>
   obtain ⟨f,o⟩:=x
   simp only
   rw [G9 hm]
   by_cases e:n=m
   ·subst e; simp [hm]
   ·rw [A42 e]
    cases look h n with
    | none=>rfl
    | some x=>simp [e]
theorem Si:∀ (ns:List Nat) (h:El) (n:Nat),look (K5 h ns) n=(look h n).map fun x=>(x.1||decide (n∈ns),x.2)
 | [],h,n=>by
   unfold K5
   simp
 | m::ns,h,n=>by
   have e:K5 h (m::ns)=K5 (match look h m with | some (_,o)=>upd h m (true,o) | none=>h) ns:=rfl
   rw [e,Si ns,Afl]
   cases look h n with
   | none=>rfl
   | some x=>simp [Bool.or_assoc]
theorem Xv {objs:List (Nat × OB)}:∀ {n:Nat} {x:Bool × OB},look (objs.map (fun (x:Nat × OB)=>(x.1,false,x.2))) n=some x→∃ ob,(n,ob)∈objs∧x=(false,ob):=by
 induction objs with
 | nil=>intro n x h; cases h
 | cons y l ih =>
   intro n x h
   simp only [List.map_cons,look] at h
   by_cases e:y.1=n
   ·rw [show (y.1==n)=true by simpa using e] at h
    simp only [A4g,A4j] at h
    exact ⟨y.2,by rw [← e]; exact A5v,h.symm⟩
   ·rw [show (y.1==n)=false by simpa using e] at h
    obtain ⟨ob,h1,h2⟩:=ih h
    exact ⟨ob,A5l _ h1,h2⟩
theorem Aa0 {objs:List (Nat × OB)} {n:Nat} (h:look (objs.map (fun (x:Nat × OB)=>(x.1,false,x.2))) n=none):∀ ob,(n,ob) ∉ objs:=by
 induction objs with
 | nil=>intro ob h; cases h
 | cons y l ih =>
   intro ob hm
   simp only [List.map_cons,look] at h
   by_cases e:y.1=n
   ·rw [show (y.1==n)=true by simpa using e] at h; simp at h
   ·rw [show (y.1==n)=false by simpa using e] at h
    rcases List.mem_cons.1 hm with rfl | hm
    ·exact e rfl
    ·exact ih h ob hm
theorem Aoj {α:Type} {l:List (Nat × α)} (h:(l.map (·.1)).Nodup) {n:Nat} {x y:α} (h1:(n,x)∈l) (h2:(n,y)∈l):x=y:=by
 have e1:=Tm h h1
 have e2:=Tm h h2
 rw [e1] at e2; exact Option.some.inj e2
structure S4 (P:Program) (E:Env) (ops:Array Oper) (draw:Bool) (st:St) (o:Oper) (st':St) (d:DV):Prop where
 free:∀ t,o.dst=some t→E.np≤t
 tmps:st'.tmps=Uo st.tmps o.dst d
 there:draw=true→∀ n,n∈Hc E ops st o→look st.heap n≠none
 stays:∀ n,look st.heap n≠none→look st'.heap n≠none
 same:draw=true→∀ n,n ∉ Hc E ops st o→look st.heap n≠none→look st'.heap n=look st.heap n
 run:∀ {I0:Nat→Prop} {B:Nat} {A:Nat→Option Place} {w:World} {a:Act} {Q:Exit→Act→World→Prop},Mem I0 B A st.heap w→a.tmps.size=st.tmps.length →
  (∀ t∈o.looksAt ops,Au (B3 I0 B A w) w (st.tmps.getD t .undef) (a.tmps.getD t undef))→(∀ n,look st.heap n=none→look st'.heap n≠none→A n=none) →
  Ks P ops o a w Q fun v w'=>∃ A',Mem I0 B A' st'.heap w'∧Jl A w A' w'∧Below B w w'∧Au (B3 I0 B A' w') w' d v ∧
   (∀ n p,A' n=some p→A n=none→look st.heap n=none∧look st'.heap n≠none) ∧
   (draw=true→T2 (Hc E ops st o) A w w'∧∀ m q,m ∉ Hc E ops st o→A m=some q→A' m=some q)
section
variable {P:Program} {E:Env}
theorem Agy (he:Kb P E) {ops:Array Oper} {draw:Bool} {st st':St} {o:Oper} (hs:Nh E ops draw st o=some (true,st')) (hfree:∀ t,o.dst=some t→E.np≤t) (hmut:Uf o.op=false)
 (hsp:∀ g?,Qv ops st.tmps o=some g?→(bif draw then none else Pk E st.heap (H6 st.tmps) g? o.op)=none) :
 ∃ d,S4 P E ops draw st o st' d:=by
 obtain ⟨d,objs,frz,h1,h2,h3,h4,h5,h6⟩:=A1h he hs hmut hsp
 obtain ⟨hm0,h5'⟩:=h5
 have hlk:∀ n,look st'.heap n=match look (objs.map (fun (x:Nat × OB)=>(x.1,false,x.2))) n with | some x=>some x | none=>(look st.heap n).map fun x=>(x.1||decide (n∈frz),x.2):=by
  intro n; rw [h2,Po,Si]
 have hold:∀ n,look st.heap n≠none→look st'.heap n=(look st.heap n).map fun x=>(x.1||decide (n∈frz),x.2):=by
  intro n hn
  rw [hlk]
  cases hq:look (objs.map (fun (x:Nat × OB)=>(x.1,false,x.2))) n with
  | none=>rfl
  | some x =>
    obtain ⟨ob,hob,_⟩:=Xv hq
    exact absurd (h3 n ob hob) hn
 have hobj:∀ n ob,(n,ob)∈objs→look st'.heap n=some (false,ob):=by
  intro n ob hob
  rw [hlk]
  cases hq:look (objs.map (fun (x:Nat × OB)=>(x.1,false,x.2))) n with
  | none=>exact absurd hob (Aa0 hq ob)
  | some x =>
    obtain ⟨ob',hob',rfl⟩:=Xv hq
    rw [Aoj h4 hob hob']
 refine ⟨d,hfree,h1,fun _ n hn=>h5' n (hm0 ▸ hn),fun n hn=>?_,fun hd n hf hn=>?_,?_⟩
 ·rw [hold n hn]
  cases hq:look st.heap n with
  | none=>exact absurd hq hn
  | some x=>simp
 ·rw [hm0] at hf
  rw [hold n hn]
  cases look st.heap n with
  | none=>rfl
  | some x=>simp [hf]
 ·intro I0 B A w a Q hm hsz hrd hnew
  have hnew':∀ n ob,(n,ob)∈objs→A n=none:=fun n ob hob=>hnew n (h3 n ob hob) (by rw [hobj n ob hob]; simp)
  refine (h6 hm hsz hrd hnew').mono ?_
  rintro v w' ⟨A',hg,hv⟩
  have hmem:Mem I0 B A' st'.heap w':=by
   refine hg.mem hm (fun n p fo' hp hl=>?_) (fun n ob fo' hob hn hl=>?_)
   ·rw [hlk] at hl
    cases hq:look (objs.map (fun (x:Nat × OB)=>(x.1,false,x.2))) n with
    | some x =>
      obtain ⟨ob,hob,_⟩:=Xv hq
      rw [hnew' n ob hob] at hp; cases hp
    | none =>
      rw [hq] at hl
      cases hf:look st.heap n with
      | none=>rw [hf] at hl; cases hl
      | some fo=>rw [hf] at hl; cases hl; exact ⟨fo,rfl,rfl⟩
   ·rw [hobj n ob hob] at hl; cases hl; rfl
  refine ⟨A',hmem,hg.Aw8,hg.below.mono hm.hB,hv,fun n p hp hn=>?_,fun hd=>⟨fun m q b _ hq hqd hqb=>hg.below.block b (hm.blkB m q b hq hqd hqb).2,fun m q hmf hq=>?_⟩⟩
  ·obtain ⟨_,_,ob,hob,_⟩:=hg.new n p hn hp
   exact ⟨h3 n ob hob,by rw [hobj n ob hob]; simp⟩
  ·have:=hg.old m q hq
   rw [this]
   rw [hm0] at hmf
   cases q
   simp [fzP,hmf]
end
end Go.Den
namespace Go.Den
open Go.RowKit (Below)
section
variable {P:Program} {E:Env}
theorem Mo {o:Oper} {y:Nat→Option Bool} (h:o.guard=none):Region.wanted o y=true:=by
 unfold Region.wanted; rw [h]
theorem U6 {ops:Array Oper} {l:List DV} {o:Oper} (h:Qv ops l o=some none):o.guard=none:=by
 unfold Qv at h
 split at h
 ·assumption
 ·split at h
  ·split at h<;>cases h
  ·cases h
structure S5 (ns:List Nat) (nm:Option Nat) (h h':El):Prop where
 there:∀ m,m∈ns→look h m≠none
 stays:∀ m,look h m≠none→look h' m≠none
 same:∀ m,m ∉ ns→some m≠nm→look h' m=look h m
theorem Oe {h:El} {n:Nat} {x y:Bool × OB} (hl:look h n=some x):S5 [n] none h (upd h n y) where
 there:=fun m hm=>by rw [List.mem_singleton.1 hm,hl]; simp
 stays:=fun m hm=>by rw [G9 hl]; split<;>simp_all
 same:=fun m hm _=>by rw [G9 hl,A42 (fun e=>hm (by rw [e]; exact List.mem_singleton.2 rfl))]
theorem S8 {h:El} {nm:Nat} {x:Bool × OB}:S5 [] (some nm) h ((nm,x)::h) where
 there:=fun m hm=>by cases hm
 stays:=fun m hm=>by simp only [look]; cases nm==m<;>simp [hm]
 same:=fun m _ hne=>by
  simp only [look]
  rw [show (nm==m)=false by simpa using fun e:nm=m=>hne (by rw [e])]; rfl
theorem Acx {h:El} {n nm:Nat} {x y z:Bool × OB} (hl:look h n=some x):S5 [n] (some nm) h ((nm,z)::upd h n y) where
 there:=(Oe (y:=y) hl).there
 stays:=fun m hm=>S8.stays m ((Oe (y:=y) hl).stays m hm)
 same:=fun m hm hne=>by rw [S8.same m (by simp) hne,(Oe (y:=y) hl).same m hm (by simp)]
theorem Agu {h h':El} {t:TypeId} {a v:DV} {r:Bool} (hs:W9 E h t a v=some (r,h')):S5 (Asb a) none h h':=by
 unfold W9 at hs
 cases hT:E.ty t with
 | none=>simp [hT] at hs
 | some ti =>
 simp only [hT,A4o] at hs
 cases hc:(Pv v&&(cells v).length==ti.size&&(cells v).all Ui) with
 | false=>rw [hc] at hs; simp at hs
 | true =>
 rw [hc,A4g] at hs
 split at hs
 ·rename_i n i j
  split at hs
  ·rename_i cs hlk
   cases hq:(i==0&&decide (j+ti.size≤cs.length)) with
   | false=>rw [hq] at hs; simp at hs
   | true =>
     rw [hq,A4g,A4j,A4p] at hs
     obtain ⟨_,rfl⟩:=hs
     exact Oe hlk
  ·rename_i e k l hlk
   split at hs
   ·rename_i k' x
    cases hq:(j==0&&decide (k=k')) with
    | false=>rw [hq] at hs; simp at hs
    | true =>
      rw [hq,A4g,A4j,A4p] at hs
      obtain ⟨_,rfl⟩:=hs
      exact Oe hlk
   ·cases hs
  ·rename_i e sz l hlk
   cases hlow:Jv h (cells v) with
   | none=>simp [hlow] at hs
   | some q =>
   obtain ⟨vs,ns⟩:=q
   simp only [hlow,A4o] at hs
   cases hq:(decide (j+ti.size≤sz)&&ns.isEmpty) with
   | false=>rw [hq] at hs; simp at hs
   | true =>
     rw [hq,A4g,A4j,A4p] at hs
     obtain ⟨_,rfl⟩:=hs
     exact Oe hlk
  ·cases hs
 ·cases hs
theorem Af5 {h h':El} {nm:Nat} {t:TypeId} {s x v:DV} {r:Bool} (ha:Ps E h nm t s x=some (r,v,h')):S5 (Afj s) (some nm) h h'∧look h nm=none:=by
 unfold Ps at ha
 split at ha
 ·rename_i e _ hT
  cases hE:E.ty e with
  | none=>simp [hE] at ha
  | some ei =>
  simp only [hE,A4o] at ha
  cases hq:(decide (ei.bytes≤128)&&decide (0<ei.size)&&(look h nm).isNone) with
  | false=>rw [hq] at ha; simp at ha
  | true =>
  rw [hq,A4g] at ha
  simp only [A4r,A4n,Option.isNone_iff_eq_none] at hq
  refine ⟨?_,hq.2⟩
  split at ha
  ·split at ha
   ·rename_i k hk
    cases hs1:(ei.size==1) with
    | false=>rw [hs1] at ha; simp at ha
    | true =>
    rw [hs1,A4g] at ha
    cases hel:Mc h k x with
    | none=>simp [hel] at ha
    | some l =>
      simp only [hel,A4o,A4j,A4p] at ha
      obtain ⟨_,_,rfl⟩:=ha
      exact S8
   ·cases hel:P1 h ei.size x with
    | none=>simp [hel] at ha
    | some l =>
      simp only [hel,A4o,A4j,A4p] at ha
      obtain ⟨_,_,rfl⟩:=ha
      exact S8
  ·rename_i n
   split at ha
   ·rename_i e' k l' hlo
    cases hel:Mc h k x with
    | none=>simp [hel] at ha
    | some l =>
      simp only [hel,A4o] at ha
      cases hc:(e==e'&&ei.size==1) with
      | false=>rw [hc] at ha; simp at ha
      | true =>
        rw [hc,A4g] at ha
        simp only [A4j,A4p] at ha
        obtain ⟨_,_,rfl⟩:=ha
        exact Acx hlo
   ·rename_i e' sz l' hlo
    cases hel:P1 h sz x with
    | none=>simp [hel] at ha
    | some l =>
      simp only [hel,A4o] at ha
      cases hc:(e==e'&&sz==ei.size) with
      | false=>rw [hc] at ha; simp at ha
      | true =>
        rw [hc,A4g] at ha
        simp only [A4j,A4p] at ha
        obtain ⟨_,_,rfl⟩:=ha
        exact Acx hlo
   ·cases ha
  ·cases ha
 ·cases ha
theorem Y1 {h h':El} {nm:Nat} {t:TypeId} {s x v:DV} {r:Bool} (ha:Ps E h nm t s x=some (r,v,h')):(look h' nm).isSome=true:=by
 have push:∀ {y:Bool × OB} {k:El},(look ((nm,y)::k) nm).isSome=true:=by intro y k; simp [look]
 unfold Ps at ha
 split at ha
 ·rename_i e _ hT
  cases hE:E.ty e with
  | none=>simp [hE] at ha
  | some ei =>
  simp only [hE,A4o] at ha
  cases hq:(decide (ei.bytes≤128)&&decide (0<ei.size)&&(look h nm).isNone) with
  | false=>rw [hq] at ha; simp at ha
  | true =>
  rw [hq,A4g] at ha
  split at ha
  ·split at ha
   ·rename_i k hk
    cases hs1:(ei.size==1) with
    | false=>rw [hs1] at ha; simp at ha
    | true =>
    rw [hs1,A4g] at ha
    cases hel:Mc h k x with
    | none=>simp [hel] at ha
    | some l =>
      simp only [hel,A4o,A4j,A4p] at ha
      obtain ⟨_,_,rfl⟩:=ha
      exact push
   ·cases hel:P1 h ei.size x with
    | none=>simp [hel] at ha
    | some l =>
      simp only [hel,A4o,A4j,A4p] at ha
      obtain ⟨_,_,rfl⟩:=ha
      exact push
  ·rename_i n
   split at ha
   ·rename_i e' k l' hlo
    cases hel:Mc h k x with
    | none=>simp [hel] at ha
    | some l =>
      simp only [hel,A4o] at ha
      cases hc:(e==e'&&ei.size==1) with
      | false=>rw [hc] at ha; simp at ha
      | true =>
        rw [hc,A4g] at ha
        simp only [A4j,A4p] at ha
        obtain ⟨_,_,rfl⟩:=ha
        exact push
   ·rename_i e' sz l' hlo
    cases hel:P1 h sz x with
    | none=>simp [hel] at ha
    | some l =>
      simp only [hel,A4o] at ha
      cases hc:(e==e'&&sz==ei.size) with
      | false=>rw [hc] at ha; simp at ha
      | true =>
        rw [hc,A4g] at ha
        simp only [A4j,A4p] at ha
        obtain ⟨_,_,rfl⟩:=ha
        exact push
   ·cases ha
  ·cases ha
 ·cases ha
theorem Agx (he:Kb P E) {ops:Array Oper} {draw:Bool} {st st':St} {dst:Option Tmp} {t:TypeId} {x y:Operand} {ty:TypeId} {pos:String} {after:Array Edge} {guard:Option (Nat × Bool)}
 (hs:Nh E ops draw st ⟨dst,.store t x y,ty,pos,after,guard⟩=some (true,st')) (hfree:∀ u,dst=some u→E.np≤u):∃ d,S4 P E ops draw st ⟨dst,.store t x y,ty,pos,after,guard⟩ st' d:=by
 unfold Nh at hs
 cases hc:Qv ops st.tmps ⟨dst,.store t x y,ty,pos,after,guard⟩ with
 | none=>simp [hc] at hs
 | some g? =>
 cases g? with
 | some b=>simp [hc] at hs
 | none =>
 have hg:=U6 hc
 dsimp only at hg
 simp only [hc,A4o] at hs
 cases hst:W9 E st.heap t (H6 st.tmps x) (H6 st.tmps y) with
 | none=>simp [hst] at hs
 | some rh =>
 obtain ⟨r,h'⟩:=rh
 simp only [hst,A4o,A4j,A4p] at hs
 obtain ⟨rfl,rfl⟩:=hs
 have ht:=Agu hst
 refine ⟨.undef,hfree,rfl,fun _=>ht.there,ht.stays,fun _ n hn _=>ht.same n hn (by simp),?_⟩
 intro I0 B A w a Q hm hsz hrd hnew
 have hr:=V2 (w:=w) hrd
 obtain ⟨w',hrun,h1,h2,h3,h4,h5,h6,h7⟩:=Ank he.ty hm (hr x (by simp [Op.operands])) (hr y (by simp [Op.operands])) hst rfl
 intro K hK
 rw [A43 (Mo hg)]
 unfold Oper.wp execOp
 simp only [Sem.run_bind,Sem.run_pure,Result.andThen_ok,hrun]
 rw [Oper.upon_skip]
 refine hK undef w' ⟨A,h1,h2,h3,by simp [Au],fun n p hp hn=>(by rw [hn] at hp; cases hp),fun _=>⟨h5,fun m q _ hq=>hq⟩⟩
theorem Aet (he:Kb P E) {ops:Array Oper} {draw:Bool} {st st':St} {dst:Option Tmp} {args:Array Operand} {ts:Array TypeId} {ty:TypeId} {pos:String} {after:Array Edge} {guard:Option (Nat × Bool)}
 (hs:Nh E ops draw st ⟨dst,.call ⟨.builtin .append,args,ts⟩,ty,pos,after,guard⟩=some (true,st')) (hfree:∀ u,dst=some u→E.np≤u):∃ d,S4 P E ops draw st ⟨dst,.call ⟨.builtin .append,args,ts⟩,ty,pos,after,guard⟩ st' d:=by
 unfold Nh at hs
 cases hc:Qv ops st.tmps ⟨dst,.call ⟨.builtin .append,args,ts⟩,ty,pos,after,guard⟩ with
 | none=>simp [hc] at hs
 | some g? =>
 simp only [hc,A4o] at hs
 split at hs
 ·rename_i s x t t' hargs hts
  have hg:=U6 hc
  dsimp only at hg
  cases hq:(t==t'&&dst.isSome) with
  | false=>rw [hq] at hs; simp at hs
  | true =>
  rw [hq,A4g] at hs
  simp only [A4r,beq_iff_eq] at hq
  obtain ⟨rfl,hdst⟩:=hq
  cases hap:Ps E st.heap (dst.getD 0) t (H6 st.tmps s) (H6 st.tmps x) with
  | none=>simp [hap] at hs
  | some rh =>
  obtain ⟨r,v,h'⟩:=rh
  simp only [hap,A4o,A4j,A4p] at hs
  obtain ⟨rfl,rfl⟩:=hs
  obtain ⟨ht,hnone⟩:=Af5 hap
  have hmut:Hc E ops st ⟨dst,.call ⟨.builtin .append,args,ts⟩,ty,pos,after,guard⟩=Afj (H6 st.tmps s):=by
   unfold Hc A1m; simp only [hargs,Uf,A4g]
  obtain rfl:args=#[s,x]:=by
   cases args with | mk l=>simp only at hargs; rw [hargs]
  obtain rfl:ts=#[t,t]:=by
   cases ts with | mk l=>simp only at hts; rw [hts]
  refine ⟨v,hfree,rfl,fun _ n hn=>ht.there n (hmut ▸ hn),ht.stays,fun _ n hn hl=>ht.same n (hmut ▸ hn) (fun e=>hl ?_),?_⟩
  ·cases dst with
   | none=>cases hdst
   | some d=>simp only [A50] at e hnone; cases e; exact hnone
  ·intro I0 B A w a Q hm hsz hrd hnew
   have hr:=V2 (w:=w) hrd
   have hnm:A (dst.getD 0)=none:=hnew _ hnone (by
    have:=Y1 hap
    exact fun e=>by rw [e] at this; cases this)
   obtain ⟨v',w',A',hrun,h1,h2,h3,h4,h5,h6,h7,h8,_⟩:=Alg (ty:=ty) he.ty hm hnm (hr s (by simp [Op.operands,Call.operands])) (hr x (by simp [Op.operands,Call.operands])) hap rfl
   intro K hK
   rw [A43 (Mo hg)]
   unfold Oper.wp execOp
   simp only [resolve,invoke,builtin,Sem.run_bind,Sem.run_pure,Result.andThen_ok,List.map_toArray,List.map_cons,List.map_nil,hrun]
   rw [Oper.upon_value]
   refine hK v' w' ⟨A',h1,h2,h3,h4,fun n p hp hn=>?_,fun _=>⟨hmut ▸ h7,fun m q hmn hq=>h8 m q (hmut ▸ hmn) hq⟩⟩
   have:=h5 n p hp hn
   subst this
   exact ⟨hnone,fun e=>by have:=Y1 hap; rw [e] at this; cases this⟩
 ·cases hs
theorem Pl {c c':Ctx} {w w':World} (h:Nf c w c' w') {p:Place} (hb:p.st≠.dead→∀ b,p.Hk=some b→w'.heap[b]?=w.heap[b]?) {fo:Bool × OB} (hr:D3 c w p fo):D3 c' w' p fo:=by
 by_cases hd:p.st=.dead
 ·obtain ⟨fz,ob⟩:=fo
  cases ob with
  | dead=>exact hd
  | box cs=>exact absurd hd (Ce hr.1)
  | ints e k l=>exact absurd hd (Ce hr.1)
  | recs e sz l=>exact absurd hd (Ce hr.1)
 ·exact D3.Ec h rfl rfl (hb hd) fo hr
inductive Agb (E:Env) (h:El) (ρ:Operand→DV) (op:Op) (n:Nat) (r:Bool) (v:DV) (ob:OB):Prop
 | spoil (f:Operand) (args:Array Operand) (ts:Array TypeId) (g:FuncId) (x:Operand) (a c:Int) (e:TypeId) (l:List Int):op=.call ⟨.value f,args,ts⟩→args.toList=[x]→ρ f=.fn g [] []→E.spoil g=some e →
  ρ x=.agg [.int .i64 a,.int .i64 c,.oref n]→look h n=some (false,.ints e .u64 l)→v=.undef→ob=.dead→Agb E h ρ op n r v ob
 | wr (f:Operand) (args:Array Operand) (ts:Array TypeId) (g:FuncId) (x:Operand) (xs:List Operand) (W:Writer) (l:List Int) (ds:List DV) (ns:List Nat):op=.call ⟨.value f,args,ts⟩→args.toList=x::xs→ρ f=.fn g [] []→E.wr g=some W →
  ρ x=.oref n→look h n=some (false,.ints W.elem W.kind l)→Jv h (xs.map ρ)=some (ds,ns)→n ∉ ns→W.pre l ds=r→v=.undef→ob=.ints W.elem W.kind (W.out l ds)→Agb E h ρ op n r v ob
 | copy (args:Array Operand) (ts:Array TypeId) (x y:Operand) (t t':TypeId) (ti ei:TI) (e:TypeId) (k:IntKind) (l z:List Int):op=.call ⟨.builtin .copy,args,ts⟩→args.toList=[x,y]→ts.toList=[t,t']→ρ x=.oref n→E.ty t=some ti→ti.kind=.slice e →
  E.ty e=some ei→ei.size=1→look h n=some (false,.ints e k l)→Mc h k (ρ y)=some z→v=.int .i64 (min z.length l.length:Nat)→ob=.ints e k (Rz l z)→Agb E h ρ op n r v ob
theorem Ahm {h:El} {ρ:Operand→DV} {g?:Option Bool} {op:Op} {n:Nat} {r:Bool} {v:DV} {ob:OB} (hh:Pk E h ρ g? op=some (n,r,v,ob)):g?=none∧Agb E h ρ op n r v ob:=by
 unfold Pk at hh
 split at hh
 ·rename_i f args ts
  split at hh
  ·rename_i g x xs hf ha
   split at hh
   ·rename_i W hW
    split at hh
    ·rename_i m hx
     split at hh
     ·rename_i e k l hl
      cases hlo:Jv h (xs.map ρ) with
      | none=>simp [hlo] at hh
      | some dn =>
        obtain ⟨ds,ns⟩:=dn
        simp only [hlo,A4o] at hh
        cases hc:(e==W.elem&&decide (k=W.kind)&&!(ns.contains m)) with
        | false=>rw [hc] at hh; simp at hh
        | true =>
          rw [hc,A4g] at hh
          simp only [A4j,A4p] at hh
          simp only [A4r,beq_iff_eq,A4n,Bool.not_eq_true'] at hc
          obtain ⟨⟨rfl,rfl⟩,hns⟩:=hc
          obtain ⟨rfl,h1,h2,h3⟩:=hh
          exact ⟨rfl,.wr f args ts g x xs W l ds ns rfl ha hf hW hx hl hlo (fun k=>by simp [List.contains_iff_mem,k] at hns) h1 h2.symm h3.symm⟩
     ·cases hh
    ·cases hh
   ·split at hh
    ·rename_i e a c m hE hx
     split at hh
     ·rename_i e' l hl
      cases hc:(e==e') with
      | false=>rw [hc] at hh; simp at hh
      | true =>
        rw [hc,A4g] at hh
        simp only [A4j,A4p] at hh
        obtain rfl:e=e':=by simpa using hc
        obtain ⟨rfl,_,h2,h3⟩:=hh
        exact ⟨rfl,.spoil f args ts g x a c e l rfl ha hf hE hx hl h2.symm h3.symm⟩
     ·cases hh
    ·cases hh
  ·cases hh
 ·rename_i args ts
  split at hh
  ·rename_i x y t t' ha ht
   split at hh
   ·rename_i m sz by_ e zr hx hT
    split at hh
    ·rename_i e' k l ei hl hE
     cases hz:Mc h k (ρ y) with
     | none=>simp [hz] at hh
     | some z =>
       simp only [hz,A4o] at hh
       cases hc:(e==e'&&ei.size==1) with
       | false=>rw [hc] at hh; simp at hh
       | true =>
         rw [hc,A4g] at hh
         simp only [A4j,A4p] at hh
         simp only [A4r,beq_iff_eq] at hc
         obtain ⟨rfl,hs⟩:=hc
         obtain ⟨rfl,_,h2,h3⟩:=hh
         exact ⟨rfl,.copy args ts x y t t' _ ei e k l z rfl ha ht hx hT rfl hE hs hl hz h2.symm h3.symm⟩
    ·cases hh
   ·cases hh
  ·cases hh
 ·cases hh
theorem Ach {w w':World} {B:Nat} {e e':TypeId} {s s' n n':Nat} {v:Value} {xs xs':List Value} (h:w.ownsRow B e s v n xs) (h':w'.ownsRow 0 e' s' v n' xs'):w'.ownsRow B e' s' v n' xs':=by
 refine ⟨h'.1,?_⟩
 rcases h'.2 with h2 | ⟨g,cap,cur,hv,_,r⟩
 ·exact .inl h2
 ·rcases h.2 with ⟨hv0,_⟩ | ⟨g2,cap2,cur2,hv2,hB,_⟩
  ·rw [hv] at hv0; cases hv0
  ·rw [hv] at hv2
   cases hv2
   exact .inr ⟨g,cap,cur,hv,hB,r⟩
theorem Ahs {I0:Nat→Prop} {B:Nat} {A:Nat→Option Place} {h:El} {w w':World} (hm:Mem I0 B A h w) {n:Nat} {p:Place} {e:TypeId} {k:IntKind} {l l':List Int} {sv:Value} (hp:A n=some p) (hlk:look h n=some (false,.ints e k l)) (hlive:p.st=.live) (hkind:p.kind=.row sv 1)
 (hown:w.ownsRow B e 1 sv l.length (l.map (Value.int k))) (hown':w'.ownsRow 0 e 1 sv l'.length (l'.map (Value.int k))) (hb:Below 0 w w') (hk:∀ b,b<w.heap.size→sv.ownBlock≠some b→w'.heap[b]?=w.heap[b]?) :
 Mem I0 B A (upd h n (false,.ints e k l')) w'∧Jl A w A w'∧Below B w w':=by
 have hblk:p.Hk=sv.ownBlock:=by unfold Place.Hk; rw [hkind]
 have hmv:Jl A w A w':=⟨hb.size,fun m q hq=>⟨q,hq,by by_cases hd:q.st=.dead; exact .inl hd; exact .inr ⟨hd,rfl⟩⟩,fun m q b hq hql hqb _=>⟨m,q,hq,hql,hqb⟩,fun b hlt hno=>hk b hlt (fun h=>hno n p hp hlive (by rw [hblk]; exact h))⟩
 refine ⟨⟨A5n hm.hB hb.size,hm.I0lt,fun m q fo hq hlo=>?_,fun m q b hq hqd hqb=>?_,hm.inj⟩,hmv,⟨hb.os,hb.tape,hb.output,hb.size,fun b hlt=>hk b (A5r hlt hm.hB) fun h=>?_⟩⟩
 ·rw [G9 hlk] at hlo
  by_cases hmn:m=n
  ·subst hmn
   rw [A43 rfl] at hlo; cases hlo
   rw [hp] at hq; cases hq
   exact ⟨hlive,sv,hkind,Ach hown hown'⟩
  ·rw [A42 hmn] at hlo
   exact Pl hmv.Ec (fun hd b hb'=>hk b (hm.blkB m q b hq hd hb').2 fun h=>hmn (hm.inj m n q p b hq hp hd (by rw [hlive]; simp) hb' (by rw [hblk]; exact h))) (hm.obj m q fo hq hlo)
 ·have:=hm.blkB m q b hq hqd hqb
  exact ⟨this.1,A5r this.2 hb.size⟩
 ·have:=(hm.blkB n p b hp (by rw [hlive]; simp) (by rw [hblk]; exact h)).1
  omega
theorem Ats {w:World} {dT sT ty elem:TypeId} (hu:P.underlying dT=some (.slice elem)) (hs:(P.info? elem).map (·.size)=some 1) {e:TypeId} {k:IntKind} {l z:List Int} {v vy:Value}
 (hown:w.ownsRow 0 e 1 v l.length (l.map (Value.int k))) (hy:∃ a m c,vy=.slice a m c∧m=z.length∧(m=0∨∃ b o,a=some ⟨b,o,none⟩∧G7 w b o (z.map (Value.int k)))) :
 ∃ w',(Builtin.copy_ #[dT,sT] ty #[v,vy]).run P w=.ok (goInt ((min z.length l.length:Nat):Int)) w'∧w'.ownsRow 0 e 1 v (Rz l z).length ((Rz l z).map (Value.int k))∧Below 0 w w'∧∀ b,b<w.heap.size→v.ownBlock≠some b→w'.heap[b]?=w.heap[b]?:=by
 obtain ⟨a,m,c,rfl,rfl,hy⟩:=hy
 have hlen:(Rz l z).length=l.length:=by
  unfold Rz
  rw [A48,List.length_take,List.length_drop]; omega
 have nothing:min z.length l.length=0→Rz l z=l:=fun h=>by
  unfold Rz
  rcases (show z.length=0∨l.length=0 by omega) with h | h
  ·rw [A5h h]; simp
  ·rw [A5h h]; simp
 by_cases h0:min z.length l.length=0
 ·obtain ⟨dp,dl,dc,hv,hdl⟩:∃ dp dl dc,v=.slice dp dl dc∧dl=l.length:=by
   rcases hown.2 with ⟨hv,hn⟩ | ⟨g,cap,cur,hv,_⟩
   ·exact ⟨none,0,0,hv,hn.symm⟩
   ·exact ⟨_,_,cap,hv,rfl⟩
  subst hv hdl
  refine ⟨w,?_,by rw [nothing h0]; exact hown,Below.refl _ _,fun _ _ _=>rfl⟩
  rw [h0]
  exact run_copy_none w dT sT ty elem dp a l.length dc z.length c hu hs h0
 ·rcases hown.2 with ⟨hv,hn⟩ | ⟨g,cap,cur,hv,_,hg,hnc,hm,hcs,htake⟩
  ·omega
  ·subst hv
   rcases hy with hy | ⟨b,o,rfl,hr⟩
   ·omega
   ·let cs:List Value:=(z.take l.length).map (Value.int k)
    have hcl:cs.length=Nat.min z.length l.length:=by
     show ((z.take l.length).map (Value.int k)).length=_
     rw [A5m,List.length_take]
     exact Nat.min_comm _ _
    have hcs1:cs.length≤l.length:=by rw [hcl]; exact Nat.min_le_right _ _
    have hrun:=run_copy_row (P:=P) w dT sT ty elem g 0 l.length cap ⟨b,o,none⟩ z.length c cur e cs hu hs hg hcl (fun j u hu=>by
     have hj:(z.map (Value.int k))[j]?=some u:=by
      have:cs[j]?=some u:=hu
      rw [show cs=(z.map (Value.int k)).take l.length from List.map_take.symm ▸ rfl] at this
      rw [List.getElem?_take] at this
      split at this
      ·exact this
      ·cases this
     have:=hr j u hj
     unfold Addr.add
     split
     ·rename_i h0; rw [h0] at this; exact this
     ·exact this) (by omega) (fun u hu=>by
      obtain ⟨x,_,rfl⟩:=List.mem_map.1 hu
      rfl)
    have hsz:g<w.heap.size:=(Array.getElem?_eq_some_iff.1 hg).1
    refine ⟨w.setRow g (List.take 0 cur.toList++cs++List.drop (0+cs.length) cur.toList).toArray,hrun.trans (congrArg (fun q:Nat=>Result.ok (goInt (q:Int)) _) hcl),?_,?_,?_⟩
    ·refine ⟨by rw [A5m,hlen]; omega,.inr ⟨g,cap,_,by rw [hlen],Nat.zero_le _,setRow_heap w g cur _ e _ hg,by rw [hlen]; exact hnc,hm,?_,?_⟩⟩
     ·rw [List.size_toArray,A48,A48,List.length_take,List.length_drop,hcl,Array.length_toList]
      have:Nat.min z.length l.length≤cur.size:=by
       have:=Nat.min_le_right z.length l.length
       omega
      omega
     ·rw [hlen]
      show List.take (l.length*1) (List.take 0 cur.toList++cs++List.drop (0+cs.length) cur.toList)=_
      rw [List.take_zero,List.nil_append,A5p,A5q]
      rw [A5p] at htake
      have h1:cs.length≤l.length:=by rw [hcl]; exact Nat.min_le_right _ _
      rw [List.take_append,List.take_of_length_le h1,List.take_drop,show cs.length+(l.length-cs.length)=l.length by omega,htake]
      unfold Rz
      rw [List.map_append,List.map_drop]
      congr 1
      by_cases hzl:z.length≤l.length
      ·rw [hcl,show Nat.min z.length l.length=z.length from Nat.min_eq_left hzl]
      ·rw [hcl,show Nat.min z.length l.length=l.length from Nat.min_eq_right (by omega),A4u (by rw [A5m]; exact A5a _),A4u (by rw [A5m]; omega)]
    ·exact ⟨rfl,rfl,rfl,by simp [World.setRow],fun b hb=>by omega⟩
    ·intro b _ hbn
     exact setRow_other w g b _ (fun e=>hbn (by rw [e]; rfl))
theorem Ajw (he:Kb P E) {ops:Array Oper} {draw:Bool} {st st':St} {o:Oper} (hs:Nh E ops draw st o=some (true,st')) (hfree:∀ t,o.dst=some t→E.np≤t) (hmut:Uf o.op=false)
 (hsp:¬ ∀ g?,Qv ops st.tmps o=some g?→(bif draw then none else Pk E st.heap (H6 st.tmps) g? o.op)=none):∃ d,S4 P E ops draw st o st' d:=by
 obtain ⟨dst,op,ty,pos,after,guard⟩:=o
 rw [Classical.not_forall] at hsp
 obtain ⟨g?,hsp⟩:=hsp
 rw [Classical.not_imp] at hsp
 obtain ⟨hc,hsp⟩:=hsp
 cases draw with
 | true=>exact absurd rfl hsp
 | false =>
 dsimp only at hsp hmut
 rw [A4k] at hsp
 cases hsa:Pk E st.heap (H6 st.tmps) g? op with
 | none=>exact absurd hsa hsp
 | some x4 =>
 obtain ⟨n,r,d,ob⟩:=x4
 obtain ⟨rfl,ho⟩:=Ahm hsa
 have hg:=U6 hc
 dsimp only at hg
 have hst:r=true∧st'={ tmps:=Uo st.tmps dst d,heap:=upd st.heap n (false,ob) }:=by
  cases ho with
  | spoil f args ts g x a c e l hop =>
    subst hop
    unfold Nh at hs
    simp only [hc,A4o,A4k,hsa,A4j,A4p] at hs
    exact ⟨hs.1,hs.2.symm⟩
  | wr f args ts g x xs W l ds ns hop =>
    subst hop
    unfold Nh at hs
    simp only [hc,A4o,A4k,hsa,A4j,A4p] at hs
    exact ⟨hs.1,hs.2.symm⟩
  | copy args ts x y t t' ti ei e k l z hop =>
    subst hop
    unfold Nh at hs
    simp only [hc,A4o,A4k,hsa,A4j,A4p] at hs
    exact ⟨hs.1,hs.2.symm⟩
 obtain ⟨rfl,rfl⟩:=hst
 have hlk:∃ x,look st.heap n=some x:=by
  cases ho with
  | spoil _ _ _ _ _ _ _ _ _ _ _ _ _ _ h=>exact ⟨_,h⟩
  | wr _ _ _ _ _ _ _ _ _ _ _ _ _ _ _ h=>exact ⟨_,h⟩
  | copy _ _ _ _ _ _ _ _ _ _ _ _ _ _ _ _ _ _ _ _ h=>exact ⟨_,h⟩
 obtain ⟨x0,hlk⟩:=hlk
 have ht:=Oe (y:=(false,ob)) hlk
 refine ⟨d,hfree,rfl,fun h=>(by cases h),ht.stays,fun h=>(by cases h),?_⟩
 intro I0 B A w a Q hm hsz hrd hnew
 have hr:=V2 (w:=w) hrd
 have own:∀ {e:TypeId} {k:IntKind} {l:List Int} {v:Value},look st.heap n=some (false,.ints e k l)→Au (B3 I0 B A w) w (.oref n) v →
  ∃ p,A n=some p∧p.st=.live∧p.kind=.row v 1∧w.ownsRow B e 1 v l.length (l.map (Value.int k)):=by
  intro e k l v hlk hv
  simp only [Au] at hv
  obtain ⟨_,p,hp,hpd⟩:=hv
  have hp:A n=some p:=hp
  obtain ⟨hlive,sv,hkind,hown⟩:=E0 hm hp hlk
  simp only [Bool.false_eq_true,if_false] at hlive
  have hsv:v=sv:=by
   rcases hpd with hpd | ⟨size,hk⟩
   ·rw [hlive] at hpd; cases hpd
   ·rw [hkind] at hk; cases hk; rfl
  subst hsv
  exact ⟨p,hp,hlive,hkind,hown⟩
 cases ho with
 | spoil f args ts g x r c e l hop hargs hf hE hx hlk hd hob =>
   subst hop hd hob
   have hf':=hr f (by simp [Op.operands,Call.operands])
   have hx':=hr x (by simp [Op.operands,Call.operands]; exact .inr (by rw [← Array.mem_toList_iff,hargs]; simp))
   rw [hf] at hf'
   rw [hx] at hx'
   simp only [Au] at hf' hx'
   obtain ⟨fs,cs,hfv,hfs,hcs⟩:=hf'
   obtain ⟨vs,hxv,hvs⟩:=hx'
   have e1:fs=#[]:=by
    have:=hfs.length; simp at this; exact Array.eq_empty_of_size_eq_zero this.symm
   have e2:cs=#[]:=by
    have:=hcs.length; simp at this; exact Array.eq_empty_of_size_eq_zero this.symm
   subst e1; subst e2
   simp only [Bj,Au] at hvs
   obtain ⟨u1,us1,h1,rfl,u2,us2,rfl,rfl,v,us3,rfl,⟨hcell,p,hp,hpd⟩,rfl⟩:=hvs
   have hp:A n=some p:=hp
   have hvs':vs=#[.int .i64 r,.int .i64 c,v]:=Array.toList_inj.1 (by simpa using h1)
   subst hvs'
   obtain ⟨hlive,sv,hkind,hown⟩:=E0 hm hp hlk
   simp only [Bool.false_eq_true,if_false] at hlive
   have hsv:v=sv:=by
    rcases hpd with hpd | ⟨size,hk⟩
    ·rw [hlive] at hpd; cases hpd
    ·rw [hkind] at hk; cases hk; rfl
   subst hsv
   have hblk:p.Hk=v.ownBlock:=by unfold Place.Hk; rw [hkind]
   have hrun:=(he.spoil g e hE).run w r c v l (Ol hown (Nat.zero_le _))
   let A':Nat→Option Place:=fun m=>if m=n then some ⟨.dead,p.kind⟩ else A m
   have hA':∀ {m:Nat} {q:Place},A' m=some q→q.st≠.dead→m≠n∧A m=some q:=by
    intro m q hq hqd
    by_cases hmn:m=n
    ·have hq:(if m=n then some ⟨.dead,p.kind⟩ else A m)=some q:=hq
     rw [A43 hmn] at hq; cases hq; exact absurd rfl hqd
    ·have hq:(if m=n then some ⟨.dead,p.kind⟩ else A m)=some q:=hq
     rw [A42 hmn] at hq; exact ⟨hmn,hq⟩
   intro K hK
   rw [A43 (Mo hg)]
   obtain rfl:args=#[x]:=by
    cases args with | mk l=>simp only at hargs; rw [hargs]
   refine Fl.wp (K':=fun _ w'=>Below 0 w w'∧∀ b,b<w.heap.size→v.ownBlock≠some b→w'.heap[b]?=w.heap[b]?) ?_ ?_
   ·unfold Fl
    have hexec:(execOp a.eval ⟨dst,.call ⟨.value f,#[x],ts⟩,ty,pos,after,guard⟩).run P w=.ok (.enter g #[.agg #[.int .i64 r,.int .i64 c,v]]) w:=by
     simp only [execOp,resolve,hfv,Deferred.ofValue,Sem.run_bind,Sem.run_pure,Result.andThen_ok,invoke]
     have:(#[]++Array.map a.eval #[x]++#[]:Array Value)=#[.agg #[.int .i64 r,.int .i64 c,v]]:=by simp [hxv]
     rw [this]
     exact (he.spoil g e hE).call _ _
    rw [hexec]
    exact hrun.mono fun en w' ⟨⟨u,hu⟩,hb,hk⟩=>⟨u,hu,hb,hk⟩
   ·rintro u w' ⟨hb,hk⟩
    have hmv:Jl A w A' w':=by
     refine ⟨hb.size,fun m q hq=>?_,fun m q b hq hql hqb _=>?_,fun b hlt hno=>hk b hlt (fun h=>hno n p hp hlive (by rw [hblk]; exact h))⟩
     ·by_cases hmn:m=n
      ·subst hmn
       exact ⟨⟨.dead,p.kind⟩,A43 rfl,.inl rfl⟩
      ·refine ⟨q,(A42 hmn).trans hq,?_⟩
       by_cases hd:q.st=.dead
       ·exact .inl hd
       ·exact .inr ⟨hd,rfl⟩
     ·obtain ⟨_,hq⟩:=hA' hq (by rw [hql]; simp)
      exact ⟨m,q,hq,hql,hqb⟩
    refine hK u w' ⟨A',⟨A5n hm.hB hb.size,hm.I0lt,fun m q fo hq hlo=>?_,fun m q b hq hqd hqb=>?_,fun m m' q q' b hq hq' hqd hqd' hqb hqb'=>?_⟩,hmv,⟨hb.os,hb.tape,hb.output,hb.size,fun b hlt=>hk b (A5r hlt hm.hB) fun h=>?_⟩,by simp [Au],fun m q hq hn=>?_,fun h=>(by cases h)⟩
    ·rw [G9 hlk] at hlo
     by_cases hmn:m=n
     ·rw [A43 hmn] at hlo; cases hlo
      have hq:(if m=n then some ⟨.dead,p.kind⟩ else A m)=some q:=hq
      rw [A43 hmn] at hq; cases hq
      rfl
     ·rw [A42 hmn] at hlo
      have hq:(if m=n then some ⟨.dead,p.kind⟩ else A m)=some q:=hq
      rw [A42 hmn] at hq
      refine Pl hmv.Ec (fun hd b hb'=>hk b (hm.blkB m q b hq hd hb').2 fun h=>hmn (hm.inj m n q p b hq hp hd (by rw [hlive]; simp) hb' (by rw [hblk]; exact h))) (hm.obj m q fo hq hlo)
    ·obtain ⟨_,hq⟩:=hA' hq hqd
     have:=hm.blkB m q b hq hqd hqb
     exact ⟨this.1,A5r this.2 hb.size⟩
    ·obtain ⟨_,hq⟩:=hA' hq hqd
     obtain ⟨_,hq'⟩:=hA' hq' hqd'
     exact hm.inj m m' q q' b hq hq' hqd hqd' hqb hqb'
    ·have:=(hm.blkB n p b hp (by rw [hlive]; simp) (by rw [hblk]; exact h)).1
     omega
    ·by_cases hmn:m=n
     ·subst hmn; rw [hp] at hn; cases hn
     ·have hq:(if m=n then some ⟨.dead,p.kind⟩ else A m)=some q:=hq
      rw [A42 hmn,hn] at hq; cases hq
 | wr f args ts g x xs W l ds ns hop hargs hf hE hx hlk hlo hns hpre hd hob =>
   subst hop hd hob
   have hf':=hr f (by simp [Op.operands,Call.operands])
   rw [hf] at hf'
   simp only [Au] at hf'
   obtain ⟨fs,cs,hfv,hfs,hcs⟩:=hf'
   have e1:fs=#[]:=by
    have:=hfs.length; simp at this; exact Array.eq_empty_of_size_eq_zero this.symm
   have e2:cs=#[]:=by
    have:=hcs.length; simp at this; exact Array.eq_empty_of_size_eq_zero this.symm
   subst e1; subst e2
   have hmem:∀ y∈args.toList,Au (B3 I0 B A w) w (H6 st.tmps y) (a.eval y):=fun y hy=>hr y (by simp [Op.operands,Call.operands]; exact .inr (Array.mem_toList_iff.1 hy))
   have hx':=hmem x (by rw [hargs]; exact A5v)
   rw [hx] at hx'
   obtain ⟨p,hp,hlive,hkind,hown⟩:=own hlk hx'
   have hblk:p.Hk=(a.eval x).ownBlock:=by unfold Place.Hk; rw [hkind]
   have hrest:Bj (B3 I0 B A w) w (xs.map (H6 st.tmps)) (xs.map a.eval):=by
    have:∀ ys:List Operand,(∀ y∈ys,y∈args.toList)→Bj (B3 I0 B A w) w (ys.map (H6 st.tmps)) (ys.map a.eval):=by
     intro ys
     induction ys with
     | nil=>intro _; simp [Bj]
     | cons y ys ih =>
       intro hys
       rw [List.map_cons,List.map_cons,Bj.Dl]
       exact ⟨_,_,rfl,hmem y (hys y A5v),ih fun z hz=>hys z (A5l _ hz)⟩
    exact this xs fun y hy=>by rw [hargs]; exact A5l _ hy
   have hlow:=Oa (Wd hm 8) _ _ ds ns hlo hrest
   have hseen:∀ b,seen I0 B A w ns b→b<w.heap.size∧(a.eval x).ownBlock≠some b:=by
    intro b hb
    rcases hb with hb | ⟨m,q,hmn,hq,hqd,hqb⟩
    ·exact ⟨hb.1,fun h=>hb.2.2 n p hp hlive (by rw [hblk]; exact h)⟩
    ·exact ⟨(hm.blkB m q b hq hqd hqb).2,fun h=>hns (by rw [← hm.inj m n q p b hq hp hqd (by rw [hlive]; simp) hqb (by rw [hblk]; exact h)]; exact hmn)⟩
   have hrun:=(he.wr g W hE).run w (a.eval x) l ds (xs.map a.eval) (Ol hown (Nat.zero_le _)) (Bj.Gr (N3 hseen) _ _ hlow) hpre
   intro K hK
   rw [A43 (Mo hg)]
   have hav:Array.map a.eval args=(a.eval x::xs.map a.eval).toArray:=by
    apply Array.toList_inj.1
    rw [Array.toList_map,hargs]; rfl
   refine Fl.wp (K':=fun _ w'=>w'.ownsRow 0 W.elem 1 (a.eval x) (W.out l ds).length ((W.out l ds).map (Value.int W.kind))∧Below 0 w w'∧∀ b,b<w.heap.size→(a.eval x).ownBlock≠some b→w'.heap[b]?=w.heap[b]?) ?_ ?_
   ·unfold Fl
    have hexec:(execOp a.eval ⟨dst,.call ⟨.value f,args,ts⟩,ty,pos,after,guard⟩).run P w=.ok (.enter g (a.eval x::xs.map a.eval).toArray) w:=by
     simp only [execOp,resolve,hfv,Deferred.ofValue,Sem.run_bind,Sem.run_pure,Result.andThen_ok,invoke]
     have:(#[]++Array.map a.eval args++#[]:Array Value)=(a.eval x::xs.map a.eval).toArray:=by rw [hav]; simp
     rw [this]
     exact (he.wr g W hE).call _ _
    rw [hexec]
    exact hrun.mono fun en w' ⟨⟨u,hu⟩,ho,hb,hk⟩=>⟨u,hu,ho,hb,hk⟩
   ·rintro u w' ⟨ho,hb,hk⟩
    obtain ⟨m1,m2,m3⟩:=Ahs hm hp hlk hlive hkind hown ho hb hk
    exact hK u w' ⟨A,m1,m2,m3,by simp [Au],fun m q hq hn=>(by rw [hn] at hq; cases hq),fun h=>(by cases h)⟩
 | copy args ts x y t t' ti ei e k l z hop hargs hts hx hT hti hE hei hlk hz hd hob =>
   subst hop hd hob
   obtain rfl:args=#[x,y]:=by
    cases args with | mk l=>simp only at hargs; rw [hargs]
   obtain rfl:ts=#[t,t']:=by
    cases ts with | mk l=>simp only at hts; rw [hts]
   have hx':=hr x (by simp [Op.operands,Call.operands])
   have hy':=hr y (by simp [Op.operands,Call.operands])
   rw [hx] at hx'
   obtain ⟨p,hp,hlive,hkind,hown⟩:=own hlk hx'
   have hu:=(he.ty t ti hT).desc
   rw [hti] at hu
   simp only [Dd] at hu
   have hs:(P.info? e).map (·.size)=some 1:=by
    obtain ⟨i,zz,hi,hsz,_⟩:=(he.ty e ei hE).info
    rw [hi,Option.map_some,hsz,hei]
   obtain ⟨w',hrun,ho,hb,hk⟩:=Ats (sT:=t') (ty:=ty) hu hs (Ol hown (Nat.zero_le _)) (X1 hm hy' hz)
   intro K hK
   rw [A43 (Mo hg)]
   obtain ⟨m1,m2,m3⟩:=Ahs hm hp hlk hlive hkind hown ho hb hk
   unfold Oper.wp
   simp [execOp,resolve,invoke,builtin,hrun,Result.andThen]
   exact hK _ w' ⟨A,m1,m2,m3,by simp [Au,goInt],fun m q hq hn=>(by rw [hn] at hq; cases hq),fun h=>(by cases h)⟩
theorem Zz (he:Kb P E) {ops:Array Oper} {draw:Bool} {st st':St} {o:Oper} (hs:Yg E ops draw st o=some (true,st')):∃ d,S4 P E ops draw st o st' d:=by
 unfold Yg at hs
 cases hp:Aye E o with
 | true=>rw [hp] at hs; cases hs
 | false =>
 rw [hp,A4k] at hs
 have hfree:∀ t,o.dst=some t→E.np≤t:=fun t ht=>by
  unfold Aye at hp
  rw [ht] at hp
  rcases A5d t E.np with h | h
  ·have hp:Nat.blt t E.np=false:=hp
   rw [show Nat.blt t E.np=true by rw [Nat.blt_eq]; exact h] at hp; cases hp
  ·exact h
 cases hmut:Uf o.op with
 | false =>
   by_cases hsp:∀ g?,Qv ops st.tmps o=some g?→(bif draw then none else Pk E st.heap (H6 st.tmps) g? o.op)=none
   ·exact Agy he hs hfree hmut hsp
   ·exact Ajw he hs hfree hmut hsp
 | true =>
   obtain ⟨dst,op,ty,pos,after,guard⟩:=o
   dsimp only at hmut
   unfold Uf at hmut
   split at hmut
   ·exact Agx he hs hfree
   ·exact Aet he hs hfree
   ·cases hmut
end
end Go.Den
namespace Go.Den
open Go.RowKit (Below)
structure Acp (E:Env) where
 Hk:Nat→Prop
 val:Nat→Value
structure Ky {E:Env} (S:Acp E) (I0:Nat→Prop) (B:Nat) (w0:World) (A:Nat→Option Place) (f:Nat→Option (Bool × OB)) (g:Nat→DV) (len:Nat) (a:Act) (w:World):Prop where
 defers:a.defers=[]
 size:a.tmps.size=len
 below:Below B w0 w
 hB:B≤w.heap.size
 I0lt:∀ b,I0 b→b<B
 obj:∀ n p,A n=some p→∃ fo,f n=some fo∧D3 (B3 I0 B A w) w p fo
 blkB:∀ n p b,A n=some p→p.st≠.dead→p.Hk=some b→B≤b∧b<w.heap.size
 inj:∀ n m p q b,A n=some p→A m=some q→p.st≠.dead→q.st≠.dead→p.Hk=some b→q.Hk=some b→n=m
 tmps:∀ t,Au (B3 I0 B A w) w (g t) (a.tmps.getD t undef)
 kept:∀ b,S.Hk b→b<w.heap.size∧w.heap[b]?=w0.heap[b]?∧∀ n p,A n=some p→p.st=.live→p.Hk≠some b
 pin:∀ t,t<E.np→a.tmps.getD t undef=S.val t
theorem Adp {S:Nat→Prop} {A A':Nat→Option Place} {w0 w w':World} (h:∀ b,S b→b<w.heap.size∧w.heap[b]?=w0.heap[b]?∧∀ n p,A n=some p→p.st=.live→p.Hk≠some b) (hm:Jl A w A' w') :
 ∀ b,S b→b<w'.heap.size∧w'.heap[b]?=w0.heap[b]?∧∀ n p,A' n=some p→p.st=.live→p.Hk≠some b:=fun b hb=>by
 obtain ⟨k1,k2,k3⟩:=h b hb
 refine ⟨A5r k1 hm.size,(hm.kept b k1 k3).trans k2,fun n p hp hl hbk=>?_⟩
 obtain ⟨m,q,hq,hql,hqb⟩:=hm.live n p b hp hl hbk k1
 exact k3 m q hq hql hqb
section
variable {P:Program} {E:Env} {S:Acp E} {I0:Nat→Prop} {B:Nat} {w0:World} {A:Nat→Option Place} {f f':Nat→Option (Bool × OB)} {g g':Nat→DV} {len:Nat} {a:Act} {w:World}
theorem Ky.mem (h:Ky S I0 B w0 A f g len a w) {hp:El} (hf:∀ n p fo,A n=some p→look hp n=some fo→f n=some fo):Mem I0 B A hp w :=
 ⟨h.hB,h.I0lt,fun n p fo hn hl=>by
  obtain ⟨fo',h1,h2⟩:=h.obj n p hn
  rw [hf n p fo hn hl] at h1; cases h1; exact h2,h.blkB,h.inj⟩
theorem Wn {dst:Option Tmp} {v:Value} {t:Nat}:(a.put dst v).tmps.getD t undef=if dst=some t∧t<a.tmps.size then v else a.tmps.getD t undef:=by
 cases dst with
 | none=>simp [Act.put]
 | some d =>
   simp only [Act.put,A4j,Array.getD_eq_getD_getElem?]
   by_cases h:d=t
   ·subst h
    by_cases h2:d<a.tmps.size
    ·simp [h2]
    ·simp [h2]
   ·rw [Array.getElem?_setIfInBounds_ne h,A42 (fun e=>h e.1)]
theorem Adv {l:List DV} {dst:Option Nat} {d:DV} {t:Nat}:(Uo l dst d).getD t .undef=if dst=some t∧t<l.length then d else l.getD t .undef:=by
 cases dst with
 | none=>simp [Uo]
 | some e =>
   simp only [Uo,A4j,A4q]
   by_cases h:e=t
   ·subst h
    by_cases h2:e<l.length
    ·simp [h2]
    ·simp [h2]
   ·rw [List.getElem?_set_ne h,A42 (fun e=>h e.1)]
theorem Ahi {dst:Option Tmp} {v:Value}:(a.put dst v).tmps.size=a.tmps.size:=by cases dst<;>simp [Act.put]
theorem put_defers {dst:Option Tmp} {v:Value}:(a.put dst v).defers=a.defers:=by cases dst<;>rfl
theorem Yi {l:List DV} {dst:Option Nat} {d:DV}:(Uo l dst d).length=l.length:=by cases dst<;>simp [Uo]
theorem Ky.step {ops:Array Oper} {st st':St} {o:Oper} {d:DV} (h:Ky S I0 B w0 A f g len a w) (hk:S4 P E ops true st o st' d)
 (h1:∀ n,A n≠none→look st.heap n≠none→look st.heap n=f n)
 (h2:∀ t∈o.looksAt ops,st.tmps.getD t .undef=g t) (h3:st.tmps.length=len)
 (h4:∀ n,look st.heap n=none→look st'.heap n≠none→f n=none)
 (h5:∀ n,look st'.heap n≠none→(n∈Hc E ops st o∨look st.heap n=none)→f' n=look st'.heap n)
 (h6:∀ n,n ∉ Hc E ops st o→¬(look st.heap n=none∧look st'.heap n≠none)→f' n=f n)
 (h7:∀ t,g' t=if o.dst=some t∧t<len then d else g t) {Q:Exit→Act→World→Prop} :
 Ks P ops o a w Q fun v w'=>∃ A',Ky S I0 B w0 A' f' g' len (a.put o.dst v) w':=by
 have hm:Mem I0 B A st.heap w:=h.mem fun n p fo hn hl=>by
  rw [← h1 n (by rw [hn]; simp) (by rw [hl]; simp)]; exact hl
 refine (hk.run hm (h.size.trans h3.symm) (fun t ht=>by rw [h2 t ht]; exact h.tmps t) (fun n hn hn'=>?_)).mono ?_
 ·cases hA:A n with
  | none=>rfl
  | some p =>
    obtain ⟨fo,hfo,_⟩:=h.obj n p hA
    rw [h4 n hn hn'] at hfo; cases hfo
 ·rintro v w' ⟨A',hm',hmv,hb,hv,hnew,hdr⟩
  obtain ⟨hkept,hsame⟩:=hdr rfl
  have hlater:=hmv.Ec (I0:=I0) (B:=B)
  refine ⟨A',put_defers.trans h.defers,Ahi.trans h.size,h.below.trans hb,hm'.hB,hm'.I0lt,fun n p hp=>?_,hm'.blkB,hm'.inj,fun t=>?_,Adp h.kept hmv,fun t ht=>by
   rw [Wn,A42 (fun e=>by have:=hk.free t e.1; omega)]; exact h.pin t ht⟩
  ·have Nr:look st'.heap n≠none→(n∈Hc E ops st o∨look st.heap n=none)→∃ fo,f' n=some fo∧D3 (B3 I0 B A' w') w' p fo:=by
    intro hl ht
    cases hq:look st'.heap n with
    | none=>exact absurd hq hl
    | some fo=>exact ⟨fo,by rw [h5 n hl ht,hq],hm'.obj n p fo hp hq⟩
   cases hA:A n with
   | none =>
     obtain ⟨e1,e2⟩:=hnew n p hp hA
     exact Nr e2 (.inr e1)
   | some q =>
     obtain ⟨fo,hfo,hr⟩:=h.obj n q hA
     by_cases hmu:n∈Hc E ops st o
     ·exact Nr (hk.stays n (hk.there rfl n hmu)) (.inl hmu)
     ·have hs:=hsame n q hmu hA
      rw [hp] at hs; cases hs
      refine ⟨fo,?_,Pl hlater (fun hd b hb=>hkept n _ b hmu hA hd hb) hr⟩
      rw [h6 n hmu (fun e=>by rw [h4 n e.1 e.2] at hfo; cases hfo)]; exact hfo
  ·rw [Wn,h7,h.size]
   split
   ·exact hv
   ·exact Au.Ec hlater _ _ (h.tmps t)
def Gh {E:Env} (S:Acp E) (I0:Nat→Prop) (B:Nat) (w0:World) (st:St) (a:Act) (w:World):Prop:=∃ A,Ky S I0 B w0 A (look st.heap) (fun t=>st.tmps.getD t .undef) st.tmps.length a w
theorem Gh.step {ops:Array Oper} {draw:Bool} {st st':St} {o:Oper} {d:DV} (h:Gh S I0 B w0 st a w) (hk:S4 P E ops draw st o st' d) {Q:Exit→Act→World→Prop} :
 Ks P ops o a w Q fun v w'=>Gh S I0 B w0 st' (a.put o.dst v) w':=by
 obtain ⟨A,h⟩:=h
 have hm:Mem I0 B A st.heap w:=h.mem fun n p fo hn hl=>hl
 refine (hk.run hm h.size (fun t _=>h.tmps t) (fun n hn _=>?_)).mono ?_
 ·cases hA:A n with
  | none=>rfl
  | some p =>
    obtain ⟨fo,hfo,_⟩:=h.obj n p hA
    rw [hn] at hfo; cases hfo
 ·rintro v w' ⟨A',hm',hmv,hb,hv,hnew,_⟩
  have hlater:=hmv.Ec (I0:=I0) (B:=B)
  refine ⟨A',put_defers.trans h.defers,Ahi.trans (h.size.trans (by rw [hk.tmps,Yi])),h.below.trans hb,hm'.hB,hm'.I0lt,fun n p hp=>?_,hm'.blkB,hm'.inj,fun t=>?_,Adp h.kept hmv,fun t ht=>by
   rw [Wn,A42 (fun e=>by have:=hk.free t e.1; omega)]; exact h.pin t ht⟩
  ·have hl:look st'.heap n≠none:=by
    cases hA:A n with
    | none=>exact (hnew n p hp hA).2
    | some q =>
      obtain ⟨fo,hfo,_⟩:=h.obj n q hA
      exact hk.stays n (by rw [hfo]; simp)
   cases hq:look st'.heap n with
   | none=>exact absurd hq hl
   | some fo=>exact ⟨fo,rfl,hm'.obj n p fo hp hq⟩
  ·rw [Wn,hk.tmps,Adv,h.size]
   split
   ·exact hv
   ·exact Au.Ec hlater _ _ (h.tmps t)
end
end Go.Den
namespace Go.Den
open Go.RowKit (Below)
theorem M3 {n:Nat}:∀ {l:List Nat},Nl n l=true↔n∈l
 | []=>by simp [Nl]
 | m::l=>by
   simp only [Nl,List.mem_cons]
   by_cases h:n=m
   ·subst h; simp
   ·rw [show Nat.beq n m=false from by cases hb:Nat.beq n m with | false=>rfl | true=>exact absurd (A4y hb) h]
    simp only [A4k,M3,h,false_or]
theorem Uy {n:Nat} {l:List Nat}:Nl n l=false↔n ∉ l:=by rw [← M3]; simp
section
variable {α:Type} {val:Nat→α} {touch S S':Nat→Prop}
open Classical in
def after (val:Nat→α) (touch S:Nat→Prop):Nat→α
 | 0=>val 0
 | k+1=>if S k∧touch k then val (k+1) else after val touch S k
theorem Pu {N:Nat} (h:∀ j,j<N→touch j→(S j↔S' j)):after val touch S N=after val touch S' N:=by
 induction N with
 | zero=>rfl
 | succ k ih =>
   simp only [after]
   by_cases ht:touch k
   ·rw [ih fun j hj=>h j (by omega)]
    by_cases hs:S k
    ·rw [A43 ⟨hs,ht⟩,A43 ⟨(h k (by omega) ht).1 hs,ht⟩]
    ·rw [A42 (fun e=>hs e.1),A42 (fun e=>hs ((h k (by omega) ht).2 e.1))]
   ·rw [A42 (fun e=>ht e.2),A42 (fun e=>ht e.2)]
    exact ih fun j hj=>h j (by omega)
theorem Aed:∀ {k:Nat},(∀ j,j<k→¬ touch j→val (j+1)=val j)→(∀ j,j<k→touch j→S j)→after val touch S k=val k
 | 0,_,_=>rfl
 | k+1,hv,h=>by
   simp only [after]
   by_cases ht:touch k
   ·rw [A43 ⟨h k (by omega) ht,ht⟩]
   ·rw [A42 (fun e=>ht e.2),Aed (fun j hj=>hv j (by omega)) (fun j hj=>h j (by omega)),hv k (by omega) ht]
theorem Vc {k:Nat}:∀ {N:Nat},k≤N→(∀ j,k≤j→j<N→touch j→¬ S j)→after val touch S N=after val touch S k
 | 0,hk,_=>by obtain rfl:k=0:=by omega
              rfl
 | N+1,hk,h=>by
   by_cases e:k=N+1
   ·rw [e]
   ·simp only [after]
    rw [A42 (fun e'=>h N (by omega) (by omega) e'.2 e'.1)]
    exact Vc (by omega) fun j h1 h2=>h j h1 (by omega)
theorem Nd {k N:Nat} (hv:∀ j,j<N→¬ touch j→val (j+1)=val j) (hk:k≤N) (h:∀ j,j<N→touch j→(S j↔j<k)):after val touch S N=val k:=by
 rw [Vc hk fun j h1 h2 h3 h4=>by have:=(h j h2 h3).1 h4; omega]
 exact Aed (fun j hj=>hv j (by omega)) fun j h1 h2=>(h j (by omega) h2).2 h1
theorem Ab3 {k N:Nat} (hk:k<N) (ht:touch k) (hs:S k) (h:∀ j,k<j→j<N→touch j→¬ S j):after val touch S N=val (k+1):=by
 rw [Vc (k:=k+1) (by omega) fun j h1 h2=>h j (by omega) h2]
 simp only [after]
 rw [A43 ⟨hs,ht⟩]
end
theorem M4 {p:Nat→Bool}:∀ {h:El} {n:Nat},look (h.filter fun x=>p x.1) n=bif p n then look h n else none
 | [],n=>by simp [look]
 | (m,x)::h,n=>by
   simp only [List.filter_cons,look]
   by_cases e:m=n
   ·subst e
    cases hp:p m<;>simp [look,M4,hp]
   ·rw [show (m==n)=false by simpa using e]
    cases hp:p m
    ·simpa using M4
    ·simp only [if_true,look,A4k,show (m==n)=false by simpa using e]
     exact M4
theorem Aoy {ms:List Nat} {h:El} {n:Nat}:look (Ahv ms h) n=if n∈ms then none else look h n:=by
 unfold Ahv
 rw [M4 (p:=fun m=>!(Nl m ms))]
 by_cases hn:n∈ms
 ·rw [M3.2 hn,A43 hn]; rfl
 ·rw [Uy.2 hn,A42 hn]; rfl
theorem Asl {ms:List Nat} {h:El} {n:Nat}:look (Av1 ms h) n=if n∈ms then look h n else none:=by
 unfold Av1
 rw [M4 (p:=fun m=>Nl m ms)]
 by_cases hn:n∈ms
 ·rw [M3.2 hn,A43 hn]; rfl
 ·rw [Uy.2 hn,A42 hn]; rfl
theorem Asj {h:El} {n:Nat} {x:Bool × OB} (hl:look h n=some x):(n,x)∈h:=by
 induction h with
 | nil=>cases hl
 | cons y h ih =>
   obtain ⟨m,z⟩:=y
   simp only [look] at hl
   by_cases e:m=n
   ·subst e; simp at hl; subst hl; exact A5v
   ·rw [show (m==n)=false by simpa using e] at hl
    exact A5l _ (ih hl)
structure Saw (P:Program) (E:Env) (ops:Array Oper) (ms:List Nat) (st:St) (o:Oper) (st':St) (mk mk':St) (d:DV):Prop where
 ok:S4 P E ops true mk o mk' d
 seen:mk=Pz ms st
 tmps:mk.tmps=st.tmps
 tmps':st'.tmps=mk'.tmps
 mask:∀ n,look mk.heap n=if n∈ms then none else look st.heap n
 out:∀ n,look mk'.heap n≠none→n ∉ ms
 heap:∀ n,look st'.heap n=if n∈ms then look st.heap n else look mk'.heap n
theorem Aqy {P:Program} {E:Env} (he:Kb P E) {ops:Array Oper} {ms:List Nat} {st st':St} {o:Oper} (h:Agw E ops ms st o=some (true,st')):∃ mk mk' d,Saw P E ops ms st o st' mk mk' d:=by
 cases ms with
 | nil =>
   simp only [Agw] at h
   obtain ⟨d,hd⟩:=Zz he h
   exact ⟨st,st',d,hd,rfl,rfl,rfl,fun n=>by simp,fun n _=>by simp,fun n=>by simp⟩
 | cons m ms =>
   simp only [Agw] at h
   cases hs:Yg E ops true ⟨st.tmps,Ahv (m::ms) st.heap⟩ o with
   | none=>rw [hs] at h; cases h
   | some r =>
     obtain ⟨r,mk'⟩:=r
     rw [hs] at h
     simp only at h
     cases hc:(mk'.heap.all fun x=>!(Nl x.1 (m::ms))) with
     | false=>rw [hc] at h; cases h
     | true =>
       rw [hc,A4g,A4j,A4p] at h
       obtain ⟨rfl,rfl⟩:=h
       obtain ⟨d,hd⟩:=Zz he hs
       have hout:∀ n,look mk'.heap n≠none→n ∉ m::ms:=by
        intro n hn
        cases hq:look mk'.heap n with
        | none=>exact absurd hq hn
        | some x =>
          have:=List.all_eq_true.1 hc _ (Asj hq)
          rw [Bool.not_eq_true'] at this
          exact Uy.1 this
       refine ⟨_,mk',d,hd,rfl,rfl,rfl,fun n=>Aoy,hout,fun n=>?_⟩
       show look (mk'.heap++Av1 (m::ms) st.heap) n=_
       rw [Po,Asl]
       by_cases hn:n∈m::ms
       ·rw [A43 hn]
        cases hq:look mk'.heap n with
        | none=>simp [hn]
        | some x=>exact absurd hn (hout n (by rw [hq]; simp))
       ·rw [A42 hn,A42 hn]
        cases look mk'.heap n<;>rfl
section
variable {P:Program} {E:Env} {ops:Array Oper} {ms:List Nat} {st st' mk mk':St} {o:Oper} {d:DV} (h:Saw P E ops ms st o st' mk mk' d)
include h
theorem Saw.Ayl {n:Nat} (hn:n∈Hc E ops (Pz ms st) o):look st.heap n≠none∧n ∉ ms:=by
 have h1:=h.ok.there rfl n (by rw [h.seen]; exact hn)
 rw [h.mask] at h1
 by_cases hm:n∈ms
 ·rw [A43 hm] at h1; exact absurd rfl h1
 ·rw [A42 hm] at h1; exact ⟨h1,hm⟩
theorem Saw.stays {n:Nat} (hn:look st.heap n≠none):look st'.heap n≠none:=by
 rw [h.heap]
 by_cases hm:n∈ms
 ·rw [A43 hm]; exact hn
 ·rw [A42 hm]
  exact h.ok.stays n (by rw [h.mask,A42 hm]; exact hn)
theorem Saw.same {n:Nat} (hn:n ∉ Hc E ops (Pz ms st) o) (hc:¬(look st.heap n=none∧look st'.heap n≠none)):look st'.heap n=look st.heap n:=by
 cases hq:look st.heap n with
 | none =>
   cases hq':look st'.heap n with
   | none=>rfl
   | some x=>exact absurd ⟨hq,by rw [hq']; simp⟩ hc
 | some x =>
   rw [h.heap]
   by_cases hm:n∈ms
   ·rw [A43 hm,hq]
   ·rw [A42 hm]
    have h1:look mk.heap n=some x:=by rw [h.mask,A42 hm,hq]
    rw [h.ok.same rfl n (by rw [h.seen]; exact hn) (by rw [h1]; simp),h1]
theorem Saw.made {n:Nat} (h1:look st.heap n=none) (h2:look st'.heap n≠none):n ∉ ms:=by
 intro hm
 rw [h.heap,A43 hm] at h2
 exact h2 h1
theorem Saw.getD {t:Nat}:st'.tmps.getD t .undef=if o.dst=some t∧t<st.tmps.length then d else st.tmps.getD t .undef:=by
 rw [h.tmps',h.ok.tmps,h.tmps,Adv]
theorem Saw.length:st'.tmps.length=st.tmps.length:=by rw [h.tmps',h.ok.tmps,Yi,h.tmps]
end
structure Trace (P:Program) (E:Env) (ops:Array Oper) (D:List (List Nat)) (M:List (Nat × List Nat)) (tr:Nat→St):Prop where
 saw:∀ k o,ops[k]?=some o→∃ mk mk' d,Saw P E ops (I6 D k M) (tr k) o (tr (k+1)) mk mk' d
 Ayl:∀ k o,ops[k]?=some o→Sh D k=true→∀ n,n∈Hc E ops (Pz (I6 D k M) (tr k)) o→n∈Nw k M
theorem Ym {β:Type} {P:Program} {E:Env} (he:Kb P E) {ops:Array Oper} {D:List (List Nat)} {M:List (Nat × List Nat)} {K:St→Option β} {b:β} :
 ∀ (l:List Oper) (k:Nat) (st:St),(∀ j,l[j]?=ops[k+j]?)→Al8 E ops D M k l st K=some b →
 ∃ tr:Nat→St,tr 0=st∧K (tr l.length)=some b∧∀ j o,l[j]?=some o→(∃ mk mk' d,Saw P E ops (I6 D (k+j) M) (tr j) o (tr (j+1)) mk mk' d)∧(Sh D (k+j)=true→∀ n,n∈Hc E ops (Pz (I6 D (k+j) M) (tr j)) o→n∈Nw (k+j) M)
 | [],k,st,_,h=>⟨fun _=>st,rfl,h,fun j o hj=>(by cases hj)⟩
 | o::l,k,st,hl,h=>by
   simp only [Al8] at h
   cases hs:Agw E ops (I6 D k M) st o with
   | none=>rw [hs] at h; cases h
   | some r =>
     obtain ⟨r,st'⟩:=r
     rw [hs] at h
     simp only at h
     cases hc:(r&&(!(Sh D k)||(Hc E ops (Pz (I6 D k M) st) o).all fun n=>Nl n (Nw k M))) with
     | false=>rw [hc] at h; cases h
     | true =>
       rw [hc,A4g] at h
       simp only [A4r,Bool.or_eq_true,Bool.not_eq_true',List.all_eq_true] at hc
       obtain ⟨rfl,hc⟩:=hc
       obtain ⟨tr,h1,h2,h3⟩:=Ym he l (k+1) st' (fun j=>by have:=hl (j+1); simpa [Nat.add_assoc,Nat.add_comm 1 j] using this) h
       refine ⟨fun j=>match j with | 0=>st | j+1=>tr j,rfl,h2,fun j p hj=>?_⟩
       cases j with
       | zero =>
         simp only [List.getElem?_cons_zero,A4j] at hj
         subst hj
         refine ⟨by show ∃ mk mk' d,Saw P E ops (I6 D k M) st o (tr 0) mk mk' d; rw [h1]; exact Aqy he hs,fun hlo n hn=>?_⟩
         rcases hc with hc | hc
         ·have hlo':Sh D k=true:=hlo
          rw [hc] at hlo'; cases hlo'
         ·exact M3.1 (hc n hn)
       | succ j =>
         rw [List.getElem?_cons_succ] at hj
         have:=h3 j p hj
         rw [show k+(j+1)=k+1+j by omega]
         exact this
end Go.Den
namespace Go.Den
open Go.RowKit (Below)
theorem Ug {ops:Array Oper} {k:Nat} {o:Oper} (h:ops[k]?=some o):(ops.toList.map Jz).getD k []=Jz o:=by
 have:ops.toList[k]?=some o:=by simpa using h
 simp [A4q,this]
theorem G5 {ops:Array Oper} {k i:Nat} (h:i∈(ops.toList.map Jz).getD k []):∃ o,ops[k]?=some o∧i∈Jz o:=by
 cases hk:ops[k]? with
 | none =>
   have:ops.toList[k]?=none:=by simpa using hk
   simp [A4q,this] at h
 | some o=>rw [Ug hk] at h; exact ⟨o,rfl,h⟩
theorem Aht {o:Oper} {i:Nat}:i∈Jz o↔∃ e∈o.after,Region.binds .any e=true∧e.on=i:=by
 unfold Jz
 simp only [List.mem_filterMap,Array.mem_toList_iff]
 constructor
 ·rintro ⟨e,he,h⟩
  cases hb:Region.binds .any e with
  | false=>rw [hb] at h; simp at h
  | true=>rw [hb] at h; simp at h; exact ⟨e,he,hb,h⟩
 ·rintro ⟨e,he,hb,rfl⟩
  exact ⟨e,he,by rw [hb]; rfl⟩
structure Vd (ops:Array Oper):Prop where
 lt:∀ (k:Nat) o,ops[k]?=some o→∀ i∈Jz o,i<k
 once:∀ (k j:Nat) o p t,ops[k]?=some o→ops[j]?=some p→p.dst=some t→o.dst=some t→j=k
 told:∀ (k j:Nat) o p t,ops[k]?=some o→ops[j]?=some p→p.dst=some t→t∈o.looksAt ops→Y7 (ops.toList.map Jz) j k=true∨Y7 (ops.toList.map Jz) k j=true
theorem lt_size {ops:Array Oper} {k:Nat} {o:Oper} (h:ops[k]?=some o):k<ops.size:=by
 rcases A5d k ops.size with h' | h'
 ·exact h'
 ·rw [Array.getElem?_eq_none h'] at h; cases h
theorem Aiu {ops:Array Oper} (h:Afv ops (ops.toList.map Jz)=true):Vd ops:=by
 unfold Afv at h
 simp only [List.all_eq_true,List.mem_range,A5m,Array.length_toList] at h
 refine ⟨fun k o hk i hi=>?_,fun k j o p t hk hj hp ho=>?_,fun k j o p t hk hj hp ht=>?_⟩
 ·have h1:=h k (lt_size hk)
  rw [A4r,List.all_eq_true] at h1
  have:=h1.1 i (by rw [Ug hk]; exact hi)
  simpa [Nat.blt_eq] using this
 ·have h1:=h k (lt_size hk)
  rw [A4r,hk] at h1
  have h2:=h1.2
  simp only [List.all_eq_true,List.mem_range] at h2
  have h3:=h2 j (lt_size hj)
  rw [hj] at h3
  simp only [hp,A4r,Bool.or_eq_true] at h3
  rcases h3.1 with h4 | h4
  ·exact A4y h4
  ·rw [ho] at h4; simp at h4
 ·have h1:=h k (lt_size hk)
  rw [A4r,hk] at h1
  have h2:=h1.2
  simp only [List.all_eq_true,List.mem_range] at h2
  have h3:=h2 j (lt_size hj)
  rw [hj] at h3
  simp only [hp,A4r,Bool.or_eq_true] at h3
  rcases h3.2 with h4 | h4
  ·rw [M3.2 ht] at h4; simp at h4
  ·exact h4
theorem Ad9 {D:List (List Nat)} {i j:Nat} (h:Y7 D i j=true):i∈D.getD j []∨∃ m∈D.getD j [],i∈D.getD m []:=by
 unfold Y7 at h
 simp only [Bool.or_eq_true,List.any_eq_true] at h
 exact h.imp M3.1 fun ⟨m,h1,h2⟩=>⟨m,h1,M3.1 h2⟩
section
variable {ops:Array Oper} (hd:Vd ops)
include hd
theorem Vd.Abz {i j:Nat} (h:Y7 (ops.toList.map Jz) i j=true):i<j:=by
 rcases Ad9 h with h | ⟨m,h1,h2⟩
 ·obtain ⟨o,ho,hi⟩:=G5 h
  exact hd.lt j o ho i hi
 ·obtain ⟨o,ho,hi⟩:=G5 h1
  obtain ⟨p,hp,hj⟩:=G5 h2
  have:=hd.lt j o ho m hi
  have:=hd.lt m p hp i hj
  omega
end
def Yd (ops:Array Oper) (S:Nat→Prop):Prop:=∀ k o,ops[k]?=some o→S k→∀ i∈Jz o,S i
theorem Yd.bef {ops:Array Oper} {S:Nat→Prop} (hc:Yd ops S) {k:Nat} (hk:∀ o,ops[k]?=some o→∀ i∈Jz o,S i) {i:Nat} (h:Y7 (ops.toList.map Jz) i k=true):S i:=by
 rcases Ad9 h with h | ⟨m,h1,h2⟩
 ·obtain ⟨o,ho,hi⟩:=G5 h
  exact hk o ho i hi
 ·obtain ⟨o,ho,hi⟩:=G5 h1
  obtain ⟨p,hp,hj⟩:=G5 h2
  exact hc m p hp (hk o ho m hi) i hj
theorem X8 {D:List (List Nat)} {i j:Nat} (h1:i≠j) (h2:Y7 D i j≠true) (h3:Y7 D j i≠true):O1 D i j=true:=by
 unfold O1
 have e1:Nat.beq i j=false:=by
  cases hb:Nat.beq i j with
  | false=>rfl
  | true=>exact absurd (A4y hb) h1
 rw [e1,Bool.not_eq_true _ |>.mp h2,Bool.not_eq_true _ |>.mp h3]; rfl
theorem Ux {D:List (List Nat)} {s k n:Nat} (ha:O1 D s k=true):∀ {M:List (Nat × List Nat)},n∈Nw s M→n∈I6 D k M
 | [],h=>by simp [Nw] at h
 | (s',ns)::M,h=>by
   simp only [Nw] at h
   simp only [I6]
   cases hb:Nat.beq s' s with
   | true =>
     have:=A4y hb
     subst this
     rw [hb] at h
     rw [ha]
     simp only [A4g,List.mem_append] at h ⊢
     exact h.imp id (Ux ha)
   | false =>
     rw [hb] at h
     simp only [A4k] at h
     have:=Ux ha h
     cases O1 D s' k
     ·exact this
     ·exact List.mem_append.2 (.inr this)
theorem Aox {D:List (List Nat)} {s k:Nat} (ha:O1 D s k=true) (hk:k<D.length):Sh D s=true:=by
 unfold Sh
 exact List.any_eq_true.2 ⟨k,List.mem_range.2 hk,ha⟩
def Aer (E:Env) (ops:Array Oper) (M:List (Nat × List Nat)) (tr:Nat→St) (n:Nat) (k:Nat):Prop :=
 ∃ o,ops[k]?=some o∧(n∈Hc E ops (Pz (I6 (ops.toList.map Jz) k M) (tr k)) o∨(look (tr k).heap n=none∧look (tr (k+1)).heap n≠none))
def Aqu (ops:Array Oper) (len:Nat) (t:Nat) (k:Nat):Prop:=t<len∧∃ o,ops[k]?=some o∧o.dst=some t
def Sp (E:Env) (ops:Array Oper) (M:List (Nat × List Nat)) (tr:Nat→St) (S:Nat→Prop) (n:Nat):Option (Bool × OB):=after (fun k=>look (tr k).heap n) (Aer E ops M tr n) S ops.size
def Acz (ops:Array Oper) (tr:Nat→St) (S:Nat→Prop) (t:Nat):DV:=after (fun k=>(tr k).tmps.getD t .undef) (Aqu ops (tr 0).tmps.length t) S ops.size
section
variable {P:Program} {E:Env} {ops:Array Oper} {M:List (Nat × List Nat)} {tr:Nat→St} (hd:Vd ops) (T:Trace P E ops (ops.toList.map Jz) M tr)
include T
theorem Trace.len {k:Nat} (h:k≤ops.size):(tr k).tmps.length=(tr 0).tmps.length:=by
 induction k with
 | zero=>rfl
 | succ k ih =>
   obtain ⟨mk,mk',d,hs⟩:=T.saw k ops[k] (A40 (by omega))
   rw [hs.length,ih (by omega)]
theorem Trace.stays {n j k:Nat} (hj:look (tr j).heap n≠none) (hjk:j≤k) (hk:k≤ops.size):look (tr k).heap n≠none:=by
 induction k with
 | zero=>obtain rfl:j=0:=by omega
         exact hj
 | succ k ih =>
   by_cases e:j=k+1
   ·rw [← e]; exact hj
   ·obtain ⟨mk,mk',d,hs⟩:=T.saw k ops[k] (A40 (by omega))
    exact hs.stays (ih (by omega) (by omega))
theorem Trace.Ap9 {n j:Nat} (hj:j<ops.size) (ht:¬ Aer E ops M tr n j):look (tr (j+1)).heap n=look (tr j).heap n:=by
 obtain ⟨mk,mk',d,hs⟩:=T.saw j ops[j] (A40 hj)
 exact hs.same (fun h=>ht ⟨_,A40 hj,.inl h⟩) (fun h=>ht ⟨_,A40 hj,.inr h⟩)
theorem Trace.Axo {t j:Nat} (hj:j<ops.size) (ht:¬ Aqu ops (tr 0).tmps.length t j):(tr (j+1)).tmps.getD t .undef=(tr j).tmps.getD t .undef:=by
 obtain ⟨mk,mk',d,hs⟩:=T.saw j ops[j] (A40 hj)
 rw [hs.getD,T.len (by omega),A42 (fun e=>ht ⟨e.2,_,A40 hj,e.1⟩)]
theorem Trace.Nr {n j:Nat} {o:Oper} (ho:ops[j]?=some o) (ht:Aer E ops M tr n j):(n∈Hc E ops (Pz (I6 (ops.toList.map Jz) j M) (tr j)) o∧look (tr j).heap n≠none)∨(look (tr j).heap n=none∧look (tr (j+1)).heap n≠none):=by
 obtain ⟨o',ho',h⟩:=ht
 rw [ho] at ho'; cases ho'
 rcases h with h | h
 ·obtain ⟨mk,mk',d,hs⟩:=T.saw j o ho
  exact .inl ⟨h,(hs.Ayl h).1⟩
 ·exact .inr h
theorem Trace.As0 {s k n:Nat} {o:Oper} (hs:ops[s]?=some o) (hk:k<ops.size) (ha:O1 (ops.toList.map Jz) s k=true) (hn:n∈Hc E ops (Pz (I6 (ops.toList.map Jz) s M) (tr s)) o):n∈I6 (ops.toList.map Jz) k M :=
 Ux ha (T.Ayl s o hs (Aox ha (by simpa using hk)) n hn)
omit T in
theorem Sy {S:Nat→Prop} (hd:Vd ops) (hc:Yd ops S) {k:Nat} (hk:¬ S k) {j:Nat} (hj:S j) (hlt:k<j):O1 (ops.toList.map Jz) j k=true:=by
 refine X8 (by omega) (fun e=>?_) (fun e=>?_)
 ·have:=hd.Abz e; omega
 ·exact hk (hc.bef (fun p hp=>hc j p hp hj) e)
omit T in
theorem Af6 {S:Nat→Prop} (hd:Vd ops) (hc:Yd ops S) {k:Nat} {o:Oper} (ho:ops[k]?=some o) (hr:∀ i∈Jz o,S i) {j:Nat} (hj:¬ S j) (hlt:j<k):O1 (ops.toList.map Jz) j k=true:=by
 refine X8 (by omega) (fun e=>?_) (fun e=>?_)
 ·exact hj (hc.bef (fun p hp=>by rw [ho] at hp; cases hp; exact hr) e)
 ·have:=hd.Abz e; omega
include hd
variable {S:Nat→Prop} (hc:Yd ops S) {k:Nat} {o:Oper} (ho:ops[k]?=some o) (hk:¬ S k) (hr:∀ i∈Jz o,S i)
include hc ho hk hr
theorem Trace.Avq {n:Nat} (hm:n ∉ I6 (ops.toList.map Jz) k M) (h1:look (tr k).heap n≠none) (h2:Sp E ops M tr S n≠none):Sp E ops M tr S n=look (tr k).heap n:=by
 have hkN:=lt_size ho
 refine Nd (val:=fun k=>look (tr k).heap n) (fun j hj ht=>T.Ap9 hj ht) (by omega) fun j hj ht=>?_
 have hoj:ops[j]?=some ops[j]:=A40 hj
 constructor
 ·intro hS
  rcases A5d j k with h | h
  ·exact h
  ·have hne:j≠k:=fun e=>hk (e ▸ hS)
   have ha:=Sy hd hc hk hS (by omega)
   rcases T.Nr hoj ht with ⟨h3,_⟩ | ⟨h3,_⟩
   ·exact absurd (T.As0 hoj hkN ha h3) hm
   ·exact absurd h3 (T.stays h1 (by omega) (by omega))
 ·intro hlt
  refine Classical.byContradiction fun hS=>?_
  have ha:=Af6 hd hc ho hr hS hlt
  rcases T.Nr hoj ht with ⟨h3,_⟩ | ⟨h3,h4⟩
  ·exact hm (T.As0 hoj hkN ha h3)
  ·
   refine h2 ?_
   have:Sp E ops M tr S n=look (tr 0).heap n:=by
    refine Nd (k:=0) (val:=fun k=>look (tr k).heap n) (fun j hj ht=>T.Ap9 hj ht) (by omega) fun i hi hti=>⟨fun hSi=>?_,fun h=>by omega⟩
    exfalso
    have hoi:ops[i]?=some ops[i]:=A40 hi
    have hij:i≠j:=fun e=>hS (e ▸ hSi)
    have hji:j<i:=by
     rcases T.Nr hoi hti with ⟨_,h5⟩ | ⟨h5,h6⟩
     ·rcases A5d j i with h | h
      ·exact h
      ·exact absurd h3 (T.stays h5 h (by omega))
     ·rcases A5d j i with h | h
      ·exact h
      ·exact absurd h3 (T.stays h6 (by omega) (by omega))
    have hap:O1 (ops.toList.map Jz) i j=true:=by
     refine X8 hij (fun e=>?_) (fun e=>?_)
     ·have:=hd.Abz e; omega
     ·exact hS (hc.bef (fun p hp=>hc i p hp hSi) e)
    rcases T.Nr hoi hti with ⟨h5,_⟩ | ⟨h5,_⟩
    ·obtain ⟨mk,mk',d,hsj⟩:=T.saw j _ hoj
     exact hsj.made h3 h4 (T.As0 hoi hj hap h5)
    ·exact absurd h5 (T.stays h4 (by omega) (by omega))
   rw [this]
   cases hq:look (tr 0).heap n with
   | none=>rfl
   | some x=>exact absurd h3 (T.stays (j:=0) (by rw [hq]; simp) (by omega) (by omega))
theorem Trace.Ax1 {t:Nat} (ht:t∈o.looksAt ops):Acz ops tr S t=(tr k).tmps.getD t .undef:=by
 have hkN:=lt_size ho
 refine Nd (val:=fun k=>(tr k).tmps.getD t .undef) (fun j hj h=>T.Axo hj h) (by omega) fun j hj hj'=>?_
 obtain ⟨_,p,hp,hdst⟩:=hj'
 rcases hd.told k j o p t ho hp hdst ht with h | h
 ·have:=hd.Abz h
  exact ⟨fun _=>this,fun _=>hc.bef (fun p hp=>by rw [ho] at hp; cases hp; exact hr) h⟩
 ·have:=hd.Abz h
  exact ⟨fun hS=>absurd (hc.bef (fun p hp=>hc j p hp hS) h) hk,fun h=>by omega⟩
theorem Trace.step {S0:Acp E} {I0:Nat→Prop} {B:Nat} {w0:World} {A:Nat→Option Place} {a:Act} {w:World} (h:Ky S0 I0 B w0 A (Sp E ops M tr S) (Acz ops tr S) (tr 0).tmps.length a w) {Q:Exit→Act→World→Prop} :
 Ks P ops o a w Q fun v w'=>∃ A',Ky S0 I0 B w0 A' (Sp E ops M tr fun j=>S j∨j=k) (Acz ops tr fun j=>S j∨j=k) (tr 0).tmps.length (a.put o.dst v) w':=by
 have hkN:=lt_size ho
 obtain ⟨mk,mk',d,hs⟩:=T.saw k o ho
 have hout:∀ {n},look mk'.heap n≠none→look mk'.heap n=look (tr (k+1)).heap n:=by
  intro n hn
  rw [hs.heap,A42 (hs.out n hn)]
 refine h.step hs.ok (fun n hA hl=>?_) (fun t ht=>?_) (by rw [hs.tmps,T.len (by omega)]) (fun n h1 h2=>?_) (fun n h1 h2=>?_) (fun n h1 h2=>?_) (fun t=>?_)
 ·have hm:n ∉ I6 (ops.toList.map Jz) k M:=fun e=>hl (by rw [hs.mask,A43 e])
  rw [hs.mask,A42 hm] at hl ⊢
  refine (T.Avq hd hc ho hk hr hm hl ?_).symm
  cases hA':A n with
  | none=>exact absurd hA' hA
  | some p =>
    obtain ⟨fo,hfo,_⟩:=h.obj n p hA'
    rw [hfo]; simp
 ·rw [hs.tmps]; exact (T.Ax1 hd hc ho hk hr ht).symm
 ·
  have hm:=hs.out n h2
  rw [hs.mask,A42 hm] at h1
  rw [hout h2] at h2
  have:Sp E ops M tr S n=look (tr 0).heap n:=by
   refine Nd (k:=0) (val:=fun k=>look (tr k).heap n) (fun j hj ht=>T.Ap9 hj ht) (by omega) fun i hi hti=>⟨fun hSi=>?_,fun h=>by omega⟩
   exfalso
   have hoi:ops[i]?=some ops[i]:=A40 hi
   have hik:i≠k:=fun e=>hk (e ▸ hSi)
   rcases T.Nr hoi hti with ⟨h5,h6⟩ | ⟨h5,h6⟩
   ·rcases A5d i k with hlt | hge
    ·exact absurd h1 (T.stays h6 (by omega) (by omega))
    ·exact hm (T.As0 hoi hkN (Sy hd hc hk hSi (by omega)) h5)
   ·rcases A5d i k with hlt | hge
    ·exact absurd h1 (T.stays h6 (by omega) (by omega))
    ·exact absurd h5 (T.stays h2 (by omega) (by omega))
  rw [this]
  cases hq:look (tr 0).heap n with
  | none=>rfl
  | some x=>exact absurd h1 (T.stays (j:=0) (by rw [hq]; simp) (by omega) (by omega))
 ·have hm:=hs.out n h1
  rw [hs.mask,A42 hm,hs.seen] at h2
  have e1:=hout h1
  rw [e1] at h1 ⊢
  have ht:Aer E ops M tr n k:=⟨o,ho,h2.imp id fun e=>⟨e,h1⟩⟩
  refine Ab3 (val:=fun k=>look (tr k).heap n) hkN ht (.inr rfl) fun i hlt hi hti hSi=>?_
  have hSi:=hSi.resolve_right (by omega)
  have hoi:ops[i]?=some ops[i]:=A40 hi
  rcases T.Nr hoi hti with ⟨h5,_⟩ | ⟨h5,_⟩
  ·exact hm (T.As0 hoi hkN (Sy hd hc hk hSi hlt) h5)
  ·exact absurd h5 (T.stays h1 (by omega) (by omega))
 ·rw [hs.seen] at h1
  refine Pu fun j hj ht=>⟨fun h=>h.resolve_right fun e=>?_,.inl⟩
  subst e
  obtain ⟨o',ho',h3⟩:=ht
  rw [ho] at ho'; cases ho'
  rcases h3 with h3 | ⟨h3,h4⟩
  ·exact h1 h3
  ·have hm:=hs.made h3 h4
   refine h2 ⟨by rw [hs.mask,A42 hm]; exact h3,?_⟩
   rw [hs.heap,A42 hm] at h4; exact h4
 ·split
  ·rename_i ht
   have h1:Acz ops tr (fun j=>S j∨j=k) t=(tr (k+1)).tmps.getD t .undef:=by
    refine Ab3 (val:=fun k=>(tr k).tmps.getD t .undef) hkN ⟨ht.2,o,ho,ht.1⟩ (.inr rfl) fun i hlt hi hti hSi=>?_
    obtain ⟨_,p,hp,hdst⟩:=hti
    have:=hd.once i k p o t hp ho ht.1 hdst
    omega
   rw [h1,hs.getD,A43 ⟨ht.1,by rw [T.len (by omega)]; exact ht.2⟩]
  ·rename_i ht
   refine Pu fun j hj hj'=>⟨fun h=>h.resolve_right fun e=>?_,.inl⟩
   subst e
   obtain ⟨h1,p,hp,hdst⟩:=hj'
   rw [ho] at hp; cases hp
   exact ht ⟨hdst,h1⟩
end
end Go.Den
namespace Go.Den
open Go.RowKit (Below)
section
variable {P:Program} {E:Env} {S:Acp E} {I0:Nat→Prop} {B:Nat} {w0:World}
theorem Ama {β:Type} (he:Kb P E) {ops:Array Oper} {draw:Bool} {Q:Exit→Act→World→Prop} {K:St→Option β} {r:β} :
 ∀ (l:List Oper) (k:Nat) (st:St),(∀ j,l[j]?=ops[k+j]?)→Avg E ops draw l st K=some r→∀ a w,Gh S I0 B w0 st a w →
 (∀ st a w,K st=some r→Gh S I0 B w0 st a w→Q .normal a w)→wpOps P ops Q (List.range' k l.length) a w
 | [],k,st,_,h,a,w,hh,hQ=>hQ st a w h hh
 | o::l,k,st,hl,h,a,w,hh,hQ=>by
   simp only [Avg] at h
   cases hs:Yg E ops draw st o with
   | none=>rw [hs] at h; cases h
   | some x =>
     obtain ⟨b,st'⟩:=x
     rw [hs] at h
     simp only at h
     cases b with
     | false=>cases h
     | true =>
       simp only [A4g] at h
       obtain ⟨d,hd⟩:=Zz he hs
       have ho:ops[k]?=some o:=by simpa using (hl 0).symm
       rw [List.length_cons,List.range'_succ]
       simp only [wpOps,ho]
       have:=hh.step hd (Q:=Q) (wpOps P ops Q (List.range' (k+1) l.length)) (fun v w' hv=>Ama he l (k+1) st' (fun j=>by have:=hl (j+1); simpa [Nat.add_assoc,Nat.add_comm 1 j] using this) h _ _ hv hQ)
       split
       ·rename_i hw; rw [A43 hw] at this; exact .inl this
       ·rename_i hw; rw [A42 hw] at this; exact this
theorem Ky.congr {A:Nat→Option Place} {f f':Nat→Option (Bool × OB)} {g g':Nat→DV} {len len':Nat} {a:Act} {w:World} (h:Ky S I0 B w0 A f g len a w) (hf:∀ n,f n=f' n) (hg:∀ t,g t=g' t) (hl:len=len'):Ky S I0 B w0 A f' g' len' a w:=by
 obtain rfl:f=f':=funext hf
 obtain rfl:g=g':=funext hg
 subst hl; exact h
def Np (listed:Array Bool) (j:Nat):Prop:=listed.getD j false=true
theorem Ry {l:Array Bool} {j:Nat} (h:l.getD j true=false):j<l.size∧l.getD j false=false:=by
 rcases A5d j l.size with h' | h'
 ·refine ⟨h',?_⟩
  simp only [Array.getD_eq_getD_getElem?,A40 h',A50] at h ⊢; exact h
 ·simp [Array.getD_eq_getD_getElem?,Array.getElem?_eq_none h'] at h
theorem X2 {listed:Array Bool} {k:Nat} (hk:k<listed.size) (j:Nat):Np (listed.setIfInBounds k true) j↔Np listed j∨j=k:=by
 unfold Np
 simp only [Array.getD_eq_getD_getElem?]
 by_cases e:k=j
 ·subst e; simp [hk]
 ·rw [Array.getElem?_setIfInBounds_ne e]
  exact ⟨.inl,fun h=>h.resolve_right (fun h=>e h.symm)⟩
theorem count_set {listed:Array Bool} {k:Nat} (h:listed.getD k true=false):(listed.setIfInBounds k true).toList.count false+1=listed.toList.count false:=by
 obtain ⟨hk,h2⟩:=Ry h
 have hk':k<listed.toList.length:=by simpa using hk
 have hv:listed.toList[k]=false:=by
  simpa [Array.getD_eq_getD_getElem?,A40 hk] using h2
 have hp:0<List.count false listed.toList:=List.count_pos_iff.2 (hv ▸ List.getElem_mem hk')
 rw [Array.toList_setIfInBounds,List.count_set hk',hv,A43 (A5g _),A42 (by simp)]
 omega
theorem Ay4 {ops:Array Oper} {M:List (Nat × List Nat)} {tr:Nat→St} (hd:Vd ops) (T:Trace P E ops (ops.toList.map Jz) M tr) {Q:Exit→Act→World→Prop}
 (hQ:∀ a w,Gh S I0 B w0 (tr ops.size) a w→Q .normal a w):∀ (fuel:Nat) (listed:Array Bool) (a:Act) (w:World),listed.size=ops.size→Yd ops (Np listed)→listed.toList.count false=fuel →
 (∃ A,Ky S I0 B w0 A (Sp E ops M tr (Np listed)) (Acz ops tr (Np listed)) (tr 0).tmps.length a w)→wpAny P .any ops Q fuel listed a w:=by
 have last:∀ (listed:Array Bool) (a:Act) (w:World),listed.size=ops.size→Region.ready .any ops listed=[]→(∃ A,Ky S I0 B w0 A (Sp E ops M tr (Np listed)) (Acz ops tr (Np listed)) (tr 0).tmps.length a w)→Q .normal a w:=by
  rintro listed a w hsz hr ⟨A,h⟩
  have all:∀ k,k<ops.size→Np listed k:=by
   intro k
   induction k using Nat.strongRecOn with
   | _ k ih =>
     intro hk
     refine Classical.byContradiction fun hn=>?_
     have:k∈Region.ready .any ops listed:=mem_ready.2 ⟨?_,ops[k],A40 hk,fun e he hb=>?_⟩
     ·rw [hr] at this; cases this
     ·unfold Np at hn
      have hk':k<listed.size:=by omega
      simp only [Array.getD_eq_getD_getElem?,A40 hk',A50,Bool.not_eq_true] at hn ⊢
      exact hn
     ·have hlt:=hd.lt k ops[k] (A40 hk) e.on (Aht.2 ⟨e,he,hb,rfl⟩)
      exact ih e.on hlt (by omega)
  refine hQ a w ⟨A,h.congr (fun n=>?_) (fun t=>?_) (T.len (A5a _)).symm⟩
  ·exact Nd (val:=fun k=>look (tr k).heap n) (fun j hj ht=>T.Ap9 hj ht) (A5a _) fun j hj _=>⟨fun _=>hj,fun _=>all j hj⟩
  ·exact Nd (val:=fun k=>(tr k).tmps.getD t .undef) (fun j hj ht=>T.Axo hj ht) (A5a _) fun j hj _=>⟨fun _=>hj,fun _=>all j hj⟩
 intro fuel
 induction fuel with
 | zero =>
   intro listed a w hsz hc hf h
   have hr:Region.ready .any ops listed=[]:=by
    refine List.eq_nil_iff_forall_not_mem.2 fun k hk=>?_
    have h1:=count_set (mem_ready.1 hk).1
    omega
   exact ⟨hr,last listed a w hsz hr h⟩
 | succ fuel ih =>
   intro listed a w hsz hc hf h
   refine ⟨fun hr=>last listed a w hsz hr h,fun k hk=>?_⟩
   obtain ⟨hun,o,ho,hall⟩:=mem_ready.1 hk
   obtain ⟨hks,hkf⟩:=Ry hun
   have hkS:¬ Np listed k:=by unfold Np; rw [hkf]; simp
   have hrS:∀ i∈Jz o,Np listed i:=fun i hi=>by
    obtain ⟨e,he,hb,rfl⟩:=Aht.1 hi
    exact hall e he hb
   obtain ⟨A,h⟩:=h
   have hstep:=T.step hd hc ho hkS hrS h (Q:=Q) (wpAny P .any ops Q fuel (listed.setIfInBounds k true)) (fun v w' hv=>by
    obtain ⟨A',hv⟩:=hv
    refine ih _ _ _ (by simp [hsz]) ?_ ?_ ⟨A',hv.congr (fun n=>?_) (fun t=>?_) rfl⟩
    ·intro j p hp hj i hi
     rw [X2 hks] at hj ⊢
     rcases hj with hj | rfl
     ·exact .inl (hc j p hp hj i hi)
     ·rw [ho] at hp; cases hp
      exact .inl (hrS i hi)
    ·have:=count_set hun; omega
    ·exact Pu fun j _ _=>(X2 hks j).symm
    ·exact Pu fun j _ _=>(X2 hks j).symm)
   unfold wpOp
   rw [ho]
   simp only
   split
   ·rename_i hw; rw [A43 hw] at hstep; exact .inl hstep
   ·rename_i hw; rw [A42 hw] at hstep; exact hstep
theorem Gh.drew {st:St} {a:Act} {w:World} (h:Gh S I0 B w0 st a w):Gh S I0 B w0 st a { w with drawn:=w.drawn+1 }:=by
 obtain ⟨A,h⟩:=h
 have hmv:Jl A w A { w with drawn:=w.drawn+1 }:=⟨A5a _,(Jl.refl A w).names,(Jl.refl A w).live,fun _ _ _=>rfl⟩
 have hl:=hmv.Ec (I0:=I0) (B:=B)
 exact ⟨A,h.defers,h.size,h.below.trans ⟨rfl,rfl,rfl,A5a _,fun _ _=>rfl⟩,h.hB,h.I0lt,fun n p hp=>by
  obtain ⟨fo,h1,h2⟩:=h.obj n p hp
  exact ⟨fo,h1,Pl hl (fun _ _ _=>rfl) h2⟩,h.blkB,h.inj,fun t=>Au.Ec hl _ _ (h.tmps t),h.kept,h.pin⟩
theorem Atl {β:Type} (he:Kb P E) {id:Nat} {ops:Array Oper} {Q:Exit→Act→World→Prop} {K:St→Option β} {r:β} {st:St} (h:Atm E ops st K=some r) {a:Act} {w:World} (hh:Gh S I0 B w0 st a w)
 (hQ:∀ st a w,K st=some r→Gh S I0 B w0 st a w→Q .normal a w):(Code.region id ops true).wp P Q a w:=by
 unfold Atm at h
 cases hc:Afv ops (ops.toList.map Jz) with
 | false=>rw [hc] at h; cases h
 | true =>
   rw [hc,A4g] at h
   have hd:=Aiu hc
   generalize (bif Aku ops (ops.toList.map Jz) 0 ops.toList then Afp E ops 0 ops.toList st else [])=M at h
   obtain ⟨tr,h0,h1,h2⟩:=Ym he ops.toList 0 st (fun j=>by simp) h
   have T:Trace P E ops (ops.toList.map Jz) M tr:=⟨fun k o ho=>by
    have:=(h2 k o (by simpa using ho)).1
    rw [A5q] at this; exact this,fun k o ho hlo=>by
    have:=(h2 k o (by simpa using ho)).2
    rw [A5q] at this; exact this hlo⟩
   refine wp_region_any he.mixed (Ay4 hd T (fun a w hw=>hQ _ a w (by simpa using h1) hw) _ _ _ _ (by simp) ?_ (by simp) ?_)
   ·intro k o _ hk
    unfold Np at hk
    simp only [Array.getD_eq_getD_getElem?,Array.getElem?_replicate] at hk
    split at hk<;>cases hk
   ·obtain ⟨A,hA⟩:=hh.drew
    subst h0
    refine ⟨A,hA.congr (fun n=>?_) (fun t=>?_) rfl⟩
    ·refine (Nd (k:=0) (val:=fun k=>look (tr k).heap n) (fun j hj ht=>T.Ap9 hj ht) (by omega) fun j hj _=>⟨fun hk=>?_,fun h=>by omega⟩).symm
     unfold Np at hk
     simp only [Array.getD_eq_getD_getElem?,Array.getElem?_replicate] at hk
     split at hk<;>cases hk
    ·refine (Nd (k:=0) (val:=fun k=>(tr k).tmps.getD t .undef) (fun j hj ht=>T.Axo hj ht) (by omega) fun j hj _=>⟨fun hk=>?_,fun h=>by omega⟩).symm
     unfold Np at hk
     simp only [Array.getD_eq_getD_getElem?,Array.getElem?_replicate] at hk
     split at hk<;>cases hk
end
end Go.Den
namespace Go.Den
open Go.RowKit (Below)
def Ctx.only (c:Ctx) (ns:List Nat):Ctx:={ c with at_:=fun n=>if n∈ns then c.at_ n else none }
theorem Rp {n:Nat} {l:List Nat} (h:l.contains n=true):n∈l:=by simpa using h
theorem Ae7 {c:Ctx} {w:World} (ns:List Nat):∀ (f:Nat) (d:DV) (v:Value),Fy f ns d=true→Au c w d v→Au (c.only ns) w d v:=by
 intro f
 induction f with
 | zero=>intro d v h; simp [Fy] at h
 | succ f ih =>
   have all:∀ (l:List DV) (vs:List Value),l.all (Fy f ns)=true→Bj c w l vs→Bj (c.only ns) w l vs:=by
    intro l
    induction l with
    | nil=>intro vs _ h; rw [Bj.H0] at h ⊢; exact h
    | cons d l ihl =>
      intro vs h hv
      simp only [List.all_cons,A4r] at h
      rw [Bj.Dl] at hv ⊢
      obtain ⟨u,us,e,h1,h2⟩:=hv
      exact ⟨u,us,e,ih d u h.1 h1,ihl us h.2 h2⟩
   intro d v h hv
   cases d with
   | agg l =>
     simp only [Fy] at h
     simp only [Au] at hv ⊢
     obtain ⟨vs,e,hl⟩:=hv
     exact ⟨vs,e,all l _ h hl⟩
   | tup l =>
     simp only [Fy] at h
     simp only [Au] at hv ⊢
     obtain ⟨vs,e,hl⟩:=hv
     exact ⟨vs,e,all l _ h hl⟩
   | fn g a b =>
     simp only [Fy,A4r] at h
     simp only [Au] at hv ⊢
     obtain ⟨fs,cs,e,h1,h2⟩:=hv
     exact ⟨fs,cs,e,all a _ h.1 h1,all b _ h.2 h2⟩
   | gd g d =>
     simp only [Fy] at h
     simp only [Au] at hv ⊢
     exact ⟨fun e=>ih d v h (hv.1 e),hv.2⟩
   | oref n =>
     simp only [Fy] at h
     simp only [Au] at hv ⊢
     obtain ⟨h1,p,hp,hd⟩:=hv
     exact ⟨h1,p,by simp only [Ctx.only,Rp h,if_true]; exact hp,hd⟩
   | sref n o m =>
     simp only [Fy] at h
     simp only [Au] at hv ⊢
     obtain ⟨h1,p,hp,hd⟩:=hv
     exact ⟨h1,p,by simp only [Ctx.only,Rp h,if_true]; exact hp,hd⟩
   | ptr n i j =>
     simp only [Fy] at h
     simp only [Au] at hv ⊢
     obtain ⟨h1,p,hp,hd⟩:=hv
     exact ⟨h1,p,by simp only [Ctx.only,Rp h,if_true]; exact hp,hd⟩
   | ints g k l=>cases g<;>(simp only [Au] at hv ⊢; exact hv)
   | recs g k l=>cases g<;>(simp only [Au] at hv ⊢; exact hv)
   | undef=>simp only [Au]
   | _=>simp only [Au] at hv ⊢; exact hv
def Abj (n:Nat):List (Nat × Nat × Nat × OB)→Option (Nat × Nat × Nat × OB)
 | []=>none
 | x::xs=>if x.2.2.1=n then some x else Abj n xs
theorem Xz {n:Nat}:∀ {l:List (Nat × Nat × Nat × OB)} {x},Abj n l=some x→x∈l∧x.2.2.1=n
 | [],x,h=>by cases h
 | y::l,x,h=>by
   simp only [Abj] at h
   split at h
   ·cases h; exact ⟨A5v,‹_›⟩
   ·exact ⟨A5l _ (Xz h).1,(Xz h).2⟩
theorem Wo:∀ {l:List (Nat × Nat × Nat × OB)} {x},(l.map (·.2.2.1)).Nodup→x∈l→Abj x.2.2.1 l=some x
 | [],x,_,h=>by cases h
 | y::l,x,hn,h=>by
   simp only [List.map_cons,List.nodup_cons] at hn
   simp only [Abj]
   rcases List.mem_cons.1 h with rfl | h
   ·rw [A43 rfl]
   ·rw [A42 (fun e=>hn.1 (by rw [e]; exact List.mem_map.2 ⟨x,h,rfl⟩))]
    exact Wo hn.2 h
theorem Uv {b j nm:Nat}:∀ {l:List (Nat × Nat × Nat × OB)},L9 b j l=some nm→∃ ob,(b,j,nm,ob)∈l
 | [],h=>by cases h
 | (b',j',nm',ob)::l,h=>by
   simp only [L9] at h
   cases hb:(Nat.beq b b'&&Nat.beq j j') with
   | true =>
     rw [hb] at h
     simp only [A4g,A4j] at h
     simp only [A4r] at hb
     have e1:=A4y hb.1
     have e2:=A4y hb.2
     subst e1 e2 h
     exact ⟨ob,A5v⟩
   | false =>
     rw [hb] at h
     obtain ⟨ob',h'⟩:=Uv h
     exact ⟨ob',A5l _ h'⟩
theorem Aao {st:St}:∀ {l:List (Nat × Nat × Nat × OB)} {h:El} {ns:List Nat},Aap st l=some (h,ns)→(l.map (·.2.2.1)).Nodup→ns.Nodup →
 (∀ x∈l,∃ s ob,Aff st x=some (s,ob)∧look h x.2.2.1=some (false,ob)∧∀ n,s=some n→n∈ns) ∧
 (∀ n fo,look h n=some fo→∃ x∈l,x.2.2.1=n) ∧
 (∀ x∈l,∀ y∈l,∀ n ob ob',Aff st x=some (some n,ob)→Aff st y=some (some n,ob')→x=y)
 | [],h,ns,hs,_,_=>by
   simp only [Aap,A4j,A4p] at hs
   obtain ⟨rfl,rfl⟩:=hs
   exact ⟨fun x hx=>(by cases hx),fun n fo hl=>(by cases hl),fun x hx=>(by cases hx)⟩
 | x::l,h,ns,hs,hn,hns=>by
   simp only [Aap] at hs
   cases ho:Aff st x with
   | none=>simp [ho] at hs
   | some r =>
     obtain ⟨s,ob⟩:=r
     cases hl:Aap st l with
     | none=>simp [ho,hl] at hs
     | some r =>
       obtain ⟨h',ns'⟩:=r
       simp only [ho,hl,A4j,A4p] at hs
       obtain ⟨rfl,rfl⟩:=hs
       simp only [List.map_cons,List.nodup_cons] at hn
       rw [List.nodup_append] at hns
       obtain ⟨i1,i2,i3⟩:=Aao hl hn.2 hns.2.1
       have hx:∀ y∈l,x.2.2.1≠y.2.2.1:=fun y hy e=>hn.1 (by rw [e]; exact List.mem_map.2 ⟨y,hy,rfl⟩)
       have cross:∀ y∈l,∀ n ob ob',Aff st x=some (some n,ob)→Aff st y=some (some n,ob')→False:=by
        intro y hy n o1 o2 h1 h2
        rw [ho] at h1; cases h1
        obtain ⟨s',ob',h3,_,h4⟩:=i1 y hy
        rw [h2] at h3; cases h3
        exact hns.2.2 n (by simp) n (h4 n rfl) rfl
       refine ⟨fun y hy=>?_,fun n fo hl'=>?_,fun y hy z hz n o1 o2 h1 h2=>?_⟩
       ·rcases List.mem_cons.1 hy with rfl | hy
        ·exact ⟨s,ob,ho,by simp [look],fun n e=>by rw [e]; simp⟩
        ·obtain ⟨s',ob',h1,h2,h3⟩:=i1 y hy
         refine ⟨s',ob',h1,?_,fun n e=>List.mem_append.2 (.inr (h3 n e))⟩
         simp only [look,show (x.2.2.1==y.2.2.1)=false by simpa using hx y hy,A4k]
         exact h2
       ·simp only [look] at hl'
        by_cases e:x.2.2.1=n
        ·exact ⟨x,A5v,e⟩
        ·rw [show (x.2.2.1==n)=false by simpa using e] at hl'
         obtain ⟨y,hy,hyn⟩:=i2 n fo hl'
         exact ⟨y,A5l _ hy,hyn⟩
       ·rcases List.mem_cons.1 hy with e1 | hy2
        ·rcases List.mem_cons.1 hz with e2 | hz2
         ·rw [e1,e2]
         ·exact (cross z hz2 n o1 o2 (e1 ▸ h1) h2).elim
        ·rcases List.mem_cons.1 hz with e2 | hz2
         ·exact (cross y hy2 n o2 o1 (e2 ▸ h2) h1).elim
         ·exact i3 y hy2 z hz2 n o1 o2 h1 h2
theorem Yz {st:St} {H:Ba}:∀ {bs:List Nat} {h:El},Va st H bs=some h→bs.Nodup →
 (∀ b∈bs,∃ f cs,look st.heap b=some (f,.box cs)∧Th H.objs H.boxes (b+1) 0 cs=true∧look h b=some (f,.box (U8 H.objs (b+1) 0 cs)))∧(∀ n fo,look h n=some fo→n∈bs)
 | [],h,hs,_=>by
   simp only [Va,A4j] at hs
   subst hs
   exact ⟨fun x hx=>(by cases hx),fun n fo hl=>(by cases hl)⟩
 | b::bs,h,hs,hn=>by
   simp only [Va] at hs
   split at hs
   ·rename_i f cs hl
    cases hc:Th H.objs H.boxes (b+1) 0 cs with
    | false=>rw [hc] at hs; cases hs
    | true =>
      rw [hc,A4g] at hs
      cases hb:Va st H bs with
      | none=>rw [hb] at hs; cases hs
      | some h' =>
        rw [hb] at hs
        simp only [A4j] at hs
        subst hs
        simp only [List.nodup_cons] at hn
        obtain ⟨i1,i2⟩:=Yz hb hn.2
        refine ⟨fun c hc'=>?_,fun n fo hl'=>?_⟩
        ·rcases List.mem_cons.1 hc' with rfl | hc'
         ·exact ⟨f,cs,hl,hc,by simp [look]⟩
         ·obtain ⟨f',cs',h1,h2,h3⟩:=i1 c hc'
          refine ⟨f',cs',h1,h2,?_⟩
          have:b≠c:=fun e=>hn.1 (e ▸ hc')
          simp only [look,show (b==c)=false by simpa using this,A4k]
          exact h3
        ·simp only [look] at hl'
         by_cases e:b=n
         ·rw [e]; exact A5v
         ·rw [show (b==n)=false by simpa using e] at hl'
          exact A5l _ (i2 n fo hl')
   ·cases hs
theorem Acy {H:Ba}:∀ (l:List DV) (k i:Nat),i<l.length→(Zv H k l).getD i .undef=(match L9 0 (k+i) H.objs with | some nm=>.oref nm | none=>bif Nl (k+i) H.keep then l.getD i .undef else .undef)
 | [],k,i,h=>by simp at h
 | d::l,k,i,h=>by
   cases i with
   | zero =>
     simp only [Zv,List.getD_cons_zero,A5o]
     cases L9 0 k H.objs<;>rfl
   | succ i =>
     have:=Acy (H:=H) l (k+1) i (by simpa using h)
     simp only [Zv,List.getD_cons_succ,this]
     rw [show k+1+i=k+(i+1) by omega]
theorem Qz {H:Ba}:∀ (l:List DV) (k:Nat),(Zv H k l).length=l.length
 | [],k=>rfl
 | d::l,k=>by simp [Zv,Qz l]
theorem Aam {H:Ba}:∀ {l:List DV} {k i:Nat},Aan H k l=true→i<l.length→L9 0 (k+i) H.objs=none→Nl (k+i) H.keep=true→Fy 8 H.boxes (l.getD i .undef)=true
 | [],k,i,_,h,_,_=>by simp at h
 | d::l,k,i,h,hi,h1,h2=>by
   simp only [Aan,A4r,Bool.or_eq_true,Bool.not_eq_true'] at h
   cases i with
   | zero =>
     rcases h.1 with h | h | h
     ·rw [A5o] at h1; rw [h1] at h; cases h
     ·rw [A5o] at h2; rw [h2] at h; cases h
     ·exact h
   | succ i =>
     rw [List.getD_cons_succ]
     exact Aam (k:=k+1) h.2 (by simpa using hi) (by rw [show k+1+i=k+(i+1) by omega]; exact h1) (by rw [show k+1+i=k+(i+1) by omega]; exact h2)
theorem Abv {c c':Ctx} {w:World} {objs:List (Nat × Nat × Nat × OB)} {boxes:List Nat} {b:Nat} :
 ∀ (l:List DV) (vs:List Value) (k:Nat),Th objs boxes b k l=true→Bj c w l vs →
 (∀ d v,Fy 8 boxes d=true→Au c w d v→Au c' w d v)→(∀ i nm d v,l[i]?=some d→L9 b (k+i) objs=some nm→Au c w d v→Au c' w (.oref nm) v)→Bj c' w (U8 objs b k l) vs
 | [],vs,k,_,h,_,_=>by rw [Bj.H0] at h; subst h; simp [U8,Bj]
 | d::l,vs,k,hok,h,h1,h2=>by
   simp only [Th,A4r,Bool.or_eq_true] at hok
   rw [Bj.Dl] at h
   obtain ⟨u,us,rfl,hu,hus⟩:=h
   simp only [U8]
   rw [Bj.Dl]
   refine ⟨u,us,rfl,?_,Abv l us (k+1) hok.2 hus h1 fun i nm e v hi hn=>h2 (i+1) nm e v hi (by rw [show k+(i+1)=k+1+i by omega]; exact hn)⟩
   cases hn:L9 b k objs with
   | some nm=>exact h2 0 nm d u rfl hn hu
   | none =>
     rw [hn] at hok
     exact h1 d u (hok.1.resolve_left (by simp)) hu
end Go.Den
namespace Go.Den
open Go.RowKit (Below)
def Ayj:OB→Nat
 | .recs _ sz _=>sz
 | _=>1
def Lk (ob:OB):Place:=⟨.live,.row (.slice none 0 0) (Ayj ob)⟩
open Classical in
def Qo (st:St) (H:Ba) (A:Nat→Option Place) (n:Nat):Option Place :=
 if n∈H.boxes then A n else
 match Abj n H.objs with
 | some x=>match Vh st x with
   | .nil=>some (Lk x.2.2.2)
   | .oref m=>A m
   | _=>none
 | none=>none
theorem Ma {st:St} {H:Ba} {A:Nat→Option Place} {n:Nat} {p:Place} (h:Qo st H A n=some p) :
 (n∈H.boxes∧A n=some p)∨(n ∉ H.boxes∧∃ x∈H.objs,x.2.2.1=n∧((Vh st x=.nil∧p=Lk x.2.2.2)∨∃ m,Vh st x=.oref m∧A m=some p)):=by
 unfold Qo at h
 by_cases hb:n∈H.boxes
 ·rw [A43 hb] at h; exact .inl ⟨hb,h⟩
 ·rw [A42 hb] at h
  refine .inr ⟨hb,?_⟩
  cases hf:Abj n H.objs with
  | none=>rw [hf] at h; cases h
  | some x =>
    rw [hf] at h
    obtain ⟨hx,hn⟩:=Xz hf
    refine ⟨x,hx,hn,?_⟩
    simp only at h
    split at h
    ·rename_i e; cases h; exact .inl ⟨e,rfl⟩
    ·rename_i m e; exact .inr ⟨m,e,h⟩
    ·cases h
theorem Sg {st:St} {x:Nat × Nat × Nat × OB} {s:Option Nat} {ob:OB} (h:Aff st x=some (s,ob)) :
 (Vh st x=.nil∧s=none∧ob=x.2.2.2∧((∃ e k,ob=.ints e k [])∨∃ e sz,0<sz∧ob=.recs e sz [])) ∨
 (∃ m,Vh st x=.oref m∧s=some m∧look st.heap m=some (false,ob)∧((∃ e k l,ob=.ints e k l)∨∃ e sz l,ob=.recs e sz l)):=by
 unfold Aff at h
 split at h
 ·rename_i hs
  left
  split at h
  ·rename_i e k hx
   simp only [A4j,A4p] at h
   exact ⟨hs,h.1.symm,by rw [hx]; exact h.2.symm,.inl ⟨e,k,h.2.symm⟩⟩
  ·rename_i e sz hx
   cases hb:Nat.blt 0 sz with
   | false=>rw [hb] at h; cases h
   | true =>
     rw [hb] at h
     simp only [A4g,A4j,A4p] at h
     exact ⟨hs,h.1.symm,by rw [hx]; exact h.2.symm,.inr ⟨e,sz,by simpa [Nat.blt_eq] using hb,h.2.symm⟩⟩
  ·cases h
 ·rename_i m hs
  right
  split at h
  ·rename_i e k l hl
   simp only [A4j,A4p] at h
   exact ⟨m,hs,h.1.symm,by rw [hl,h.2],.inl ⟨e,k,l,h.2.symm⟩⟩
  ·rename_i e sz l hl
   simp only [A4j,A4p] at h
   exact ⟨m,hs,h.1.symm,by rw [hl,h.2],.inr ⟨e,sz,l,h.2.symm⟩⟩
  ·cases h
 ·cases h
section
variable {E:Env} {S:Acp E} {I0:Nat→Prop} {B:Nat} {w0:World}
theorem Apu {H:Ba} {st st1:St} (h:Alc (some H) st=some st1) {a:Act} {w:World} (hh:Gh S I0 B w0 st a w):Gh S I0 B w0 st1 a w:=by
 obtain ⟨A,hA⟩:=hh
 simp only [Alc] at h
 cases hbd:Va st H H.boxes with
 | none=>rw [hbd] at h; cases h
 | some hb =>
 cases hod:Aap st H.objs with
 | none=>rw [hbd,hod] at h; cases h
 | some r =>
 obtain ⟨ho,ns⟩:=r
 rw [hbd,hod] at h
 simp only at h
 cases hc:(Nk (H.boxes++H.objs.map (·.2.2.1))&&Nk ns&&Aan H 0 st.tmps) with
 | false=>rw [hc] at h; cases h
 | true =>
 rw [hc,A4g,A4j] at h
 subst h
 simp only [A4r] at hc
 obtain ⟨⟨hn,hns⟩,hok⟩:=hc
 have hnd:=K3 hn
 rw [List.nodup_append] at hnd
 obtain ⟨hnb,hno,hdis⟩:=hnd
 obtain ⟨o1,o2,o3⟩:=Aao hod hno (K3 hns)
 obtain ⟨b1,b2⟩:=Yz hbd hnb
 have hnin:∀ x∈H.objs,x.2.2.1 ∉ H.boxes:=fun x hx e=>hdis _ e _ (List.mem_map.2 ⟨x,hx,rfl⟩) rfl
 have hat:∀ x∈H.objs,Qo st H A x.2.2.1=match Vh st x with | .nil=>some (Lk x.2.2.2) | .oref m=>A m | _=>none:=by
  intro x hx
  unfold Qo
  rw [A42 (hnin x hx),Wo hno hx]
 have hokc:∀ b,(B3 I0 B A w).ok b→(B3 I0 B (Qo st H A) w).ok b:=by
  rintro b ⟨h1,h2,h3⟩
  refine ⟨h1,h2,fun n p hp hl=>?_⟩
  rcases Ma hp with ⟨_,hp⟩ | ⟨_,x,_,_,⟨_,rfl⟩ | ⟨m,_,hp⟩⟩
  ·exact h3 n p hp hl
  ·simp [Lk,Place.Hk,Value.ownBlock]
  ·exact h3 m p hp hl
 have hrefs:∀ d v,Fy 8 H.boxes d=true→Au (B3 I0 B A w) w d v→Au (B3 I0 B (Qo st H A) w) w d v:=by
  intro d v hd hv
  have hl:Nf ((B3 I0 B A w).only H.boxes) w (B3 I0 B (Qo st H A) w) w:=by
   refine ⟨hokc,rfl,rfl,fun _ _ h=>(by cases h),fun n p hp=>?_,fun _ _ _=>rfl,fun _ _ h=>(by cases h)⟩
   simp only [Ctx.only] at hp
   split at hp
   ·rename_i hnb'
    refine ⟨p,?_,?_⟩
    ·show Qo st H A n=some p
     unfold Qo
     rw [A43 hnb']; exact hp
    ·by_cases hpd:p.st=.dead
     ·exact .inl hpd
     ·exact .inr ⟨hpd,rfl⟩
   ·cases hp
  exact Au.Ec hl d v (Ae7 H.boxes 8 d v hd hv)
 have hbare:∀ l rows,D2 (B3 I0 B A w).bare w l rows→D2 (B3 I0 B (Qo st H A) w).bare w l rows:=fun l rows =>
  D2.Ec (c:=(B3 I0 B A w).bare) (c':=(B3 I0 B (Qo st H A) w).bare) (w:=w) (w':=w) ⟨hokc,rfl,rfl,fun _ _ h=>(by cases h),fun _ _ h=>(by cases h),fun _ _ _=>rfl,fun _ _ h=>(by cases h)⟩ l rows
 have hnamed:∀ x∈H.objs,∀ v,Au (B3 I0 B A w) w (Vh st x) v→Au (B3 I0 B (Qo st H A) w) w (.oref x.2.2.1) v:=by
  intro x hx v hv
  obtain ⟨s,ob,h1,_,_⟩:=o1 x hx
  have hax:=hat x hx
  rcases Sg h1 with ⟨e,_⟩ | ⟨m,e,_⟩
  ·rw [e] at hv hax
   simp only [Au] at hv ⊢
   subst hv
   exact ⟨rfl,_,hax,.inr ⟨_,rfl⟩⟩
  ·rw [e] at hv hax
   simp only [Au] at hv ⊢
   obtain ⟨h1,p,hp,hd⟩:=hv
   exact ⟨h1,p,hax.trans hp,hd⟩
 refine ⟨Qo st H A,hA.defers,hA.size.trans (Qz _ _).symm,hA.below,hA.hB,hA.I0lt,fun n p hp=>?_,fun n p b hp hd hpb=>?_,fun n m p q b hp hq hpd hqd hpb hqb=>?_,fun t=>?_,fun b hb=>⟨(hA.kept b hb).1,(hA.kept b hb).2.1,fun n p hp hl hbk=>by
  rcases Ma hp with ⟨_,hp⟩ | ⟨_,x,_,_,⟨_,rfl⟩ | ⟨m,_,hp⟩⟩
  ·exact (hA.kept b hb).2.2 n p hp hl hbk
  ·simp [Lk,Place.Hk,Value.ownBlock] at hbk
  ·exact (hA.kept b hb).2.2 m p hp hl hbk⟩,hA.pin⟩
 ·rcases Ma hp with ⟨hnb',hp⟩ | ⟨hnb',x,hx,rfl,hsrc⟩
  ·obtain ⟨f,cs,h1,h2,h3⟩:=b1 n hnb'
   obtain ⟨fo,h4,h5⟩:=hA.obj n p hp
   rw [h1] at h4; cases h4
   refine ⟨(f,.box (U8 H.objs (n+1) 0 cs)),by rw [Po,h3],?_⟩
   obtain ⟨hst,b,e,cells,hk,hh,hl⟩:=h5
   refine ⟨hst,b,e,cells,hk,hh,Abv cs _ 0 h2 hl hrefs fun i nm d v hi hnm hv=>?_⟩
   obtain ⟨ob,hx⟩:=Uv hnm
   refine hnamed _ hx v ?_
   have:Vh st (n+1,0+i,nm,ob)=d:=by
    simp [Vh,h1,A4q,hi]
   rw [this]; exact hv
  ·obtain ⟨s,ob,h1,h2,_⟩:=o1 x hx
   have hl:look (hb++ho) x.2.2.1=some (false,ob):=by
    rw [Po]
    cases hq:look hb x.2.2.1 with
    | none=>exact h2
    | some fo=>exact absurd (b2 _ _ hq) hnb'
   refine ⟨_,hl,?_⟩
   rcases Sg h1 with ⟨e,_,e2,hob⟩ | ⟨m,e,_,hlm,hob⟩
   ·rcases hsrc with ⟨_,rfl⟩ | ⟨m,e',_⟩
    ·rw [← e2]
     rcases hob with ⟨e,k,rfl⟩ | ⟨e,sz,hsz,rfl⟩
     ·exact ⟨rfl,_,rfl,World.ownsRow_nil w B e 1⟩
     ·exact ⟨rfl,hsz,_,[],rfl,by simp [D2],fun r hr=>(by cases hr),World.ownsRow_nil w B e sz⟩
    ·rw [e] at e'; cases e'
   ·rcases hsrc with ⟨e',_⟩ | ⟨m',e',hp'⟩
    ·rw [e] at e'; cases e'
    ·rw [e] at e'; cases e'
     obtain ⟨fo,h4,h5⟩:=hA.obj m p hp'
     rw [hlm] at h4; cases h4
     rcases hob with ⟨e,k,l,rfl⟩ | ⟨e,sz,l,rfl⟩
     ·exact h5
     ·obtain ⟨i1,i2,sv,rows,i3,i4,i5,i6⟩:=h5
      exact ⟨i1,i2,sv,rows,i3,hbare _ _ i4,i5,i6⟩
 ·rcases Ma hp with ⟨_,hp⟩ | ⟨_,x,hx,rfl,⟨_,rfl⟩ | ⟨m,_,hp⟩⟩
  ·exact hA.blkB n p b hp hd hpb
  ·simp [Lk,Place.Hk,Value.ownBlock] at hpb
  ·exact hA.blkB m p b hp hd hpb
 ·have isBox:∀ n p,n∈H.boxes→A n=some p→∃ b,p.kind=.box b:=by
   intro n p hnb' hp
   obtain ⟨f,cs,h1,_,_⟩:=b1 n hnb'
   obtain ⟨fo,h4,h5⟩:=hA.obj n p hp
   rw [h1] at h4; cases h4
   obtain ⟨_,b,_,_,hk,_⟩:=h5
   exact ⟨b,hk⟩
  have isRow:∀ x∈H.objs,∀ m p,Vh st x=.oref m→A m=some p→∃ sv sz,p.kind=.row sv sz:=by
   intro x hx m p e hp
   obtain ⟨s,ob,h1,_,_⟩:=o1 x hx
   rcases Sg h1 with ⟨e',_⟩ | ⟨m',e',_,hlm,hob⟩
   ·rw [e] at e'; cases e'
   ·rw [e] at e'; cases e'
    obtain ⟨fo,h4,h5⟩:=hA.obj m p hp
    rw [hlm] at h4; cases h4
    rcases hob with ⟨e,k,l,rfl⟩ | ⟨e,sz,l,rfl⟩
    ·obtain ⟨_,sv,hk,_⟩:=h5; exact ⟨sv,1,hk⟩
    ·obtain ⟨_,_,sv,_,hk,_⟩:=h5; exact ⟨sv,sz,hk⟩
  have same:∀ m m':Nat,∀ p q:Place,A m=some p→A m'=some q→p.st≠.dead→q.st≠.dead→p.Hk=some b→q.Hk=some b→m=m':=fun m m' p q h1 h2 h3 h4 h5 h6=>hA.inj m m' p q b h1 h2 h3 h4 h5 h6
  rcases Ma hp with ⟨hnb',hp⟩ | ⟨_,x,hx,rfl,⟨_,rfl⟩ | ⟨i,hi,hp⟩⟩
  ·rcases Ma hq with ⟨_,hq⟩ | ⟨_,y,hy,rfl,⟨_,rfl⟩ | ⟨j,hj,hq⟩⟩
   ·exact same n m p q hp hq hpd hqd hpb hqb
   ·simp [Lk,Place.Hk,Value.ownBlock] at hqb
   ·have e:=same n j p q hp hq hpd hqd hpb hqb
    subst e
    rw [hp] at hq; cases hq
    obtain ⟨b',hk⟩:=isBox n p hnb' hp
    obtain ⟨sv,sz,hk'⟩:=isRow y hy n p hj hp
    rw [hk] at hk'; cases hk'
  ·simp [Lk,Place.Hk,Value.ownBlock] at hpb
  ·rcases Ma hq with ⟨hmb,hq⟩ | ⟨_,y,hy,rfl,⟨_,rfl⟩ | ⟨j,hj,hq⟩⟩
   ·have e:=same i m p q hp hq hpd hqd hpb hqb
    subst e
    rw [hp] at hq; cases hq
    obtain ⟨b',hk⟩:=isBox i p hmb hp
    obtain ⟨sv,sz,hk'⟩:=isRow x hx i p hi hp
    rw [hk] at hk'; cases hk'
   ·simp [Lk,Place.Hk,Value.ownBlock] at hqb
   ·have e:=same i j p q hp hq hpd hqd hpb hqb
    subst e
    obtain ⟨s,ob,h1,_,_⟩:=o1 x hx
    obtain ⟨s',ob',h1',_,_⟩:=o1 y hy
    have hs:s=some i:=by
     rcases Sg h1 with ⟨e',_⟩ | ⟨m',e',e2,_⟩
     ·rw [hi] at e'; cases e'
     ·rw [hi] at e'; cases e'; exact e2
    have hs':s'=some i:=by
     rcases Sg h1' with ⟨e',_⟩ | ⟨m',e',e2,_⟩
     ·rw [hj] at e'; cases e'
     ·rw [hj] at e'; cases e'; exact e2
    subst hs hs'
    rw [o3 x hx y hy i ob ob' h1 h1']
 ·rcases A5d t st.tmps.length with hlt | hge
  ·rw [Acy st.tmps 0 t hlt]
   cases hnm:L9 0 (0+t) H.objs with
   | some nm =>
     obtain ⟨ob,hx⟩:=Uv hnm
     refine hnamed _ hx _ ?_
     have:Vh st (0,0+t,nm,ob)=st.tmps.getD t .undef:=by simp [Vh]
     rw [this]; exact hA.tmps t
   | none =>
     simp only
     cases hk:Nl (0+t) H.keep with
     | true=>exact hrefs _ _ (Aam hok hlt hnm hk) (hA.tmps t)
     | false=>simp only [A4k,Au]
  ·rw [A4q,A5y (by rw [Qz]; exact hge)]
   simp only [Option.getD_none,Au]
theorem Auz {st:St} {a:Act} {w:World} (hh:Gh S I0 B w0 st a w):Gh S I0 B w0 (Aju st) a w:=by
 obtain ⟨A,hA⟩:=hh
 refine ⟨A,hA.defers,hA.size.trans (by unfold Aju; rw [A5m]),hA.below,hA.hB,hA.I0lt,hA.obj,hA.blkB,hA.inj,fun t=>?_,hA.kept,hA.pin⟩
 have ht:=hA.tmps t
 have e:(Aju st).tmps.getD t .undef=Aqv st.heap (st.tmps.getD t .undef):=by
  unfold Aju
  rw [A4q,A4q,A5x]
  cases st.tmps[t]? with
  | none=>rfl
  | some d=>rfl
 rw [e]
 generalize st.tmps.getD t .undef=d at ht
 cases d with
 | oref n =>
   have e2:Aqv st.heap (.oref n)=(match look st.heap n with
    | some (true,.ints _ k l)=>.ints .fresh k l
    | some (true,.recs _ sz l)=>.recs .fresh sz l
    | _=>.oref n):=rfl
   rw [e2]
   have hm:Mem I0 B A st.heap w:=hA.mem fun n p fo hn hl=>hl
   have seen:∀ p,A n=some p→p.st=.frozen→∀ b,p.Hk=some b→(B3 I0 B A w).Hk .fresh b:=fun p hp hf b hb=>by
    obtain ⟨h1,h2⟩:=hA.blkB n p b hp (by rw [hf]; simp) hb
    refine ⟨⟨h2,.inr h1,fun m q hq hl hqb=>?_⟩,rfl,h1⟩
    have:=hA.inj n m p q b hp hq (by rw [hf]; simp) (by rw [hl]; simp) hb hqb
    subst this
    rw [hp] at hq; cases hq
    rw [hf] at hl; cases hl
   have hv:=ht
   simp only [Au] at hv
   obtain ⟨hone,p,hp,hd⟩:=hv
   split
   ·rename_i e k l hl
    obtain ⟨hst,sv,hk,ho⟩:=E0 hm hp hl
    have hst':p.st=.frozen:=hst
    obtain ⟨size,hk'⟩:=hd.resolve_left (by rw [hst']; simp)
    rw [hk] at hk'; cases hk'
    have:=K2 hk ho (F8 ho) (ok:=(B3 I0 B A w).Hk .fresh) (seen p hp hst')
    simp only [List.drop_zero,List.take_length] at this
    simp only [Au]
    exact this
   ·rename_i e sz l hl
    obtain ⟨hst,hsz,sv,rows,hk,hrr,hlen,ho⟩:=Fs hm hp hl
    have hst':p.st=.frozen:=hst
    obtain ⟨size,hk'⟩:=hd.resolve_left (by rw [hst']; simp)
    rw [hk] at hk'; cases hk'
    have:=K1 hk hrr hlen ho (F8 ho) (ok:=(B3 I0 B A w).Hk .fresh) (seen p hp hst')
    simp only [List.drop_zero,List.take_length] at this
    simp only [Au]
    exact this
   ·exact ht
 | _=>exact ht
theorem At1 {H:Ba} {st st1:St} (h:canon (some H) st=some st1) {a:Act} {w:World} (hh:Gh S I0 B w0 st a w):Gh S I0 B w0 st1 a w:=Apu (H:=Aw7 (Aju st) H) h (Auz hh)
end
end Go.Den
namespace Go.Den
open Go.RowKit (Below)
section
variable {P:Program} {E:Env} {S:Acp E} {I0:Nat→Prop} {B:Nat} {w0:World}
theorem Akz {keep:Option (List Nat)} {st:St} (t:Nat):(forget keep st).tmps.getD t .undef=st.tmps.getD t .undef∨(forget keep st).tmps.getD t .undef=.undef:=by
 cases keep with
 | none=>exact .inl rfl
 | some ks =>
   simp only [forget,A4q,A5x,List.getElem?_zipIdx]
   cases st.tmps[t]? with
   | none=>exact .inl rfl
   | some d =>
     simp only [Option.map_some,A50]
     cases ks.contains (0+t)
     ·exact .inr rfl
     ·exact .inl rfl
theorem Acm {keep:Option (List Nat)} {st:St}:(forget keep st).tmps.length=st.tmps.length:=by
 cases keep<;>simp [forget]
theorem Aig {keep:Option (List Nat)} {st:St}:(forget keep st).heap=st.heap:=by
 cases keep<;>rfl
theorem Gh.forget {keep:Option (List Nat)} {st:St} {a:Act} {w:World} (h:Gh S I0 B w0 st a w):Gh S I0 B w0 (forget keep st) a w:=by
 obtain ⟨A,h⟩:=h
 refine ⟨A,h.defers,h.size.trans Acm.symm,h.below,h.hB,h.I0lt,by rw [Aig]; exact h.obj,h.blkB,h.inj,fun t=>?_,h.kept,h.pin⟩
 rcases Akz (keep:=keep) (st:=st) t with e | e
 ·rw [e]; exact h.tmps t
 ·rw [e]; simp only [Au]
def Aug {β:Type} {E:Env} (P:Program) (S:Acp E) (I0:Nat→Prop) (B:Nat) (w0:World) (r:β) (c:Code) (body:St→(St→Option β)→(Nat→St→Option β)→(St→Option β)→Option β):Prop :=
 ∀ (st:St) (Kn:St→Option β) (Kx:Nat→St→Option β) (Kr:St→Option β),body st Kn Kx Kr=some r→∀ (a:Act) (w:World),Gh S I0 B w0 st a w→∀ Q:Exit→Act→World→Prop,
  (∀ st a w,Kn st=some r→Gh S I0 B w0 st a w→Q .normal a w)→(∀ id st a w,Kx id st=some r→Gh S I0 B w0 st a w→Q (.exit id) a w) →
  (∀ st a w,Kr st=some r→Gh S I0 B w0 st a w→Q .ret a w)→c.wp P Q a w
theorem Ad6 {H:Option Ba} {st st1:St} (hc:canon H st=some st1) {a:Act} {w:World} (hh:Gh S I0 B w0 st a w):Gh S I0 B w0 st1 a w:=by
 cases H with
 | none=>simp only [canon,A4j] at hc; subst hc; exact hh
 | some H=>exact At1 hc hh
theorem Ah7 {β:Type} {r:β} {c:Code} {body:St→(St→Option β)→(Nat→St→Option β)→(St→Option β)→Option β} (hb:Aug P S I0 B w0 r c body) {H:Option Ba} {Kx:Nat→St→Option β} {Kr:St→Option β}
 {Q:Exit→Act→World→Prop} (hx:∀ id st a w,Kx id st=some r→Gh S I0 B w0 st a w→Q (.exit id) a w) (hr:∀ st a w,Kr st=some r→Gh S I0 B w0 st a w→Q .ret a w) :
 ∀ (n:Nat) (st:St),Wm H body n st Kx Kr=some r→∀ a w,Gh S I0 B w0 st a w→Code.rounds P c Q n a w
 | 0,st,h,_,_,_=>by simp [Wm] at h
 | n+1,st,h,a,w,hh=>by
   simp only [Wm] at h
   rw [rounds_succ]
   refine hb st _ Kx Kr h a w hh _ (fun st2 a2 w2 hk hh2=>?_) (fun id st2 a2 w2 hk hh2=>hx id st2 a2 w2 hk hh2) (fun st2 a2 w2 hk hh2=>hr st2 a2 w2 hk hh2)
   cases hc:canon H st2 with
   | none=>rw [hc] at hk; cases hk
   | some st3 =>
     rw [hc] at hk
     exact Ah7 hb hx hr n st3 hk a2 w2 (Ad6 hc hh2)
theorem Avz {β:Type} {r:β} {c:Code} {body:St→(St→Option β)→(Nat→St→Option β)→(St→Option β)→Option β} (hb:Aug P S I0 B w0 r c body) {H:Option Ba} {Kx:Nat→St→Option β} {Kr:St→Option β}
 {Q:Exit→Act→World→Prop} (hx:∀ id st a w,Kx id st=some r→Gh S I0 B w0 st a w→Q (.exit id) a w) (hr:∀ st a w,Kr st=some r→Gh S I0 B w0 st a w→Q .ret a w)
 (n:Nat) (st:St) (h:iter H body n st Kx Kr=some r) (a:Act) (w:World) (hh:Gh S I0 B w0 st a w):Code.rounds P c Q n a w:=by
 unfold iter at h
 cases hc:canon H st with
 | none=>rw [hc] at h; cases h
 | some st1 =>
   rw [hc] at h
   exact Ah7 hb hx hr n st1 h a w (Ad6 hc hh)
theorem Rn {β:Type} (he:Kb P E) (fuel:Nat) (r:β):∀ (c:Code) (b:Nat),Aug P S I0 B w0 r c (den E fuel b c)
 | .skip,b=>fun st Kn Kx Kr h a w hh Q hn hx hr=>by
   simp only [den] at h
   exact wp_skip (hn st a w h hh)
 | .label l,b=>fun st Kn Kx Kr h a w hh Q hn hx hr=>by
   simp only [den] at h
   exact wp_label (hn st a w h hh)
 | .region id ops draw,b=>fun st Kn Kx Kr h a w hh Q hn hx hr=>by
   simp only [den] at h
   have reg:∀ st,Ahg E ops draw Kn st=some r→Gh S I0 B w0 st a w→(Code.region id ops draw).wp P Q a w:=by
    intro st h hh
    cases draw with
    | true=>exact Atl he h hh hn
    | false =>
      simp only [Ahg,A4k] at h
      have:=Ama he ops.toList 0 _ (fun j=>by simp) h a w hh hn
      rw [Array.length_toList,← List.range_eq_range'] at this
      exact wp_region this
   cases hl:E.live id with
   | none=>rw [hl] at h; exact reg st h hh
   | some ks =>
     rw [hl] at h
     simp only [Ac1] at h
     exact reg _ h hh.forget
 | .seq x y,b=>fun st Kn Kx Kr h a w hh Q hn hx hr=>by
   simp only [den] at h
   refine wp_seq (Rn he fuel r x b st _ Kx Kr h a w hh _ (fun st' a' w' hk hh'=>?_) (fun id st' a' w' hk hh'=>hx id st' a' w' hk hh') (fun st' a' w' hk hh'=>hr st' a' w' hk hh'))
   exact Rn he fuel r y b st' Kn Kx Kr hk a' w' hh' Q hn hx hr
 | .cond c x y,b=>fun st Kn Kx Kr h a w hh Q hn hx hr=>by
   simp only [den] at h
   cases hv:H6 st.tmps c with
   | bool t =>
     rw [hv] at h
     simp only at h
     have hev:a.eval c=.bool t:=by
      obtain ⟨A,hA⟩:=hh
      have:Au (B3 I0 B A w) w (H6 st.tmps c) (a.eval c):=by
       cases c with
       | tmp t=>exact hA.tmps t
       | const v=>exact Ad1 v
       | global g=>simp only [H6,Au]
       | func f=>simp [H6] at hv
      rw [hv] at this
      simpa only [Au] using this
     refine wp_cond hev ?_
     cases t with
     | true=>exact Rn he fuel r x b st Kn Kx Kr h a w hh Q hn hx hr
     | false=>exact Rn he fuel r y b st Kn Kx Kr h a w hh Q hn hx hr
   | _=>rw [hv] at h; cases h
 | .block id c,b=>fun st Kn Kx Kr h a w hh Q hn hx hr=>by
   simp only [den] at h
   refine wp_block (Rn he fuel r c id st Kn _ Kr h a w hh _ (fun st' a' w' hk hh'=>hn st' a' w' hk hh') (fun id' st' a' w' hk hh'=>?_) (fun st' a' w' hk hh'=>hr st' a' w' hk hh'))
   simp only [Exit.inBlock]
   by_cases e:id'=id
   ·rw [A43 e]
    rw [show (id'==id)=true by simpa using e] at hk
    exact hn st' a' w' hk hh'
   ·rw [A42 e]
    rw [show (id'==id)=false by simpa using e] at hk
    exact hx id' st' a' w' hk hh'
 | .loop c,b=>fun st Kn Kx Kr h a w hh Q hn hx hr=>by
   simp only [den] at h
   exact wp_loop_rounds fuel (Avz (Rn he fuel r c b) hx hr fuel st h a w hh)
 | .scope c,b=>fun st Kn Kx Kr h a w hh Q hn hx hr=>by
   simp only [den] at h
   exact wp_scope_straight (Rn he fuel r c b st Kn Kx Kr h a w hh _ (fun st' a' w' hk hh'=>hn st' a' w' hk hh') (fun id st' a' w' hk hh'=>hx id st' a' w' hk hh') (fun st' a' w' hk hh'=>hr st' a' w' hk hh'))
 | .exit id,b=>fun st Kn Kx Kr h a w hh Q hn hx hr=>by
   simp only [den] at h
   exact wp_exit (hx id st a w h hh)
 | .ret,b=>fun st Kn Kx Kr h a w hh Q hn hx hr=>by
   simp only [den] at h
   exact wp_ret (hr st a w h hh)
 | .rangeFunc ..,b=>fun st Kn Kx Kr h=>by simp [den] at h
 | .goto l,b=>fun st Kn Kx Kr h=>by simp [den] at h
 | .refuse s,b=>fun st Kn Kx Kr h=>by simp [den] at h
end
end Go.Den
namespace Go.Den
open Go.RowKit (Below)
def Arv:List Value→Value
 | [v]=>v
 | vs=>.tuple vs.toArray
def Xf (tmps:Array Value):ResultVar→Sem Value
 | .tmp t=>pure (tmps.getD t undef)
 | .cell a t=>do loadVar t (← asAddr (tmps.getD a undef))
section
variable {P:Program} {E:Env} {S:Acp E} {I0:Nat→Prop} {B:Nat} {w0:World} {A:Nat→Option Place}
theorem Aj6 {t:TypeId} {va v:Value} {w:World} (h:(Instr.loadAt t va).run P w=.ok v w):(do loadVar t (← asAddr va):Sem Value).run P w=.ok v w:=by
 unfold Instr.loadAt at h
 cases va with
 | pointer a =>
   cases a with
   | none=>simp [Instr.sureAddr] at h
   | some a =>
     simp only [Instr.sureAddr,asAddr] at h ⊢
     exact h
 | _=>simp [Instr.sureAddr] at h
theorem An5 (hty:∀ t ti,E.ty t=some ti→Ct P t ti) {st:St} {a:Act} {w:World} (hA:Ky S I0 B w0 A (look st.heap) (fun t=>st.tmps.getD t .undef) st.tmps.length a w)
 {r:ResultVar} {d:DV} (h1:Aac E st r=some d):∃ v,Au (B3 I0 B A w) w d v∧(Xf a.tmps r).run P w=.ok v w:=by
 cases r with
 | tmp t =>
   simp only [Aac,A4j] at h1
   subst h1
   exact ⟨_,hA.tmps t,by simp [Xf]⟩
 | cell x t =>
   simp only [Aac] at h1
   cases hT:E.ty t with
   | none=>simp [hT] at h1
   | some ti =>
     rw [hT,A4o] at h1
     cases hl:Adn st.heap ti (st.tmps.getD x .undef) with
     | none=>rw [hl] at h1; cases h1
     | some q =>
       rw [hl,A4o] at h1
       cases hq:q.req with
       | false=>rw [hq] at h1; cases h1
       | true =>
         rw [hq,A4g,A4j] at h1
         subst h1
         have hm:Mem I0 B A st.heap w:=hA.mem fun n p fo _ hl=>hl
         obtain ⟨v,hr,hv⟩:=Ah1 hm (hty _ _ hT) (hA.tmps x) hl hq
         exact ⟨v,hv,Aj6 hr⟩
theorem Xg (hty:∀ t ti,E.ty t=some ti→Ct P t ti) {st:St} {a:Act} {w:World} (hA:Ky S I0 B w0 A (look st.heap) (fun t=>st.tmps.getD t .undef) st.tmps.length a w) :
 ∀ (rs:List ResultVar) (ds:List DV),Us E st rs=some ds→∃ vs:List Value,Bj (B3 I0 B A w) w ds vs∧(rs.mapM (Xf a.tmps)).run P w=.ok vs w
 | [],ds,h=>by
   simp only [Us,A4j] at h; subst h
   exact ⟨[],by simp [Bj],rfl⟩
 | r::rs,ds,h=>by
   simp only [Us] at h
   cases h1:Aac E st r with
   | none=>simp [h1] at h
   | some d =>
     cases h2:Us E st rs with
     | none=>simp [h1,h2] at h
     | some ds' =>
       simp only [h1,h2,A4o,A4j] at h
       subst h
       obtain ⟨vs,i1,i2⟩:=Xg hty hA rs ds' h2
       obtain ⟨v,hv,hr⟩:=An5 hty hA h1
       refine ⟨v::vs,by rw [Bj.Dl]; exact ⟨v,vs,rfl,hv,i1⟩,?_⟩
       simp only [List.mapM_cons,Sem.run_bind,hr,Result.andThen_ok,i2,Sem.run_pure]
theorem Yk {fn:Func} {tmps:Array Value} {w:World} {vs:List Value} (h:(fn.results.toList.mapM (Xf tmps)).run P w=.ok vs w) :
 (results fn tmps).run P w=.ok (Arv vs) w:=by
 have h':(fn.results.mapM (Xf tmps)).run P w=.ok vs.toArray w:=by
  rw [Array.mapM_eq_mapM_toList]
  simp only [Sem.run_map,h,Result.andThen_ok]
 have e:results fn tmps=(do let vs←fn.results.mapM (Xf tmps); pure (if h:vs.size=1 then vs[0] else .tuple vs)):=by
  unfold results
  congr 2
 rw [e]
 simp only [Sem.run_bind,h',Result.andThen_ok,Sem.run_pure]
 congr 1
 match vs with
 | []=>rfl
 | [v]=>rfl
 | v::u::us=>simp [Arv]
def Ok (h:El) (f:Nat) (l:List DV):Option (List DV × List Nat × List Nat) :=
 l.foldr (fun d acc=>(Ho h f d).bind fun (x,ns,os)=>acc.bind fun (xs,ms,ps)=>some (x::xs,ns++ms,os++ps)) (some ([],[],[]))
theorem Xj {h:El} {f:Nat} {d:DV} {l:List DV} {r:List DV × List Nat × List Nat} (hh:Ok h f (d::l)=some r) :
 ∃ x ns os xs ms ps,Ho h f d=some (x,ns,os)∧Ok h f l=some (xs,ms,ps)∧r=(x::xs,ns++ms,os++ps):=by
 have e:Ok h f (d::l)=(Ho h f d).bind fun (x,ns,os)=>(Ok h f l).bind fun (xs,ms,ps)=>some (x::xs,ns++ms,os++ps):=rfl
 rw [e] at hh
 cases h1:Ho h f d with
 | none=>simp [h1] at hh
 | some a =>
   obtain ⟨x,ns,os⟩:=a
   cases h2:Ok h f l with
   | none=>simp [h1,h2] at hh
   | some b =>
     obtain ⟨xs,ms,ps⟩:=b
     simp only [h1,h2,A4o,A4j] at hh
     exact ⟨x,ns,os,xs,ms,ps,rfl,rfl,hh.symm⟩
def Mw (A:Nat→Option Place) (OS:List Nat) (i:Nat):Option Nat :=
 if i∈OS then match A i with
  | some p=>if p.st=.live then p.Hk else none
  | none=>none
 else none
theorem Qf {OS:List Nat} {i b:Nat} (h:Mw A OS i=some b):i∈OS∧∃ p,A i=some p∧p.st=.live∧p.Hk=some b:=by
 unfold Mw at h
 split at h
 ·cases hA:A i with
  | none=>rw [hA] at h; cases h
  | some p =>
    rw [hA] at h
    simp only at h
    split at h
    ·exact ⟨‹_›,p,rfl,‹_›,h⟩
    ·cases h
 ·cases h
theorem Ahl {OS:List Nat} {i b:Nat} {p:Place} (h:i∈OS) (hp:A i=some p) (hl:p.st=.live) (hb:p.Hk=some b):Mw A OS i=some b:=by
 unfold Mw
 rw [A43 h,hp]
 simp only [hl,if_true,hb]
theorem Arl {h:El} {w w':World} (hm:Mem I0 w.heap.size A h w') {NS OS:List Nat} (hdis:∀ n∈NS,n ∉ OS) :
 ∀ (f:Nat) (d:DV) (v:Value) d' ns os,Ho h f d=some (d',ns,os)→(∀ n∈ns,n∈NS)→(∀ n∈os,n∈OS)→Au (B3 I0 w.heap.size A w') w' d v→Au (Er I0 (Mw A OS) w w') w' d' v:=by
 have hok:∀ b,(B3 I0 w.heap.size A w').ok b→(Er I0 (Mw A OS) w w').ok b:=by
  rintro b ⟨h1,h2,h3⟩
  refine ⟨h1,h2,fun i hi=>?_⟩
  obtain ⟨_,p,hp,hl,hb⟩:=Qf hi
  exact h3 i p hp hl hb
 have hbare:∀ l rows,D2 (B3 I0 w.heap.size A w').bare w' l rows→D2 (Er I0 (Mw A OS) w w').bare w' l rows:=fun l rows =>
  D2.Ec (c:=(B3 I0 w.heap.size A w').bare) (c':=(Er I0 (Mw A OS) w w').bare) (w:=w') (w':=w') ⟨hok,rfl,rfl,fun _ _ h=>(by cases h),fun _ _ h=>(by cases h),fun _ _ _=>rfl,fun _ _ h=>(by cases h)⟩ l rows
 have hleaf:∀ d v,Fy 1 [] d=true→Au (B3 I0 w.heap.size A w') w' d v→Au (Er I0 (Mw A OS) w w') w' d v:=by
  intro d v hd hv
  have hl:Nf ((B3 I0 w.heap.size A w').only []) w' (Er I0 (Mw A OS) w w') w' :=
   ⟨hok,rfl,rfl,fun _ _ h=>(by cases h),fun n p hp=>(by simp [Ctx.only] at hp),fun _ _ _=>rfl,fun _ _ h=>(by cases h)⟩
  exact Au.Ec hl d v (Ae7 [] 1 d v hd hv)
 have frozenBlk:∀ n p,A n=some p→p.st≠.dead→(p.st≠.live∨n ∉ OS)→∀ b,p.Hk=some b→(Er I0 (Mw A OS) w w').Hk .fresh b:=by
  intro n p hp hd hc b hb
  obtain ⟨h1,h2⟩:=hm.blkB n p b hp hd hb
  refine ⟨⟨h2,.inr h1,fun i hi=>?_⟩,rfl,h1⟩
  obtain ⟨hio,q,hq,hl,hqb⟩:=Qf hi
  have e:=hm.inj n i p q b hp hq hd (by rw [hl]; simp) hb hqb
  subst e
  rw [hp] at hq; cases hq
  rcases hc with hc | hc
  ·exact hc hl
  ·exact hc hio
 intro f
 induction f with
 | zero=>intro d v d' ns os h; simp [Ho] at h
 | succ f ih =>
   have all:∀ (l:List DV) (vs:List Value) l' ns os,Ok h f l=some (l',ns,os)→(∀ n∈ns,n∈NS)→(∀ n∈os,n∈OS)→Bj (B3 I0 w.heap.size A w') w' l vs→Bj (Er I0 (Mw A OS) w w') w' l' vs:=by
    intro l
    induction l with
    | nil =>
      intro vs l' ns os hr _ _ hv
      simp only [Ok,List.foldr_nil,A4j,A4p] at hr
      obtain ⟨rfl,_,_⟩:=hr
      rw [Bj.H0] at hv ⊢; exact hv
    | cons d l ihl =>
      intro vs l' ns os hr h1 h2 hv
      obtain ⟨x,n1,o1,xs,ms,ps,e1,e2,e⟩:=Xj hr
      cases e
      rw [Bj.Dl] at hv ⊢
      obtain ⟨u,us,e,hu,hus⟩:=hv
      exact ⟨u,us,e,ih d u x n1 o1 e1 (fun n hn=>h1 n (List.mem_append.2 (.inl hn))) (fun n hn=>h2 n (List.mem_append.2 (.inl hn))) hu,
       ihl us xs ms ps e2 (fun n hn=>h1 n (List.mem_append.2 (.inr hn))) (fun n hn=>h2 n (List.mem_append.2 (.inr hn))) hus⟩
   intro d v d' ns os hr hns hos hv
   cases d with
   | agg l =>
     have hr:(Ok h f l).bind (fun (l,ns,os)=>some (DV.agg l,ns,os))=some (d',ns,os):=hr
     cases hl:Ok h f l with
     | none=>rw [hl] at hr; cases hr
     | some r =>
       obtain ⟨l',ns',os'⟩:=r
       rw [hl] at hr
       simp only [A4o,A4j,A4p] at hr
       obtain ⟨rfl,rfl,rfl⟩:=hr
       simp only [Au] at hv ⊢
       obtain ⟨vs,e,h1⟩:=hv
       exact ⟨vs,e,all l _ l' _ _ hl hns hos h1⟩
   | tup l =>
     have hr:(Ok h f l).bind (fun (l,ns,os)=>some (DV.tup l,ns,os))=some (d',ns,os):=hr
     cases hl:Ok h f l with
     | none=>rw [hl] at hr; cases hr
     | some r =>
       obtain ⟨l',ns',os'⟩:=r
       rw [hl] at hr
       simp only [A4o,A4j,A4p] at hr
       obtain ⟨rfl,rfl,rfl⟩:=hr
       simp only [Au] at hv ⊢
       obtain ⟨vs,e,h1⟩:=hv
       exact ⟨vs,e,all l _ l' _ _ hl hns hos h1⟩
   | oref n =>
     simp only [Au] at hv
     obtain ⟨hone,p,hp,hd⟩:=hv
     simp only [Ho] at hr
     split at hr
     ·rename_i e k l hl
      simp only [A4j,A4p] at hr
      obtain ⟨rfl,rfl,rfl⟩:=hr
      obtain ⟨hst,sv,hk,ho⟩:=E0 hm hp hl
      obtain ⟨size,hk'⟩:=hd.resolve_left (Ce hst)
      rw [hk] at hk'; cases hk'
      simp only [Au]
      exact ⟨ho,fun b hb=>Ahl (hos n (by simp)) hp hst (by unfold Place.Hk; rw [hk]; exact hb)⟩
     ·rename_i e sz l hl
      simp only [A4j,A4p] at hr
      obtain ⟨rfl,rfl,rfl⟩:=hr
      obtain ⟨hst,hsz,sv,rows,hk,hrr,hlen,ho⟩:=Fs hm hp hl
      obtain ⟨size,hk'⟩:=hd.resolve_left (Ce hst)
      rw [hk] at hk'; cases hk'
      simp only [Au]
      exact ⟨rows,hbare _ _ hrr,hlen,ho,fun b hb=>Ahl (hos n (by simp)) hp hst (by unfold Place.Hk; rw [hk]; exact hb)⟩
     ·rename_i e k l hl
      simp only [A4j,A4p] at hr
      obtain ⟨rfl,rfl,rfl⟩:=hr
      obtain ⟨hst,sv,hk,ho⟩:=E0 hm hp hl
      obtain ⟨size,hk'⟩:=hd.resolve_left (Ce hst)
      rw [hk] at hk'; cases hk'
      have hst':p.st=.frozen:=hst
      have:=K2 hk ho (F8 ho) (ok:=(Er I0 (Mw A OS) w w').Hk .fresh) (frozenBlk n p hp (Ce hst) (.inl (by rw [hst']; simp)))
      simp only [List.drop_zero,List.take_length] at this
      simp only [Au]
      exact this
     ·rename_i e sz l hl
      simp only [A4j,A4p] at hr
      obtain ⟨rfl,rfl,rfl⟩:=hr
      obtain ⟨hst,hsz,sv,rows,hk,hrr,hlen,ho⟩:=Fs hm hp hl
      obtain ⟨size,hk'⟩:=hd.resolve_left (Ce hst)
      rw [hk] at hk'; cases hk'
      have hst':p.st=.frozen:=hst
      have:=K1 hk (hbare _ _ hrr) hlen ho (F8 ho) (ok:=(Er I0 (Mw A OS) w w').Hk .fresh) (frozenBlk n p hp (Ce hst) (.inl (by rw [hst']; simp)))
      simp only [List.drop_zero,List.take_length] at this
      simp only [Au]
      exact this
     ·cases hr
   | sref n off len =>
     simp only [Au] at hv
     obtain ⟨hone,p,hp,hd⟩:=hv
     simp only [Ho] at hr
     split at hr
     ·rename_i fz e k l hl
      simp only [A4j,A4p] at hr
      obtain ⟨rfl,rfl,rfl⟩:=hr
      obtain ⟨hst,sv,hk,ho⟩:=E0 hm hp hl
      obtain ⟨sv',size,hk',hs⟩:=hd.resolve_left (Ce hst)
      rw [hk] at hk'; cases hk'
      have:=K2 hk ho hs (ok:=(Er I0 (Mw A OS) w w').Hk .fresh) (frozenBlk n p hp (Ce hst) (.inr (hdis n (hns n (by simp)))))
      simp only [Au]
      exact this
     ·rename_i fz e sz l hl
      simp only [A4j,A4p] at hr
      obtain ⟨rfl,rfl,rfl⟩:=hr
      obtain ⟨hst,hsz,sv,rows,hk,hrr,hlen,ho⟩:=Fs hm hp hl
      obtain ⟨sv',size,hk',hs⟩:=hd.resolve_left (Ce hst)
      rw [hk] at hk'; cases hk'
      have:=K1 hk (hbare _ _ hrr) hlen ho hs (ok:=(Er I0 (Mw A OS) w w').Hk .fresh) (frozenBlk n p hp (Ce hst) (.inr (hdis n (hns n (by simp)))))
      simp only [Au]
      exact this
     ·cases hr
   | ptr n i j=>simp [Ho] at hr
   | fn g a b=>simp [Ho] at hr
   | gd g d=>simp [Ho] at hr
   | undef=>simp [Ho] at hr
   | cellp cs=>simp [Ho] at hr
   | nil=>simp only [Ho,A4j,A4p] at hr; obtain ⟨rfl,_,_⟩:=hr; exact hleaf _ _ rfl hv
   | bool b=>simp only [Ho,A4j,A4p] at hr; obtain ⟨rfl,_,_⟩:=hr; exact hleaf _ _ rfl hv
   | int k n=>simp only [Ho,A4j,A4p] at hr; obtain ⟨rfl,_,_⟩:=hr; exact hleaf _ _ rfl hv
   | fl n=>simp only [Ho,A4j,A4p] at hr; obtain ⟨rfl,_,_⟩:=hr; exact hleaf _ _ rfl hv
   | nb n=>simp only [Ho,A4j,A4p] at hr; obtain ⟨rfl,_,_⟩:=hr; exact hleaf _ _ rfl hv
   | ints g k l=>simp only [Ho,A4j,A4p] at hr; obtain ⟨rfl,_,_⟩:=hr; exact hleaf _ _ rfl hv
   | recs g k l=>simp only [Ho,A4j,A4p] at hr; obtain ⟨rfl,_,_⟩:=hr; exact hleaf _ _ rfl hv
end
end Go.Den
end
