/- A verified evaluator of the program's form and its use for this seat: Den21, Den22, Den23, Den24, Den25, Den26, Den27, Den28, Den29, Den30, Den31, Den32. -/
import Derived.Orders
import Derived.Test.YtjbokjpbiobjpaaGreatTB
import Derived.LoopN
import Derived.Scope
set_option linter.unusedVariables false
set_option linter.unusedSimpArgs false
noncomputable section
open Int (toNat)
open List (length getD)
namespace Go.Den
open Go.RowKit (Below)
def Jz (P:Program) (ops:Array Oper) (o:Oper) (a:Act) (w:World) (Q:Exit→Act→World→Prop) (G:Value→World→Prop):Prop :=
 ∀ K:Act→World→Prop,(∀ v w',G v w'→K (a.put o.dst v) w') →
  if Region.wanted o (yielded ops a.tmps) then o.wp P a w K Q else K (a.put o.dst undef) w
theorem Jz.mono {P:Program} {ops:Array Oper} {o:Oper} {a:Act} {w:World} {Q:Exit→Act→World→Prop} {G G':Value→World→Prop} (h:Jz P ops o a w Q G) (hg:∀ v w',G v w'→G' v w'):Jz P ops o a w Q G' :=
 fun K hK=>h K fun v w' hh=>hK v w' (hg v w' hh)
theorem E2.wp {P:Program} {o:Oper} {a:Act} {w:World} {K:Act→World→Prop} {Q:Exit→Act→World→Prop} {K':Value→World→Prop} (h:E2 P (execOp a.eval o) w K') (hK:∀ v w',K' v w'→K (a.put o.dst v) w'):o.wp P a w K Q:=by
 unfold E2 at h
 unfold Oper.wp
 split at h
 ·rename_i v w' hr
  rw [hr,Oper.upon_value]; exact hK _ _ h
 ·rename_i f args w' hr
  rw [hr,Oper.upon_enter]
  refine Calls.mono h fun e w'' ⟨v,he,hk⟩=>?_
  subst he; exact hK _ _ hk
 ·exact h.elim
section
variable {P:Program} {E:Env} {I0:Nat→Prop} {B:Nat} {A:Nat→Option Place} {h:Dv} {w:World}
theorem Nt {c:Ctx} {g:Bool} {d:DV} {v:Value} (hv:Am c w d v) (hg:g=true) (hs:(Hf g d).2=true):Am c w (Hf g d).1 v:=by
 subst hg
 cases d<;>try exact hv
 rename_i c' d'
 simp only [Hf,A6k,Bool.false_or] at hs ⊢
 simp only [Am] at hv
 exact hv.1 hs
theorem Am4 {c:Ctx} {ops:Array Oper} {l:List DV} {o:Oper} {a:Act} (hsz:a.tmps.size=l.length)
 (hrd:∀ t∈o.looksAt ops,Am c w (l.getD t .undef) (a.tmps.getD t undef)) {g?:Option Bool} (hc:Qe ops l o=some g?) :
 (g?=none∧o.guard=none)∨∃ b,g?=some b∧Region.wanted o (yielded ops a.tmps)=b:=by
 unfold Qe at hc
 split at hc
 ·rename_i hg
  cases hc; exact .inl ⟨rfl,hg⟩
 ·rename_i j want hg
  cases hd:(ops[j]?).bind (·.dst) with
  | none=>simp [hd] at hc
  | some d =>
    simp only [hd] at hc
    have hv:=hrd d (by unfold Oper.looksAt; simp [hg,hd])
    have hlt:∀ {x:DV},l.getD d .undef=x→x≠.undef→d<a.tmps.size:=fun {x} hx hne=>by
     rw [hsz]
     refine Nat.lt_of_not_le fun hle=>hne ?_
     rw [← hx,A5v,A63 hle]; rfl
    have hy:∀ {u:Value},d<a.tmps.size→a.tmps.getD d undef=u→yielded ops a.tmps j=match u with | .bool b=>some b | _=>none:=fun {u} hl hu=>by
     unfold yielded
     rw [hd,A5t]
     have:a.tmps[d]?=some u:=by
      rw [A55 hl]
      rw [Array.getD_eq_getD_getElem?,A55 hl] at hu
      exact congrArg some hu
     rw [this]
     cases u<;>rfl
    split at hc
    ·rename_i b hb
     cases hc
     rw [hb] at hv; simp only [Am] at hv
     refine .inr ⟨_,rfl,?_⟩
     unfold Region.wanted; rw [hg]; simp only
     rw [hy (hlt hb (by simp)) hv]
     cases b<;>cases want<;>rfl
    ·rename_i c' b hb
     cases hc
     rw [hb] at hv; simp only [Am] at hv
     refine .inr ⟨_,rfl,?_⟩
     unfold Region.wanted; rw [hg]; simp only
     cases c' with
     | true =>
       rw [hy (hlt hb (by simp)) (hv.1 rfl)]
       cases b<;>cases want<;>rfl
     | false =>
       rw [hy (hlt hb (by simp)) (hv.2 rfl)]
       cases want<;>rfl
    ·cases hc
def Rp (g?:Option Bool) (v:DV):DV:=match g? with | some c=>.gd c v | none=>v
theorem Agq {c:Ctx} {g?:Option Bool} {d:DV} {v:Value} (hg:g?.getD true=true) (hv:Am c w d v):Am c w (Rp g? d) v:=by
 cases g? with
 | none=>exact hv
 | some b =>
   simp only [A65] at hg; subst hg
   simp only [Rp,Am]
   exact ⟨fun _=>hv,fun e=>by cases e⟩
theorem Aru (he:Kp P E) (hm:Mem I0 B A h w) {ops:Array Oper} {l:List DV} {o:Oper} {a:Act}
 (hops:∀ x∈o.op.operands.toList,Am (Bs I0 B A w) w (Hp l x) (a.eval x))
 {g?:Option Bool} (hg:(g?=none∧o.guard=none)∨∃ b,g?=some b∧Region.wanted o (yielded ops a.tmps)=b)
 {nm:Nat} {r:R2} (hq:Er E h nm (fun x=>(Hf (g?.getD true) (Hp l x)).1) o.op=some r)
 (hreq:(!(g?.getD true)||(Uk (g?.getD true) (Hp l) o.op.operands.toList&&r.req))=true)
 (hfrz:r.frz=[]∨g?.getD true=true)
 (hnew:∀ n ob,(n,ob)∈r.objs→A n=none) (hnd:(r.objs.map (·.1)).Nodup) {Q:Exit→Act→World→Prop} :
 Jz P ops o a w Q fun v w'=>∃ A',Ju I0 B A w r.objs r.frz A' w'∧Am (Bs I0 B A' w') w' (Rp g? r.v) v:=by
 intro K hK
 have hwant:Region.wanted o (yielded ops a.tmps)=g?.getD true:=by
  rcases hg with ⟨rfl,hg⟩ | ⟨b,rfl,hg⟩
  ·simp [Region.wanted,hg]
  ·simpa using hg
 rw [hwant]
 by_cases hgt:g?.getD true=true
 ·rw [A58 hgt]
  rw [hgt] at hreq hq
  simp only [A6k,Bool.false_or,A5w] at hreq
  have hops':Ops (Bs I0 B A w) w (fun x=>(Hf true (Hp l x)).1) a.eval o.op:=fun x hx=>by
   refine Nt (hops x hx) rfl ?_
   have:=hreq.1
   unfold Uk at this
   rw [List.all_eq_true] at this
   exact this x hx
  exact E2.wp (K':=fun v w'=>∃ A',Ju I0 B A w r.objs r.frz A' w'∧Am (Bs I0 B A' w') w' (Rp g? r.v) v)
   (Aob he hm hops' hq hreq.2 hnew hnd fun v w' A' h1 h2=>⟨A',h1,Agq hgt h2⟩) hK
 ·rw [A57 hgt]
  have hgf:g?=some false:=by
   cases g? with
   | none=>simp at hgt
   | some b=>simp only [A65,Bool.not_eq_true] at hgt; rw [hgt]
  have h2:r.frz=[]:=hfrz.resolve_right hgt
  subst hgf
  refine hK undef w ⟨A,by rw [h2]; exact Ju.idle _,?_⟩
  simp only [Rp,Am]
  exact ⟨fun e=>(by cases e),fun _=>trivial⟩
theorem Av8 {ops:Array Oper} {l:List DV} {dst:Option Tmp} {c x y:Operand} {ty:TypeId} {pos:String} {after:Array Edge} {guard:Option (Nat × Bool)} {a:Act} {cx:Ctx}
 (hc:Am cx w (Hp l c) (a.eval c)) (hx:Am cx w (Hp l x) (a.eval x)) (hy:Am cx w (Hp l y) (a.eval y))
 {g?:Option Bool} (hg:(g?=none∧guard=none)∨∃ b,g?=some b∧Region.wanted ⟨dst,.pick c x y,ty,pos,after,guard⟩ (yielded ops a.tmps)=b)
 {c' r:Bool} {v:DV} (hsc:(Hf (g?.getD true) (Hp l c)).1=.bool c') (hp:Al5 c' (Hp l x) (Hp l y)=some (r,v))
 (hreq:(!(g?.getD true)||((Hf (g?.getD true) (Hp l c)).2&&r))=true) {Q:Exit→Act→World→Prop} :
 Jz P ops ⟨dst,.pick c x y,ty,pos,after,guard⟩ a w Q fun u w'=>w'=w∧Am cx w (Rp g? v) u:=by
 intro K hK
 have hwant:Region.wanted ⟨dst,.pick c x y,ty,pos,after,guard⟩ (yielded ops a.tmps)=g?.getD true:=by
  rcases hg with ⟨rfl,hg⟩ | ⟨b,rfl,hg⟩
  ·simp [Region.wanted,hg]
  ·simpa using hg
 rw [hwant]
 by_cases hgt:g?.getD true=true
 ·rw [A58 hgt]
  rw [hgt] at hreq hsc
  simp only [A6k,Bool.false_or,A5w] at hreq
  have hcv:=Nt hc rfl hreq.1
  rw [hsc] at hcv; simp only [Am] at hcv
  refine E2.wp (K':=fun u w'=>w'=w∧Am cx w (Rp g? v) u) (E2.value (v:=if c' then a.eval x else a.eval y) (w':=w) ?_ ⟨rfl,Agq hgt ?_⟩) hK
  ·simp [execOp,hcv,asBool]
  ·have h2:=hreq.2
   unfold Al5 at hp
   cases c' with
   | true =>
     simp only [if_true]
     split at hp
     ·rename_i p q e1 e2
      simp only [A5o,A5u] at hp
      obtain ⟨rfl,rfl⟩:=hp
      simp only [A5w] at h2
      have:=Nt hx rfl h2.1
      rw [e1] at this; exact this
     ·rename_i k p k' q e1 e2
      by_cases hk:k=k'
      ·simp only [hk,decide_true,A5l,A5o,A5u] at hp
       obtain ⟨rfl,rfl⟩:=hp
       simp only [A5w] at h2
       have:=Nt hx rfl h2.1
       rw [e1] at this; subst hk; exact this
      ·simp [hk] at hp
     ·cases hp
   | false =>
     simp only [Bool.false_eq_true,if_false]
     split at hp
     ·rename_i p q e1 e2
      simp only [A5o,A5u] at hp
      obtain ⟨rfl,rfl⟩:=hp
      simp only [A5w] at h2
      have:=Nt hy rfl h2.2
      rw [show (!false)=true from rfl] at e2
      rw [e2] at this; exact this
     ·rename_i k p k' q e1 e2
      by_cases hk:k=k'
      ·simp only [hk,decide_true,A5l,A5o,A5u] at hp
       obtain ⟨rfl,rfl⟩:=hp
       simp only [A5w] at h2
       have:=Nt hy rfl h2.2
       rw [show (!false)=true from rfl] at e2
       rw [e2] at this; exact this
      ·simp [hk] at hp
     ·cases hp
 ·rw [A57 hgt]
  have hgf:g?=some false:=by
   cases g? with
   | none=>simp at hgt
   | some b=>simp only [A65,Bool.not_eq_true] at hgt; rw [hgt]
  subst hgf
  refine hK undef w ⟨rfl,?_⟩
  simp only [Rp,Am]
  exact ⟨fun e=>(by cases e),fun _=>trivial⟩
theorem Ass {ops:Array Oper} {o:Oper} {t:Tmp} (h:Operand.tmp t∈o.op.operands.toList):t∈o.looksAt ops:=by
 unfold Oper.looksAt
 exact List.mem_append.2 (.inl (List.mem_filterMap.2 ⟨_,h,rfl⟩))
theorem Ad4 {c:Ctx} (v:Value):Am c w (Ak1 v) v:=by
 unfold Ak1
 split<;>simp only [Am]
 exact ⟨_,rfl,.inl rfl⟩
theorem Vt {c:Ctx} {ops:Array Oper} {l:List DV} {o:Oper} {a:Act}
 (hrd:∀ t∈o.looksAt ops,Am c w (l.getD t .undef) (a.tmps.getD t undef)):∀ x∈o.op.operands.toList,Am c w (Hp l x) (a.eval x):=by
 intro x hx
 cases x with
 | tmp t=>exact hrd t (Ass hx)
 | const v=>exact Ad4 v
 | global g=>simp only [Hp,Am]
 | func f=>simp [Hp,Am,Act.eval,A6]
theorem A2e (he:Kp P E) {ops:Array Oper} {draw:Bool} {st st':St} {o:Oper} (hs:Na E ops draw st o=some (true,st')) (hmut:V9 o.op=false)
 (hsp:∀ g?,Qe ops st.tmps o=some g?→(bif draw then none else Md E (Hp st.tmps) g? o.op)=none) :
 ∃ d objs frz,st'.tmps=Vi st.tmps o.dst d∧st'.heap=objs.map (fun (x:Nat × OB)=>(x.1,false,x.2))++Ki st.heap frz ∧
  (∀ n ob,(n,ob)∈objs→look st.heap n=none)∧(objs.map (·.1)).Nodup∧(Gi E ops st o=frz∧∀ n∈frz,look st.heap n≠none) ∧
  ∀ {I0:Nat→Prop} {B:Nat} {A:Nat→Option Place} {w:World} {a:Act} {Q:Exit→Act→World→Prop},Mem I0 B A st.heap w→a.tmps.size=st.tmps.length →
   (∀ t∈o.looksAt ops,Am (Bs I0 B A w) w (st.tmps.getD t .undef) (a.tmps.getD t undef))→(∀ n ob,(n,ob)∈objs→A n=none) →
   Jz P ops o a w Q fun v w'=>∃ A',Ju I0 B A w objs frz A' w'∧Am (Bs I0 B A' w') w' d v:=by
 obtain ⟨dst,op,ty,pos,after,guard⟩:=o
 unfold Na at hs
 cases hc:Qe ops st.tmps ⟨dst,op,ty,pos,after,guard⟩ with
 | none=>simp [hc] at hs
 | some g? =>
 simp only [hc,A5t] at hs
 dsimp only at hmut
 replace hsp:=hsp g? hc
 dsimp only at hsp
 have quiet:∀ (hs:((Er E st.heap (dst.getD 0) (fun x=>(Hf (g?.getD true) (Hp st.tmps x)).1) op).bind fun r =>
  bif (r.objs.all fun (n,_)=>(look st.heap n).isNone)&&M5 (r.objs.map (·.1))&&(r.objs.isEmpty||dst.isSome)&&(r.frz.isEmpty||r.frz.all fun n=>(look st.heap n).isSome) then
   some (bif r.frz.isEmpty then !(g?.getD true)||(Uk (g?.getD true) (Hp st.tmps) op.operands.toList&&r.req) else g?.getD true&&(Uk (g?.getD true) (Hp st.tmps) op.operands.toList&&r.req),
    ({ tmps:=Vi st.tmps dst (Rp g? r.v),heap:=(r.objs.map fun (n,ob)=>(n,false,ob))++Ki st.heap r.frz }:St))
  else none)=some (true,st')),∃ d objs frz,st'.tmps=Vi st.tmps dst d∧st'.heap=objs.map (fun (x:Nat × OB)=>(x.1,false,x.2))++Ki st.heap frz ∧
  (∀ n ob,(n,ob)∈objs→look st.heap n=none)∧(objs.map (·.1)).Nodup∧(Gi E ops st ⟨dst,op,ty,pos,after,guard⟩=frz∧∀ n∈frz,look st.heap n≠none) ∧
  ∀ {I0:Nat→Prop} {B:Nat} {A:Nat→Option Place} {w:World} {a:Act} {Q:Exit→Act→World→Prop},Mem I0 B A st.heap w→a.tmps.size=st.tmps.length →
   (∀ t∈Oper.looksAt ops ⟨dst,op,ty,pos,after,guard⟩,Am (Bs I0 B A w) w (st.tmps.getD t .undef) (a.tmps.getD t undef))→(∀ n ob,(n,ob)∈objs→A n=none) →
   Jz P ops ⟨dst,op,ty,pos,after,guard⟩ a w Q fun v w'=>∃ A',Ju I0 B A w objs frz A' w'∧Am (Bs I0 B A' w') w' d v:=by
  intro hs
  cases hq:Er E st.heap (dst.getD 0) (fun x=>(Hf (g?.getD true) (Hp st.tmps x)).1) op with
  | none=>simp [hq] at hs
  | some r =>
    simp only [hq,A5t] at hs
    by_cases hcc:((r.objs.all fun (n,_)=>(look st.heap n).isNone)&&M5 (r.objs.map (·.1))&&(r.objs.isEmpty||dst.isSome)&&(r.frz.isEmpty||r.frz.all fun n=>(look st.heap n).isSome))=true
    ·rw [hcc,A5l,A5o,A5u] at hs
     obtain ⟨hreq,rfl⟩:=hs
     simp only [A5w,Bool.or_eq_true,List.isEmpty_iff,Option.isNone_iff_eq_none,List.all_eq_true] at hcc
     obtain ⟨⟨⟨h1,h2⟩,h3⟩,h4⟩:=hcc
     replace hreq:(!(g?.getD true)||(Uk (g?.getD true) (Hp st.tmps) op.operands.toList&&r.req))=true∧(r.frz=[]∨g?.getD true=true):=by
      cases ho:r.frz.isEmpty with
      | true =>
        rw [ho,A5l] at hreq
        exact ⟨hreq,.inl (List.isEmpty_iff.1 ho)⟩
      | false =>
        rw [ho,A5p,A5w] at hreq
        exact ⟨by rw [hreq.2,A6x],.inr hreq.1⟩
     refine ⟨Rp g? r.v,r.objs,r.frz,rfl,rfl,fun n ob hn=>h1 (n,ob) hn,Kd h2,⟨by unfold Gi; dsimp only; rw [hmut,hc]; simp only [A5p,hq],fun n hn e=>?_⟩,?_⟩
     ·rcases h4 with h4 | h4
      ·rw [h4] at hn; cases hn
      ·have:=h4 n hn; rw [e] at this; cases this
     intro I0 B A w a Q hm hsz hrd hnew
     exact Aru he hm (Vt hrd) (Am4 hsz hrd hc) hq hreq.1 hreq.2 hnew (Kd h2)
    ·simp only [Bool.not_eq_true] at hcc; rw [hcc] at hs; cases hs
 cases op
 case pick c x y =>
  simp only at hs
  split at hs
  ·rename_i c' hsc
   cases hp:Al5 c' (Hp st.tmps x) (Hp st.tmps y) with
   | none=>simp [hp] at hs
   | some rv =>
     obtain ⟨r,v⟩:=rv
     simp only [hp,A5t,A5o,A5u] at hs
     obtain ⟨hreq,rfl⟩:=hs
     refine ⟨Rp g? v,[],[],rfl,rfl,fun n ob hn=>(by cases hn),List.nodup_nil,⟨by unfold Gi; dsimp only [V9]; rw [hc]; rfl,fun n hn=>(by cases hn)⟩,?_⟩
     intro I0 B A w a Q hm hsz hrd hnew
     have hr:=Vt (w:=w) hrd
     refine Jz.mono (Av8 (hr c (by simp [Op.operands])) (hr x (by simp [Op.operands])) (hr y (by simp [Op.operands])) (Am4 hsz hrd hc) hsc hp hreq) ?_
     rintro u w' ⟨rfl,hu⟩
     exact ⟨A,Ju.refl (.inl rfl),hu⟩
  ·cases hs
 case store=>simp [V9] at hmut
 case call c =>
  obtain ⟨callee,args,ts⟩:=c
  cases callee
  case builtin b =>
   cases b
   case append=>simp [V9] at hmut
   all_goals (dsimp only at hs; rw [hsp] at hs; exact quiet hs)
  all_goals (dsimp only at hs; rw [hsp] at hs; exact quiet hs)
 all_goals (dsimp only at hs; rw [hsp] at hs; exact quiet hs)
end
end Go.Den
namespace Go.Den
open Go.RowKit (Below)
theorem O5 (a b:Dv) (n:Nat):look (a++b) n=match look a n with | some x=>some x | none=>look b n:=by
 induction a with
 | nil=>rfl
 | cons x a ih =>
   obtain ⟨m,y⟩:=x
   simp only [List.cons_append,look]
   cases m==n<;>simp [ih]
theorem Afm (h:Dv) (m n:Nat):look (match look h m with | some (_,o)=>upd h m (true,o) | none=>h) n=(look h n).map fun x=>(x.1||decide (n=m),x.2):=by
 cases hm:look h m with
 | none =>
   simp only
   cases hn:look h n with
   | none=>rfl
   | some x =>
     have:n≠m:=fun e=>by rw [e,hm] at hn; cases hn
     simp [this]
 | some x =>
   obtain ⟨f,o⟩:=x
   simp only
   rw [Gv hm]
   by_cases e:n=m
   ·subst e; simp [hm]
   ·rw [A57 e]
    cases look h n with
    | none=>rfl
    | some x=>simp [e]
theorem Se:∀ (ns:List Nat) (h:Dv) (n:Nat),look (Ki h ns) n=(look h n).map fun x=>(x.1||decide (n∈ns),x.2)
 | [],h,n=>by
   unfold Ki
   simp
 | m::ns,h,n=>by
   have e:Ki h (m::ns)=Ki (match look h m with | some (_,o)=>upd h m (true,o) | none=>h) ns:=rfl
   rw [e,Se ns,Afm]
   cases look h n with
   | none=>rfl
   | some x=>simp [Bool.or_assoc]
theorem Xm {objs:List (Nat × OB)}:∀ {n:Nat} {x:Bool × OB},look (objs.map (fun (x:Nat × OB)=>(x.1,false,x.2))) n=some x→∃ ob,(n,ob)∈objs∧x=(false,ob):=by
 induction objs with
 | nil=>intro n x h; cases h
 | cons y l ih =>
   intro n x h
   simp only [List.map_cons,look] at h
   by_cases e:y.1=n
   ·rw [show (y.1==n)=true by simpa using e] at h
    simp only [A5l,A5o] at h
    exact ⟨y.2,by rw [← e]; exact A60,h.symm⟩
   ·rw [show (y.1==n)=false by simpa using e] at h
    obtain ⟨ob,h1,h2⟩:=ih h
    exact ⟨ob,A6q _ h1,h2⟩
theorem Aa8 {objs:List (Nat × OB)} {n:Nat} (h:look (objs.map (fun (x:Nat × OB)=>(x.1,false,x.2))) n=none):∀ ob,(n,ob) ∉ objs:=by
 induction objs with
 | nil=>intro ob h; cases h
 | cons y l ih =>
   intro ob hm
   simp only [List.map_cons,look] at h
   by_cases e:y.1=n
   ·rw [show (y.1==n)=true by simpa using e] at h; simp at h
   ·rw [show (y.1==n)=false by simpa using e] at h
    rcases List.mem_cons.1 hm with rfl | hm
    ·exact e rfl
    ·exact ih h ob hm
theorem Aoi {α:Type} {l:List (Nat × α)} (h:(l.map (·.1)).Nodup) {n:Nat} {x y:α} (h1:(n,x)∈l) (h2:(n,y)∈l):x=y:=by
 have e1:=Tn h h1
 have e2:=Tn h h2
 rw [e1] at e2; exact Option.some.inj e2
structure Sv (P:Program) (E:Env) (ops:Array Oper) (draw:Bool) (st:St) (o:Oper) (st':St) (d:DV):Prop where
 tmps:st'.tmps=Vi st.tmps o.dst d
 there:draw=true→∀ n,n∈Gi E ops st o→look st.heap n≠none
 stays:∀ n,look st.heap n≠none→look st'.heap n≠none
 same:draw=true→∀ n,n ∉ Gi E ops st o→look st.heap n≠none→look st'.heap n=look st.heap n
 run:∀ {I0:Nat→Prop} {B:Nat} {A:Nat→Option Place} {w:World} {a:Act} {Q:Exit→Act→World→Prop},Mem I0 B A st.heap w→a.tmps.size=st.tmps.length →
  (∀ t∈o.looksAt ops,Am (Bs I0 B A w) w (st.tmps.getD t .undef) (a.tmps.getD t undef))→(∀ n,look st.heap n=none→look st'.heap n≠none→A n=none) →
  Jz P ops o a w Q fun v w'=>∃ A',Mem I0 B A' st'.heap w'∧Ja A w A' w'∧Below B w w'∧Am (Bs I0 B A' w') w' d v ∧
   (∀ n p,A' n=some p→A n=none→look st.heap n=none∧look st'.heap n≠none) ∧
   (draw=true→Tw (Gi E ops st o) A w w'∧∀ m q,m ∉ Gi E ops st o→A m=some q→A' m=some q)
section
variable {P:Program} {E:Env}
theorem Ag4 (he:Kp P E) {ops:Array Oper} {draw:Bool} {st st':St} {o:Oper} (hs:Na E ops draw st o=some (true,st')) (hmut:V9 o.op=false)
 (hsp:∀ g?,Qe ops st.tmps o=some g?→(bif draw then none else Md E (Hp st.tmps) g? o.op)=none) :
 ∃ d,Sv P E ops draw st o st' d:=by
 obtain ⟨d,objs,frz,h1,h2,h3,h4,h5,h6⟩:=A2e he hs hmut hsp
 obtain ⟨hm0,h5'⟩:=h5
 have hlk:∀ n,look st'.heap n=match look (objs.map (fun (x:Nat × OB)=>(x.1,false,x.2))) n with | some x=>some x | none=>(look st.heap n).map fun x=>(x.1||decide (n∈frz),x.2):=by
  intro n; rw [h2,O5,Se]
 have hold:∀ n,look st.heap n≠none→look st'.heap n=(look st.heap n).map fun x=>(x.1||decide (n∈frz),x.2):=by
  intro n hn
  rw [hlk]
  cases hq:look (objs.map (fun (x:Nat × OB)=>(x.1,false,x.2))) n with
  | none=>rfl
  | some x =>
    obtain ⟨ob,hob,_⟩:=Xm hq
    exact absurd (h3 n ob hob) hn
 have hobj:∀ n ob,(n,ob)∈objs→look st'.heap n=some (false,ob):=by
  intro n ob hob
  rw [hlk]
  cases hq:look (objs.map (fun (x:Nat × OB)=>(x.1,false,x.2))) n with
  | none=>exact absurd hob (Aa8 hq ob)
  | some x =>
    obtain ⟨ob',hob',rfl⟩:=Xm hq
    rw [Aoi h4 hob hob']
 refine ⟨d,h1,fun _ n hn=>h5' n (hm0 ▸ hn),fun n hn=>?_,fun hd n hf hn=>?_,?_⟩
 ·rw [hold n hn]
  cases hq:look st.heap n with
  | none=>exact absurd hq hn
  | some x=>simp
 ·rw [hm0] at hf
  rw [hold n hn]
  cases look st.heap n with
  | none=>rfl
  | some x=>simp [hf]
 ·intro I0 B A w a Q hm hsz hrd hnew
  have hnew':∀ n ob,(n,ob)∈objs→A n=none:=fun n ob hob=>hnew n (h3 n ob hob) (by rw [hobj n ob hob]; simp)
  refine (h6 hm hsz hrd hnew').mono ?_
  rintro v w' ⟨A',hg,hv⟩
  have hmem:Mem I0 B A' st'.heap w':=by
   refine hg.mem hm (fun n p fo' hp hl=>?_) (fun n ob fo' hob hn hl=>?_)
   ·rw [hlk] at hl
    cases hq:look (objs.map (fun (x:Nat × OB)=>(x.1,false,x.2))) n with
    | some x =>
      obtain ⟨ob,hob,_⟩:=Xm hq
      rw [hnew' n ob hob] at hp; cases hp
    | none =>
      rw [hq] at hl
      cases hf:look st.heap n with
      | none=>rw [hf] at hl; cases hl
      | some fo=>rw [hf] at hl; cases hl; exact ⟨fo,rfl,rfl⟩
   ·rw [hobj n ob hob] at hl; cases hl; rfl
  refine ⟨A',hmem,hg.Aya,hg.below.mono hm.hB,hv,fun n p hp hn=>?_,fun hd=>⟨fun m q b _ hq hqd hqb=>hg.below.block b (hm.blkB m q b hq hqd hqb).2,fun m q hmf hq=>?_⟩⟩
  ·obtain ⟨_,_,ob,hob,_⟩:=hg.new n p hn hp
   exact ⟨h3 n ob hob,by rw [hobj n ob hob]; simp⟩
  ·have:=hg.old m q hq
   rw [this]
   rw [hm0] at hmf
   cases q
   simp [fzP,hmf]
end
end Go.Den
namespace Go.Den
open Go.RowKit (Below)
section
variable {P:Program} {E:Env}
theorem Rq {o:Oper} {y:Nat→Option Bool} (h:o.guard=none):Region.wanted o y=true:=by
 unfold Region.wanted; rw [h]
theorem U0 {ops:Array Oper} {l:List DV} {o:Oper} (h:Qe ops l o=some none):o.guard=none:=by
 unfold Qe at h
 split at h
 ·assumption
 ·split at h
  ·split at h<;>cases h
  ·cases h
structure Sx (ns:List Nat) (nm:Option Nat) (h h':Dv):Prop where
 there:∀ m,m∈ns→look h m≠none
 stays:∀ m,look h m≠none→look h' m≠none
 same:∀ m,m ∉ ns→some m≠nm→look h' m=look h m
theorem N4 {h:Dv} {n:Nat} {x y:Bool × OB} (hl:look h n=some x):Sx [n] none h (upd h n y) where
 there:=fun m hm=>by rw [List.mem_singleton.1 hm,hl]; simp
 stays:=fun m hm=>by rw [Gv hl]; split<;>simp_all
 same:=fun m hm _=>by rw [Gv hl,A57 (fun e=>hm (by rw [e]; exact List.mem_singleton.2 rfl))]
theorem S4 {h:Dv} {nm:Nat} {x:Bool × OB}:Sx [] (some nm) h ((nm,x)::h) where
 there:=fun m hm=>by cases hm
 stays:=fun m hm=>by simp only [look]; cases nm==m<;>simp [hm]
 same:=fun m _ hne=>by
  simp only [look]
  rw [show (nm==m)=false by simpa using fun e:nm=m=>hne (by rw [e])]; rfl
theorem Acv {h:Dv} {n nm:Nat} {x y z:Bool × OB} (hl:look h n=some x):Sx [n] (some nm) h ((nm,z)::upd h n y) where
 there:=(N4 (y:=y) hl).there
 stays:=fun m hm=>S4.stays m ((N4 (y:=y) hl).stays m hm)
 same:=fun m hm hne=>by rw [S4.same m (by simp) hne,(N4 (y:=y) hl).same m hm (by simp)]
theorem Agz {h h':Dv} {t:TypeId} {a v:DV} {r:Bool} (hs:W3 E h t a v=some (r,h')):Sx (Ash a) none h h':=by
 unfold W3 at hs
 cases hT:E.ty t with
 | none=>simp [hT] at hs
 | some ti =>
 simp only [hT,A5t] at hs
 cases hc:(Pf v&&(cells v).length==ti.size&&(cells v).all Ua) with
 | false=>rw [hc] at hs; simp at hs
 | true =>
 rw [hc,A5l] at hs
 split at hs
 ·rename_i n i j
  split at hs
  ·rename_i cs hlk
   cases hq:(i==0&&decide (j+ti.size≤cs.length)) with
   | false=>rw [hq] at hs; simp at hs
   | true =>
     rw [hq,A5l,A5o,A5u] at hs
     obtain ⟨_,rfl⟩:=hs
     exact N4 hlk
  ·rename_i e k l hlk
   split at hs
   ·rename_i k' x
    cases hq:(j==0&&decide (k=k')) with
    | false=>rw [hq] at hs; simp at hs
    | true =>
      rw [hq,A5l,A5o,A5u] at hs
      obtain ⟨_,rfl⟩:=hs
      exact N4 hlk
   ·cases hs
  ·rename_i e sz l hlk
   cases hlow:Mm h (cells v) with
   | none=>simp [hlow] at hs
   | some q =>
   obtain ⟨vs,ns⟩:=q
   simp only [hlow,A5t] at hs
   cases hq:(decide (j+ti.size≤sz)&&ns.isEmpty) with
   | false=>rw [hq] at hs; simp at hs
   | true =>
     rw [hq,A5l,A5o,A5u] at hs
     obtain ⟨_,rfl⟩:=hs
     exact N4 hlk
  ·cases hs
 ·cases hs
theorem Agg {h h':Dv} {nm:Nat} {t:TypeId} {s x v:DV} {r:Bool} (ha:Pd E h nm t s x=some (r,v,h')):Sx (Afj s) (some nm) h h'∧look h nm=none:=by
 unfold Pd at ha
 split at ha
 ·rename_i e _ hT
  cases hE:E.ty e with
  | none=>simp [hE] at ha
  | some ei =>
  simp only [hE,A5t] at ha
  cases hq:(decide (ei.bytes≤128)&&decide (0<ei.size)&&(look h nm).isNone) with
  | false=>rw [hq] at ha; simp at ha
  | true =>
  rw [hq,A5l] at ha
  simp only [A5w,A5s,Option.isNone_iff_eq_none] at hq
  refine ⟨?_,hq.2⟩
  split at ha
  ·split at ha
   ·rename_i k hk
    cases hs1:(ei.size==1) with
    | false=>rw [hs1] at ha; simp at ha
    | true =>
    rw [hs1,A5l] at ha
    cases hel:Pn h k x with
    | none=>simp [hel] at ha
    | some l =>
      simp only [hel,A5t,A5o,A5u] at ha
      obtain ⟨_,_,rfl⟩:=ha
      exact S4
   ·cases hel:Pm h ei.size x with
    | none=>simp [hel] at ha
    | some l =>
      simp only [hel,A5t,A5o,A5u] at ha
      obtain ⟨_,_,rfl⟩:=ha
      exact S4
  ·rename_i n
   split at ha
   ·rename_i e' k l' hlo
    cases hel:Pn h k x with
    | none=>simp [hel] at ha
    | some l =>
      simp only [hel,A5t] at ha
      cases hc:(e==e'&&ei.size==1) with
      | false=>rw [hc] at ha; simp at ha
      | true =>
        rw [hc,A5l] at ha
        simp only [A5o,A5u] at ha
        obtain ⟨_,_,rfl⟩:=ha
        exact Acv hlo
   ·rename_i e' sz l' hlo
    cases hel:Pm h sz x with
    | none=>simp [hel] at ha
    | some l =>
      simp only [hel,A5t] at ha
      cases hc:(e==e'&&sz==ei.size) with
      | false=>rw [hc] at ha; simp at ha
      | true =>
        rw [hc,A5l] at ha
        simp only [A5o,A5u] at ha
        obtain ⟨_,_,rfl⟩:=ha
        exact Acv hlo
   ·cases ha
  ·cases ha
 ·cases ha
theorem Yq {h h':Dv} {nm:Nat} {t:TypeId} {s x v:DV} {r:Bool} (ha:Pd E h nm t s x=some (r,v,h')):(look h' nm).isSome=true:=by
 have push:∀ {y:Bool × OB} {k:Dv},(look ((nm,y)::k) nm).isSome=true:=by intro y k; simp [look]
 unfold Pd at ha
 split at ha
 ·rename_i e _ hT
  cases hE:E.ty e with
  | none=>simp [hE] at ha
  | some ei =>
  simp only [hE,A5t] at ha
  cases hq:(decide (ei.bytes≤128)&&decide (0<ei.size)&&(look h nm).isNone) with
  | false=>rw [hq] at ha; simp at ha
  | true =>
  rw [hq,A5l] at ha
  split at ha
  ·split at ha
   ·rename_i k hk
    cases hs1:(ei.size==1) with
    | false=>rw [hs1] at ha; simp at ha
    | true =>
    rw [hs1,A5l] at ha
    cases hel:Pn h k x with
    | none=>simp [hel] at ha
    | some l =>
      simp only [hel,A5t,A5o,A5u] at ha
      obtain ⟨_,_,rfl⟩:=ha
      exact push
   ·cases hel:Pm h ei.size x with
    | none=>simp [hel] at ha
    | some l =>
      simp only [hel,A5t,A5o,A5u] at ha
      obtain ⟨_,_,rfl⟩:=ha
      exact push
  ·rename_i n
   split at ha
   ·rename_i e' k l' hlo
    cases hel:Pn h k x with
    | none=>simp [hel] at ha
    | some l =>
      simp only [hel,A5t] at ha
      cases hc:(e==e'&&ei.size==1) with
      | false=>rw [hc] at ha; simp at ha
      | true =>
        rw [hc,A5l] at ha
        simp only [A5o,A5u] at ha
        obtain ⟨_,_,rfl⟩:=ha
        exact push
   ·rename_i e' sz l' hlo
    cases hel:Pm h sz x with
    | none=>simp [hel] at ha
    | some l =>
      simp only [hel,A5t] at ha
      cases hc:(e==e'&&sz==ei.size) with
      | false=>rw [hc] at ha; simp at ha
      | true =>
        rw [hc,A5l] at ha
        simp only [A5o,A5u] at ha
        obtain ⟨_,_,rfl⟩:=ha
        exact push
   ·cases ha
  ·cases ha
 ·cases ha
theorem Ag2 (he:Kp P E) {ops:Array Oper} {draw:Bool} {st st':St} {dst:Option Tmp} {t:TypeId} {x y:Operand} {ty:TypeId} {pos:String} {after:Array Edge} {guard:Option (Nat × Bool)}
 (hs:Na E ops draw st ⟨dst,.store t x y,ty,pos,after,guard⟩=some (true,st')):∃ d,Sv P E ops draw st ⟨dst,.store t x y,ty,pos,after,guard⟩ st' d:=by
 unfold Na at hs
 cases hc:Qe ops st.tmps ⟨dst,.store t x y,ty,pos,after,guard⟩ with
 | none=>simp [hc] at hs
 | some g? =>
 cases g? with
 | some b=>simp [hc] at hs
 | none =>
 have hg:=U0 hc
 dsimp only at hg
 simp only [hc,A5t] at hs
 cases hst:W3 E st.heap t (Hp st.tmps x) (Hp st.tmps y) with
 | none=>simp [hst] at hs
 | some rh =>
 obtain ⟨r,h'⟩:=rh
 simp only [hst,A5t,A5o,A5u] at hs
 obtain ⟨rfl,rfl⟩:=hs
 have ht:=Agz hst
 refine ⟨.undef,rfl,fun _=>ht.there,ht.stays,fun _ n hn _=>ht.same n hn (by simp),?_⟩
 intro I0 B A w a Q hm hsz hrd hnew
 have hr:=Vt (w:=w) hrd
 obtain ⟨w',hrun,h1,h2,h3,h4,h5,h6,h7⟩:=Anp he.ty hm (hr x (by simp [Op.operands])) (hr y (by simp [Op.operands])) hst rfl
 intro K hK
 rw [A58 (Rq hg)]
 unfold Oper.wp execOp
 simp only [Sem.run_bind,Sem.run_pure,Result.andThen_ok,hrun]
 rw [Oper.upon_skip]
 refine hK undef w' ⟨A,h1,h2,h3,by simp [Am],fun n p hp hn=>(by rw [hn] at hp; cases hp),fun _=>⟨h5,fun m q _ hq=>hq⟩⟩
theorem Aeu (he:Kp P E) {ops:Array Oper} {draw:Bool} {st st':St} {dst:Option Tmp} {args:Array Operand} {ts:Array TypeId} {ty:TypeId} {pos:String} {after:Array Edge} {guard:Option (Nat × Bool)}
 (hs:Na E ops draw st ⟨dst,.call ⟨.builtin .append,args,ts⟩,ty,pos,after,guard⟩=some (true,st')):∃ d,Sv P E ops draw st ⟨dst,.call ⟨.builtin .append,args,ts⟩,ty,pos,after,guard⟩ st' d:=by
 unfold Na at hs
 cases hc:Qe ops st.tmps ⟨dst,.call ⟨.builtin .append,args,ts⟩,ty,pos,after,guard⟩ with
 | none=>simp [hc] at hs
 | some g? =>
 simp only [hc,A5t] at hs
 split at hs
 ·rename_i s x t t' hargs hts
  have hg:=U0 hc
  dsimp only at hg
  cases hq:(t==t'&&dst.isSome) with
  | false=>rw [hq] at hs; simp at hs
  | true =>
  rw [hq,A5l] at hs
  simp only [A5w,beq_iff_eq] at hq
  obtain ⟨rfl,hdst⟩:=hq
  cases hap:Pd E st.heap (dst.getD 0) t (Hp st.tmps s) (Hp st.tmps x) with
  | none=>simp [hap] at hs
  | some rh =>
  obtain ⟨r,v,h'⟩:=rh
  simp only [hap,A5t,A5o,A5u] at hs
  obtain ⟨rfl,rfl⟩:=hs
  obtain ⟨ht,hnone⟩:=Agg hap
  have hmut:Gi E ops st ⟨dst,.call ⟨.builtin .append,args,ts⟩,ty,pos,after,guard⟩=Afj (Hp st.tmps s):=by
   unfold Gi A2o; simp only [hargs,V9,A5l]
  obtain rfl:args=#[s,x]:=by
   cases args with | mk l=>simp only at hargs; rw [hargs]
  obtain rfl:ts=#[t,t]:=by
   cases ts with | mk l=>simp only at hts; rw [hts]
  refine ⟨v,rfl,fun _ n hn=>ht.there n (hmut ▸ hn),ht.stays,fun _ n hn hl=>ht.same n (hmut ▸ hn) (fun e=>hl ?_),?_⟩
  ·cases dst with
   | none=>cases hdst
   | some d=>simp only [A65] at e hnone; cases e; exact hnone
  ·intro I0 B A w a Q hm hsz hrd hnew
   have hr:=Vt (w:=w) hrd
   have hnm:A (dst.getD 0)=none:=hnew _ hnone (by
    have:=Yq hap
    exact fun e=>by rw [e] at this; cases this)
   obtain ⟨v',w',A',hrun,h1,h2,h3,h4,h5,h6,h7,h8,_⟩:=Ale (ty:=ty) he.ty hm hnm (hr s (by simp [Op.operands,Call.operands])) (hr x (by simp [Op.operands,Call.operands])) hap rfl
   intro K hK
   rw [A58 (Rq hg)]
   unfold Oper.wp execOp
   simp only [resolve,invoke,builtin,Sem.run_bind,Sem.run_pure,Result.andThen_ok,List.map_toArray,List.map_cons,List.map_nil,hrun]
   rw [Oper.upon_value]
   refine hK v' w' ⟨A',h1,h2,h3,h4,fun n p hp hn=>?_,fun _=>⟨hmut ▸ h7,fun m q hmn hq=>h8 m q (hmut ▸ hmn) hq⟩⟩
   have:=h5 n p hp hn
   subst this
   exact ⟨hnone,fun e=>by have:=Yq hap; rw [e] at this; cases this⟩
 ·cases hs
theorem R6 {c c':Ctx} {w w':World} (h:Mw c w c' w') {p:Place} (hb:p.st≠.dead→∀ b,p.G3=some b→w'.heap[b]?=w.heap[b]?) {fo:Bool × OB} (hr:C8 c w p fo):C8 c' w' p fo:=by
 by_cases hd:p.st=.dead
 ·obtain ⟨fz,ob⟩:=fo
  cases ob with
  | dead=>exact hd
  | box cs=>exact absurd hd (Bx hr.1)
  | ints e k l=>exact absurd hd (Bx hr.1)
  | recs e sz l=>exact absurd hd (Bx hr.1)
 ·exact C8.Dl h rfl rfl (hb hd) fo hr
theorem Aex {ρ:Operand→DV} {g?:Option Bool} {op:Op} {n:Nat} {e:TypeId} (h:Md E ρ g? op=some (n,e)) :
 g?=none∧∃ f args ts g x r c,op=.call ⟨.value f,args,ts⟩∧args.toList=[x]∧ρ f=.fn g [] []∧E.spoil g=some e∧ρ x=.agg [.int .i64 r,.int .i64 c,.oref n]:=by
 unfold Md at h
 split at h
 ·rename_i f args ts
  split at h
  ·rename_i g x hf ha
   split at h
   ·rename_i e' r c m he hx
    simp only [A5o,A5u] at h
    obtain ⟨rfl,rfl⟩:=h
    exact ⟨rfl,f,args,ts,g,x,r,c,rfl,ha,hf,he,hx⟩
   ·cases h
  ·cases h
 ·cases h
theorem Ag3 (he:Kp P E) {ops:Array Oper} {draw:Bool} {st st':St} {o:Oper} (hs:Na E ops draw st o=some (true,st'))
 (hsp:¬ ∀ g?,Qe ops st.tmps o=some g?→(bif draw then none else Md E (Hp st.tmps) g? o.op)=none):∃ d,Sv P E ops draw st o st' d:=by
 obtain ⟨dst,op,ty,pos,after,guard⟩:=o
 rw [Classical.not_forall] at hsp
 obtain ⟨g?,hsp⟩:=hsp
 rw [Classical.not_imp] at hsp
 obtain ⟨hc,hsp⟩:=hsp
 cases draw with
 | true=>exact absurd rfl hsp
 | false =>
 dsimp only at hsp
 rw [A5p] at hsp
 cases hsa:Md E (Hp st.tmps) g? op with
 | none=>exact absurd hsa hsp
 | some ne =>
 obtain ⟨n,e⟩:=ne
 obtain ⟨rfl,f,args,ts,g,x,r,c,rfl,hargs,hf,hE,hx⟩:=Aex hsa
 unfold Na at hs
 simp only [hc,A5t,A5p,hsa] at hs
 have hg:=U0 hc
 dsimp only at hg
 split at hs
 ·rename_i e' l hlk
  cases hee:(e==e') with
  | false=>rw [hee] at hs; simp at hs
  | true =>
  rw [hee,A5l,A5o,A5u] at hs
  obtain ⟨_,rfl⟩:=hs
  obtain rfl:e=e':=by simpa using hee
  have ht:=N4 (y:=(false,OB.dead)) hlk
  refine ⟨.undef,rfl,fun h=>(by cases h),ht.stays,fun h=>(by cases h),?_⟩
  intro I0 B A w a Q hm hsz hrd hnew
  have hr:=Vt (w:=w) hrd
  have hf':=hr f (by simp [Op.operands,Call.operands])
  have hx':=hr x (by simp [Op.operands,Call.operands]; exact .inr (by rw [← Array.mem_toList_iff,hargs]; simp))
  rw [hf] at hf'
  rw [hx] at hx'
  simp only [Am] at hf' hx'
  obtain ⟨fs,cs,hfv,hfs,hcs⟩:=hf'
  obtain ⟨vs,hxv,hvs⟩:=hx'
  have e1:fs=#[]:=by
   have:=hfs.length; simp at this; exact Array.eq_empty_of_size_eq_zero this.symm
  have e2:cs=#[]:=by
   have:=hcs.length; simp at this; exact Array.eq_empty_of_size_eq_zero this.symm
  subst e1; subst e2
  simp only [A6,Am] at hvs
  obtain ⟨u1,us1,h1,rfl,u2,us2,rfl,rfl,v,us3,rfl,⟨hcell,p,hp,hpd⟩,rfl⟩:=hvs
  have hp:A n=some p:=hp
  have hvs':vs=#[.int .i64 r,.int .i64 c,v]:=Array.toList_inj.1 (by simpa using h1)
  subst hvs'
  obtain ⟨hlive,sv,hkind,hown⟩:=Es hm hp hlk
  simp only [Bool.false_eq_true,if_false] at hlive
  have hsv:v=sv:=by
   rcases hpd with hpd | ⟨size,hk⟩
   ·rw [hlive] at hpd; cases hpd
   ·rw [hkind] at hk; cases hk; rfl
  subst hsv
  have hblk:p.G3=v.ownBlock:=by unfold Place.G3; rw [hkind]
  have hrun:=(he.spoil g e hE).run w r c v l (Ul hown (Nat.zero_le _))
  let A':Nat→Option Place:=fun m=>if m=n then some ⟨.dead,p.kind⟩ else A m
  have hA':∀ {m:Nat} {q:Place},A' m=some q→q.st≠.dead→m≠n∧A m=some q:=by
   intro m q hq hqd
   by_cases hmn:m=n
   ·have hq:(if m=n then some ⟨.dead,p.kind⟩ else A m)=some q:=hq
    rw [A58 hmn] at hq; cases hq; exact absurd rfl hqd
   ·have hq:(if m=n then some ⟨.dead,p.kind⟩ else A m)=some q:=hq
    rw [A57 hmn] at hq; exact ⟨hmn,hq⟩
  intro K hK
  rw [A58 (Rq hg)]
  obtain rfl:args=#[x]:=by
   cases args with | mk l=>simp only at hargs; rw [hargs]
  refine E2.wp (K':=fun _ w'=>Below 0 w w'∧∀ b,b<w.heap.size→v.ownBlock≠some b→w'.heap[b]?=w.heap[b]?) ?_ ?_
  ·unfold E2
   have hexec:(execOp a.eval ⟨dst,.call ⟨.value f,#[x],ts⟩,ty,pos,after,guard⟩).run P w=.ok (.enter g #[.agg #[.int .i64 r,.int .i64 c,v]]) w:=by
    simp only [execOp,resolve,hfv,Deferred.ofValue,Sem.run_bind,Sem.run_pure,Result.andThen_ok,invoke]
    have:(#[]++Array.map a.eval #[x]++#[]:Array Value)=#[.agg #[.int .i64 r,.int .i64 c,v]]:=by simp [hxv]
    rw [this]
    exact (he.spoil g e hE).call _ _
   rw [hexec]
   exact hrun.mono fun en w' ⟨⟨u,hu⟩,hb,hk⟩=>⟨u,hu,hb,hk⟩
  ·rintro u w' ⟨hb,hk⟩
   have hmv:Ja A w A' w':=by
    refine ⟨hb.size,fun m q hq=>?_,fun m q b hq hql hqb _=>?_,fun b hlt hno=>hk b hlt (fun h=>hno n p hp hlive (by rw [hblk]; exact h))⟩
    ·by_cases hmn:m=n
     ·subst hmn
      exact ⟨⟨.dead,p.kind⟩,A58 rfl,.inl rfl⟩
     ·refine ⟨q,(A57 hmn).trans hq,?_⟩
      by_cases hd:q.st=.dead
      ·exact .inl hd
      ·exact .inr ⟨hd,rfl⟩
    ·obtain ⟨_,hq⟩:=hA' hq (by rw [hql]; simp)
     exact ⟨m,q,hq,hql,hqb⟩
   refine hK u w' ⟨A',⟨A6s hm.hB hb.size,hm.I0lt,fun m q fo hq hlo=>?_,fun m q b hq hqd hqb=>?_,fun m m' q q' b hq hq' hqd hqd' hqb hqb'=>?_⟩,hmv,⟨hb.os,hb.tape,hb.output,hb.size,fun b hlt=>hk b (A6w hlt hm.hB) fun h=>?_⟩,by simp [Am],fun m q hq hn=>?_,fun h=>(by cases h)⟩
   ·rw [Gv hlk] at hlo
    by_cases hmn:m=n
    ·rw [A58 hmn] at hlo; cases hlo
     have hq:(if m=n then some ⟨.dead,p.kind⟩ else A m)=some q:=hq
     rw [A58 hmn] at hq; cases hq
     rfl
    ·rw [A57 hmn] at hlo
     have hq:(if m=n then some ⟨.dead,p.kind⟩ else A m)=some q:=hq
     rw [A57 hmn] at hq
     refine R6 hmv.Dl (fun hd b hb'=>hk b (hm.blkB m q b hq hd hb').2 fun h=>hmn (hm.inj m n q p b hq hp hd (by rw [hlive]; simp) hb' (by rw [hblk]; exact h))) (hm.obj m q fo hq hlo)
   ·obtain ⟨_,hq⟩:=hA' hq hqd
    have:=hm.blkB m q b hq hqd hqb
    exact ⟨this.1,A6w this.2 hb.size⟩
   ·obtain ⟨_,hq⟩:=hA' hq hqd
    obtain ⟨_,hq'⟩:=hA' hq' hqd'
    exact hm.inj m m' q q' b hq hq' hqd hqd' hqb hqb'
   ·have:=(hm.blkB n p b hp (by rw [hlive]; simp) (by rw [hblk]; exact h)).1
    omega
   ·by_cases hmn:m=n
    ·subst hmn; rw [hp] at hn; cases hn
    ·have hq:(if m=n then some ⟨.dead,p.kind⟩ else A m)=some q:=hq
     rw [A57 hmn,hn] at hq; cases hq
 ·cases hs
theorem Z8 (he:Kp P E) {ops:Array Oper} {draw:Bool} {st st':St} {o:Oper} (hs:Na E ops draw st o=some (true,st')):∃ d,Sv P E ops draw st o st' d:=by
 cases hmut:V9 o.op with
 | false =>
   by_cases hsp:∀ g?,Qe ops st.tmps o=some g?→(bif draw then none else Md E (Hp st.tmps) g? o.op)=none
   ·exact Ag4 he hs hmut hsp
   ·exact Ag3 he hs hsp
 | true =>
   obtain ⟨dst,op,ty,pos,after,guard⟩:=o
   dsimp only at hmut
   unfold V9 at hmut
   split at hmut
   ·exact Ag2 he hs
   ·exact Aeu he hs
   ·cases hmut
end
end Go.Den
namespace Go.Den
open Go.RowKit (Below)
structure J5 (S I0:Nat→Prop) (B:Nat) (w0:World) (A:Nat→Option Place) (f:Nat→Option (Bool × OB)) (g:Nat→DV) (len:Nat) (a:Act) (w:World):Prop where
 defers:a.defers=[]
 size:a.tmps.size=len
 below:Below B w0 w
 hB:B≤w.heap.size
 I0lt:∀ b,I0 b→b<B
 obj:∀ n p,A n=some p→∃ fo,f n=some fo∧C8 (Bs I0 B A w) w p fo
 blkB:∀ n p b,A n=some p→p.st≠.dead→p.G3=some b→B≤b∧b<w.heap.size
 inj:∀ n m p q b,A n=some p→A m=some q→p.st≠.dead→q.st≠.dead→p.G3=some b→q.G3=some b→n=m
 tmps:∀ t,Am (Bs I0 B A w) w (g t) (a.tmps.getD t undef)
 kept:∀ b,S b→b<w.heap.size∧w.heap[b]?=w0.heap[b]?∧∀ n p,A n=some p→p.st=.live→p.G3≠some b
theorem Adu {S:Nat→Prop} {A A':Nat→Option Place} {w0 w w':World} (h:∀ b,S b→b<w.heap.size∧w.heap[b]?=w0.heap[b]?∧∀ n p,A n=some p→p.st=.live→p.G3≠some b) (hm:Ja A w A' w') :
 ∀ b,S b→b<w'.heap.size∧w'.heap[b]?=w0.heap[b]?∧∀ n p,A' n=some p→p.st=.live→p.G3≠some b:=fun b hb=>by
 obtain ⟨k1,k2,k3⟩:=h b hb
 refine ⟨A6w k1 hm.size,(hm.kept b k1 k3).trans k2,fun n p hp hl hbk=>?_⟩
 obtain ⟨m,q,hq,hql,hqb⟩:=hm.live n p b hp hl hbk k1
 exact k3 m q hq hql hqb
section
variable {P:Program} {E:Env} {S I0:Nat→Prop} {B:Nat} {w0:World} {A:Nat→Option Place} {f f':Nat→Option (Bool × OB)} {g g':Nat→DV} {len:Nat} {a:Act} {w:World}
theorem J5.mem (h:J5 S I0 B w0 A f g len a w) {hp:Dv} (hf:∀ n p fo,A n=some p→look hp n=some fo→f n=some fo):Mem I0 B A hp w :=
 ⟨h.hB,h.I0lt,fun n p fo hn hl=>by
  obtain ⟨fo',h1,h2⟩:=h.obj n p hn
  rw [hf n p fo hn hl] at h1; cases h1; exact h2,h.blkB,h.inj⟩
theorem Aie {dst:Option Tmp} {v:Value} {t:Nat}:(a.put dst v).tmps.getD t undef=if dst=some t∧t<a.tmps.size then v else a.tmps.getD t undef:=by
 cases dst with
 | none=>simp [Act.put]
 | some d =>
   simp only [Act.put,A5o,Array.getD_eq_getD_getElem?]
   by_cases h:d=t
   ·subst h
    by_cases h2:d<a.tmps.size
    ·simp [h2]
    ·simp [h2]
   ·rw [Array.getElem?_setIfInBounds_ne h,A57 (fun e=>h e.1)]
theorem Ady {l:List DV} {dst:Option Nat} {d:DV} {t:Nat}:(Vi l dst d).getD t .undef=if dst=some t∧t<l.length then d else l.getD t .undef:=by
 cases dst with
 | none=>simp [Vi]
 | some e =>
   simp only [Vi,A5o,A5v]
   by_cases h:e=t
   ·subst h
    by_cases h2:e<l.length
    ·simp [h2]
    ·simp [h2]
   ·rw [List.getElem?_set_ne h,A57 (fun e=>h e.1)]
theorem Ahl {dst:Option Tmp} {v:Value}:(a.put dst v).tmps.size=a.tmps.size:=by cases dst<;>simp [Act.put]
theorem put_defers {dst:Option Tmp} {v:Value}:(a.put dst v).defers=a.defers:=by cases dst<;>rfl
theorem X8 {l:List DV} {dst:Option Nat} {d:DV}:(Vi l dst d).length=l.length:=by cases dst<;>simp [Vi]
theorem J5.step {ops:Array Oper} {st st':St} {o:Oper} {d:DV} (h:J5 S I0 B w0 A f g len a w) (hk:Sv P E ops true st o st' d)
 (h1:∀ n,A n≠none→look st.heap n≠none→look st.heap n=f n)
 (h2:∀ t∈o.looksAt ops,st.tmps.getD t .undef=g t) (h3:st.tmps.length=len)
 (h4:∀ n,look st.heap n=none→look st'.heap n≠none→f n=none)
 (h5:∀ n,look st'.heap n≠none→(n∈Gi E ops st o∨look st.heap n=none)→f' n=look st'.heap n)
 (h6:∀ n,n ∉ Gi E ops st o→¬(look st.heap n=none∧look st'.heap n≠none)→f' n=f n)
 (h7:∀ t,g' t=if o.dst=some t∧t<len then d else g t) {Q:Exit→Act→World→Prop} :
 Jz P ops o a w Q fun v w'=>∃ A',J5 S I0 B w0 A' f' g' len (a.put o.dst v) w':=by
 have hm:Mem I0 B A st.heap w:=h.mem fun n p fo hn hl=>by
  rw [← h1 n (by rw [hn]; simp) (by rw [hl]; simp)]; exact hl
 refine (hk.run hm (h.size.trans h3.symm) (fun t ht=>by rw [h2 t ht]; exact h.tmps t) (fun n hn hn'=>?_)).mono ?_
 ·cases hA:A n with
  | none=>rfl
  | some p =>
    obtain ⟨fo,hfo,_⟩:=h.obj n p hA
    rw [h4 n hn hn'] at hfo; cases hfo
 ·rintro v w' ⟨A',hm',hmv,hb,hv,hnew,hdr⟩
  obtain ⟨hkept,hsame⟩:=hdr rfl
  have hlater:=hmv.Dl (I0:=I0) (B:=B)
  refine ⟨A',put_defers.trans h.defers,Ahl.trans h.size,h.below.trans hb,hm'.hB,hm'.I0lt,fun n p hp=>?_,hm'.blkB,hm'.inj,fun t=>?_,Adu h.kept hmv⟩
  ·have Ng:look st'.heap n≠none→(n∈Gi E ops st o∨look st.heap n=none)→∃ fo,f' n=some fo∧C8 (Bs I0 B A' w') w' p fo:=by
    intro hl ht
    cases hq:look st'.heap n with
    | none=>exact absurd hq hl
    | some fo=>exact ⟨fo,by rw [h5 n hl ht,hq],hm'.obj n p fo hp hq⟩
   cases hA:A n with
   | none =>
     obtain ⟨e1,e2⟩:=hnew n p hp hA
     exact Ng e2 (.inr e1)
   | some q =>
     obtain ⟨fo,hfo,hr⟩:=h.obj n q hA
     by_cases hmu:n∈Gi E ops st o
     ·exact Ng (hk.stays n (hk.there rfl n hmu)) (.inl hmu)
     ·have hs:=hsame n q hmu hA
      rw [hp] at hs; cases hs
      refine ⟨fo,?_,R6 hlater (fun hd b hb=>hkept n _ b hmu hA hd hb) hr⟩
      rw [h6 n hmu (fun e=>by rw [h4 n e.1 e.2] at hfo; cases hfo)]; exact hfo
  ·rw [Aie,h7,h.size]
   split
   ·exact hv
   ·exact Am.Dl hlater _ _ (h.tmps t)
def F2 (S I0:Nat→Prop) (B:Nat) (w0:World) (st:St) (a:Act) (w:World):Prop:=∃ A,J5 S I0 B w0 A (look st.heap) (fun t=>st.tmps.getD t .undef) st.tmps.length a w
theorem F2.step {ops:Array Oper} {draw:Bool} {st st':St} {o:Oper} {d:DV} (h:F2 S I0 B w0 st a w) (hk:Sv P E ops draw st o st' d) {Q:Exit→Act→World→Prop} :
 Jz P ops o a w Q fun v w'=>F2 S I0 B w0 st' (a.put o.dst v) w':=by
 obtain ⟨A,h⟩:=h
 have hm:Mem I0 B A st.heap w:=h.mem fun n p fo hn hl=>hl
 refine (hk.run hm h.size (fun t _=>h.tmps t) (fun n hn _=>?_)).mono ?_
 ·cases hA:A n with
  | none=>rfl
  | some p =>
    obtain ⟨fo,hfo,_⟩:=h.obj n p hA
    rw [hn] at hfo; cases hfo
 ·rintro v w' ⟨A',hm',hmv,hb,hv,hnew,_⟩
  have hlater:=hmv.Dl (I0:=I0) (B:=B)
  refine ⟨A',put_defers.trans h.defers,Ahl.trans (h.size.trans (by rw [hk.tmps,X8])),h.below.trans hb,hm'.hB,hm'.I0lt,fun n p hp=>?_,hm'.blkB,hm'.inj,fun t=>?_,Adu h.kept hmv⟩
  ·have hl:look st'.heap n≠none:=by
    cases hA:A n with
    | none=>exact (hnew n p hp hA).2
    | some q =>
      obtain ⟨fo,hfo,_⟩:=h.obj n q hA
      exact hk.stays n (by rw [hfo]; simp)
   cases hq:look st'.heap n with
   | none=>exact absurd hq hl
   | some fo=>exact ⟨fo,rfl,hm'.obj n p fo hp hq⟩
  ·rw [Aie,hk.tmps,Ady,h.size]
   split
   ·exact hv
   ·exact Am.Dl hlater _ _ (h.tmps t)
end
end Go.Den
namespace Go.Den
open Go.RowKit (Below)
theorem Mk {n:Nat}:∀ {l:List Nat},No n l=true↔n∈l
 | []=>by simp [No]
 | m::l=>by
   simp only [No,List.mem_cons]
   by_cases h:n=m
   ·subst h; simp
   ·rw [show Nat.beq n m=false from by cases hb:Nat.beq n m with | false=>rfl | true=>exact absurd (A53 hb) h]
    simp only [A5p,Mk,h,false_or]
theorem Ut {n:Nat} {l:List Nat}:No n l=false↔n ∉ l:=by rw [← Mk]; simp
section
variable {α:Type} {val:Nat→α} {touch S S':Nat→Prop}
open Classical in
def after (val:Nat→α) (touch S:Nat→Prop):Nat→α
 | 0=>val 0
 | k+1=>if S k∧touch k then val (k+1) else after val touch S k
theorem Pe {N:Nat} (h:∀ j,j<N→touch j→(S j↔S' j)):after val touch S N=after val touch S' N:=by
 induction N with
 | zero=>rfl
 | succ k ih =>
   simp only [after]
   by_cases ht:touch k
   ·rw [ih fun j hj=>h j (by omega)]
    by_cases hs:S k
    ·rw [A58 ⟨hs,ht⟩,A58 ⟨(h k (by omega) ht).1 hs,ht⟩]
    ·rw [A57 (fun e=>hs e.1),A57 (fun e=>hs ((h k (by omega) ht).2 e.1))]
   ·rw [A57 (fun e=>ht e.2),A57 (fun e=>ht e.2)]
    exact ih fun j hj=>h j (by omega)
theorem Aee:∀ {k:Nat},(∀ j,j<k→¬ touch j→val (j+1)=val j)→(∀ j,j<k→touch j→S j)→after val touch S k=val k
 | 0,_,_=>rfl
 | k+1,hv,h=>by
   simp only [after]
   by_cases ht:touch k
   ·rw [A58 ⟨h k (by omega) ht,ht⟩]
   ·rw [A57 (fun e=>ht e.2),Aee (fun j hj=>hv j (by omega)) (fun j hj=>h j (by omega)),hv k (by omega) ht]
theorem U5 {k:Nat}:∀ {N:Nat},k≤N→(∀ j,k≤j→j<N→touch j→¬ S j)→after val touch S N=after val touch S k
 | 0,hk,_=>by obtain rfl:k=0:=by omega
              rfl
 | N+1,hk,h=>by
   by_cases e:k=N+1
   ·rw [e]
   ·simp only [after]
    rw [A57 (fun e'=>h N (by omega) (by omega) e'.2 e'.1)]
    exact U5 (by omega) fun j h1 h2=>h j h1 (by omega)
theorem Mv {k N:Nat} (hv:∀ j,j<N→¬ touch j→val (j+1)=val j) (hk:k≤N) (h:∀ j,j<N→touch j→(S j↔j<k)):after val touch S N=val k:=by
 rw [U5 hk fun j h1 h2 h3 h4=>by have:=(h j h2 h3).1 h4; omega]
 exact Aee (fun j hj=>hv j (by omega)) fun j h1 h2=>(h j (by omega) h2).2 h1
theorem Ab9 {k N:Nat} (hk:k<N) (ht:touch k) (hs:S k) (h:∀ j,k<j→j<N→touch j→¬ S j):after val touch S N=val (k+1):=by
 rw [U5 (k:=k+1) (by omega) fun j h1 h2=>h j (by omega) h2]
 simp only [after]
 rw [A58 ⟨hs,ht⟩]
end
theorem Mn {p:Nat→Bool}:∀ {h:Dv} {n:Nat},look (h.filter fun x=>p x.1) n=bif p n then look h n else none
 | [],n=>by simp [look]
 | (m,x)::h,n=>by
   simp only [List.filter_cons,look]
   by_cases e:m=n
   ·subst e
    cases hp:p m<;>simp [look,Mn,hp]
   ·rw [show (m==n)=false by simpa using e]
    cases hp:p m
    ·simpa using Mn
    ·simp only [if_true,look,A5p,show (m==n)=false by simpa using e]
     exact Mn
theorem Aox {ms:List Nat} {h:Dv} {n:Nat}:look (Ahu ms h) n=if n∈ms then none else look h n:=by
 unfold Ahu
 rw [Mn (p:=fun m=>!(No m ms))]
 by_cases hn:n∈ms
 ·rw [Mk.2 hn,A58 hn]; rfl
 ·rw [Ut.2 hn,A57 hn]; rfl
theorem Asu {ms:List Nat} {h:Dv} {n:Nat}:look (Awt ms h) n=if n∈ms then look h n else none:=by
 unfold Awt
 rw [Mn (p:=fun m=>No m ms)]
 by_cases hn:n∈ms
 ·rw [Mk.2 hn,A58 hn]; rfl
 ·rw [Ut.2 hn,A57 hn]; rfl
theorem Ast {h:Dv} {n:Nat} {x:Bool × OB} (hl:look h n=some x):(n,x)∈h:=by
 induction h with
 | nil=>cases hl
 | cons y h ih =>
   obtain ⟨m,z⟩:=y
   simp only [look] at hl
   by_cases e:m=n
   ·subst e; simp at hl; subst hl; exact A60
   ·rw [show (m==n)=false by simpa using e] at hl
    exact A6q _ (ih hl)
structure Saw (P:Program) (E:Env) (ops:Array Oper) (ms:List Nat) (st:St) (o:Oper) (st':St) (mk mk':St) (d:DV):Prop where
 ok:Sv P E ops true mk o mk' d
 seen:mk=Pk ms st
 tmps:mk.tmps=st.tmps
 tmps':st'.tmps=mk'.tmps
 mask:∀ n,look mk.heap n=if n∈ms then none else look st.heap n
 out:∀ n,look mk'.heap n≠none→n ∉ ms
 heap:∀ n,look st'.heap n=if n∈ms then look st.heap n else look mk'.heap n
theorem Aq5 {P:Program} {E:Env} (he:Kp P E) {ops:Array Oper} {ms:List Nat} {st st':St} {o:Oper} (h:Ag1 E ops ms st o=some (true,st')):∃ mk mk' d,Saw P E ops ms st o st' mk mk' d:=by
 cases ms with
 | nil =>
   simp only [Ag1] at h
   obtain ⟨d,hd⟩:=Z8 he h
   exact ⟨st,st',d,hd,rfl,rfl,rfl,fun n=>by simp,fun n _=>by simp,fun n=>by simp⟩
 | cons m ms =>
   simp only [Ag1] at h
   cases hs:Na E ops true ⟨st.tmps,Ahu (m::ms) st.heap⟩ o with
   | none=>rw [hs] at h; cases h
   | some r =>
     obtain ⟨r,mk'⟩:=r
     rw [hs] at h
     simp only at h
     cases hc:(mk'.heap.all fun x=>!(No x.1 (m::ms))) with
     | false=>rw [hc] at h; cases h
     | true =>
       rw [hc,A5l,A5o,A5u] at h
       obtain ⟨rfl,rfl⟩:=h
       obtain ⟨d,hd⟩:=Z8 he hs
       have hout:∀ n,look mk'.heap n≠none→n ∉ m::ms:=by
        intro n hn
        cases hq:look mk'.heap n with
        | none=>exact absurd hq hn
        | some x =>
          have:=List.all_eq_true.1 hc _ (Ast hq)
          rw [Bool.not_eq_true'] at this
          exact Ut.1 this
       refine ⟨_,mk',d,hd,rfl,rfl,rfl,fun n=>Aox,hout,fun n=>?_⟩
       show look (mk'.heap++Awt (m::ms) st.heap) n=_
       rw [O5,Asu]
       by_cases hn:n∈m::ms
       ·rw [A58 hn]
        cases hq:look mk'.heap n with
        | none=>simp [hn]
        | some x=>exact absurd hn (hout n (by rw [hq]; simp))
       ·rw [A57 hn,A57 hn]
        cases look mk'.heap n<;>rfl
section
variable {P:Program} {E:Env} {ops:Array Oper} {ms:List Nat} {st st' mk mk':St} {o:Oper} {d:DV} (h:Saw P E ops ms st o st' mk mk' d)
include h
theorem Saw.Azn {n:Nat} (hn:n∈Gi E ops (Pk ms st) o):look st.heap n≠none∧n ∉ ms:=by
 have h1:=h.ok.there rfl n (by rw [h.seen]; exact hn)
 rw [h.mask] at h1
 by_cases hm:n∈ms
 ·rw [A58 hm] at h1; exact absurd rfl h1
 ·rw [A57 hm] at h1; exact ⟨h1,hm⟩
theorem Saw.stays {n:Nat} (hn:look st.heap n≠none):look st'.heap n≠none:=by
 rw [h.heap]
 by_cases hm:n∈ms
 ·rw [A58 hm]; exact hn
 ·rw [A57 hm]
  exact h.ok.stays n (by rw [h.mask,A57 hm]; exact hn)
theorem Saw.same {n:Nat} (hn:n ∉ Gi E ops (Pk ms st) o) (hc:¬(look st.heap n=none∧look st'.heap n≠none)):look st'.heap n=look st.heap n:=by
 cases hq:look st.heap n with
 | none =>
   cases hq':look st'.heap n with
   | none=>rfl
   | some x=>exact absurd ⟨hq,by rw [hq']; simp⟩ hc
 | some x =>
   rw [h.heap]
   by_cases hm:n∈ms
   ·rw [A58 hm,hq]
   ·rw [A57 hm]
    have h1:look mk.heap n=some x:=by rw [h.mask,A57 hm,hq]
    rw [h.ok.same rfl n (by rw [h.seen]; exact hn) (by rw [h1]; simp),h1]
theorem Saw.made {n:Nat} (h1:look st.heap n=none) (h2:look st'.heap n≠none):n ∉ ms:=by
 intro hm
 rw [h.heap,A58 hm] at h2
 exact h2 h1
theorem Saw.getD {t:Nat}:st'.tmps.getD t .undef=if o.dst=some t∧t<st.tmps.length then d else st.tmps.getD t .undef:=by
 rw [h.tmps',h.ok.tmps,h.tmps,Ady]
theorem Saw.length:st'.tmps.length=st.tmps.length:=by rw [h.tmps',h.ok.tmps,X8,h.tmps]
end
structure Trace (P:Program) (E:Env) (ops:Array Oper) (D:List (List Nat)) (M:List (Nat × List Nat)) (tr:Nat→St):Prop where
 saw:∀ k o,ops[k]?=some o→∃ mk mk' d,Saw P E ops (Hy D k M) (tr k) o (tr (k+1)) mk mk' d
 Azn:∀ k o,ops[k]?=some o→Sd D k=true→∀ n,n∈Gi E ops (Pk (Hy D k M) (tr k)) o→n∈Nm k M
theorem Yb {β:Type} {P:Program} {E:Env} (he:Kp P E) {ops:Array Oper} {D:List (List Nat)} {M:List (Nat × List Nat)} {K:St→Option β} {b:β} :
 ∀ (l:List Oper) (k:Nat) (st:St),(∀ j,l[j]?=ops[k+j]?)→Al6 E ops D M k l st K=some b →
 ∃ tr:Nat→St,tr 0=st∧K (tr l.length)=some b∧∀ j o,l[j]?=some o→(∃ mk mk' d,Saw P E ops (Hy D (k+j) M) (tr j) o (tr (j+1)) mk mk' d)∧(Sd D (k+j)=true→∀ n,n∈Gi E ops (Pk (Hy D (k+j) M) (tr j)) o→n∈Nm (k+j) M)
 | [],k,st,_,h=>⟨fun _=>st,rfl,h,fun j o hj=>(by cases hj)⟩
 | o::l,k,st,hl,h=>by
   simp only [Al6] at h
   cases hs:Ag1 E ops (Hy D k M) st o with
   | none=>rw [hs] at h; cases h
   | some r =>
     obtain ⟨r,st'⟩:=r
     rw [hs] at h
     simp only at h
     cases hc:(r&&(!(Sd D k)||(Gi E ops (Pk (Hy D k M) st) o).all fun n=>No n (Nm k M))) with
     | false=>rw [hc] at h; cases h
     | true =>
       rw [hc,A5l] at h
       simp only [A5w,Bool.or_eq_true,Bool.not_eq_true',List.all_eq_true] at hc
       obtain ⟨rfl,hc⟩:=hc
       obtain ⟨tr,h1,h2,h3⟩:=Yb he l (k+1) st' (fun j=>by have:=hl (j+1); simpa [Nat.add_assoc,Nat.add_comm 1 j] using this) h
       refine ⟨fun j=>match j with | 0=>st | j+1=>tr j,rfl,h2,fun j p hj=>?_⟩
       cases j with
       | zero =>
         simp only [List.getElem?_cons_zero,A5o] at hj
         subst hj
         refine ⟨by show ∃ mk mk' d,Saw P E ops (Hy D k M) st o (tr 0) mk mk' d; rw [h1]; exact Aq5 he hs,fun hlo n hn=>?_⟩
         rcases hc with hc | hc
         ·have hlo':Sd D k=true:=hlo
          rw [hc] at hlo'; cases hlo'
         ·exact Mk.1 (hc n hn)
       | succ j =>
         rw [List.getElem?_cons_succ] at hj
         have:=h3 j p hj
         rw [show k+(j+1)=k+1+j by omega]
         exact this
end Go.Den
namespace Go.Den
open Go.RowKit (Below)
theorem T8 {ops:Array Oper} {k:Nat} {o:Oper} (h:ops[k]?=some o):(ops.toList.map Iw).getD k []=Iw o:=by
 have:ops.toList[k]?=some o:=by simpa using h
 simp [A5v,this]
theorem F6 {ops:Array Oper} {k i:Nat} (h:i∈(ops.toList.map Iw).getD k []):∃ o,ops[k]?=some o∧i∈Iw o:=by
 cases hk:ops[k]? with
 | none =>
   have:ops.toList[k]?=none:=by simpa using hk
   simp [A5v,this] at h
 | some o=>rw [T8 hk] at h; exact ⟨o,rfl,h⟩
theorem Ahs {o:Oper} {i:Nat}:i∈Iw o↔∃ e∈o.after,Region.binds .any e=true∧e.on=i:=by
 unfold Iw
 simp only [List.mem_filterMap,Array.mem_toList_iff]
 constructor
 ·rintro ⟨e,he,h⟩
  cases hb:Region.binds .any e with
  | false=>rw [hb] at h; simp at h
  | true=>rw [hb] at h; simp at h; exact ⟨e,he,hb,h⟩
 ·rintro ⟨e,he,hb,rfl⟩
  exact ⟨e,he,by rw [hb]; rfl⟩
structure U6 (ops:Array Oper):Prop where
 lt:∀ (k:Nat) o,ops[k]?=some o→∀ i∈Iw o,i<k
 once:∀ (k j:Nat) o p t,ops[k]?=some o→ops[j]?=some p→p.dst=some t→o.dst=some t→j=k
 told:∀ (k j:Nat) o p t,ops[k]?=some o→ops[j]?=some p→p.dst=some t→t∈o.looksAt ops→Yy (ops.toList.map Iw) j k=true∨Yy (ops.toList.map Iw) k j=true
theorem lt_size {ops:Array Oper} {k:Nat} {o:Oper} (h:ops[k]?=some o):k<ops.size:=by
 rcases A6i k ops.size with h' | h'
 ·exact h'
 ·rw [Array.getElem?_eq_none h'] at h; cases h
theorem Aip {ops:Array Oper} (h:Af1 ops (ops.toList.map Iw)=true):U6 ops:=by
 unfold Af1 at h
 simp only [List.all_eq_true,List.mem_range,A6r,Array.length_toList] at h
 refine ⟨fun k o hk i hi=>?_,fun k j o p t hk hj hp ho=>?_,fun k j o p t hk hj hp ht=>?_⟩
 ·have h1:=h k (lt_size hk)
  rw [A5w,List.all_eq_true] at h1
  have:=h1.1 i (by rw [T8 hk]; exact hi)
  simpa [Nat.blt_eq] using this
 ·have h1:=h k (lt_size hk)
  rw [A5w,hk] at h1
  have h2:=h1.2
  simp only [List.all_eq_true,List.mem_range] at h2
  have h3:=h2 j (lt_size hj)
  rw [hj] at h3
  simp only [hp,A5w,Bool.or_eq_true] at h3
  rcases h3.1 with h4 | h4
  ·exact A53 h4
  ·rw [ho] at h4; simp at h4
 ·have h1:=h k (lt_size hk)
  rw [A5w,hk] at h1
  have h2:=h1.2
  simp only [List.all_eq_true,List.mem_range] at h2
  have h3:=h2 j (lt_size hj)
  rw [hj] at h3
  simp only [hp,A5w,Bool.or_eq_true] at h3
  rcases h3.2 with h4 | h4
  ·rw [Mk.2 ht] at h4; simp at h4
  ·exact h4
theorem Aea {D:List (List Nat)} {i j:Nat} (h:Yy D i j=true):i∈D.getD j []∨∃ m∈D.getD j [],i∈D.getD m []:=by
 unfold Yy at h
 simp only [Bool.or_eq_true,List.any_eq_true] at h
 exact h.imp Mk.1 fun ⟨m,h1,h2⟩=>⟨m,h1,Mk.1 h2⟩
section
variable {ops:Array Oper} (hd:U6 ops)
include hd
theorem U6.Ab6 {i j:Nat} (h:Yy (ops.toList.map Iw) i j=true):i<j:=by
 rcases Aea h with h | ⟨m,h1,h2⟩
 ·obtain ⟨o,ho,hi⟩:=F6 h
  exact hd.lt j o ho i hi
 ·obtain ⟨o,ho,hi⟩:=F6 h1
  obtain ⟨p,hp,hj⟩:=F6 h2
  have:=hd.lt j o ho m hi
  have:=hd.lt m p hp i hj
  omega
end
def X3 (ops:Array Oper) (S:Nat→Prop):Prop:=∀ k o,ops[k]?=some o→S k→∀ i∈Iw o,S i
theorem X3.bef {ops:Array Oper} {S:Nat→Prop} (hc:X3 ops S) {k:Nat} (hk:∀ o,ops[k]?=some o→∀ i∈Iw o,S i) {i:Nat} (h:Yy (ops.toList.map Iw) i k=true):S i:=by
 rcases Aea h with h | ⟨m,h1,h2⟩
 ·obtain ⟨o,ho,hi⟩:=F6 h
  exact hk o ho i hi
 ·obtain ⟨o,ho,hi⟩:=F6 h1
  obtain ⟨p,hp,hj⟩:=F6 h2
  exact hc m p hp (hk o ho m hi) i hj
theorem Xx {D:List (List Nat)} {i j:Nat} (h1:i≠j) (h2:Yy D i j≠true) (h3:Yy D j i≠true):Oo D i j=true:=by
 unfold Oo
 have e1:Nat.beq i j=false:=by
  cases hb:Nat.beq i j with
  | false=>rfl
  | true=>exact absurd (A53 hb) h1
 rw [e1,Bool.not_eq_true _ |>.mp h2,Bool.not_eq_true _ |>.mp h3]; rfl
theorem Us {D:List (List Nat)} {s k n:Nat} (ha:Oo D s k=true):∀ {M:List (Nat × List Nat)},n∈Nm s M→n∈Hy D k M
 | [],h=>by simp [Nm] at h
 | (s',ns)::M,h=>by
   simp only [Nm] at h
   simp only [Hy]
   cases hb:Nat.beq s' s with
   | true =>
     have:=A53 hb
     subst this
     rw [hb] at h
     rw [ha]
     simp only [A5l,List.mem_append] at h ⊢
     exact h.imp id (Us ha)
   | false =>
     rw [hb] at h
     simp only [A5p] at h
     have:=Us ha h
     cases Oo D s' k
     ·exact this
     ·exact List.mem_append.2 (.inr this)
theorem Aow {D:List (List Nat)} {s k:Nat} (ha:Oo D s k=true) (hk:k<D.length):Sd D s=true:=by
 unfold Sd
 exact List.any_eq_true.2 ⟨k,List.mem_range.2 hk,ha⟩
def Aes (E:Env) (ops:Array Oper) (M:List (Nat × List Nat)) (tr:Nat→St) (n:Nat) (k:Nat):Prop :=
 ∃ o,ops[k]?=some o∧(n∈Gi E ops (Pk (Hy (ops.toList.map Iw) k M) (tr k)) o∨(look (tr k).heap n=none∧look (tr (k+1)).heap n≠none))
def Aq0 (ops:Array Oper) (len:Nat) (t:Nat) (k:Nat):Prop:=t<len∧∃ o,ops[k]?=some o∧o.dst=some t
def Sh (E:Env) (ops:Array Oper) (M:List (Nat × List Nat)) (tr:Nat→St) (S:Nat→Prop) (n:Nat):Option (Bool × OB):=after (fun k=>look (tr k).heap n) (Aes E ops M tr n) S ops.size
def Acx (ops:Array Oper) (tr:Nat→St) (S:Nat→Prop) (t:Nat):DV:=after (fun k=>(tr k).tmps.getD t .undef) (Aq0 ops (tr 0).tmps.length t) S ops.size
section
variable {P:Program} {E:Env} {ops:Array Oper} {M:List (Nat × List Nat)} {tr:Nat→St} (hd:U6 ops) (T:Trace P E ops (ops.toList.map Iw) M tr)
include T
theorem Trace.len {k:Nat} (h:k≤ops.size):(tr k).tmps.length=(tr 0).tmps.length:=by
 induction k with
 | zero=>rfl
 | succ k ih =>
   obtain ⟨mk,mk',d,hs⟩:=T.saw k ops[k] (A55 (by omega))
   rw [hs.length,ih (by omega)]
theorem Trace.stays {n j k:Nat} (hj:look (tr j).heap n≠none) (hjk:j≤k) (hk:k≤ops.size):look (tr k).heap n≠none:=by
 induction k with
 | zero=>obtain rfl:j=0:=by omega
         exact hj
 | succ k ih =>
   by_cases e:j=k+1
   ·rw [← e]; exact hj
   ·obtain ⟨mk,mk',d,hs⟩:=T.saw k ops[k] (A55 (by omega))
    exact hs.stays (ih (by omega) (by omega))
theorem Trace.Aqc {n j:Nat} (hj:j<ops.size) (ht:¬ Aes E ops M tr n j):look (tr (j+1)).heap n=look (tr j).heap n:=by
 obtain ⟨mk,mk',d,hs⟩:=T.saw j ops[j] (A55 hj)
 exact hs.same (fun h=>ht ⟨_,A55 hj,.inl h⟩) (fun h=>ht ⟨_,A55 hj,.inr h⟩)
theorem Trace.Ayj {t j:Nat} (hj:j<ops.size) (ht:¬ Aq0 ops (tr 0).tmps.length t j):(tr (j+1)).tmps.getD t .undef=(tr j).tmps.getD t .undef:=by
 obtain ⟨mk,mk',d,hs⟩:=T.saw j ops[j] (A55 hj)
 rw [hs.getD,T.len (by omega),A57 (fun e=>ht ⟨e.2,_,A55 hj,e.1⟩)]
theorem Trace.Ng {n j:Nat} {o:Oper} (ho:ops[j]?=some o) (ht:Aes E ops M tr n j):(n∈Gi E ops (Pk (Hy (ops.toList.map Iw) j M) (tr j)) o∧look (tr j).heap n≠none)∨(look (tr j).heap n=none∧look (tr (j+1)).heap n≠none):=by
 obtain ⟨o',ho',h⟩:=ht
 rw [ho] at ho'; cases ho'
 rcases h with h | h
 ·obtain ⟨mk,mk',d,hs⟩:=T.saw j o ho
  exact .inl ⟨h,(hs.Azn h).1⟩
 ·exact .inr h
theorem Trace.Atb {s k n:Nat} {o:Oper} (hs:ops[s]?=some o) (hk:k<ops.size) (ha:Oo (ops.toList.map Iw) s k=true) (hn:n∈Gi E ops (Pk (Hy (ops.toList.map Iw) s M) (tr s)) o):n∈Hy (ops.toList.map Iw) k M :=
 Us ha (T.Azn s o hs (Aow ha (by simpa using hk)) n hn)
omit T in
theorem Sq {S:Nat→Prop} (hd:U6 ops) (hc:X3 ops S) {k:Nat} (hk:¬ S k) {j:Nat} (hj:S j) (hlt:k<j):Oo (ops.toList.map Iw) j k=true:=by
 refine Xx (by omega) (fun e=>?_) (fun e=>?_)
 ·have:=hd.Ab6 e; omega
 ·exact hk (hc.bef (fun p hp=>hc j p hp hj) e)
omit T in
theorem Agh {S:Nat→Prop} (hd:U6 ops) (hc:X3 ops S) {k:Nat} {o:Oper} (ho:ops[k]?=some o) (hr:∀ i∈Iw o,S i) {j:Nat} (hj:¬ S j) (hlt:j<k):Oo (ops.toList.map Iw) j k=true:=by
 refine Xx (by omega) (fun e=>?_) (fun e=>?_)
 ·exact hj (hc.bef (fun p hp=>by rw [ho] at hp; cases hp; exact hr) e)
 ·have:=hd.Ab6 e; omega
include hd
variable {S:Nat→Prop} (hc:X3 ops S) {k:Nat} {o:Oper} (ho:ops[k]?=some o) (hk:¬ S k) (hr:∀ i∈Iw o,S i)
include hc ho hk hr
theorem Trace.Awl {n:Nat} (hm:n ∉ Hy (ops.toList.map Iw) k M) (h1:look (tr k).heap n≠none) (h2:Sh E ops M tr S n≠none):Sh E ops M tr S n=look (tr k).heap n:=by
 have hkN:=lt_size ho
 refine Mv (val:=fun k=>look (tr k).heap n) (fun j hj ht=>T.Aqc hj ht) (by omega) fun j hj ht=>?_
 have hoj:ops[j]?=some ops[j]:=A55 hj
 constructor
 ·intro hS
  rcases A6i j k with h | h
  ·exact h
  ·have hne:j≠k:=fun e=>hk (e ▸ hS)
   have ha:=Sq hd hc hk hS (by omega)
   rcases T.Ng hoj ht with ⟨h3,_⟩ | ⟨h3,_⟩
   ·exact absurd (T.Atb hoj hkN ha h3) hm
   ·exact absurd h3 (T.stays h1 (by omega) (by omega))
 ·intro hlt
  refine Classical.byContradiction fun hS=>?_
  have ha:=Agh hd hc ho hr hS hlt
  rcases T.Ng hoj ht with ⟨h3,_⟩ | ⟨h3,h4⟩
  ·exact hm (T.Atb hoj hkN ha h3)
  ·
   refine h2 ?_
   have:Sh E ops M tr S n=look (tr 0).heap n:=by
    refine Mv (k:=0) (val:=fun k=>look (tr k).heap n) (fun j hj ht=>T.Aqc hj ht) (by omega) fun i hi hti=>⟨fun hSi=>?_,fun h=>by omega⟩
    exfalso
    have hoi:ops[i]?=some ops[i]:=A55 hi
    have hij:i≠j:=fun e=>hS (e ▸ hSi)
    have hji:j<i:=by
     rcases T.Ng hoi hti with ⟨_,h5⟩ | ⟨h5,h6⟩
     ·rcases A6i j i with h | h
      ·exact h
      ·exact absurd h3 (T.stays h5 h (by omega))
     ·rcases A6i j i with h | h
      ·exact h
      ·exact absurd h3 (T.stays h6 (by omega) (by omega))
    have hap:Oo (ops.toList.map Iw) i j=true:=by
     refine Xx hij (fun e=>?_) (fun e=>?_)
     ·have:=hd.Ab6 e; omega
     ·exact hS (hc.bef (fun p hp=>hc i p hp hSi) e)
    rcases T.Ng hoi hti with ⟨h5,_⟩ | ⟨h5,_⟩
    ·obtain ⟨mk,mk',d,hsj⟩:=T.saw j _ hoj
     exact hsj.made h3 h4 (T.Atb hoi hj hap h5)
    ·exact absurd h5 (T.stays h4 (by omega) (by omega))
   rw [this]
   cases hq:look (tr 0).heap n with
   | none=>rfl
   | some x=>exact absurd h3 (T.stays (j:=0) (by rw [hq]; simp) (by omega) (by omega))
theorem Trace.Ay0 {t:Nat} (ht:t∈o.looksAt ops):Acx ops tr S t=(tr k).tmps.getD t .undef:=by
 have hkN:=lt_size ho
 refine Mv (val:=fun k=>(tr k).tmps.getD t .undef) (fun j hj h=>T.Ayj hj h) (by omega) fun j hj hj'=>?_
 obtain ⟨_,p,hp,hdst⟩:=hj'
 rcases hd.told k j o p t ho hp hdst ht with h | h
 ·have:=hd.Ab6 h
  exact ⟨fun _=>this,fun _=>hc.bef (fun p hp=>by rw [ho] at hp; cases hp; exact hr) h⟩
 ·have:=hd.Ab6 h
  exact ⟨fun hS=>absurd (hc.bef (fun p hp=>hc j p hp hS) h) hk,fun h=>by omega⟩
theorem Trace.step {S0 I0:Nat→Prop} {B:Nat} {w0:World} {A:Nat→Option Place} {a:Act} {w:World} (h:J5 S0 I0 B w0 A (Sh E ops M tr S) (Acx ops tr S) (tr 0).tmps.length a w) {Q:Exit→Act→World→Prop} :
 Jz P ops o a w Q fun v w'=>∃ A',J5 S0 I0 B w0 A' (Sh E ops M tr fun j=>S j∨j=k) (Acx ops tr fun j=>S j∨j=k) (tr 0).tmps.length (a.put o.dst v) w':=by
 have hkN:=lt_size ho
 obtain ⟨mk,mk',d,hs⟩:=T.saw k o ho
 have hout:∀ {n},look mk'.heap n≠none→look mk'.heap n=look (tr (k+1)).heap n:=by
  intro n hn
  rw [hs.heap,A57 (hs.out n hn)]
 refine h.step hs.ok (fun n hA hl=>?_) (fun t ht=>?_) (by rw [hs.tmps,T.len (by omega)]) (fun n h1 h2=>?_) (fun n h1 h2=>?_) (fun n h1 h2=>?_) (fun t=>?_)
 ·have hm:n ∉ Hy (ops.toList.map Iw) k M:=fun e=>hl (by rw [hs.mask,A58 e])
  rw [hs.mask,A57 hm] at hl ⊢
  refine (T.Awl hd hc ho hk hr hm hl ?_).symm
  cases hA':A n with
  | none=>exact absurd hA' hA
  | some p =>
    obtain ⟨fo,hfo,_⟩:=h.obj n p hA'
    rw [hfo]; simp
 ·rw [hs.tmps]; exact (T.Ay0 hd hc ho hk hr ht).symm
 ·
  have hm:=hs.out n h2
  rw [hs.mask,A57 hm] at h1
  rw [hout h2] at h2
  have:Sh E ops M tr S n=look (tr 0).heap n:=by
   refine Mv (k:=0) (val:=fun k=>look (tr k).heap n) (fun j hj ht=>T.Aqc hj ht) (by omega) fun i hi hti=>⟨fun hSi=>?_,fun h=>by omega⟩
   exfalso
   have hoi:ops[i]?=some ops[i]:=A55 hi
   have hik:i≠k:=fun e=>hk (e ▸ hSi)
   rcases T.Ng hoi hti with ⟨h5,h6⟩ | ⟨h5,h6⟩
   ·rcases A6i i k with hlt | hge
    ·exact absurd h1 (T.stays h6 (by omega) (by omega))
    ·exact hm (T.Atb hoi hkN (Sq hd hc hk hSi (by omega)) h5)
   ·rcases A6i i k with hlt | hge
    ·exact absurd h1 (T.stays h6 (by omega) (by omega))
    ·exact absurd h5 (T.stays h2 (by omega) (by omega))
  rw [this]
  cases hq:look (tr 0).heap n with
  | none=>rfl
  | some x=>exact absurd h1 (T.stays (j:=0) (by rw [hq]; simp) (by omega) (by omega))
 ·have hm:=hs.out n h1
  rw [hs.mask,A57 hm,hs.seen] at h2
  have e1:=hout h1
  rw [e1] at h1 ⊢
  have ht:Aes E ops M tr n k:=⟨o,ho,h2.imp id fun e=>⟨e,h1⟩⟩
  refine Ab9 (val:=fun k=>look (tr k).heap n) hkN ht (.inr rfl) fun i hlt hi hti hSi=>?_
  have hSi:=hSi.resolve_right (by omega)
  have hoi:ops[i]?=some ops[i]:=A55 hi
  rcases T.Ng hoi hti with ⟨h5,_⟩ | ⟨h5,_⟩
  ·exact hm (T.Atb hoi hkN (Sq hd hc hk hSi hlt) h5)
  ·exact absurd h5 (T.stays h1 (by omega) (by omega))
 ·rw [hs.seen] at h1
  refine Pe fun j hj ht=>⟨fun h=>h.resolve_right fun e=>?_,.inl⟩
  subst e
  obtain ⟨o',ho',h3⟩:=ht
  rw [ho] at ho'; cases ho'
  rcases h3 with h3 | ⟨h3,h4⟩
  ·exact h1 h3
  ·have hm:=hs.made h3 h4
   refine h2 ⟨by rw [hs.mask,A57 hm]; exact h3,?_⟩
   rw [hs.heap,A57 hm] at h4; exact h4
 ·split
  ·rename_i ht
   have h1:Acx ops tr (fun j=>S j∨j=k) t=(tr (k+1)).tmps.getD t .undef:=by
    refine Ab9 (val:=fun k=>(tr k).tmps.getD t .undef) hkN ⟨ht.2,o,ho,ht.1⟩ (.inr rfl) fun i hlt hi hti hSi=>?_
    obtain ⟨_,p,hp,hdst⟩:=hti
    have:=hd.once i k p o t hp ho ht.1 hdst
    omega
   rw [h1,hs.getD,A58 ⟨ht.1,by rw [T.len (by omega)]; exact ht.2⟩]
  ·rename_i ht
   refine Pe fun j hj hj'=>⟨fun h=>h.resolve_right fun e=>?_,.inl⟩
   subst e
   obtain ⟨h1,p,hp,hdst⟩:=hj'
   rw [ho] at hp; cases hp
   exact ht ⟨hdst,h1⟩
end
end Go.Den
namespace Go.Den
open Go.RowKit (Below)
section
variable {P:Program} {E:Env} {S I0:Nat→Prop} {B:Nat} {w0:World}
theorem Al9 {β:Type} (he:Kp P E) {ops:Array Oper} {draw:Bool} {Q:Exit→Act→World→Prop} {K:St→Option β} {r:β} :
 ∀ (l:List Oper) (k:Nat) (st:St),(∀ j,l[j]?=ops[k+j]?)→Awb E ops draw l st K=some r→∀ a w,F2 S I0 B w0 st a w →
 (∀ st a w,K st=some r→F2 S I0 B w0 st a w→Q .normal a w)→wpOps P ops Q (List.range' k l.length) a w
 | [],k,st,_,h,a,w,hh,hQ=>hQ st a w h hh
 | o::l,k,st,hl,h,a,w,hh,hQ=>by
   simp only [Awb] at h
   cases hs:Na E ops draw st o with
   | none=>rw [hs] at h; cases h
   | some x =>
     obtain ⟨b,st'⟩:=x
     rw [hs] at h
     simp only at h
     cases b with
     | false=>cases h
     | true =>
       simp only [A5l] at h
       obtain ⟨d,hd⟩:=Z8 he hs
       have ho:ops[k]?=some o:=by simpa using (hl 0).symm
       rw [List.length_cons,List.range'_succ]
       simp only [wpOps,ho]
       have:=hh.step hd (Q:=Q) (wpOps P ops Q (List.range' (k+1) l.length)) (fun v w' hv=>Al9 he l (k+1) st' (fun j=>by have:=hl (j+1); simpa [Nat.add_assoc,Nat.add_comm 1 j] using this) h _ _ hv hQ)
       split
       ·rename_i hw; rw [A58 hw] at this; exact .inl this
       ·rename_i hw; rw [A57 hw] at this; exact this
theorem J5.congr {A:Nat→Option Place} {f f':Nat→Option (Bool × OB)} {g g':Nat→DV} {len len':Nat} {a:Act} {w:World} (h:J5 S I0 B w0 A f g len a w) (hf:∀ n,f n=f' n) (hg:∀ t,g t=g' t) (hl:len=len'):J5 S I0 B w0 A f' g' len' a w:=by
 obtain rfl:f=f':=funext hf
 obtain rfl:g=g':=funext hg
 subst hl; exact h
def Nd (listed:Array Bool) (j:Nat):Prop:=listed.getD j false=true
theorem Rg {l:Array Bool} {j:Nat} (h:l.getD j true=false):j<l.size∧l.getD j false=false:=by
 rcases A6i j l.size with h' | h'
 ·refine ⟨h',?_⟩
  simp only [Array.getD_eq_getD_getElem?,A55 h',A65] at h ⊢; exact h
 ·simp [Array.getD_eq_getD_getElem?,Array.getElem?_eq_none h'] at h
theorem Xq {listed:Array Bool} {k:Nat} (hk:k<listed.size) (j:Nat):Nd (listed.setIfInBounds k true) j↔Nd listed j∨j=k:=by
 unfold Nd
 simp only [Array.getD_eq_getD_getElem?]
 by_cases e:k=j
 ·subst e; simp [hk]
 ·rw [Array.getElem?_setIfInBounds_ne e]
  exact ⟨.inl,fun h=>h.resolve_right (fun h=>e h.symm)⟩
theorem count_set {listed:Array Bool} {k:Nat} (h:listed.getD k true=false):(listed.setIfInBounds k true).toList.count false+1=listed.toList.count false:=by
 obtain ⟨hk,h2⟩:=Rg h
 have hk':k<listed.toList.length:=by simpa using hk
 have hv:listed.toList[k]=false:=by
  simpa [Array.getD_eq_getD_getElem?,A55 hk] using h2
 have hp:0<List.count false listed.toList:=List.count_pos_iff.2 (hv ▸ List.getElem_mem hk')
 rw [Array.toList_setIfInBounds,List.count_set hk',hv,A58 (A6l _),A57 (by simp)]
 omega
theorem Az9 {ops:Array Oper} {M:List (Nat × List Nat)} {tr:Nat→St} (hd:U6 ops) (T:Trace P E ops (ops.toList.map Iw) M tr) {Q:Exit→Act→World→Prop}
 (hQ:∀ a w,F2 S I0 B w0 (tr ops.size) a w→Q .normal a w):∀ (fuel:Nat) (listed:Array Bool) (a:Act) (w:World),listed.size=ops.size→X3 ops (Nd listed)→listed.toList.count false=fuel →
 (∃ A,J5 S I0 B w0 A (Sh E ops M tr (Nd listed)) (Acx ops tr (Nd listed)) (tr 0).tmps.length a w)→wpAny P .any ops Q fuel listed a w:=by
 have last:∀ (listed:Array Bool) (a:Act) (w:World),listed.size=ops.size→Region.ready .any ops listed=[]→(∃ A,J5 S I0 B w0 A (Sh E ops M tr (Nd listed)) (Acx ops tr (Nd listed)) (tr 0).tmps.length a w)→Q .normal a w:=by
  rintro listed a w hsz hr ⟨A,h⟩
  have all:∀ k,k<ops.size→Nd listed k:=by
   intro k
   induction k using Nat.strongRecOn with
   | _ k ih =>
     intro hk
     refine Classical.byContradiction fun hn=>?_
     have:k∈Region.ready .any ops listed:=mem_ready.2 ⟨?_,ops[k],A55 hk,fun e he hb=>?_⟩
     ·rw [hr] at this; cases this
     ·unfold Nd at hn
      have hk':k<listed.size:=by omega
      simp only [Array.getD_eq_getD_getElem?,A55 hk',A65,Bool.not_eq_true] at hn ⊢
      exact hn
     ·have hlt:=hd.lt k ops[k] (A55 hk) e.on (Ahs.2 ⟨e,he,hb,rfl⟩)
      exact ih e.on hlt (by omega)
  refine hQ a w ⟨A,h.congr (fun n=>?_) (fun t=>?_) (T.len (A6f _)).symm⟩
  ·exact Mv (val:=fun k=>look (tr k).heap n) (fun j hj ht=>T.Aqc hj ht) (A6f _) fun j hj _=>⟨fun _=>hj,fun _=>all j hj⟩
  ·exact Mv (val:=fun k=>(tr k).tmps.getD t .undef) (fun j hj ht=>T.Ayj hj ht) (A6f _) fun j hj _=>⟨fun _=>hj,fun _=>all j hj⟩
 intro fuel
 induction fuel with
 | zero =>
   intro listed a w hsz hc hf h
   have hr:Region.ready .any ops listed=[]:=by
    refine List.eq_nil_iff_forall_not_mem.2 fun k hk=>?_
    have h1:=count_set (mem_ready.1 hk).1
    omega
   exact ⟨hr,last listed a w hsz hr h⟩
 | succ fuel ih =>
   intro listed a w hsz hc hf h
   refine ⟨fun hr=>last listed a w hsz hr h,fun k hk=>?_⟩
   obtain ⟨hun,o,ho,hall⟩:=mem_ready.1 hk
   obtain ⟨hks,hkf⟩:=Rg hun
   have hkS:¬ Nd listed k:=by unfold Nd; rw [hkf]; simp
   have hrS:∀ i∈Iw o,Nd listed i:=fun i hi=>by
    obtain ⟨e,he,hb,rfl⟩:=Ahs.1 hi
    exact hall e he hb
   obtain ⟨A,h⟩:=h
   have hstep:=T.step hd hc ho hkS hrS h (Q:=Q) (wpAny P .any ops Q fuel (listed.setIfInBounds k true)) (fun v w' hv=>by
    obtain ⟨A',hv⟩:=hv
    refine ih _ _ _ (by simp [hsz]) ?_ ?_ ⟨A',hv.congr (fun n=>?_) (fun t=>?_) rfl⟩
    ·intro j p hp hj i hi
     rw [Xq hks] at hj ⊢
     rcases hj with hj | rfl
     ·exact .inl (hc j p hp hj i hi)
     ·rw [ho] at hp; cases hp
      exact .inl (hrS i hi)
    ·have:=count_set hun; omega
    ·exact Pe fun j _ _=>(Xq hks j).symm
    ·exact Pe fun j _ _=>(Xq hks j).symm)
   unfold wpOp
   rw [ho]
   simp only
   split
   ·rename_i hw; rw [A58 hw] at hstep; exact .inl hstep
   ·rename_i hw; rw [A57 hw] at hstep; exact hstep
theorem F2.drew {st:St} {a:Act} {w:World} (h:F2 S I0 B w0 st a w):F2 S I0 B w0 st a { w with drawn:=w.drawn+1 }:=by
 obtain ⟨A,h⟩:=h
 have hmv:Ja A w A { w with drawn:=w.drawn+1 }:=⟨A6f _,(Ja.refl A w).names,(Ja.refl A w).live,fun _ _ _=>rfl⟩
 have hl:=hmv.Dl (I0:=I0) (B:=B)
 exact ⟨A,h.defers,h.size,h.below.trans ⟨rfl,rfl,rfl,A6f _,fun _ _=>rfl⟩,h.hB,h.I0lt,fun n p hp=>by
  obtain ⟨fo,h1,h2⟩:=h.obj n p hp
  exact ⟨fo,h1,R6 hl (fun _ _ _=>rfl) h2⟩,h.blkB,h.inj,fun t=>Am.Dl hl _ _ (h.tmps t),h.kept⟩
theorem Atw {β:Type} (he:Kp P E) {id:Nat} {ops:Array Oper} {Q:Exit→Act→World→Prop} {K:St→Option β} {r:β} {st:St} (h:Atx E ops st K=some r) {a:Act} {w:World} (hh:F2 S I0 B w0 st a w)
 (hQ:∀ st a w,K st=some r→F2 S I0 B w0 st a w→Q .normal a w):(Code.region id ops true).wp P Q a w:=by
 unfold Atx at h
 cases hc:Af1 ops (ops.toList.map Iw) with
 | false=>rw [hc] at h; cases h
 | true =>
   rw [hc,A5l] at h
   have hd:=Aip hc
   generalize (bif Akg ops (ops.toList.map Iw) 0 ops.toList then Afs E ops 0 ops.toList st else [])=M at h
   obtain ⟨tr,h0,h1,h2⟩:=Yb he ops.toList 0 st (fun j=>by simp) h
   have T:Trace P E ops (ops.toList.map Iw) M tr:=⟨fun k o ho=>by
    have:=(h2 k o (by simpa using ho)).1
    rw [A6v] at this; exact this,fun k o ho hlo=>by
    have:=(h2 k o (by simpa using ho)).2
    rw [A6v] at this; exact this hlo⟩
   refine wp_region_any he.mixed (Az9 hd T (fun a w hw=>hQ _ a w (by simpa using h1) hw) _ _ _ _ (by simp) ?_ (by simp) ?_)
   ·intro k o _ hk
    unfold Nd at hk
    simp only [Array.getD_eq_getD_getElem?,Array.getElem?_replicate] at hk
    split at hk<;>cases hk
   ·obtain ⟨A,hA⟩:=hh.drew
    subst h0
    refine ⟨A,hA.congr (fun n=>?_) (fun t=>?_) rfl⟩
    ·refine (Mv (k:=0) (val:=fun k=>look (tr k).heap n) (fun j hj ht=>T.Aqc hj ht) (by omega) fun j hj _=>⟨fun hk=>?_,fun h=>by omega⟩).symm
     unfold Nd at hk
     simp only [Array.getD_eq_getD_getElem?,Array.getElem?_replicate] at hk
     split at hk<;>cases hk
    ·refine (Mv (k:=0) (val:=fun k=>(tr k).tmps.getD t .undef) (fun j hj ht=>T.Ayj hj ht) (by omega) fun j hj _=>⟨fun hk=>?_,fun h=>by omega⟩).symm
     unfold Nd at hk
     simp only [Array.getD_eq_getD_getElem?,Array.getElem?_replicate] at hk
     split at hk<;>cases hk
end
end Go.Den
namespace Go.Den
open Go.RowKit (Below)
def Ctx.only (c:Ctx) (ns:List Nat):Ctx:={ c with at_:=fun n=>if n∈ns then c.at_ n else none }
theorem Q3 {n:Nat} {l:List Nat} (h:l.contains n=true):n∈l:=by simpa using h
theorem Afd {c:Ctx} {w:World} (ns:List Nat):∀ (f:Nat) (d:DV) (v:Value),E4 f ns d=true→Am c w d v→Am (c.only ns) w d v:=by
 intro f
 induction f with
 | zero=>intro d v h; simp [E4] at h
 | succ f ih =>
   have all:∀ (l:List DV) (vs:List Value),l.all (E4 f ns)=true→A6 c w l vs→A6 (c.only ns) w l vs:=by
    intro l
    induction l with
    | nil=>intro vs _ h; rw [A6.Gx] at h ⊢; exact h
    | cons d l ihl =>
      intro vs h hv
      simp only [List.all_cons,A5w] at h
      rw [A6.Cw] at hv ⊢
      obtain ⟨u,us,e,h1,h2⟩:=hv
      exact ⟨u,us,e,ih d u h.1 h1,ihl us h.2 h2⟩
   intro d v h hv
   cases d with
   | agg l =>
     simp only [E4] at h
     simp only [Am] at hv ⊢
     obtain ⟨vs,e,hl⟩:=hv
     exact ⟨vs,e,all l _ h hl⟩
   | tup l =>
     simp only [E4] at h
     simp only [Am] at hv ⊢
     obtain ⟨vs,e,hl⟩:=hv
     exact ⟨vs,e,all l _ h hl⟩
   | fn g a b =>
     simp only [E4,A5w] at h
     simp only [Am] at hv ⊢
     obtain ⟨fs,cs,e,h1,h2⟩:=hv
     exact ⟨fs,cs,e,all a _ h.1 h1,all b _ h.2 h2⟩
   | gd g d =>
     simp only [E4] at h
     simp only [Am] at hv ⊢
     exact ⟨fun e=>ih d v h (hv.1 e),hv.2⟩
   | oref n =>
     simp only [E4] at h
     simp only [Am] at hv ⊢
     obtain ⟨h1,p,hp,hd⟩:=hv
     exact ⟨h1,p,by simp only [Ctx.only,Q3 h,if_true]; exact hp,hd⟩
   | sref n o m =>
     simp only [E4] at h
     simp only [Am] at hv ⊢
     obtain ⟨h1,p,hp,hd⟩:=hv
     exact ⟨h1,p,by simp only [Ctx.only,Q3 h,if_true]; exact hp,hd⟩
   | ptr n i j =>
     simp only [E4] at h
     simp only [Am] at hv ⊢
     obtain ⟨h1,p,hp,hd⟩:=hv
     exact ⟨h1,p,by simp only [Ctx.only,Q3 h,if_true]; exact hp,hd⟩
   | ints g k l=>cases g<;>(simp only [Am] at hv ⊢; exact hv)
   | recs g k l=>cases g<;>(simp only [Am] at hv ⊢; exact hv)
   | undef=>simp only [Am]
   | _=>simp only [Am] at hv ⊢; exact hv
def Abp (n:Nat):List (Nat × Nat × Nat × OB)→Option (Nat × Nat × Nat × OB)
 | []=>none
 | x::xs=>if x.2.2.1=n then some x else Abp n xs
theorem Xp {n:Nat}:∀ {l:List (Nat × Nat × Nat × OB)} {x},Abp n l=some x→x∈l∧x.2.2.1=n
 | [],x,h=>by cases h
 | y::l,x,h=>by
   simp only [Abp] at h
   split at h
   ·cases h; exact ⟨A60,‹_›⟩
   ·exact ⟨A6q _ (Xp h).1,(Xp h).2⟩
theorem We:∀ {l:List (Nat × Nat × Nat × OB)} {x},(l.map (·.2.2.1)).Nodup→x∈l→Abp x.2.2.1 l=some x
 | [],x,_,h=>by cases h
 | y::l,x,hn,h=>by
   simp only [List.map_cons,List.nodup_cons] at hn
   simp only [Abp]
   rcases List.mem_cons.1 h with rfl | h
   ·rw [A58 rfl]
   ·rw [A57 (fun e=>hn.1 (by rw [e]; exact List.mem_map.2 ⟨x,h,rfl⟩))]
    exact We hn.2 h
theorem Uo {b j nm:Nat}:∀ {l:List (Nat × Nat × Nat × OB)},Lu b j l=some nm→∃ ob,(b,j,nm,ob)∈l
 | [],h=>by cases h
 | (b',j',nm',ob)::l,h=>by
   simp only [Lu] at h
   cases hb:(Nat.beq b b'&&Nat.beq j j') with
   | true =>
     rw [hb] at h
     simp only [A5l,A5o] at h
     simp only [A5w] at hb
     have e1:=A53 hb.1
     have e2:=A53 hb.2
     subst e1 e2 h
     exact ⟨ob,A60⟩
   | false =>
     rw [hb] at h
     obtain ⟨ob',h'⟩:=Uo h
     exact ⟨ob',A6q _ h'⟩
theorem Aav {st:St}:∀ {l:List (Nat × Nat × Nat × OB)} {h:Dv} {ns:List Nat},Aaw st l=some (h,ns)→(l.map (·.2.2.1)).Nodup→ns.Nodup →
 (∀ x∈l,∃ s ob,Aff st x=some (s,ob)∧look h x.2.2.1=some (false,ob)∧∀ n,s=some n→n∈ns) ∧
 (∀ n fo,look h n=some fo→∃ x∈l,x.2.2.1=n) ∧
 (∀ x∈l,∀ y∈l,∀ n ob ob',Aff st x=some (some n,ob)→Aff st y=some (some n,ob')→x=y)
 | [],h,ns,hs,_,_=>by
   simp only [Aaw,A5o,A5u] at hs
   obtain ⟨rfl,rfl⟩:=hs
   exact ⟨fun x hx=>(by cases hx),fun n fo hl=>(by cases hl),fun x hx=>(by cases hx)⟩
 | x::l,h,ns,hs,hn,hns=>by
   simp only [Aaw] at hs
   cases ho:Aff st x with
   | none=>simp [ho] at hs
   | some r =>
     obtain ⟨s,ob⟩:=r
     cases hl:Aaw st l with
     | none=>simp [ho,hl] at hs
     | some r =>
       obtain ⟨h',ns'⟩:=r
       simp only [ho,hl,A5o,A5u] at hs
       obtain ⟨rfl,rfl⟩:=hs
       simp only [List.map_cons,List.nodup_cons] at hn
       rw [List.nodup_append] at hns
       obtain ⟨i1,i2,i3⟩:=Aav hl hn.2 hns.2.1
       have hx:∀ y∈l,x.2.2.1≠y.2.2.1:=fun y hy e=>hn.1 (by rw [e]; exact List.mem_map.2 ⟨y,hy,rfl⟩)
       have cross:∀ y∈l,∀ n ob ob',Aff st x=some (some n,ob)→Aff st y=some (some n,ob')→False:=by
        intro y hy n o1 o2 h1 h2
        rw [ho] at h1; cases h1
        obtain ⟨s',ob',h3,_,h4⟩:=i1 y hy
        rw [h2] at h3; cases h3
        exact hns.2.2 n (by simp) n (h4 n rfl) rfl
       refine ⟨fun y hy=>?_,fun n fo hl'=>?_,fun y hy z hz n o1 o2 h1 h2=>?_⟩
       ·rcases List.mem_cons.1 hy with rfl | hy
        ·exact ⟨s,ob,ho,by simp [look],fun n e=>by rw [e]; simp⟩
        ·obtain ⟨s',ob',h1,h2,h3⟩:=i1 y hy
         refine ⟨s',ob',h1,?_,fun n e=>List.mem_append.2 (.inr (h3 n e))⟩
         simp only [look,show (x.2.2.1==y.2.2.1)=false by simpa using hx y hy,A5p]
         exact h2
       ·simp only [look] at hl'
        by_cases e:x.2.2.1=n
        ·exact ⟨x,A60,e⟩
        ·rw [show (x.2.2.1==n)=false by simpa using e] at hl'
         obtain ⟨y,hy,hyn⟩:=i2 n fo hl'
         exact ⟨y,A6q _ hy,hyn⟩
       ·rcases List.mem_cons.1 hy with e1 | hy2
        ·rcases List.mem_cons.1 hz with e2 | hz2
         ·rw [e1,e2]
         ·exact (cross z hz2 n o1 o2 (e1 ▸ h1) h2).elim
        ·rcases List.mem_cons.1 hz with e2 | hz2
         ·exact (cross y hy2 n o2 o1 (e2 ▸ h2) h1).elim
         ·exact i3 y hy2 z hz2 n o1 o2 h1 h2
theorem Yn {st:St} {H:Bf}:∀ {bs:List Nat} {h:Dv},U3 st H bs=some h→bs.Nodup →
 (∀ b∈bs,∃ f cs,look st.heap b=some (f,.box cs)∧Tf H.objs H.boxes (b+1) 0 cs=true∧look h b=some (f,.box (U2 H.objs (b+1) 0 cs)))∧(∀ n fo,look h n=some fo→n∈bs)
 | [],h,hs,_=>by
   simp only [U3,A5o] at hs
   subst hs
   exact ⟨fun x hx=>(by cases hx),fun n fo hl=>(by cases hl)⟩
 | b::bs,h,hs,hn=>by
   simp only [U3] at hs
   split at hs
   ·rename_i f cs hl
    cases hc:Tf H.objs H.boxes (b+1) 0 cs with
    | false=>rw [hc] at hs; cases hs
    | true =>
      rw [hc,A5l] at hs
      cases hb:U3 st H bs with
      | none=>rw [hb] at hs; cases hs
      | some h' =>
        rw [hb] at hs
        simp only [A5o] at hs
        subst hs
        simp only [List.nodup_cons] at hn
        obtain ⟨i1,i2⟩:=Yn hb hn.2
        refine ⟨fun c hc'=>?_,fun n fo hl'=>?_⟩
        ·rcases List.mem_cons.1 hc' with rfl | hc'
         ·exact ⟨f,cs,hl,hc,by simp [look]⟩
         ·obtain ⟨f',cs',h1,h2,h3⟩:=i1 c hc'
          refine ⟨f',cs',h1,h2,?_⟩
          have:b≠c:=fun e=>hn.1 (e ▸ hc')
          simp only [look,show (b==c)=false by simpa using this,A5p]
          exact h3
        ·simp only [look] at hl'
         by_cases e:b=n
         ·rw [e]; exact A60
         ·rw [show (b==n)=false by simpa using e] at hl'
          exact A6q _ (i2 n fo hl')
   ·cases hs
theorem Acw {H:Bf}:∀ (l:List DV) (k i:Nat),i<l.length→(Z3 H k l).getD i .undef=(match Lu 0 (k+i) H.objs with | some nm=>.oref nm | none=>bif No (k+i) H.keep then l.getD i .undef else .undef)
 | [],k,i,h=>by simp at h
 | d::l,k,i,h=>by
   cases i with
   | zero =>
     simp only [Z3,List.getD_cons_zero,A6t]
     cases Lu 0 k H.objs<;>rfl
   | succ i =>
     have:=Acw (H:=H) l (k+1) i (by simpa using h)
     simp only [Z3,List.getD_cons_succ,this]
     rw [show k+1+i=k+(i+1) by omega]
theorem Ql {H:Bf}:∀ (l:List DV) (k:Nat),(Z3 H k l).length=l.length
 | [],k=>rfl
 | d::l,k=>by simp [Z3,Ql l]
theorem Aas {H:Bf}:∀ {l:List DV} {k i:Nat},Aat H k l=true→i<l.length→Lu 0 (k+i) H.objs=none→No (k+i) H.keep=true→E4 8 H.boxes (l.getD i .undef)=true
 | [],k,i,_,h,_,_=>by simp at h
 | d::l,k,i,h,hi,h1,h2=>by
   simp only [Aat,A5w,Bool.or_eq_true,Bool.not_eq_true'] at h
   cases i with
   | zero =>
     rcases h.1 with h | h | h
     ·rw [A6t] at h1; rw [h1] at h; cases h
     ·rw [A6t] at h2; rw [h2] at h; cases h
     ·exact h
   | succ i =>
     rw [List.getD_cons_succ]
     exact Aas (k:=k+1) h.2 (by simpa using hi) (by rw [show k+1+i=k+(i+1) by omega]; exact h1) (by rw [show k+1+i=k+(i+1) by omega]; exact h2)
theorem Ab1 {c c':Ctx} {w:World} {objs:List (Nat × Nat × Nat × OB)} {boxes:List Nat} {b:Nat} :
 ∀ (l:List DV) (vs:List Value) (k:Nat),Tf objs boxes b k l=true→A6 c w l vs →
 (∀ d v,E4 8 boxes d=true→Am c w d v→Am c' w d v)→(∀ i nm d v,l[i]?=some d→Lu b (k+i) objs=some nm→Am c w d v→Am c' w (.oref nm) v)→A6 c' w (U2 objs b k l) vs
 | [],vs,k,_,h,_,_=>by rw [A6.Gx] at h; subst h; simp [U2,A6]
 | d::l,vs,k,hok,h,h1,h2=>by
   simp only [Tf,A5w,Bool.or_eq_true] at hok
   rw [A6.Cw] at h
   obtain ⟨u,us,rfl,hu,hus⟩:=h
   simp only [U2]
   rw [A6.Cw]
   refine ⟨u,us,rfl,?_,Ab1 l us (k+1) hok.2 hus h1 fun i nm e v hi hn=>h2 (i+1) nm e v hi (by rw [show k+(i+1)=k+1+i by omega]; exact hn)⟩
   cases hn:Lu b k objs with
   | some nm=>exact h2 0 nm d u rfl hn hu
   | none =>
     rw [hn] at hok
     exact h1 d u (hok.1.resolve_left (by simp)) hu
end Go.Den
namespace Go.Den
open Go.RowKit (Below)
def Azk:OB→Nat
 | .recs _ sz _=>sz
 | _=>1
def K2 (ob:OB):Place:=⟨.live,.row (.slice none 0 0) (Azk ob)⟩
open Classical in
def P9 (st:St) (H:Bf) (A:Nat→Option Place) (n:Nat):Option Place :=
 if n∈H.boxes then A n else
 match Abp n H.objs with
 | some x=>match Vc st x with
   | .nil=>some (K2 x.2.2.2)
   | .oref m=>A m
   | _=>none
 | none=>none
theorem Lv {st:St} {H:Bf} {A:Nat→Option Place} {n:Nat} {p:Place} (h:P9 st H A n=some p) :
 (n∈H.boxes∧A n=some p)∨(n ∉ H.boxes∧∃ x∈H.objs,x.2.2.1=n∧((Vc st x=.nil∧p=K2 x.2.2.2)∨∃ m,Vc st x=.oref m∧A m=some p)):=by
 unfold P9 at h
 by_cases hb:n∈H.boxes
 ·rw [A58 hb] at h; exact .inl ⟨hb,h⟩
 ·rw [A57 hb] at h
  refine .inr ⟨hb,?_⟩
  cases hf:Abp n H.objs with
  | none=>rw [hf] at h; cases h
  | some x =>
    rw [hf] at h
    obtain ⟨hx,hn⟩:=Xp hf
    refine ⟨x,hx,hn,?_⟩
    simp only at h
    split at h
    ·rename_i e; cases h; exact .inl ⟨e,rfl⟩
    ·rename_i m e; exact .inr ⟨m,e,h⟩
    ·cases h
theorem R7 {st:St} {x:Nat × Nat × Nat × OB} {s:Option Nat} {ob:OB} (h:Aff st x=some (s,ob)) :
 (Vc st x=.nil∧s=none∧ob=x.2.2.2∧((∃ e k,ob=.ints e k [])∨∃ e sz,0<sz∧ob=.recs e sz [])) ∨
 (∃ m,Vc st x=.oref m∧s=some m∧look st.heap m=some (false,ob)∧((∃ e k l,ob=.ints e k l)∨∃ e sz l,ob=.recs e sz l)):=by
 unfold Aff at h
 split at h
 ·rename_i hs
  left
  split at h
  ·rename_i e k hx
   simp only [A5o,A5u] at h
   exact ⟨hs,h.1.symm,by rw [hx]; exact h.2.symm,.inl ⟨e,k,h.2.symm⟩⟩
  ·rename_i e sz hx
   cases hb:Nat.blt 0 sz with
   | false=>rw [hb] at h; cases h
   | true =>
     rw [hb] at h
     simp only [A5l,A5o,A5u] at h
     exact ⟨hs,h.1.symm,by rw [hx]; exact h.2.symm,.inr ⟨e,sz,by simpa [Nat.blt_eq] using hb,h.2.symm⟩⟩
  ·cases h
 ·rename_i m hs
  right
  split at h
  ·rename_i e k l hl
   simp only [A5o,A5u] at h
   exact ⟨m,hs,h.1.symm,by rw [hl,h.2],.inl ⟨e,k,l,h.2.symm⟩⟩
  ·rename_i e sz l hl
   simp only [A5o,A5u] at h
   exact ⟨m,hs,h.1.symm,by rw [hl,h.2],.inr ⟨e,sz,l,h.2.symm⟩⟩
  ·cases h
 ·cases h
section
variable {S I0:Nat→Prop} {B:Nat} {w0:World}
theorem Apt {H:Bf} {st st1:St} (h:Ak9 (some H) st=some st1) {a:Act} {w:World} (hh:F2 S I0 B w0 st a w):F2 S I0 B w0 st1 a w:=by
 obtain ⟨A,hA⟩:=hh
 simp only [Ak9] at h
 cases hbd:U3 st H H.boxes with
 | none=>rw [hbd] at h; cases h
 | some hb =>
 cases hod:Aaw st H.objs with
 | none=>rw [hbd,hod] at h; cases h
 | some r =>
 obtain ⟨ho,ns⟩:=r
 rw [hbd,hod] at h
 simp only at h
 cases hc:(M5 (H.boxes++H.objs.map (·.2.2.1))&&M5 ns&&Aat H 0 st.tmps) with
 | false=>rw [hc] at h; cases h
 | true =>
 rw [hc,A5l,A5o] at h
 subst h
 simp only [A5w] at hc
 obtain ⟨⟨hn,hns⟩,hok⟩:=hc
 have hnd:=Kd hn
 rw [List.nodup_append] at hnd
 obtain ⟨hnb,hno,hdis⟩:=hnd
 obtain ⟨o1,o2,o3⟩:=Aav hod hno (Kd hns)
 obtain ⟨b1,b2⟩:=Yn hbd hnb
 have hnin:∀ x∈H.objs,x.2.2.1 ∉ H.boxes:=fun x hx e=>hdis _ e _ (List.mem_map.2 ⟨x,hx,rfl⟩) rfl
 have hat:∀ x∈H.objs,P9 st H A x.2.2.1=match Vc st x with | .nil=>some (K2 x.2.2.2) | .oref m=>A m | _=>none:=by
  intro x hx
  unfold P9
  rw [A57 (hnin x hx),We hno hx]
 have hokc:∀ b,(Bs I0 B A w).ok b→(Bs I0 B (P9 st H A) w).ok b:=by
  rintro b ⟨h1,h2,h3⟩
  refine ⟨h1,h2,fun n p hp hl=>?_⟩
  rcases Lv hp with ⟨_,hp⟩ | ⟨_,x,_,_,⟨_,rfl⟩ | ⟨m,_,hp⟩⟩
  ·exact h3 n p hp hl
  ·simp [K2,Place.G3,Value.ownBlock]
  ·exact h3 m p hp hl
 have hrefs:∀ d v,E4 8 H.boxes d=true→Am (Bs I0 B A w) w d v→Am (Bs I0 B (P9 st H A) w) w d v:=by
  intro d v hd hv
  have hl:Mw ((Bs I0 B A w).only H.boxes) w (Bs I0 B (P9 st H A) w) w:=by
   refine ⟨hokc,rfl,rfl,fun _ _ h=>(by cases h),fun n p hp=>?_,fun _ _ _=>rfl,fun _ _ h=>(by cases h)⟩
   simp only [Ctx.only] at hp
   split at hp
   ·rename_i hnb'
    refine ⟨p,?_,?_⟩
    ·show P9 st H A n=some p
     unfold P9
     rw [A58 hnb']; exact hp
    ·by_cases hpd:p.st=.dead
     ·exact .inl hpd
     ·exact .inr ⟨hpd,rfl⟩
   ·cases hp
  exact Am.Dl hl d v (Afd H.boxes 8 d v hd hv)
 have hbare:∀ l rows,C6 (Bs I0 B A w).bare w l rows→C6 (Bs I0 B (P9 st H A) w).bare w l rows:=fun l rows =>
  C6.Dl (c:=(Bs I0 B A w).bare) (c':=(Bs I0 B (P9 st H A) w).bare) (w:=w) (w':=w) ⟨hokc,rfl,rfl,fun _ _ h=>(by cases h),fun _ _ h=>(by cases h),fun _ _ _=>rfl,fun _ _ h=>(by cases h)⟩ l rows
 have hnamed:∀ x∈H.objs,∀ v,Am (Bs I0 B A w) w (Vc st x) v→Am (Bs I0 B (P9 st H A) w) w (.oref x.2.2.1) v:=by
  intro x hx v hv
  obtain ⟨s,ob,h1,_,_⟩:=o1 x hx
  have hax:=hat x hx
  rcases R7 h1 with ⟨e,_⟩ | ⟨m,e,_⟩
  ·rw [e] at hv hax
   simp only [Am] at hv ⊢
   subst hv
   exact ⟨rfl,_,hax,.inr ⟨_,rfl⟩⟩
  ·rw [e] at hv hax
   simp only [Am] at hv ⊢
   obtain ⟨h1,p,hp,hd⟩:=hv
   exact ⟨h1,p,hax.trans hp,hd⟩
 refine ⟨P9 st H A,hA.defers,hA.size.trans (Ql _ _).symm,hA.below,hA.hB,hA.I0lt,fun n p hp=>?_,fun n p b hp hd hpb=>?_,fun n m p q b hp hq hpd hqd hpb hqb=>?_,fun t=>?_,fun b hb=>⟨(hA.kept b hb).1,(hA.kept b hb).2.1,fun n p hp hl hbk=>by
  rcases Lv hp with ⟨_,hp⟩ | ⟨_,x,_,_,⟨_,rfl⟩ | ⟨m,_,hp⟩⟩
  ·exact (hA.kept b hb).2.2 n p hp hl hbk
  ·simp [K2,Place.G3,Value.ownBlock] at hbk
  ·exact (hA.kept b hb).2.2 m p hp hl hbk⟩⟩
 ·rcases Lv hp with ⟨hnb',hp⟩ | ⟨hnb',x,hx,rfl,hsrc⟩
  ·obtain ⟨f,cs,h1,h2,h3⟩:=b1 n hnb'
   obtain ⟨fo,h4,h5⟩:=hA.obj n p hp
   rw [h1] at h4; cases h4
   refine ⟨(f,.box (U2 H.objs (n+1) 0 cs)),by rw [O5,h3],?_⟩
   obtain ⟨hst,b,e,cells,hk,hh,hl⟩:=h5
   refine ⟨hst,b,e,cells,hk,hh,Ab1 cs _ 0 h2 hl hrefs fun i nm d v hi hnm hv=>?_⟩
   obtain ⟨ob,hx⟩:=Uo hnm
   refine hnamed _ hx v ?_
   have:Vc st (n+1,0+i,nm,ob)=d:=by
    simp [Vc,h1,A5v,hi]
   rw [this]; exact hv
  ·obtain ⟨s,ob,h1,h2,_⟩:=o1 x hx
   have hl:look (hb++ho) x.2.2.1=some (false,ob):=by
    rw [O5]
    cases hq:look hb x.2.2.1 with
    | none=>exact h2
    | some fo=>exact absurd (b2 _ _ hq) hnb'
   refine ⟨_,hl,?_⟩
   rcases R7 h1 with ⟨e,_,e2,hob⟩ | ⟨m,e,_,hlm,hob⟩
   ·rcases hsrc with ⟨_,rfl⟩ | ⟨m,e',_⟩
    ·rw [← e2]
     rcases hob with ⟨e,k,rfl⟩ | ⟨e,sz,hsz,rfl⟩
     ·exact ⟨rfl,_,rfl,World.ownsRow_nil w B e 1⟩
     ·exact ⟨rfl,hsz,_,[],rfl,by simp [C6],fun r hr=>(by cases hr),World.ownsRow_nil w B e sz⟩
    ·rw [e] at e'; cases e'
   ·rcases hsrc with ⟨e',_⟩ | ⟨m',e',hp'⟩
    ·rw [e] at e'; cases e'
    ·rw [e] at e'; cases e'
     obtain ⟨fo,h4,h5⟩:=hA.obj m p hp'
     rw [hlm] at h4; cases h4
     rcases hob with ⟨e,k,l,rfl⟩ | ⟨e,sz,l,rfl⟩
     ·exact h5
     ·obtain ⟨i1,i2,sv,rows,i3,i4,i5,i6⟩:=h5
      exact ⟨i1,i2,sv,rows,i3,hbare _ _ i4,i5,i6⟩
 ·rcases Lv hp with ⟨_,hp⟩ | ⟨_,x,hx,rfl,⟨_,rfl⟩ | ⟨m,_,hp⟩⟩
  ·exact hA.blkB n p b hp hd hpb
  ·simp [K2,Place.G3,Value.ownBlock] at hpb
  ·exact hA.blkB m p b hp hd hpb
 ·have isBox:∀ n p,n∈H.boxes→A n=some p→∃ b,p.kind=.box b:=by
   intro n p hnb' hp
   obtain ⟨f,cs,h1,_,_⟩:=b1 n hnb'
   obtain ⟨fo,h4,h5⟩:=hA.obj n p hp
   rw [h1] at h4; cases h4
   obtain ⟨_,b,_,_,hk,_⟩:=h5
   exact ⟨b,hk⟩
  have isRow:∀ x∈H.objs,∀ m p,Vc st x=.oref m→A m=some p→∃ sv sz,p.kind=.row sv sz:=by
   intro x hx m p e hp
   obtain ⟨s,ob,h1,_,_⟩:=o1 x hx
   rcases R7 h1 with ⟨e',_⟩ | ⟨m',e',_,hlm,hob⟩
   ·rw [e] at e'; cases e'
   ·rw [e] at e'; cases e'
    obtain ⟨fo,h4,h5⟩:=hA.obj m p hp
    rw [hlm] at h4; cases h4
    rcases hob with ⟨e,k,l,rfl⟩ | ⟨e,sz,l,rfl⟩
    ·obtain ⟨_,sv,hk,_⟩:=h5; exact ⟨sv,1,hk⟩
    ·obtain ⟨_,_,sv,_,hk,_⟩:=h5; exact ⟨sv,sz,hk⟩
  have same:∀ m m':Nat,∀ p q:Place,A m=some p→A m'=some q→p.st≠.dead→q.st≠.dead→p.G3=some b→q.G3=some b→m=m':=fun m m' p q h1 h2 h3 h4 h5 h6=>hA.inj m m' p q b h1 h2 h3 h4 h5 h6
  rcases Lv hp with ⟨hnb',hp⟩ | ⟨_,x,hx,rfl,⟨_,rfl⟩ | ⟨i,hi,hp⟩⟩
  ·rcases Lv hq with ⟨_,hq⟩ | ⟨_,y,hy,rfl,⟨_,rfl⟩ | ⟨j,hj,hq⟩⟩
   ·exact same n m p q hp hq hpd hqd hpb hqb
   ·simp [K2,Place.G3,Value.ownBlock] at hqb
   ·have e:=same n j p q hp hq hpd hqd hpb hqb
    subst e
    rw [hp] at hq; cases hq
    obtain ⟨b',hk⟩:=isBox n p hnb' hp
    obtain ⟨sv,sz,hk'⟩:=isRow y hy n p hj hp
    rw [hk] at hk'; cases hk'
  ·simp [K2,Place.G3,Value.ownBlock] at hpb
  ·rcases Lv hq with ⟨hmb,hq⟩ | ⟨_,y,hy,rfl,⟨_,rfl⟩ | ⟨j,hj,hq⟩⟩
   ·have e:=same i m p q hp hq hpd hqd hpb hqb
    subst e
    rw [hp] at hq; cases hq
    obtain ⟨b',hk⟩:=isBox i p hmb hp
    obtain ⟨sv,sz,hk'⟩:=isRow x hx i p hi hp
    rw [hk] at hk'; cases hk'
   ·simp [K2,Place.G3,Value.ownBlock] at hqb
   ·have e:=same i j p q hp hq hpd hqd hpb hqb
    subst e
    obtain ⟨s,ob,h1,_,_⟩:=o1 x hx
    obtain ⟨s',ob',h1',_,_⟩:=o1 y hy
    have hs:s=some i:=by
     rcases R7 h1 with ⟨e',_⟩ | ⟨m',e',e2,_⟩
     ·rw [hi] at e'; cases e'
     ·rw [hi] at e'; cases e'; exact e2
    have hs':s'=some i:=by
     rcases R7 h1' with ⟨e',_⟩ | ⟨m',e',e2,_⟩
     ·rw [hj] at e'; cases e'
     ·rw [hj] at e'; cases e'; exact e2
    subst hs hs'
    rw [o3 x hx y hy i ob ob' h1 h1']
 ·rcases A6i t st.tmps.length with hlt | hge
  ·rw [Acw st.tmps 0 t hlt]
   cases hnm:Lu 0 (0+t) H.objs with
   | some nm =>
     obtain ⟨ob,hx⟩:=Uo hnm
     refine hnamed _ hx _ ?_
     have:Vc st (0,0+t,nm,ob)=st.tmps.getD t .undef:=by simp [Vc]
     rw [this]; exact hA.tmps t
   | none =>
     simp only
     cases hk:No (0+t) H.keep with
     | true=>exact hrefs _ _ (Aas hok hlt hnm hk) (hA.tmps t)
     | false=>simp only [A5p,Am]
  ·rw [A5v,A63 (by rw [Ql]; exact hge)]
   simp only [Option.getD_none,Am]
theorem Avl {st:St} {a:Act} {w:World} (hh:F2 S I0 B w0 st a w):F2 S I0 B w0 (Ajb st) a w:=by
 obtain ⟨A,hA⟩:=hh
 refine ⟨A,hA.defers,hA.size.trans (by unfold Ajb; rw [A6r]),hA.below,hA.hB,hA.I0lt,hA.obj,hA.blkB,hA.inj,fun t=>?_,hA.kept⟩
 have ht:=hA.tmps t
 have e:(Ajb st).tmps.getD t .undef=Aq2 st.heap (st.tmps.getD t .undef):=by
  unfold Ajb
  rw [A5v,A5v,A62]
  cases st.tmps[t]? with
  | none=>rfl
  | some d=>rfl
 rw [e]
 generalize st.tmps.getD t .undef=d at ht
 cases d with
 | oref n =>
   have e2:Aq2 st.heap (.oref n)=(match look st.heap n with
    | some (true,.ints _ k l)=>.ints .fresh k l
    | some (true,.recs _ sz l)=>.recs .fresh sz l
    | _=>.oref n):=rfl
   rw [e2]
   have hm:Mem I0 B A st.heap w:=hA.mem fun n p fo hn hl=>hl
   have seen:∀ p,A n=some p→p.st=.frozen→∀ b,p.G3=some b→(Bs I0 B A w).G3 .fresh b:=fun p hp hf b hb=>by
    obtain ⟨h1,h2⟩:=hA.blkB n p b hp (by rw [hf]; simp) hb
    refine ⟨⟨h2,.inr h1,fun m q hq hl hqb=>?_⟩,rfl,h1⟩
    have:=hA.inj n m p q b hp hq (by rw [hf]; simp) (by rw [hl]; simp) hb hqb
    subst this
    rw [hp] at hq; cases hq
    rw [hf] at hl; cases hl
   have hv:=ht
   simp only [Am] at hv
   obtain ⟨hone,p,hp,hd⟩:=hv
   split
   ·rename_i e k l hl
    obtain ⟨hst,sv,hk,ho⟩:=Es hm hp hl
    have hst':p.st=.frozen:=hst
    obtain ⟨size,hk'⟩:=hd.resolve_left (by rw [hst']; simp)
    rw [hk] at hk'; cases hk'
    have:=Ka hk ho (Fa ho) (ok:=(Bs I0 B A w).G3 .fresh) (seen p hp hst')
    simp only [List.drop_zero,List.take_length] at this
    simp only [Am]
    exact this
   ·rename_i e sz l hl
    obtain ⟨hst,hsz,sv,rows,hk,hrr,hlen,ho⟩:=E1 hm hp hl
    have hst':p.st=.frozen:=hst
    obtain ⟨size,hk'⟩:=hd.resolve_left (by rw [hst']; simp)
    rw [hk] at hk'; cases hk'
    have:=J9 hk hrr hlen ho (Fa ho) (ok:=(Bs I0 B A w).G3 .fresh) (seen p hp hst')
    simp only [List.drop_zero,List.take_length] at this
    simp only [Am]
    exact this
   ·exact ht
 | _=>exact ht
theorem Aud {H:Bf} {st st1:St} (h:canon (some H) st=some st1) {a:Act} {w:World} (hh:F2 S I0 B w0 st a w):F2 S I0 B w0 st1 a w:=Apt (H:=Ax6 (Ajb st) H) h (Avl hh)
end
end Go.Den
namespace Go.Den
open Go.RowKit (Below)
section
variable {P:Program} {E:Env} {S I0:Nat→Prop} {B:Nat} {w0:World}
theorem Akr {keep:Option (List Nat)} {st:St} (t:Nat):(forget keep st).tmps.getD t .undef=st.tmps.getD t .undef∨(forget keep st).tmps.getD t .undef=.undef:=by
 cases keep with
 | none=>exact .inl rfl
 | some ks =>
   simp only [forget,A5v,A62,List.getElem?_zipIdx]
   cases st.tmps[t]? with
   | none=>exact .inl rfl
   | some d =>
     simp only [Option.map_some,A65]
     cases ks.contains (0+t)
     ·exact .inr rfl
     ·exact .inl rfl
theorem Acl {keep:Option (List Nat)} {st:St}:(forget keep st).tmps.length=st.tmps.length:=by
 cases keep<;>simp [forget]
theorem Aif {keep:Option (List Nat)} {st:St}:(forget keep st).heap=st.heap:=by
 cases keep<;>rfl
theorem F2.forget {keep:Option (List Nat)} {st:St} {a:Act} {w:World} (h:F2 S I0 B w0 st a w):F2 S I0 B w0 (forget keep st) a w:=by
 obtain ⟨A,h⟩:=h
 refine ⟨A,h.defers,h.size.trans Acl.symm,h.below,h.hB,h.I0lt,by rw [Aif]; exact h.obj,h.blkB,h.inj,fun t=>?_,h.kept⟩
 rcases Akr (keep:=keep) (st:=st) t with e | e
 ·rw [e]; exact h.tmps t
 ·rw [e]; simp only [Am]
def Auv {β:Type} (P:Program) (S I0:Nat→Prop) (B:Nat) (w0:World) (r:β) (c:Code) (body:St→(St→Option β)→(Nat→St→Option β)→(St→Option β)→Option β):Prop :=
 ∀ (st:St) (Kn:St→Option β) (Kx:Nat→St→Option β) (Kr:St→Option β),body st Kn Kx Kr=some r→∀ (a:Act) (w:World),F2 S I0 B w0 st a w→∀ Q:Exit→Act→World→Prop,
  (∀ st a w,Kn st=some r→F2 S I0 B w0 st a w→Q .normal a w)→(∀ id st a w,Kx id st=some r→F2 S I0 B w0 st a w→Q (.exit id) a w) →
  (∀ st a w,Kr st=some r→F2 S I0 B w0 st a w→Q .ret a w)→c.wp P Q a w
theorem Ad7 {H:Option Bf} {st st1:St} (hc:canon H st=some st1) {a:Act} {w:World} (hh:F2 S I0 B w0 st a w):F2 S I0 B w0 st1 a w:=by
 cases H with
 | none=>simp only [canon,A5o] at hc; subst hc; exact hh
 | some H=>exact Aud hc hh
theorem Ah8 {β:Type} {r:β} {c:Code} {body:St→(St→Option β)→(Nat→St→Option β)→(St→Option β)→Option β} (hb:Auv P S I0 B w0 r c body) {H:Option Bf} {Kx:Nat→St→Option β} {Kr:St→Option β}
 {Q:Exit→Act→World→Prop} (hx:∀ id st a w,Kx id st=some r→F2 S I0 B w0 st a w→Q (.exit id) a w) (hr:∀ st a w,Kr st=some r→F2 S I0 B w0 st a w→Q .ret a w) :
 ∀ (n:Nat) (st:St),Abk H body n st Kx Kr=some r→∀ a w,F2 S I0 B w0 st a w→Code.rounds P c Q n a w
 | 0,st,h,_,_,_=>by simp [Abk] at h
 | n+1,st,h,a,w,hh=>by
   simp only [Abk] at h
   rw [rounds_succ]
   refine hb st _ Kx Kr h a w hh _ (fun st2 a2 w2 hk hh2=>?_) (fun id st2 a2 w2 hk hh2=>hx id st2 a2 w2 hk hh2) (fun st2 a2 w2 hk hh2=>hr st2 a2 w2 hk hh2)
   cases hc:canon H st2 with
   | none=>rw [hc] at hk; cases hk
   | some st3 =>
     rw [hc] at hk
     exact Ah8 hb hx hr n st3 hk a2 w2 (Ad7 hc hh2)
theorem Awr {β:Type} {r:β} {c:Code} {body:St→(St→Option β)→(Nat→St→Option β)→(St→Option β)→Option β} (hb:Auv P S I0 B w0 r c body) {H:Option Bf} {Kx:Nat→St→Option β} {Kr:St→Option β}
 {Q:Exit→Act→World→Prop} (hx:∀ id st a w,Kx id st=some r→F2 S I0 B w0 st a w→Q (.exit id) a w) (hr:∀ st a w,Kr st=some r→F2 S I0 B w0 st a w→Q .ret a w)
 (n:Nat) (st:St) (h:iter H body n st Kx Kr=some r) (a:Act) (w:World) (hh:F2 S I0 B w0 st a w):Code.rounds P c Q n a w:=by
 unfold iter at h
 cases hc:canon H st with
 | none=>rw [hc] at h; cases h
 | some st1 =>
   rw [hc] at h
   exact Ah8 hb hx hr n st1 h a w (Ad7 hc hh)
theorem Sl {β:Type} (he:Kp P E) (fuel:Nat) (r:β):∀ (c:Code) (b:Nat),Auv P S I0 B w0 r c (den E fuel b c)
 | .skip,b=>fun st Kn Kx Kr h a w hh Q hn hx hr=>by
   simp only [den] at h
   exact wp_skip (hn st a w h hh)
 | .label l,b=>fun st Kn Kx Kr h a w hh Q hn hx hr=>by
   simp only [den] at h
   exact wp_label (hn st a w h hh)
 | .region id ops draw,b=>fun st Kn Kx Kr h a w hh Q hn hx hr=>by
   simp only [den] at h
   have reg:∀ st,Ahj E ops draw Kn st=some r→F2 S I0 B w0 st a w→(Code.region id ops draw).wp P Q a w:=by
    intro st h hh
    cases draw with
    | true=>exact Atw he h hh hn
    | false =>
      simp only [Ahj,A5p] at h
      have:=Al9 he ops.toList 0 _ (fun j=>by simp) h a w hh hn
      rw [Array.length_toList,← List.range_eq_range'] at this
      exact wp_region this
   cases hl:E.live id with
   | none=>rw [hl] at h; exact reg st h hh
   | some ks =>
     rw [hl] at h
     simp only [Ac1] at h
     exact reg _ h hh.forget
 | .seq x y,b=>fun st Kn Kx Kr h a w hh Q hn hx hr=>by
   simp only [den] at h
   refine wp_seq (Sl he fuel r x b st _ Kx Kr h a w hh _ (fun st' a' w' hk hh'=>?_) (fun id st' a' w' hk hh'=>hx id st' a' w' hk hh') (fun st' a' w' hk hh'=>hr st' a' w' hk hh'))
   exact Sl he fuel r y b st' Kn Kx Kr hk a' w' hh' Q hn hx hr
 | .cond c x y,b=>fun st Kn Kx Kr h a w hh Q hn hx hr=>by
   simp only [den] at h
   cases hv:Hp st.tmps c with
   | bool t =>
     rw [hv] at h
     simp only at h
     have hev:a.eval c=.bool t:=by
      obtain ⟨A,hA⟩:=hh
      have:Am (Bs I0 B A w) w (Hp st.tmps c) (a.eval c):=by
       cases c with
       | tmp t=>exact hA.tmps t
       | const v=>exact Ad4 v
       | global g=>simp only [Hp,Am]
       | func f=>simp [Hp] at hv
      rw [hv] at this
      simpa only [Am] using this
     refine wp_cond hev ?_
     cases t with
     | true=>exact Sl he fuel r x b st Kn Kx Kr h a w hh Q hn hx hr
     | false=>exact Sl he fuel r y b st Kn Kx Kr h a w hh Q hn hx hr
   | _=>rw [hv] at h; cases h
 | .block id c,b=>fun st Kn Kx Kr h a w hh Q hn hx hr=>by
   simp only [den] at h
   refine wp_block (Sl he fuel r c id st Kn _ Kr h a w hh _ (fun st' a' w' hk hh'=>hn st' a' w' hk hh') (fun id' st' a' w' hk hh'=>?_) (fun st' a' w' hk hh'=>hr st' a' w' hk hh'))
   simp only [Exit.inBlock]
   by_cases e:id'=id
   ·rw [A58 e]
    rw [show (id'==id)=true by simpa using e] at hk
    exact hn st' a' w' hk hh'
   ·rw [A57 e]
    rw [show (id'==id)=false by simpa using e] at hk
    exact hx id' st' a' w' hk hh'
 | .loop c,b=>fun st Kn Kx Kr h a w hh Q hn hx hr=>by
   simp only [den] at h
   exact wp_loop_rounds fuel (Awr (Sl he fuel r c b) hx hr fuel st h a w hh)
 | .scope c,b=>fun st Kn Kx Kr h a w hh Q hn hx hr=>by
   simp only [den] at h
   exact wp_scope_straight (Sl he fuel r c b st Kn Kx Kr h a w hh _ (fun st' a' w' hk hh'=>hn st' a' w' hk hh') (fun id st' a' w' hk hh'=>hx id st' a' w' hk hh') (fun st' a' w' hk hh'=>hr st' a' w' hk hh'))
 | .exit id,b=>fun st Kn Kx Kr h a w hh Q hn hx hr=>by
   simp only [den] at h
   exact wp_exit (hx id st a w h hh)
 | .ret,b=>fun st Kn Kx Kr h a w hh Q hn hx hr=>by
   simp only [den] at h
   exact wp_ret (hr st a w h hh)
 | .rangeFunc ..,b=>fun st Kn Kx Kr h=>by simp [den] at h
 | .goto l,b=>fun st Kn Kx Kr h=>by simp [den] at h
 | .refuse s,b=>fun st Kn Kx Kr h=>by simp [den] at h
end
end Go.Den
namespace Go.Den
open Go.RowKit (Below)
def Ar2:List Value→Value
 | [v]=>v
 | vs=>.tuple vs.toArray
def W7 (tmps:Array Value):ResultVar→Sem Value
 | .tmp t=>pure (tmps.getD t undef)
 | .cell a t=>do loadVar t (← asAddr (tmps.getD a undef))
section
variable {P:Program} {E:Env} {S I0:Nat→Prop} {B:Nat} {w0:World} {A:Nat→Option Place}
theorem Ajs {t:TypeId} {va v:Value} {w:World} (h:(Instr.loadAt t va).run P w=.ok v w):(do loadVar t (← asAddr va):Sem Value).run P w=.ok v w:=by
 unfold Instr.loadAt at h
 cases va with
 | pointer a =>
   cases a with
   | none=>simp [Instr.sureAddr] at h
   | some a =>
     simp only [Instr.sureAddr,asAddr] at h ⊢
     exact h
 | _=>simp [Instr.sureAddr] at h
theorem An7 (hty:∀ t ti,E.ty t=some ti→B8 P t ti) {st:St} {a:Act} {w:World} (hA:J5 S I0 B w0 A (look st.heap) (fun t=>st.tmps.getD t .undef) st.tmps.length a w)
 {r:ResultVar} {d:DV} (h1:Aap E st r=some d):∃ v,Am (Bs I0 B A w) w d v∧(W7 a.tmps r).run P w=.ok v w:=by
 cases r with
 | tmp t =>
   simp only [Aap,A5o] at h1
   subst h1
   exact ⟨_,hA.tmps t,by simp [W7]⟩
 | cell x t =>
   simp only [Aap] at h1
   cases hT:E.ty t with
   | none=>simp [hT] at h1
   | some ti =>
     rw [hT,A5t] at h1
     cases hl:Ads st.heap ti (st.tmps.getD x .undef) with
     | none=>rw [hl] at h1; cases h1
     | some q =>
       rw [hl,A5t] at h1
       cases hq:q.req with
       | false=>rw [hq] at h1; cases h1
       | true =>
         rw [hq,A5l,A5o] at h1
         subst h1
         have hm:Mem I0 B A st.heap w:=hA.mem fun n p fo _ hl=>hl
         obtain ⟨v,hr,hv⟩:=Ahz hm (hty _ _ hT) (hA.tmps x) hl hq
         exact ⟨v,hv,Ajs hr⟩
theorem Ada (hty:∀ t ti,E.ty t=some ti→B8 P t ti) {st:St} {a:Act} {w:World} (hA:J5 S I0 B w0 A (look st.heap) (fun t=>st.tmps.getD t .undef) st.tmps.length a w) :
 ∀ (rs:List ResultVar) (ds:List DV),Uj E st rs=some ds→∃ vs:List Value,A6 (Bs I0 B A w) w ds vs∧(rs.mapM (W7 a.tmps)).run P w=.ok vs w
 | [],ds,h=>by
   simp only [Uj,A5o] at h; subst h
   exact ⟨[],by simp [A6],rfl⟩
 | r::rs,ds,h=>by
   simp only [Uj] at h
   cases h1:Aap E st r with
   | none=>simp [h1] at h
   | some d =>
     cases h2:Uj E st rs with
     | none=>simp [h1,h2] at h
     | some ds' =>
       simp only [h1,h2,A5t,A5o] at h
       subst h
       obtain ⟨vs,i1,i2⟩:=Ada hty hA rs ds' h2
       obtain ⟨v,hv,hr⟩:=An7 hty hA h1
       refine ⟨v::vs,by rw [A6.Cw]; exact ⟨v,vs,rfl,hv,i1⟩,?_⟩
       simp only [List.mapM_cons,Sem.run_bind,hr,Result.andThen_ok,i2,Sem.run_pure]
theorem Ahf {fn:Func} {tmps:Array Value} {w:World} {vs:List Value} (h:(fn.results.toList.mapM (W7 tmps)).run P w=.ok vs w) :
 (results fn tmps).run P w=.ok (Ar2 vs) w:=by
 have h':(fn.results.mapM (W7 tmps)).run P w=.ok vs.toArray w:=by
  rw [Array.mapM_eq_mapM_toList]
  simp only [Sem.run_map,h,Result.andThen_ok]
 have e:results fn tmps=(do let vs←fn.results.mapM (W7 tmps); pure (if h:vs.size=1 then vs[0] else .tuple vs)):=by
  unfold results
  congr 2
 rw [e]
 simp only [Sem.run_bind,h',Result.andThen_ok,Sem.run_pure]
 congr 1
 match vs with
 | []=>rfl
 | [v]=>rfl
 | v::u::us=>simp [Ar2]
def Oc (h:Dv) (f:Nat) (l:List DV):Option (List DV × List Nat × List Nat) :=
 l.foldr (fun d acc=>(Gu h f d).bind fun (x,ns,os)=>acc.bind fun (xs,ms,ps)=>some (x::xs,ns++ms,os++ps)) (some ([],[],[]))
theorem Xb {h:Dv} {f:Nat} {d:DV} {l:List DV} {r:List DV × List Nat × List Nat} (hh:Oc h f (d::l)=some r) :
 ∃ x ns os xs ms ps,Gu h f d=some (x,ns,os)∧Oc h f l=some (xs,ms,ps)∧r=(x::xs,ns++ms,os++ps):=by
 have e:Oc h f (d::l)=(Gu h f d).bind fun (x,ns,os)=>(Oc h f l).bind fun (xs,ms,ps)=>some (x::xs,ns++ms,os++ps):=rfl
 rw [e] at hh
 cases h1:Gu h f d with
 | none=>simp [h1] at hh
 | some a =>
   obtain ⟨x,ns,os⟩:=a
   cases h2:Oc h f l with
   | none=>simp [h1,h2] at hh
   | some b =>
     obtain ⟨xs,ms,ps⟩:=b
     simp only [h1,h2,A5t,A5o] at hh
     exact ⟨x,ns,os,xs,ms,ps,rfl,rfl,hh.symm⟩
def Mh (A:Nat→Option Place) (OS:List Nat) (i:Nat):Option Nat :=
 if i∈OS then match A i with
  | some p=>if p.st=.live then p.G3 else none
  | none=>none
 else none
theorem P1 {OS:List Nat} {i b:Nat} (h:Mh A OS i=some b):i∈OS∧∃ p,A i=some p∧p.st=.live∧p.G3=some b:=by
 unfold Mh at h
 split at h
 ·cases hA:A i with
  | none=>rw [hA] at h; cases h
  | some p =>
    rw [hA] at h
    simp only at h
    split at h
    ·exact ⟨‹_›,p,rfl,‹_›,h⟩
    ·cases h
 ·cases h
theorem Ahm {OS:List Nat} {i b:Nat} {p:Place} (h:i∈OS) (hp:A i=some p) (hl:p.st=.live) (hb:p.G3=some b):Mh A OS i=some b:=by
 unfold Mh
 rw [A58 h,hp]
 simp only [hl,if_true,hb]
theorem Ars {h:Dv} {w w':World} (hm:Mem I0 w.heap.size A h w') {NS OS:List Nat} (hdis:∀ n∈NS,n ∉ OS) :
 ∀ (f:Nat) (d:DV) (v:Value) d' ns os,Gu h f d=some (d',ns,os)→(∀ n∈ns,n∈NS)→(∀ n∈os,n∈OS)→Am (Bs I0 w.heap.size A w') w' d v→Am (D2 I0 (Mh A OS) w w') w' d' v:=by
 have hok:∀ b,(Bs I0 w.heap.size A w').ok b→(D2 I0 (Mh A OS) w w').ok b:=by
  rintro b ⟨h1,h2,h3⟩
  refine ⟨h1,h2,fun i hi=>?_⟩
  obtain ⟨_,p,hp,hl,hb⟩:=P1 hi
  exact h3 i p hp hl hb
 have hbare:∀ l rows,C6 (Bs I0 w.heap.size A w').bare w' l rows→C6 (D2 I0 (Mh A OS) w w').bare w' l rows:=fun l rows =>
  C6.Dl (c:=(Bs I0 w.heap.size A w').bare) (c':=(D2 I0 (Mh A OS) w w').bare) (w:=w') (w':=w') ⟨hok,rfl,rfl,fun _ _ h=>(by cases h),fun _ _ h=>(by cases h),fun _ _ _=>rfl,fun _ _ h=>(by cases h)⟩ l rows
 have hleaf:∀ d v,E4 1 [] d=true→Am (Bs I0 w.heap.size A w') w' d v→Am (D2 I0 (Mh A OS) w w') w' d v:=by
  intro d v hd hv
  have hl:Mw ((Bs I0 w.heap.size A w').only []) w' (D2 I0 (Mh A OS) w w') w' :=
   ⟨hok,rfl,rfl,fun _ _ h=>(by cases h),fun n p hp=>(by simp [Ctx.only] at hp),fun _ _ _=>rfl,fun _ _ h=>(by cases h)⟩
  exact Am.Dl hl d v (Afd [] 1 d v hd hv)
 have frozenBlk:∀ n p,A n=some p→p.st≠.dead→(p.st≠.live∨n ∉ OS)→∀ b,p.G3=some b→(D2 I0 (Mh A OS) w w').G3 .fresh b:=by
  intro n p hp hd hc b hb
  obtain ⟨h1,h2⟩:=hm.blkB n p b hp hd hb
  refine ⟨⟨h2,.inr h1,fun i hi=>?_⟩,rfl,h1⟩
  obtain ⟨hio,q,hq,hl,hqb⟩:=P1 hi
  have e:=hm.inj n i p q b hp hq hd (by rw [hl]; simp) hb hqb
  subst e
  rw [hp] at hq; cases hq
  rcases hc with hc | hc
  ·exact hc hl
  ·exact hc hio
 intro f
 induction f with
 | zero=>intro d v d' ns os h; simp [Gu] at h
 | succ f ih =>
   have all:∀ (l:List DV) (vs:List Value) l' ns os,Oc h f l=some (l',ns,os)→(∀ n∈ns,n∈NS)→(∀ n∈os,n∈OS)→A6 (Bs I0 w.heap.size A w') w' l vs→A6 (D2 I0 (Mh A OS) w w') w' l' vs:=by
    intro l
    induction l with
    | nil =>
      intro vs l' ns os hr _ _ hv
      simp only [Oc,List.foldr_nil,A5o,A5u] at hr
      obtain ⟨rfl,_,_⟩:=hr
      rw [A6.Gx] at hv ⊢; exact hv
    | cons d l ihl =>
      intro vs l' ns os hr h1 h2 hv
      obtain ⟨x,n1,o1,xs,ms,ps,e1,e2,e⟩:=Xb hr
      cases e
      rw [A6.Cw] at hv ⊢
      obtain ⟨u,us,e,hu,hus⟩:=hv
      exact ⟨u,us,e,ih d u x n1 o1 e1 (fun n hn=>h1 n (List.mem_append.2 (.inl hn))) (fun n hn=>h2 n (List.mem_append.2 (.inl hn))) hu,
       ihl us xs ms ps e2 (fun n hn=>h1 n (List.mem_append.2 (.inr hn))) (fun n hn=>h2 n (List.mem_append.2 (.inr hn))) hus⟩
   intro d v d' ns os hr hns hos hv
   cases d with
   | agg l =>
     have hr:(Oc h f l).bind (fun (l,ns,os)=>some (DV.agg l,ns,os))=some (d',ns,os):=hr
     cases hl:Oc h f l with
     | none=>rw [hl] at hr; cases hr
     | some r =>
       obtain ⟨l',ns',os'⟩:=r
       rw [hl] at hr
       simp only [A5t,A5o,A5u] at hr
       obtain ⟨rfl,rfl,rfl⟩:=hr
       simp only [Am] at hv ⊢
       obtain ⟨vs,e,h1⟩:=hv
       exact ⟨vs,e,all l _ l' _ _ hl hns hos h1⟩
   | tup l =>
     have hr:(Oc h f l).bind (fun (l,ns,os)=>some (DV.tup l,ns,os))=some (d',ns,os):=hr
     cases hl:Oc h f l with
     | none=>rw [hl] at hr; cases hr
     | some r =>
       obtain ⟨l',ns',os'⟩:=r
       rw [hl] at hr
       simp only [A5t,A5o,A5u] at hr
       obtain ⟨rfl,rfl,rfl⟩:=hr
       simp only [Am] at hv ⊢
       obtain ⟨vs,e,h1⟩:=hv
       exact ⟨vs,e,all l _ l' _ _ hl hns hos h1⟩
   | oref n =>
     simp only [Am] at hv
     obtain ⟨hone,p,hp,hd⟩:=hv
     simp only [Gu] at hr
     split at hr
     ·rename_i e k l hl
      simp only [A5o,A5u] at hr
      obtain ⟨rfl,rfl,rfl⟩:=hr
      obtain ⟨hst,sv,hk,ho⟩:=Es hm hp hl
      obtain ⟨size,hk'⟩:=hd.resolve_left (Bx hst)
      rw [hk] at hk'; cases hk'
      simp only [Am]
      exact ⟨ho,fun b hb=>Ahm (hos n (by simp)) hp hst (by unfold Place.G3; rw [hk]; exact hb)⟩
     ·rename_i e sz l hl
      simp only [A5o,A5u] at hr
      obtain ⟨rfl,rfl,rfl⟩:=hr
      obtain ⟨hst,hsz,sv,rows,hk,hrr,hlen,ho⟩:=E1 hm hp hl
      obtain ⟨size,hk'⟩:=hd.resolve_left (Bx hst)
      rw [hk] at hk'; cases hk'
      simp only [Am]
      exact ⟨rows,hbare _ _ hrr,hlen,ho,fun b hb=>Ahm (hos n (by simp)) hp hst (by unfold Place.G3; rw [hk]; exact hb)⟩
     ·rename_i e k l hl
      simp only [A5o,A5u] at hr
      obtain ⟨rfl,rfl,rfl⟩:=hr
      obtain ⟨hst,sv,hk,ho⟩:=Es hm hp hl
      obtain ⟨size,hk'⟩:=hd.resolve_left (Bx hst)
      rw [hk] at hk'; cases hk'
      have hst':p.st=.frozen:=hst
      have:=Ka hk ho (Fa ho) (ok:=(D2 I0 (Mh A OS) w w').G3 .fresh) (frozenBlk n p hp (Bx hst) (.inl (by rw [hst']; simp)))
      simp only [List.drop_zero,List.take_length] at this
      simp only [Am]
      exact this
     ·rename_i e sz l hl
      simp only [A5o,A5u] at hr
      obtain ⟨rfl,rfl,rfl⟩:=hr
      obtain ⟨hst,hsz,sv,rows,hk,hrr,hlen,ho⟩:=E1 hm hp hl
      obtain ⟨size,hk'⟩:=hd.resolve_left (Bx hst)
      rw [hk] at hk'; cases hk'
      have hst':p.st=.frozen:=hst
      have:=J9 hk (hbare _ _ hrr) hlen ho (Fa ho) (ok:=(D2 I0 (Mh A OS) w w').G3 .fresh) (frozenBlk n p hp (Bx hst) (.inl (by rw [hst']; simp)))
      simp only [List.drop_zero,List.take_length] at this
      simp only [Am]
      exact this
     ·cases hr
   | sref n off len =>
     simp only [Am] at hv
     obtain ⟨hone,p,hp,hd⟩:=hv
     simp only [Gu] at hr
     split at hr
     ·rename_i fz e k l hl
      simp only [A5o,A5u] at hr
      obtain ⟨rfl,rfl,rfl⟩:=hr
      obtain ⟨hst,sv,hk,ho⟩:=Es hm hp hl
      obtain ⟨sv',size,hk',hs⟩:=hd.resolve_left (Bx hst)
      rw [hk] at hk'; cases hk'
      have:=Ka hk ho hs (ok:=(D2 I0 (Mh A OS) w w').G3 .fresh) (frozenBlk n p hp (Bx hst) (.inr (hdis n (hns n (by simp)))))
      simp only [Am]
      exact this
     ·rename_i fz e sz l hl
      simp only [A5o,A5u] at hr
      obtain ⟨rfl,rfl,rfl⟩:=hr
      obtain ⟨hst,hsz,sv,rows,hk,hrr,hlen,ho⟩:=E1 hm hp hl
      obtain ⟨sv',size,hk',hs⟩:=hd.resolve_left (Bx hst)
      rw [hk] at hk'; cases hk'
      have:=J9 hk (hbare _ _ hrr) hlen ho hs (ok:=(D2 I0 (Mh A OS) w w').G3 .fresh) (frozenBlk n p hp (Bx hst) (.inr (hdis n (hns n (by simp)))))
      simp only [Am]
      exact this
     ·cases hr
   | ptr n i j=>simp [Gu] at hr
   | fn g a b=>simp [Gu] at hr
   | gd g d=>simp [Gu] at hr
   | undef=>simp [Gu] at hr
   | cellp cs=>simp [Gu] at hr
   | nil=>simp only [Gu,A5o,A5u] at hr; obtain ⟨rfl,_,_⟩:=hr; exact hleaf _ _ rfl hv
   | bool b=>simp only [Gu,A5o,A5u] at hr; obtain ⟨rfl,_,_⟩:=hr; exact hleaf _ _ rfl hv
   | int k n=>simp only [Gu,A5o,A5u] at hr; obtain ⟨rfl,_,_⟩:=hr; exact hleaf _ _ rfl hv
   | fl n=>simp only [Gu,A5o,A5u] at hr; obtain ⟨rfl,_,_⟩:=hr; exact hleaf _ _ rfl hv
   | nb n=>simp only [Gu,A5o,A5u] at hr; obtain ⟨rfl,_,_⟩:=hr; exact hleaf _ _ rfl hv
   | ints g k l=>simp only [Gu,A5o,A5u] at hr; obtain ⟨rfl,_,_⟩:=hr; exact hleaf _ _ rfl hv
   | recs g k l=>simp only [Gu,A5o,A5u] at hr; obtain ⟨rfl,_,_⟩:=hr; exact hleaf _ _ rfl hv
end
end Go.Den
namespace Go.Den
open Go.RowKit (Below)
theorem Al1 {S:Nat→Prop} {P:Program} {E:Env} (hty:∀ t ti,E.ty t=some ti→B8 P t ti) {I:Nat→Prop} {fn:Func} {st:St} {out:DV} (h:Acg E fn st=some out) {w w':World} {a:Act} (hh:F2 S I w.heap.size w st a w') :
 ∃ v own,(results fn a.tmps).run P w'=.ok v w'∧Below w.heap.size w w'∧Aux own w w'∧Am (D2 I own w w') w' out v:=by
 obtain ⟨A,hA⟩:=hh
 unfold Acg at h
 cases hds:Uj E st fn.results.toList with
 | none=>simp [hds] at h
 | some ds =>
   rw [hds,A5t] at h
   obtain ⟨vs,hv,hr⟩:=Ada hty hA _ ds hds
   have hm:Mem I w.heap.size A st.heap w':=hA.mem fun n p fo _ hl=>hl
   have hone:Am (Bs I w.heap.size A w') w' (Ar4 ds) (Ar2 vs):=by
    match ds,vs,hv with
    | [],vs,hv =>
      rw [A6.Gx] at hv; subst hv
      simp only [Am,Ar4,Ar2]
      exact ⟨#[],rfl,by simp [A6]⟩
    | [d],vs,hv =>
      rw [A6.Cw] at hv
      obtain ⟨u,us,rfl,h1,h2⟩:=hv
      rw [A6.Gx] at h2; subst h2
      exact h1
    | d::d'::ds,vs,hv =>
      have hv':=hv
      rw [A6.Cw] at hv
      obtain ⟨u,us,rfl,h1,h2⟩:=hv
      rw [A6.Cw] at h2
      obtain ⟨u',us',rfl,h3,h4⟩:=h2
      simp only [Am,Ar4,Ar2]
      exact ⟨_,rfl,by simpa using hv'⟩
   cases hrs:Gu st.heap 6 (Ar4 ds) with
   | none=>rw [hrs] at h; cases h
   | some r =>
     obtain ⟨d,ns,os⟩:=r
     rw [hrs,A5t] at h
     simp only at h
     cases hc:(ns.all fun n=>!(os.contains n)) with
     | false=>rw [hc] at h; cases h
     | true =>
       rw [hc,A5l,A5o] at h
       subst h
       have hdis:∀ n∈ns,n ∉ os:=fun n hn hno=>by
        have:=List.all_eq_true.1 hc n hn
        simp [hno] at this
       refine ⟨_,Mh A os,Ahf hr,hA.below,⟨fun i b hb=>?_,fun i j b hi hj=>?_⟩,Ars hm hdis 6 _ _ _ ns os hrs (fun _ h=>h) (fun _ h=>h) hone⟩
       ·obtain ⟨_,p,hp,hl,hpb⟩:=P1 hb
        exact hm.blkB i p b hp (by rw [hl]; simp) hpb
       ·obtain ⟨_,p,hp,hl,hpb⟩:=P1 hi
        obtain ⟨_,q,hq,hl',hqb⟩:=P1 hj
        exact hm.inj i j p q b hp hq (by rw [hl]; simp) (by rw [hl']; simp) hpb hqb
theorem Azv {P:Program} {E:Env} (he:Kp P E) {fuel:Nat} {f:FuncId} {fn:Func} {body:Code} (hf:P.funcs[f]?=some fn) (hb:fn.body=some body) {args:List DV} {out:DV} (h:Ci E fuel fn body args=some out):Rc P f args out:=by
 intro w vals I hI hv
 refine calls_of_wp hf hb ?_
 unfold Ci at h
 have hlen:args.length=vals.size:=by have:=hv.length; simpa using this
 have hh:F2 (fun _=>False) I w.heap.size w ⟨args++List.replicate (fn.ntmps-args.length) .undef,[]⟩ ⟨vals++Array.replicate (fn.ntmps-vals.size) undef,[]⟩ w:=by
  refine ⟨fun _=>none,rfl,by simp only [Array.size_append,Array.size_replicate,A6d,List.length_replicate]; omega,Below.refl _ _,A6f _,hI,fun n p h=>(by cases h),fun n p b h=>(by cases h),fun n m p q b h=>(by cases h),fun t=>?_,fun b h=>h.elim⟩
  have hw:Lf (Lb I) (Bs I w.heap.size (fun _=>none) w):=⟨fun b hb=>⟨hI b hb,.inl hb,fun n p h=>(by cases h)⟩,rfl,fun _=>rfl,fun _=>rfl⟩
  have hl:=A6.F4 hw _ _ hv
  rcases A6i t args.length with hlt | hge
  ·obtain ⟨v,h1,h2⟩:=hl.getD t hlt
   simp only [A5v,List.getElem?_append_left hlt] at h2 ⊢
   have hlt':t<vals.size:=by omega
   have e:(vals++Array.replicate (fn.ntmps-vals.size) undef).getD t undef=v:=by
    rw [Array.getD_eq_getD_getElem?,Array.getElem?_append_left hlt']
    rw [Array.getElem?_toList] at h1
    rw [h1]; rfl
   rw [e]; exact h2
  ·rw [A5v,A6z hge,List.getElem?_replicate]
   split<;>simp only [A65,Option.getD_none,Am]
 refine Sl he fuel out body 0 _ _ _ _ h _ _ hh _ (fun st a w' hk hh'=>?_) (fun id st a w' hk=>by cases hk) (fun st a w' hk hh'=>?_)
 ·obtain ⟨v,own,h1,h2,h3,h4⟩:=Al1 he.ty hk hh'
  have hd:a.defers=[]:=by obtain ⟨A,hA⟩:=hh'; exact hA.defers
  exact ⟨hd,v,h1,v,own,rfl,h2,h3,h4⟩
 ·obtain ⟨v,own,h1,h2,h3,h4⟩:=Al1 he.ty hk hh'
  have hd:a.defers=[]:=by obtain ⟨A,hA⟩:=hh'; exact hA.defers
  exact ⟨hd,v,h1,v,own,rfl,h2,h3,h4⟩
end Go.Den
end
