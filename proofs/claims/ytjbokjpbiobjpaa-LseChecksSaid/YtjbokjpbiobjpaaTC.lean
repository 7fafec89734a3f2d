/- A verified evaluator of the program's form and its use for this seat: Den20, Den21, Den22, Den23, Den24, Den25, Den26, Den27, Den28, Den29, Den30, Den31. -/
import Derived.Test.YtjbokjpbiobjpaaTB
import Derived.Orders
import Derived.LoopN
import Derived.Scope
set_option linter.unusedVariables false
set_option linter.unusedSimpArgs false
noncomputable section
namespace Go.Den
open Go.RowKit (Below)
section
variable {P:Program} {E:Env} {I0:Nat→Prop} {B:Nat} {A:Nat→Option Place} {h:Cg} {w:World} {t:TypeId}
theorem Zb (hty:∀ t ti,E.ty t=some ti→Br P t ti) (hm:Mem I0 B A h w) {nm:Nat} (hnm:A nm=none) {ty:TypeId} {s x v:DV} {vs vx:Value} (hs:Ah (A3 I0 B A w) w s vs) (hx:Ah (A3 I0 B A w) w x vx) {req:Bool} {h':Cg}
    (ha:Jq E h nm t s x=some (req,v,h')) (hreq:req=true) :
    ∃ v' w' A',(Builtin.append_ #[t,t] ty #[vs,vx]).run P w=.ok v' w'∧Mem I0 B A' h' w'∧Ga A w A' w'∧Below B w w'∧Ah (A3 I0 B A' w') w' v v' ∧
      (∀ m p,A' m=some p→A m=none→m=nm)∧(∀ m,(look h' m).isSome=(decide (m=nm)||(look h m).isSome))∧Mt (Ux s) A w w'∧(∀ m q,m ∉ Ux s→A m=some q→A' m=some q) ∧
      (∀ m,m ∉ Ux s→m≠nm→look h' m=look h m)∧(∀ m,m∈Ux s→look h m≠none)∧look h nm=none:=by
  subst hreq
  unfold Jq at ha
  split at ha
  · rename_i e _ hT
    have hu:=(hty _ _ hT).desc
    simp only [B4] at hu
    cases hE:E.ty e with
    | none=>simp [hE] at ha
    | some ei =>
    simp only [hE,Ahv] at ha
    by_cases hq:(decide (ei.bytes≤128)&&decide (0<ei.size)&&(look h nm).isNone)=true
    · rw [hq,Ahn] at ha
      simp only [Ahy,Ahu,Option.isNone_iff_eq_none] at hq
      obtain ⟨⟨hq1,hq2⟩,hq3⟩:=hq
      have hei:=hty _ _ hE
      have hne:∀ {old:Option Nat} {p:Place} m q,M5 A old nm p m=some q→A m=none→m=nm:=by
        intro old p m q hq hA
        unfold M5 at hq
        split at hq
        · assumption
        · split at hq
          · rw [hA] at hq; cases hq
          · rw [hA] at hq; cases hq
      have ltB:∀ {w':World} {sz n:Nat} {v':Value} {xs:List Value},w'.ownsRow B e sz v' n xs→∀ b,v'.ownBlock=some b→B≤b∧b<w'.heap.size:=fun ho b hb=>ho.lt b hb
      have keepN:∀ {w':World},w.grownBy w' none→Mt [] A w w':=fun hg m q b _ hq hqd hqb=>hg.block b (hm.blkB m q b hq hqd hqb).2 (by simp)
      have sameN:∀ {p:Place} m q,m ∉ ([]:List Nat)→A m=some q→M5 A none nm p m=some q:=by
        intro p m q _ hq
        unfold M5
        rw [if_neg (fun e=>by rw [e,hnm] at hq; cases hq),if_neg (by simp)]
        exact hq
      have sameO:∀ {n:Nat} {p:Place} m q,m ∉ [n]→A m=some q→M5 A (some n) nm p m=some q:=by
        intro n p m q hn hq
        unfold M5
        rw [if_neg (fun e=>by rw [e,hnm] at hq; cases hq),if_neg (fun e=>hn (by rw [Option.some.inj e]; exact List.mem_singleton.2 rfl))]
        exact hq
      have keepO:∀ {n:Nat} {p:Place} {b':Option Nat} {w':World},A n=some p→p.st≠.dead→(∀ b,b'=some b→p.E1=some b)→w.grownBy w' b'→Mt [n] A w w':=fun {n p b' w'} hp hd hb hg m q b hn hq hqd hqb =>
        hg.block b (hm.blkB m q b hq hqd hqb).2 (fun e=>hn (by rw [hm.inj m n q p b hq hp hqd hd hqb (hb b e.symm)]; exact List.mem_singleton.2 rfl))
      split at ha
      ·
        simp only [Ah] at hs; subst hs
        have hown:w.ownsRow B e ei.size (.slice none 0 0) 0 []:=World.ownsRow_nil w B e ei.size
        have hlk:∀ ob m fo,look ((nm,false,ob)::h) m=some fo→(m=nm∧fo=(false,ob))∨(m≠nm∧(none:Option Nat)=some m∧fo=(false,.dead))∨(m≠nm∧(none:Option Nat)≠some m∧look h m=some fo):=by
          intro ob m fo hl
          simp only [look] at hl
          by_cases e:nm=m
          · subst e; simp at hl; exact .inl ⟨rfl,hl.symm⟩
          · rw [show (nm==m)=false by simpa using e] at hl
            exact .inr (.inr ⟨fun e'=>e e'.symm,by simp,hl⟩)
        have hsame:∀ ob m,m≠nm→look ((nm,false,ob)::h) m=look h m:=by
          intro ob m hm'
          simp only [look,show (nm==m)=false by simpa using fun e:nm=m=>hm' e.symm,Ahr]
        have hdom:∀ ob m,(look ((nm,false,ob)::h) m).isSome=(decide (m=nm)||(look h m).isSome):=by
          intro ob m
          simp only [look]
          by_cases e:nm=m
          · subst e; simp
          · rw [show (nm==m)=false by simpa using e]; simp [show ¬ m=nm from fun e'=>e e'.symm]
        split at ha
        · rename_i k hk
          by_cases hs1:ei.size=1
          · simp only [hs1,beq_self_eq_true,Ahn] at ha
            cases hel:J3 h k x with
            | none=>simp [hel] at ha
            | some l =>
              simp only [hel,Ahv,Ahq,Ahw,Ahu] at ha
              obtain ⟨hlim,rfl,rfl⟩:=ha
              obtain ⟨a,m,c,rfl,rfl,hsrc⟩:=Tz hm hx hel
              obtain ⟨v',w',hrun,hown',hg,hb⟩:=K5 (P:=P) (ty:=ty) hu hei hq1 hq2 hm.hB hown (a:=a) (c:=c) (news:=l.map (Value.int k)) (by rw [hs1]; simp) hsrc (by simp [Value.oneCell']) (by simpa using hlim)
              obtain ⟨h1,h2,h3⟩:=K6 hm hnm (old:=none) (v:=.slice none 0 0) (sz:=1) hg (fun b hb=>by cases hb) hb (hlk (.ints e k l)) (ltB hown') (fun _=>by
                unfold B2
                refine ⟨rfl,v',rfl,?_⟩
                rw [hs1] at hown'
                have q:=hown'
                simp only [Nat.zero_add,List.nil_append] at q
                exact q)
              exact ⟨v',w',_,hrun,h1,h2,h3,by simp only [Ah]; exact ⟨Fe hown',_,if_pos rfl,.inr ⟨1,rfl⟩⟩,hne,hdom _,keepN hg,sameN,fun m _ hmn=>hsame _ m hmn,fun m hmn=>absurd hmn (by simp [Ux]),hq3⟩
          · rw [show (ei.size==1)=false by simpa using hs1] at ha; simp at ha
        · cases hel:J2 h ei.size x with
          | none=>simp [hel] at ha
          | some l =>
            simp only [hel,Ahv,Ahq,Ahw,Ahu] at ha
            obtain ⟨hlim,rfl,rfl⟩:=ha
            obtain ⟨a,m,c,rows,rfl,rfl,hrr,hlen,hsrc⟩:=Ty hm hx hel
            obtain ⟨v',w',hrun,hown',hg,hb⟩:=K5 (P:=P) (ty:=ty) hu hei hq1 hq2 hm.hB hown (a:=a) (c:=c) (news:=rows.flatten) (by rw [G6 (fun r hr=>(hlen r hr).1),hrr.length]) hsrc (fun u hu=>by
                obtain ⟨r,hr,hur⟩:=List.mem_flatten.1 hu
                exact (hlen r hr).2 u hur) (by simpa using hlim)
            obtain ⟨h1,h2,h3⟩:=K6 hm hnm (old:=none) (v:=.slice none 0 0) (sz:=ei.size) hg (fun b hb=>by cases hb) hb (hlk (.recs e ei.size l)) (ltB hown') (fun hmv=>by
              unfold B2
              refine ⟨rfl,hq2,v',rows,rfl,B1.Cc (hmv.Cc (I0:=I0) (B:=B)).bare _ _ hrr,hlen,?_⟩
              have q:=hown'
              simp only [Nat.zero_add,List.nil_append] at q
              exact q)
            exact ⟨v',w',_,hrun,h1,h2,h3,by simp only [Ah]; exact ⟨Fe hown',_,if_pos rfl,.inr ⟨_,rfl⟩⟩,hne,hdom _,keepN hg,sameN,fun m _ hmn=>hsame _ m hmn,fun m hmn=>absurd hmn (by simp [Ux]),hq3⟩
      ·
        rename_i n
        simp only [Ah] at hs
        obtain ⟨_,p,hp,hd⟩:=hs
        have hlk:∀ {ob0 ob:OB},look h n=some (false,ob0)→∀ m fo,look ((nm,false,ob)::Vu h n (false,.dead)) m=some fo→(m=nm∧fo=(false,ob))∨(m≠nm∧(some n:Option Nat)=some m∧fo=(false,.dead))∨(m≠nm∧(some n:Option Nat)≠some m∧look h m=some fo):=by
          intro ob0 ob hl0 m fo hl
          simp only [look] at hl
          by_cases e:nm=m
          · subst e; simp at hl; exact .inl ⟨rfl,hl.symm⟩
          · rw [show (nm==m)=false by simpa using e] at hl
            simp only [Ahr] at hl
            rw [El hl0] at hl
            by_cases e':m=n
            · subst e'; rw [if_pos rfl] at hl; cases hl; exact .inr (.inl ⟨fun e'=>e e'.symm,rfl,rfl⟩)
            · rw [if_neg e'] at hl
              exact .inr (.inr ⟨fun e'=>e e'.symm,fun e''=>e' (Option.some.inj e'').symm,hl⟩)
        have hsame:∀ {ob0 ob:OB},look h n=some (false,ob0)→∀ m,m ∉ [n]→m≠nm→look ((nm,false,ob)::Vu h n (false,.dead)) m=look h m:=by
          intro ob0 ob hl0 m hn hm'
          simp only [look,show (nm==m)=false by simpa using fun e:nm=m=>hm' e.symm,Ahr]
          rw [El hl0,if_neg (fun e=>hn (by rw [e]; exact List.mem_singleton.2 rfl))]
        have hdom:∀ {ob0 ob:OB},look h n=some (false,ob0)→∀ m,(look ((nm,false,ob)::Vu h n (false,.dead)) m).isSome=(decide (m=nm)||(look h m).isSome):=by
          intro ob0 ob hl0 m
          simp only [look]
          by_cases e:nm=m
          · subst e; simp
          · rw [show (nm==m)=false by simpa using e]
            simp only [Ahr,show ¬ m=nm from fun e'=>e e'.symm,decide_false,Bool.false_or]
            rw [El hl0]; split<;>simp_all
        split at ha
        · rename_i e' k l' hlo
          obtain ⟨hst,sv,hk,ho⟩:=C2 hm hp hlo
          obtain ⟨size,hk'⟩:=hd.resolve_left (A9 hst)
          rw [hk] at hk'; cases hk'
          cases hel:J3 h k x with
          | none=>simp [hel] at ha
          | some l =>
            simp only [hel,Ahv] at ha
            by_cases hc:(e==e'&&ei.size==1)=true
            · rw [hc,Ahn] at ha
              simp only [Ahq,Ahw,Ahu] at ha
              obtain ⟨hlim,rfl,rfl⟩:=ha
              simp only [Ahy,beq_iff_eq] at hc
              obtain ⟨rfl,hs1⟩:=hc
              obtain ⟨a,m,c,rfl,rfl,hsrc⟩:=Tz hm hx hel
              obtain ⟨v',w',hrun,hown',hg,hb⟩:=K5 (P:=P) (ty:=ty) hu hei hq1 hq2 hm.hB (by rw [hs1]; exact ho) (a:=a) (c:=c) (news:=l.map (Value.int k)) (by rw [hs1]; simp) hsrc (by simp [Value.oneCell']) hlim
              obtain ⟨h1,h2,h3⟩:=K6 hm hnm (old:=some n) (sz:=1) hg (fun b hb=>⟨n,p,rfl,hp,hst,by unfold Place.E1; rw [hk]; exact hb⟩) hb (hlk (ob:=.ints e k (l'++l)) hlo) (ltB hown') (fun _=>by
                unfold B2
                refine ⟨rfl,v',rfl,?_⟩
                rw [hs1] at hown'
                rw [List.length_append,List.map_append]
                exact hown')
              exact ⟨v',w',_,hrun,h1,h2,h3,by simp only [Ah]; exact ⟨Fe hown',_,if_pos rfl,.inr ⟨1,rfl⟩⟩,hne,hdom hlo,keepO hp (A9 hst) (fun b hb=>by unfold Place.E1; rw [hk]; exact hb) hg,sameO,fun m h1 h2=>hsame hlo m h1 h2,fun m hmn=>by rw [List.mem_singleton.1 hmn,hlo]; simp,hq3⟩
            · simp only [Bool.not_eq_true] at hc; rw [hc] at ha; simp at ha
        · rename_i e' sz l' hlo
          obtain ⟨hst,hsz,sv,rows',hk,hrr',hlen',ho⟩:=Df hm hp hlo
          obtain ⟨size,hk'⟩:=hd.resolve_left (A9 hst)
          rw [hk] at hk'; cases hk'
          cases hel:J2 h sz x with
          | none=>simp [hel] at ha
          | some l =>
            simp only [hel,Ahv] at ha
            by_cases hc:(e==e'&&sz==ei.size)=true
            · rw [hc,Ahn] at ha
              simp only [Ahq,Ahw,Ahu] at ha
              obtain ⟨hlim,rfl,rfl⟩:=ha
              simp only [Ahy,beq_iff_eq] at hc
              obtain ⟨rfl,rfl⟩:=hc
              obtain ⟨a,m,c,rows,rfl,rfl,hrr,hlen,hsrc⟩:=Ty hm hx hel
              obtain ⟨v',w',hrun,hown',hg,hb⟩:=K5 (P:=P) (ty:=ty) hu hei hq1 hq2 hm.hB ho (a:=a) (c:=c) (news:=rows.flatten) (by rw [G6 (fun r hr=>(hlen r hr).1),hrr.length]) hsrc (fun u hu=>by
                obtain ⟨r,hr,hur⟩:=List.mem_flatten.1 hu
                exact (hlen r hr).2 u hur) hlim
              obtain ⟨h1,h2,h3⟩:=K6 hm hnm (old:=some n) (sz:=ei.size) hg (fun b hb=>⟨n,p,rfl,hp,hst,by unfold Place.E1; rw [hk]; exact hb⟩) hb (hlk (ob:=.recs e ei.size (l'++l)) hlo) (ltB hown') (fun hmv=>by
                unfold B2
                have hbr:=(hmv.Cc (I0:=I0) (B:=B)).bare
                refine ⟨rfl,hq2,v',rows'++rows,rfl,(B1.Cc hbr _ _ hrr').append (B1.Cc hbr _ _ hrr),?_,?_⟩
                · intro r hr
                  rcases List.mem_append.1 hr with hr | hr
                  · exact hlen' r hr
                  · exact hlen r hr
                · rw [List.length_append,List.flatten_append]; exact hown')
              exact ⟨v',w',_,hrun,h1,h2,h3,by simp only [Ah]; exact ⟨Fe hown',_,if_pos rfl,.inr ⟨_,rfl⟩⟩,hne,hdom hlo,keepO hp (A9 hst) (fun b hb=>by unfold Place.E1; rw [hk]; exact hb) hg,sameO,fun m h1 h2=>hsame hlo m h1 h2,fun m hmn=>by rw [List.mem_singleton.1 hmn,hlo]; simp,hq3⟩
            · simp only [Bool.not_eq_true] at hc; rw [hc] at ha; simp at ha
        · cases ha
      · cases ha
    · simp only [Bool.not_eq_true] at hq; rw [hq] at ha; simp at ha
  · cases ha
end
end Go.Den
namespace Go.Den
open Go.RowKit (Below)
def Gm (P:Program) (ops:Array Oper) (o:Oper) (a:Act) (w:World) (Q:Exit→Act→World→Prop) (G:Value→World→Prop):Prop :=
  ∀ K:Act→World→Prop,(∀ v w',G v w'→K (a.put o.dst v) w') →
    if Region.wanted o (yielded ops a.tmps) then o.wp P a w K Q else K (a.put o.dst undef) w
theorem Gm.mono {P:Program} {ops:Array Oper} {o:Oper} {a:Act} {w:World} {Q:Exit→Act→World→Prop} {G G':Value→World→Prop} (h:Gm P ops o a w Q G) (hg:∀ v w',G v w'→G' v w'):Gm P ops o a w Q G' :=
  fun K hK=>h K fun v w' hh=>hK v w' (hg v w' hh)
theorem C4.wp {P:Program} {o:Oper} {a:Act} {w:World} {K:Act→World→Prop} {Q:Exit→Act→World→Prop} {K':Value→World→Prop} (h:C4 P (execOp a.eval o) w K') (hK:∀ v w',K' v w'→K (a.put o.dst v) w'):o.wp P a w K Q:=by
  unfold C4 at h
  unfold Oper.wp
  split at h
  · rename_i v w' hr
    rw [hr,Oper.upon_value]; exact hK _ _ h
  · rename_i f args w' hr
    rw [hr,Oper.upon_enter]
    refine Calls.mono h fun e w'' ⟨v,he,hk⟩=>?_
    subst he; exact hK _ _ hk
  · exact h.elim
section
variable {P:Program} {E:Env} {I0:Nat→Prop} {B:Nat} {A:Nat→Option Place} {h:Cg} {w:World}
theorem Iy {c:Ctx} {g:Bool} {d:DV} {v:Value} (hv:Ah c w d v) (hg:g=true) (hs:(E5 g d).2=true):Ah c w (E5 g d).1 v:=by
  subst hg
  cases d<;>try exact hv
  rename_i c' d'
  simp only [E5,Bool.not_true,Bool.false_or] at hs ⊢
  simp only [Ah] at hv
  exact hv.1 hs
theorem Z8 {c:Ctx} {ops:Array Oper} {l:List DV} {o:Oper} {a:Act} (hsz:a.tmps.size=l.length)
    (hrd:∀ t∈o.looksAt ops,Ah c w (l.getD t .undef) (a.tmps.getD t undef)) {g?:Option Bool} (hc:Ki ops l o=some g?) :
    (g?=none∧o.guard=none)∨∃ b,g?=some b∧Region.wanted o (yielded ops a.tmps)=b:=by
  unfold Ki at hc
  split at hc
  · rename_i hg
    cases hc; exact .inl ⟨rfl,hg⟩
  · rename_i j want hg
    cases hd:(ops[j]?).bind (·.dst) with
    | none=>simp [hd] at hc
    | some d =>
      simp only [hd] at hc
      have hv:=hrd d (by unfold Oper.looksAt; simp [hg,hd])
      have hlt:∀ {x:DV},l.getD d .undef=x→x≠.undef→d<a.tmps.size:=fun {x} hx hne=>by
        rw [hsz]
        refine Nat.lt_of_not_le fun hle=>hne ?_
        rw [← hx,Ahx,List.getElem?_eq_none hle]; rfl
      have hy:∀ {u:Value},d<a.tmps.size→a.tmps.getD d undef=u→yielded ops a.tmps j=match u with | .bool b=>some b | _=>none:=fun {u} hl hu=>by
        unfold yielded
        rw [hd,Ahv]
        have:a.tmps[d]?=some u:=by
          rw [Ah7 hl]
          rw [Array.getD_eq_getD_getElem?,Ah7 hl] at hu
          exact congrArg some hu
        rw [this]
        cases u<;>rfl
      split at hc
      · rename_i b hb
        cases hc
        rw [hb] at hv; simp only [Ah] at hv
        refine .inr ⟨_,rfl,?_⟩
        unfold Region.wanted; rw [hg]; simp only
        rw [hy (hlt hb (by simp)) hv]
        cases b<;>cases want<;>rfl
      · rename_i c' b hb
        cases hc
        rw [hb] at hv; simp only [Ah] at hv
        refine .inr ⟨_,rfl,?_⟩
        unfold Region.wanted; rw [hg]; simp only
        cases c' with
        | true =>
          rw [hy (hlt hb (by simp)) (hv.1 rfl)]
          cases b<;>cases want<;>rfl
        | false =>
          rw [hy (hlt hb (by simp)) (hv.2 rfl)]
          cases want<;>rfl
      · cases hc
def Lg (g?:Option Bool) (v:DV):DV:=match g? with | some c=>.gd c v | none=>v
theorem Vy {c:Ctx} {g?:Option Bool} {d:DV} {v:Value} (hg:g?.getD true=true) (hv:Ah c w d v):Ah c w (Lg g? d) v:=by
  cases g? with
  | none=>exact hv
  | some b =>
    simp only [Option.getD_some] at hg; subst hg
    simp only [Lg,Ah]
    exact ⟨fun _=>hv,fun e=>by cases e⟩
theorem Ac6 (he:Hb P E) (hm:Mem I0 B A h w) {ops:Array Oper} {l:List DV} {o:Oper} {a:Act}
    (hops:∀ x∈o.op.operands.toList,Ah (A3 I0 B A w) w (Fa l x) (a.eval x))
    {g?:Option Bool} (hg:(g?=none∧o.guard=none)∨∃ b,g?=some b∧Region.wanted o (yielded ops a.tmps)=b)
    {nm:Nat} {r:R2} (hq:Cw E h nm (fun x=>(E5 (g?.getD true) (Fa l x)).1) o.op=some r)
    (hreq:(!(g?.getD true)||(No (g?.getD true) (Fa l) o.op.operands.toList&&r.req))=true)
    (hobj:r.objs=[]∨g?.getD true=true) (hfrz:r.frz=[]∨g?.getD true=true)
    (hnew:∀ n ob,(n,ob)∈r.objs→A n=none) (hnd:(r.objs.map (·.1)).Nodup) {Q:Exit→Act→World→Prop} :
    Gm P ops o a w Q fun v w'=>∃ A',G2 I0 B A w r.objs r.frz A' w'∧Ah (A3 I0 B A' w') w' (Lg g? r.v) v:=by
  intro K hK
  have hwant:Region.wanted o (yielded ops a.tmps)=g?.getD true:=by
    rcases hg with ⟨rfl,hg⟩ | ⟨b,rfl,hg⟩
    · simp [Region.wanted,hg]
    · simpa using hg
  rw [hwant]
  by_cases hgt:g?.getD true=true
  · rw [if_pos hgt]
    rw [hgt] at hreq hq
    simp only [Bool.not_true,Bool.false_or,Ahy] at hreq
    have hops':Ops (A3 I0 B A w) w (fun x=>(E5 true (Fa l x)).1) a.eval o.op:=fun x hx=>by
      refine Iy (hops x hx) rfl ?_
      have:=hreq.1
      unfold No at this
      rw [List.all_eq_true] at this
      exact this x hx
    exact C4.wp (K':=fun v w'=>∃ A',G2 I0 B A w r.objs r.frz A' w'∧Ah (A3 I0 B A' w') w' (Lg g? r.v) v)
      (Aa4 he hm hops' hq hreq.2 hnew hnd fun v w' A' h1 h2=>⟨A',h1,Vy hgt h2⟩) hK
  · rw [if_neg hgt]
    have hgf:g?=some false:=by
      cases g? with
      | none=>simp at hgt
      | some b=>simp only [Option.getD_some,Bool.not_eq_true] at hgt; rw [hgt]
    have h1:r.objs=[]:=hobj.resolve_right hgt
    have h2:r.frz=[]:=hfrz.resolve_right hgt
    subst hgf
    refine hK undef w ⟨A,by rw [h1,h2]; exact G2.refl (.inl rfl),?_⟩
    simp only [Lg,Ah]
    exact ⟨fun e=>(by cases e),fun _=>trivial⟩
theorem Af4 {ops:Array Oper} {l:List DV} {dst:Option Tmp} {c x y:Operand} {ty:TypeId} {pos:String} {after:Array Edge} {guard:Option (Nat × Bool)} {a:Act} {cx:Ctx}
    (hc:Ah cx w (Fa l c) (a.eval c)) (hx:Ah cx w (Fa l x) (a.eval x)) (hy:Ah cx w (Fa l y) (a.eval y))
    {g?:Option Bool} (hg:(g?=none∧guard=none)∨∃ b,g?=some b∧Region.wanted ⟨dst,.pick c x y,ty,pos,after,guard⟩ (yielded ops a.tmps)=b)
    {c' r:Bool} {v:DV} (hsc:(E5 (g?.getD true) (Fa l c)).1=.bool c') (hp:Zo c' (Fa l x) (Fa l y)=some (r,v))
    (hreq:(!(g?.getD true)||((E5 (g?.getD true) (Fa l c)).2&&r))=true) {Q:Exit→Act→World→Prop} :
    Gm P ops ⟨dst,.pick c x y,ty,pos,after,guard⟩ a w Q fun u w'=>w'=w∧Ah cx w (Lg g? v) u:=by
  intro K hK
  have hwant:Region.wanted ⟨dst,.pick c x y,ty,pos,after,guard⟩ (yielded ops a.tmps)=g?.getD true:=by
    rcases hg with ⟨rfl,hg⟩ | ⟨b,rfl,hg⟩
    · simp [Region.wanted,hg]
    · simpa using hg
  rw [hwant]
  by_cases hgt:g?.getD true=true
  · rw [if_pos hgt]
    rw [hgt] at hreq hsc
    simp only [Bool.not_true,Bool.false_or,Ahy] at hreq
    have hcv:=Iy hc rfl hreq.1
    rw [hsc] at hcv; simp only [Ah] at hcv
    refine C4.wp (K':=fun u w'=>w'=w∧Ah cx w (Lg g? v) u) (C4.value (v:=if c' then a.eval x else a.eval y) (w':=w) ?_ ⟨rfl,Vy hgt ?_⟩) hK
    · simp [execOp,hcv,asBool]
    · have h2:=hreq.2
      unfold Zo at hp
      cases c' with
      | true =>
        simp only [if_true]
        split at hp
        · rename_i p q e1 e2
          simp only [Ahq,Ahw] at hp
          obtain ⟨rfl,rfl⟩:=hp
          simp only [Ahy] at h2
          have:=Iy hx rfl h2.1
          rw [e1] at this; exact this
        · rename_i k p k' q e1 e2
          by_cases hk:k=k'
          · simp only [hk,decide_true,Ahn,Ahq,Ahw] at hp
            obtain ⟨rfl,rfl⟩:=hp
            simp only [Ahy] at h2
            have:=Iy hx rfl h2.1
            rw [e1] at this; subst hk; exact this
          · simp [hk] at hp
        · cases hp
      | false =>
        simp only [Bool.false_eq_true,if_false]
        split at hp
        · rename_i p q e1 e2
          simp only [Ahq,Ahw] at hp
          obtain ⟨rfl,rfl⟩:=hp
          simp only [Ahy] at h2
          have:=Iy hy rfl h2.2
          rw [show (!false)=true from rfl] at e2
          rw [e2] at this; exact this
        · rename_i k p k' q e1 e2
          by_cases hk:k=k'
          · simp only [hk,decide_true,Ahn,Ahq,Ahw] at hp
            obtain ⟨rfl,rfl⟩:=hp
            simp only [Ahy] at h2
            have:=Iy hy rfl h2.2
            rw [show (!false)=true from rfl] at e2
            rw [e2] at this; exact this
          · simp [hk] at hp
        · cases hp
  · rw [if_neg hgt]
    have hgf:g?=some false:=by
      cases g? with
      | none=>simp at hgt
      | some b=>simp only [Option.getD_some,Bool.not_eq_true] at hgt; rw [hgt]
    subst hgf
    refine hK undef w ⟨rfl,?_⟩
    simp only [Lg,Ah]
    exact ⟨fun e=>(by cases e),fun _=>trivial⟩
theorem Ads {ops:Array Oper} {o:Oper} {t:Tmp} (h:Operand.tmp t∈o.op.operands.toList):t∈o.looksAt ops:=by
  unfold Oper.looksAt
  exact List.mem_append.2 (.inl (List.mem_filterMap.2 ⟨_,h,rfl⟩))
theorem T0 {c:Ctx} (v:Value):Ah c w (Y2 v) v:=by
  unfold Y2
  split<;>simp only [Ah]
  exact ⟨_,rfl,.inl rfl⟩
theorem Ow {c:Ctx} {ops:Array Oper} {l:List DV} {o:Oper} {a:Act}
    (hrd:∀ t∈o.looksAt ops,Ah c w (l.getD t .undef) (a.tmps.getD t undef)):∀ x∈o.op.operands.toList,Ah c w (Fa l x) (a.eval x):=by
  intro x hx
  cases x with
  | tmp t=>exact hrd t (Ads hx)
  | const v=>exact T0 v
  | global g=>simp only [Fa,Ah]
  | func f=>simp [Fa,Ah,Act.eval,At]
theorem stepQ (he:Hb P E) {ops:Array Oper} {draw:Bool} {st st':St} {o:Oper} (hs:Ih E ops draw st o=some (true,st')) (hmut:O2 o.op=false)
    (hsp:∀ g?,Ki ops st.tmps o=some g?→(bif draw then none else Hy E (Fa st.tmps) g? o.op)=none) :
    ∃ d objs frz,st'.tmps=Og st.tmps o.dst d∧st'.heap=objs.map (fun (x:Nat × OB)=>(x.1,false,x.2))++Gz st.heap frz ∧
      (∀ n ob,(n,ob)∈objs→look st.heap n=none)∧(objs.map (·.1)).Nodup∧(D2 E ops st o=frz∧∀ n∈frz,look st.heap n≠none) ∧
      ∀ {I0:Nat→Prop} {B:Nat} {A:Nat→Option Place} {w:World} {a:Act} {Q:Exit→Act→World→Prop},Mem I0 B A st.heap w→a.tmps.size=st.tmps.length →
        (∀ t∈o.looksAt ops,Ah (A3 I0 B A w) w (st.tmps.getD t .undef) (a.tmps.getD t undef))→(∀ n ob,(n,ob)∈objs→A n=none) →
        Gm P ops o a w Q fun v w'=>∃ A',G2 I0 B A w objs frz A' w'∧Ah (A3 I0 B A' w') w' d v:=by
  obtain ⟨dst,op,ty,pos,after,guard⟩:=o
  unfold Ih at hs
  cases hc:Ki ops st.tmps ⟨dst,op,ty,pos,after,guard⟩ with
  | none=>simp [hc] at hs
  | some g? =>
  simp only [hc,Ahv] at hs
  dsimp only at hmut
  replace hsp:=hsp g? hc
  dsimp only at hsp
  have quiet:∀ (hs:((Cw E st.heap (dst.getD 0) (fun x=>(E5 (g?.getD true) (Fa st.tmps x)).1) op).bind fun r =>
      bif (r.objs.all fun (n,_)=>(look st.heap n).isNone)&&Ie (r.objs.map (·.1))&&(r.objs.isEmpty||dst.isSome)&&(r.frz.isEmpty||r.frz.all fun n=>(look st.heap n).isSome) then
        some (bif r.objs.isEmpty&&r.frz.isEmpty then !(g?.getD true)||(No (g?.getD true) (Fa st.tmps) op.operands.toList&&r.req) else g?.getD true&&(No (g?.getD true) (Fa st.tmps) op.operands.toList&&r.req),
          ({ tmps:=Og st.tmps dst (Lg g? r.v),heap:=(r.objs.map fun (n,ob)=>(n,false,ob))++Gz st.heap r.frz }:St))
      else none)=some (true,st')),∃ d objs frz,st'.tmps=Og st.tmps dst d∧st'.heap=objs.map (fun (x:Nat × OB)=>(x.1,false,x.2))++Gz st.heap frz ∧
      (∀ n ob,(n,ob)∈objs→look st.heap n=none)∧(objs.map (·.1)).Nodup∧(D2 E ops st ⟨dst,op,ty,pos,after,guard⟩=frz∧∀ n∈frz,look st.heap n≠none) ∧
      ∀ {I0:Nat→Prop} {B:Nat} {A:Nat→Option Place} {w:World} {a:Act} {Q:Exit→Act→World→Prop},Mem I0 B A st.heap w→a.tmps.size=st.tmps.length →
        (∀ t∈Oper.looksAt ops ⟨dst,op,ty,pos,after,guard⟩,Ah (A3 I0 B A w) w (st.tmps.getD t .undef) (a.tmps.getD t undef))→(∀ n ob,(n,ob)∈objs→A n=none) →
        Gm P ops ⟨dst,op,ty,pos,after,guard⟩ a w Q fun v w'=>∃ A',G2 I0 B A w objs frz A' w'∧Ah (A3 I0 B A' w') w' d v:=by
    intro hs
    cases hq:Cw E st.heap (dst.getD 0) (fun x=>(E5 (g?.getD true) (Fa st.tmps x)).1) op with
    | none=>simp [hq] at hs
    | some r =>
      simp only [hq,Ahv] at hs
      by_cases hcc:((r.objs.all fun (n,_)=>(look st.heap n).isNone)&&Ie (r.objs.map (·.1))&&(r.objs.isEmpty||dst.isSome)&&(r.frz.isEmpty||r.frz.all fun n=>(look st.heap n).isSome))=true
      · rw [hcc,Ahn,Ahq,Ahw] at hs
        obtain ⟨hreq,rfl⟩:=hs
        simp only [Ahy,Bool.or_eq_true,List.isEmpty_iff,Option.isNone_iff_eq_none,List.all_eq_true] at hcc
        obtain ⟨⟨⟨h1,h2⟩,h3⟩,h4⟩:=hcc
        replace hreq:(!(g?.getD true)||(No (g?.getD true) (Fa st.tmps) op.operands.toList&&r.req))=true∧(r.objs=[]∨g?.getD true=true)∧(r.frz=[]∨g?.getD true=true):=by
          cases ho:r.objs.isEmpty&&r.frz.isEmpty with
          | true =>
            rw [ho,Ahn] at hreq
            simp only [Ahy,List.isEmpty_iff] at ho
            exact ⟨hreq,.inl ho.1,.inl ho.2⟩
          | false =>
            rw [ho,Ahr,Ahy] at hreq
            exact ⟨by rw [hreq.2,Bool.or_true],.inr hreq.1,.inr hreq.1⟩
        refine ⟨Lg g? r.v,r.objs,r.frz,rfl,rfl,fun n ob hn=>h1 (n,ob) hn,Gw h2,⟨by unfold D2; dsimp only; rw [hmut,hc]; simp only [Ahr,hq],fun n hn e=>?_⟩,?_⟩
        · rcases h4 with h4 | h4
          · rw [h4] at hn; cases hn
          · have:=h4 n hn; rw [e] at this; cases this
        intro I0 B A w a Q hm hsz hrd hnew
        exact Ac6 he hm (Ow hrd) (Z8 hsz hrd hc) hq hreq.1 hreq.2.1 hreq.2.2 hnew (Gw h2)
      · simp only [Bool.not_eq_true] at hcc; rw [hcc] at hs; cases hs
  cases op
  case pick c x y =>
    simp only at hs
    split at hs
    · rename_i c' hsc
      cases hp:Zo c' (Fa st.tmps x) (Fa st.tmps y) with
      | none=>simp [hp] at hs
      | some rv =>
        obtain ⟨r,v⟩:=rv
        simp only [hp,Ahv,Ahq,Ahw] at hs
        obtain ⟨hreq,rfl⟩:=hs
        refine ⟨Lg g? v,[],[],rfl,rfl,fun n ob hn=>(by cases hn),List.nodup_nil,⟨by unfold D2; dsimp only [O2]; rw [hc]; rfl,fun n hn=>(by cases hn)⟩,?_⟩
        intro I0 B A w a Q hm hsz hrd hnew
        have hr:=Ow (w:=w) hrd
        refine Gm.mono (Af4 (hr c (by simp [Op.operands])) (hr x (by simp [Op.operands])) (hr y (by simp [Op.operands])) (Z8 hsz hrd hc) hsc hp hreq) ?_
        rintro u w' ⟨rfl,hu⟩
        exact ⟨A,G2.refl (.inl rfl),hu⟩
    · cases hs
  case store=>simp [O2] at hmut
  case call c =>
    obtain ⟨callee,args,ts⟩:=c
    cases callee
    case builtin b =>
      cases b
      case append=>simp [O2] at hmut
      all_goals (dsimp only at hs; rw [hsp] at hs; exact quiet hs)
    all_goals (dsimp only at hs; rw [hsp] at hs; exact quiet hs)
  all_goals (dsimp only at hs; rw [hsp] at hs; exact quiet hs)
end
end Go.Den
namespace Go.Den
open Go.RowKit (Below)
theorem Jl (a b:Cg) (n:Nat):look (a++b) n=match look a n with | some x=>some x | none=>look b n:=by
  induction a with
  | nil=>rfl
  | cons x a ih =>
    obtain ⟨m,y⟩:=x
    simp only [List.cons_append,look]
    cases m==n<;>simp [ih]
theorem U0 (h:Cg) (m n:Nat):look (match look h m with | some (_,o)=>Vu h m (true,o) | none=>h) n=(look h n).map fun x=>(x.1||decide (n=m),x.2):=by
  cases hm:look h m with
  | none =>
    simp only
    cases hn:look h n with
    | none=>rfl
    | some x =>
      have:n≠m:=fun e=>by rw [e,hm] at hn; cases hn
      simp [this]
  | some x =>
    obtain ⟨f,o⟩:=x
    simp only
    rw [El hm]
    by_cases e:n=m
    · subst e; simp [hm]
    · rw [if_neg e]
      cases look h n with
      | none=>rfl
      | some x=>simp [e]
theorem Lt:∀ (ns:List Nat) (h:Cg) (n:Nat),look (Gz h ns) n=(look h n).map fun x=>(x.1||decide (n∈ns),x.2)
  | [],h,n=>by
    unfold Gz
    simp
  | m::ns,h,n=>by
    have e:Gz h (m::ns)=Gz (match look h m with | some (_,o)=>Vu h m (true,o) | none=>h) ns:=rfl
    rw [e,Lt ns,U0]
    cases look h n with
    | none=>rfl
    | some x=>simp [Bool.or_assoc]
theorem Pz {objs:List (Nat × OB)}:∀ {n:Nat} {x:Bool × OB},look (objs.map (fun (x:Nat × OB)=>(x.1,false,x.2))) n=some x→∃ ob,(n,ob)∈objs∧x=(false,ob):=by
  induction objs with
  | nil=>intro n x h; cases h
  | cons y l ih =>
    intro n x h
    simp only [List.map_cons,look] at h
    by_cases e:y.1=n
    · rw [show (y.1==n)=true by simpa using e] at h
      simp only [Ahn,Ahq] at h
      exact ⟨y.2,by rw [← e]; exact List.mem_cons_self,h.symm⟩
    · rw [show (y.1==n)=false by simpa using e] at h
      obtain ⟨ob,h1,h2⟩:=ih h
      exact ⟨ob,List.mem_cons_of_mem _ h1,h2⟩
theorem R0 {objs:List (Nat × OB)} {n:Nat} (h:look (objs.map (fun (x:Nat × OB)=>(x.1,false,x.2))) n=none):∀ ob,(n,ob) ∉ objs:=by
  induction objs with
  | nil=>intro ob h; cases h
  | cons y l ih =>
    intro ob hm
    simp only [List.map_cons,look] at h
    by_cases e:y.1=n
    · rw [show (y.1==n)=true by simpa using e] at h; simp at h
    · rw [show (y.1==n)=false by simpa using e] at h
      rcases List.mem_cons.1 hm with rfl | hm
      · exact e rfl
      · exact ih h ob hm
theorem Aa9 {α:Type} {l:List (Nat × α)} (h:(l.map (·.1)).Nodup) {n:Nat} {x y:α} (h1:(n,x)∈l) (h2:(n,y)∈l):x=y:=by
  have e1:=Mo h h1
  have e2:=Mo h h2
  rw [e1] at e2; exact Option.some.inj e2
structure Mc (P:Program) (E:Env) (ops:Array Oper) (draw:Bool) (st:St) (o:Oper) (st':St) (d:DV):Prop where
  tmps:st'.tmps=Og st.tmps o.dst d
  there:draw=true→∀ n,n∈D2 E ops st o→look st.heap n≠none
  stays:∀ n,look st.heap n≠none→look st'.heap n≠none
  same:draw=true→∀ n,n ∉ D2 E ops st o→look st.heap n≠none→look st'.heap n=look st.heap n
  run:∀ {I0:Nat→Prop} {B:Nat} {A:Nat→Option Place} {w:World} {a:Act} {Q:Exit→Act→World→Prop},Mem I0 B A st.heap w→a.tmps.size=st.tmps.length →
    (∀ t∈o.looksAt ops,Ah (A3 I0 B A w) w (st.tmps.getD t .undef) (a.tmps.getD t undef))→(∀ n,look st.heap n=none→look st'.heap n≠none→A n=none) →
    Gm P ops o a w Q fun v w'=>∃ A',Mem I0 B A' st'.heap w'∧Ga A w A' w'∧Below B w w'∧Ah (A3 I0 B A' w') w' d v ∧
      (∀ n p,A' n=some p→A n=none→look st.heap n=none∧look st'.heap n≠none) ∧
      (draw=true→Mt (D2 E ops st o) A w w'∧∀ m q,m ∉ D2 E ops st o→A m=some q→A' m=some q)
section
variable {P:Program} {E:Env}
theorem Wc (he:Hb P E) {ops:Array Oper} {draw:Bool} {st st':St} {o:Oper} (hs:Ih E ops draw st o=some (true,st')) (hmut:O2 o.op=false)
    (hsp:∀ g?,Ki ops st.tmps o=some g?→(bif draw then none else Hy E (Fa st.tmps) g? o.op)=none) :
    ∃ d,Mc P E ops draw st o st' d:=by
  obtain ⟨d,objs,frz,h1,h2,h3,h4,h5,h6⟩:=stepQ he hs hmut hsp
  obtain ⟨hm0,h5'⟩:=h5
  have hlk:∀ n,look st'.heap n=match look (objs.map (fun (x:Nat × OB)=>(x.1,false,x.2))) n with | some x=>some x | none=>(look st.heap n).map fun x=>(x.1||decide (n∈frz),x.2):=by
    intro n; rw [h2,Jl,Lt]
  have hold:∀ n,look st.heap n≠none→look st'.heap n=(look st.heap n).map fun x=>(x.1||decide (n∈frz),x.2):=by
    intro n hn
    rw [hlk]
    cases hq:look (objs.map (fun (x:Nat × OB)=>(x.1,false,x.2))) n with
    | none=>rfl
    | some x =>
      obtain ⟨ob,hob,_⟩:=Pz hq
      exact absurd (h3 n ob hob) hn
  have hobj:∀ n ob,(n,ob)∈objs→look st'.heap n=some (false,ob):=by
    intro n ob hob
    rw [hlk]
    cases hq:look (objs.map (fun (x:Nat × OB)=>(x.1,false,x.2))) n with
    | none=>exact absurd hob (R0 hq ob)
    | some x =>
      obtain ⟨ob',hob',rfl⟩:=Pz hq
      rw [Aa9 h4 hob hob']
  refine ⟨d,h1,fun _ n hn=>h5' n (hm0 ▸ hn),fun n hn=>?_,fun hd n hf hn=>?_,?_⟩
  · rw [hold n hn]
    cases hq:look st.heap n with
    | none=>exact absurd hq hn
    | some x=>simp
  · rw [hm0] at hf
    rw [hold n hn]
    cases look st.heap n with
    | none=>rfl
    | some x=>simp [hf]
  · intro I0 B A w a Q hm hsz hrd hnew
    have hnew':∀ n ob,(n,ob)∈objs→A n=none:=fun n ob hob=>hnew n (h3 n ob hob) (by rw [hobj n ob hob]; simp)
    refine (h6 hm hsz hrd hnew').mono ?_
    rintro v w' ⟨A',hg,hv⟩
    have hmem:Mem I0 B A' st'.heap w':=by
      refine hg.mem hm (fun n p fo' hp hl=>?_) (fun n ob fo' hob hn hl=>?_)
      · rw [hlk] at hl
        cases hq:look (objs.map (fun (x:Nat × OB)=>(x.1,false,x.2))) n with
        | some x =>
          obtain ⟨ob,hob,_⟩:=Pz hq
          rw [hnew' n ob hob] at hp; cases hp
        | none =>
          rw [hq] at hl
          cases hf:look st.heap n with
          | none=>rw [hf] at hl; cases hl
          | some fo=>rw [hf] at hl; cases hl; exact ⟨fo,rfl,rfl⟩
      · rw [hobj n ob hob] at hl; cases hl; rfl
    refine ⟨A',hmem,hg.moved,hg.below.mono hm.hB,hv,fun n p hp hn=>?_,fun hd=>⟨fun m q b _ hq hqd hqb=>hg.below.block b (hm.blkB m q b hq hqd hqb).2,fun m q hmf hq=>?_⟩⟩
    · obtain ⟨_,_,ob,hob,_⟩:=hg.new n p hn hp
      exact ⟨h3 n ob hob,by rw [hobj n ob hob]; simp⟩
    · have:=hg.old m q hq
      rw [this]
      rw [hm0] at hmf
      cases q
      simp [S3,hmf]
end
end Go.Den
namespace Go.Den
open Go.RowKit (Below)
section
variable {P:Program} {E:Env}
theorem Lh {o:Oper} {y:Nat→Option Bool} (h:o.guard=none):Region.wanted o y=true:=by
  unfold Region.wanted; rw [h]
theorem N0 {ops:Array Oper} {l:List DV} {o:Oper} (h:Ki ops l o=some none):o.guard=none:=by
  unfold Ki at h
  split at h
  · assumption
  · split at h
    · split at h<;>cases h
    · cases h
structure Md (ns:List Nat) (nm:Option Nat) (h h':Cg):Prop where
  there:∀ m,m∈ns→look h m≠none
  stays:∀ m,look h m≠none→look h' m≠none
  same:∀ m,m ∉ ns→some m≠nm→look h' m=look h m
theorem I2 {h:Cg} {n:Nat} {x y:Bool × OB} (hl:look h n=some x):Md [n] none h (Vu h n y) where
  there:=fun m hm=>by rw [List.mem_singleton.1 hm,hl]; simp
  stays:=fun m hm=>by rw [El hl]; split<;>simp_all
  same:=fun m hm _=>by rw [El hl,if_neg (fun e=>hm (by rw [e]; exact List.mem_singleton.2 rfl))]
theorem Mg {h:Cg} {nm:Nat} {x:Bool × OB}:Md [] (some nm) h ((nm,x)::h) where
  there:=fun m hm=>by cases hm
  stays:=fun m hm=>by simp only [look]; cases nm==m<;>simp [hm]
  same:=fun m _ hne=>by
    simp only [look]
    rw [show (nm==m)=false by simpa using fun e:nm=m=>hne (by rw [e])]; rfl
theorem S8 {h:Cg} {n nm:Nat} {x y z:Bool × OB} (hl:look h n=some x):Md [n] (some nm) h ((nm,z)::Vu h n y) where
  there:=(I2 (y:=y) hl).there
  stays:=fun m hm=>Mg.stays m ((I2 (y:=y) hl).stays m hm)
  same:=fun m hm hne=>by rw [Mg.same m (by simp) hne,(I2 (y:=y) hl).same m hm (by simp)]
theorem V7 {h h':Cg} {t:TypeId} {a v:DV} {r:Bool} (hs:Pj E h t a v=some (r,h')):Md (Adl a) none h h':=by
  unfold Pj at hs
  cases hT:E.ty t with
  | none=>simp [hT] at hs
  | some ti =>
  simp only [hT,Ahv] at hs
  cases hc:(Jv v&&(cells v).length==ti.size&&(cells v).all Ng) with
  | false=>rw [hc] at hs; simp at hs
  | true =>
  rw [hc,Ahn] at hs
  split at hs
  · rename_i n i j
    split at hs
    · rename_i cs hlk
      cases hq:(i==0&&decide (j+ti.size≤cs.length)) with
      | false=>rw [hq] at hs; simp at hs
      | true =>
        rw [hq,Ahn,Ahq,Ahw] at hs
        obtain ⟨_,rfl⟩:=hs
        exact I2 hlk
    · rename_i e k l hlk
      split at hs
      · rename_i k' x
        cases hq:(j==0&&decide (k=k')) with
        | false=>rw [hq] at hs; simp at hs
        | true =>
          rw [hq,Ahn,Ahq,Ahw] at hs
          obtain ⟨_,rfl⟩:=hs
          exact I2 hlk
      · cases hs
    · rename_i e sz l hlk
      cases hlow:H5 h (cells v) with
      | none=>simp [hlow] at hs
      | some q =>
      obtain ⟨vs,ns⟩:=q
      simp only [hlow,Ahv] at hs
      cases hq:(decide (j+ti.size≤sz)&&ns.isEmpty) with
      | false=>rw [hq] at hs; simp at hs
      | true =>
        rw [hq,Ahn,Ahq,Ahw] at hs
        obtain ⟨_,rfl⟩:=hs
        exact I2 hlk
    · cases hs
  · cases hs
theorem Vo {h h':Cg} {nm:Nat} {t:TypeId} {s x v:DV} {r:Bool} (ha:Jq E h nm t s x=some (r,v,h')):Md (Ux s) (some nm) h h'∧look h nm=none:=by
  unfold Jq at ha
  split at ha
  · rename_i e _ hT
    cases hE:E.ty e with
    | none=>simp [hE] at ha
    | some ei =>
    simp only [hE,Ahv] at ha
    cases hq:(decide (ei.bytes≤128)&&decide (0<ei.size)&&(look h nm).isNone) with
    | false=>rw [hq] at ha; simp at ha
    | true =>
    rw [hq,Ahn] at ha
    simp only [Ahy,Ahu,Option.isNone_iff_eq_none] at hq
    refine ⟨?_,hq.2⟩
    split at ha
    · split at ha
      · rename_i k hk
        cases hs1:(ei.size==1) with
        | false=>rw [hs1] at ha; simp at ha
        | true =>
        rw [hs1,Ahn] at ha
        cases hel:J3 h k x with
        | none=>simp [hel] at ha
        | some l =>
          simp only [hel,Ahv,Ahq,Ahw] at ha
          obtain ⟨_,_,rfl⟩:=ha
          exact Mg
      · cases hel:J2 h ei.size x with
        | none=>simp [hel] at ha
        | some l =>
          simp only [hel,Ahv,Ahq,Ahw] at ha
          obtain ⟨_,_,rfl⟩:=ha
          exact Mg
    · rename_i n
      split at ha
      · rename_i e' k l' hlo
        cases hel:J3 h k x with
        | none=>simp [hel] at ha
        | some l =>
          simp only [hel,Ahv] at ha
          cases hc:(e==e'&&ei.size==1) with
          | false=>rw [hc] at ha; simp at ha
          | true =>
            rw [hc,Ahn] at ha
            simp only [Ahq,Ahw] at ha
            obtain ⟨_,_,rfl⟩:=ha
            exact S8 hlo
      · rename_i e' sz l' hlo
        cases hel:J2 h sz x with
        | none=>simp [hel] at ha
        | some l =>
          simp only [hel,Ahv] at ha
          cases hc:(e==e'&&sz==ei.size) with
          | false=>rw [hc] at ha; simp at ha
          | true =>
            rw [hc,Ahn] at ha
            simp only [Ahq,Ahw] at ha
            obtain ⟨_,_,rfl⟩:=ha
            exact S8 hlo
      · cases ha
    · cases ha
  · cases ha
theorem Qs {h h':Cg} {nm:Nat} {t:TypeId} {s x v:DV} {r:Bool} (ha:Jq E h nm t s x=some (r,v,h')):(look h' nm).isSome=true:=by
  have push:∀ {y:Bool × OB} {k:Cg},(look ((nm,y)::k) nm).isSome=true:=by intro y k; simp [look]
  unfold Jq at ha
  split at ha
  · rename_i e _ hT
    cases hE:E.ty e with
    | none=>simp [hE] at ha
    | some ei =>
    simp only [hE,Ahv] at ha
    cases hq:(decide (ei.bytes≤128)&&decide (0<ei.size)&&(look h nm).isNone) with
    | false=>rw [hq] at ha; simp at ha
    | true =>
    rw [hq,Ahn] at ha
    split at ha
    · split at ha
      · rename_i k hk
        cases hs1:(ei.size==1) with
        | false=>rw [hs1] at ha; simp at ha
        | true =>
        rw [hs1,Ahn] at ha
        cases hel:J3 h k x with
        | none=>simp [hel] at ha
        | some l =>
          simp only [hel,Ahv,Ahq,Ahw] at ha
          obtain ⟨_,_,rfl⟩:=ha
          exact push
      · cases hel:J2 h ei.size x with
        | none=>simp [hel] at ha
        | some l =>
          simp only [hel,Ahv,Ahq,Ahw] at ha
          obtain ⟨_,_,rfl⟩:=ha
          exact push
    · rename_i n
      split at ha
      · rename_i e' k l' hlo
        cases hel:J3 h k x with
        | none=>simp [hel] at ha
        | some l =>
          simp only [hel,Ahv] at ha
          cases hc:(e==e'&&ei.size==1) with
          | false=>rw [hc] at ha; simp at ha
          | true =>
            rw [hc,Ahn] at ha
            simp only [Ahq,Ahw] at ha
            obtain ⟨_,_,rfl⟩:=ha
            exact push
      · rename_i e' sz l' hlo
        cases hel:J2 h sz x with
        | none=>simp [hel] at ha
        | some l =>
          simp only [hel,Ahv] at ha
          cases hc:(e==e'&&sz==ei.size) with
          | false=>rw [hc] at ha; simp at ha
          | true =>
            rw [hc,Ahn] at ha
            simp only [Ahq,Ahw] at ha
            obtain ⟨_,_,rfl⟩:=ha
            exact push
      · cases ha
    · cases ha
  · cases ha
theorem Wa (he:Hb P E) {ops:Array Oper} {draw:Bool} {st st':St} {dst:Option Tmp} {t:TypeId} {x y:Operand} {ty:TypeId} {pos:String} {after:Array Edge} {guard:Option (Nat × Bool)}
    (hs:Ih E ops draw st ⟨dst,.store t x y,ty,pos,after,guard⟩=some (true,st')):∃ d,Mc P E ops draw st ⟨dst,.store t x y,ty,pos,after,guard⟩ st' d:=by
  unfold Ih at hs
  cases hc:Ki ops st.tmps ⟨dst,.store t x y,ty,pos,after,guard⟩ with
  | none=>simp [hc] at hs
  | some g? =>
  cases g? with
  | some b=>simp [hc] at hs
  | none =>
  have hg:=N0 hc
  dsimp only at hg
  simp only [hc,Ahv] at hs
  cases hst:Pj E st.heap t (Fa st.tmps x) (Fa st.tmps y) with
  | none=>simp [hst] at hs
  | some rh =>
  obtain ⟨r,h'⟩:=rh
  simp only [hst,Ahv,Ahq,Ahw] at hs
  obtain ⟨rfl,rfl⟩:=hs
  have ht:=V7 hst
  refine ⟨.undef,rfl,fun _=>ht.there,ht.stays,fun _ n hn _=>ht.same n hn (by simp),?_⟩
  intro I0 B A w a Q hm hsz hrd hnew
  have hr:=Ow (w:=w) hrd
  obtain ⟨w',hrun,h1,h2,h3,h4,h5,h6,h7⟩:=Aam he.ty hm (hr x (by simp [Op.operands])) (hr y (by simp [Op.operands])) hst rfl
  intro K hK
  rw [if_pos (Lh hg)]
  unfold Oper.wp execOp
  simp only [Sem.run_bind,Sem.run_pure,Result.andThen_ok,hrun]
  rw [Oper.upon_skip]
  refine hK undef w' ⟨A,h1,h2,h3,by simp [Ah],fun n p hp hn=>(by rw [hn] at hp; cases hp),fun _=>⟨h5,fun m q _ hq=>hq⟩⟩
theorem Uj (he:Hb P E) {ops:Array Oper} {draw:Bool} {st st':St} {dst:Option Tmp} {args:Array Operand} {ts:Array TypeId} {ty:TypeId} {pos:String} {after:Array Edge} {guard:Option (Nat × Bool)}
    (hs:Ih E ops draw st ⟨dst,.call ⟨.builtin .append,args,ts⟩,ty,pos,after,guard⟩=some (true,st')):∃ d,Mc P E ops draw st ⟨dst,.call ⟨.builtin .append,args,ts⟩,ty,pos,after,guard⟩ st' d:=by
  unfold Ih at hs
  cases hc:Ki ops st.tmps ⟨dst,.call ⟨.builtin .append,args,ts⟩,ty,pos,after,guard⟩ with
  | none=>simp [hc] at hs
  | some g? =>
  simp only [hc,Ahv] at hs
  split at hs
  · rename_i s x t t' hargs hts
    have hg:=N0 hc
    dsimp only at hg
    cases hq:(t==t'&&dst.isSome) with
    | false=>rw [hq] at hs; simp at hs
    | true =>
    rw [hq,Ahn] at hs
    simp only [Ahy,beq_iff_eq] at hq
    obtain ⟨rfl,hdst⟩:=hq
    cases hap:Jq E st.heap (dst.getD 0) t (Fa st.tmps s) (Fa st.tmps x) with
    | none=>simp [hap] at hs
    | some rh =>
    obtain ⟨r,v,h'⟩:=rh
    simp only [hap,Ahv,Ahq,Ahw] at hs
    obtain ⟨rfl,rfl⟩:=hs
    obtain ⟨ht,hnone⟩:=Vo hap
    have hmut:D2 E ops st ⟨dst,.call ⟨.builtin .append,args,ts⟩,ty,pos,after,guard⟩=Ux (Fa st.tmps s):=by
      unfold D2 mutD; simp only [hargs,O2,Ahn]
    obtain rfl:args=#[s,x]:=by
      cases args with | mk l=>simp only at hargs; rw [hargs]
    obtain rfl:ts=#[t,t]:=by
      cases ts with | mk l=>simp only at hts; rw [hts]
    refine ⟨v,rfl,fun _ n hn=>ht.there n (hmut ▸ hn),ht.stays,fun _ n hn hl=>ht.same n (hmut ▸ hn) (fun e=>hl ?_),?_⟩
    · cases dst with
      | none=>cases hdst
      | some d=>simp only [Option.getD_some] at e hnone; cases e; exact hnone
    · intro I0 B A w a Q hm hsz hrd hnew
      have hr:=Ow (w:=w) hrd
      have hnm:A (dst.getD 0)=none:=hnew _ hnone (by
        have:=Qs hap
        exact fun e=>by rw [e] at this; cases this)
      obtain ⟨v',w',A',hrun,h1,h2,h3,h4,h5,h6,h7,h8,_⟩:=Zb (ty:=ty) he.ty hm hnm (hr s (by simp [Op.operands,Call.operands])) (hr x (by simp [Op.operands,Call.operands])) hap rfl
      intro K hK
      rw [if_pos (Lh hg)]
      unfold Oper.wp execOp
      simp only [resolve,invoke,builtin,Sem.run_bind,Sem.run_pure,Result.andThen_ok,List.map_toArray,List.map_cons,List.map_nil,hrun]
      rw [Oper.upon_value]
      refine hK v' w' ⟨A',h1,h2,h3,h4,fun n p hp hn=>?_,fun _=>⟨hmut ▸ h7,fun m q hmn hq=>h8 m q (hmut ▸ hmn) hq⟩⟩
      have:=h5 n p hp hn
      subst this
      exact ⟨hnone,fun e=>by have:=Qs hap; rw [e] at this; cases this⟩
  · cases hs
theorem Lp {c c':Ctx} {w w':World} (h:Ib c w c' w') {p:Place} (hb:p.st≠.dead→∀ b,p.E1=some b→w'.heap[b]?=w.heap[b]?) {fo:Bool × OB} (hr:B2 c w p fo):B2 c' w' p fo:=by
  by_cases hd:p.st=.dead
  · obtain ⟨fz,ob⟩:=fo
    cases ob with
    | dead=>exact hd
    | box cs=>exact absurd hd (A9 hr.1)
    | ints e k l=>exact absurd hd (A9 hr.1)
    | recs e sz l=>exact absurd hd (A9 hr.1)
  · exact B2.Cc h rfl rfl (hb hd) fo hr
theorem Ul {ρ:Operand→DV} {g?:Option Bool} {op:Op} {n:Nat} {e:TypeId} (h:Hy E ρ g? op=some (n,e)) :
    g?=none∧∃ f args ts g x r c,op=.call ⟨.value f,args,ts⟩∧args.toList=[x]∧ρ f=.fn g [] []∧E.spoil g=some e∧ρ x=.agg [.int .i64 r,.int .i64 c,.oref n]:=by
  unfold Hy at h
  split at h
  · rename_i f args ts
    split at h
    · rename_i g x hf ha
      split at h
      · rename_i e' r c m he hx
        simp only [Ahq,Ahw] at h
        obtain ⟨rfl,rfl⟩:=h
        exact ⟨rfl,f,args,ts,g,x,r,c,rfl,ha,hf,he,hx⟩
      · cases h
    · cases h
  · cases h
theorem Wb (he:Hb P E) {ops:Array Oper} {draw:Bool} {st st':St} {o:Oper} (hs:Ih E ops draw st o=some (true,st'))
    (hsp:¬ ∀ g?,Ki ops st.tmps o=some g?→(bif draw then none else Hy E (Fa st.tmps) g? o.op)=none):∃ d,Mc P E ops draw st o st' d:=by
  obtain ⟨dst,op,ty,pos,after,guard⟩:=o
  rw [Classical.not_forall] at hsp
  obtain ⟨g?,hsp⟩:=hsp
  rw [Classical.not_imp] at hsp
  obtain ⟨hc,hsp⟩:=hsp
  cases draw with
  | true=>exact absurd rfl hsp
  | false =>
  dsimp only at hsp
  rw [Ahr] at hsp
  cases hsa:Hy E (Fa st.tmps) g? op with
  | none=>exact absurd hsa hsp
  | some ne =>
  obtain ⟨n,e⟩:=ne
  obtain ⟨rfl,f,args,ts,g,x,r,c,rfl,hargs,hf,hE,hx⟩:=Ul hsa
  unfold Ih at hs
  simp only [hc,Ahv,Ahr,hsa] at hs
  have hg:=N0 hc
  dsimp only at hg
  split at hs
  · rename_i e' l hlk
    cases hee:(e==e') with
    | false=>rw [hee] at hs; simp at hs
    | true =>
    rw [hee,Ahn,Ahq,Ahw] at hs
    obtain ⟨_,rfl⟩:=hs
    obtain rfl:e=e':=by simpa using hee
    have ht:=I2 (y:=(false,OB.dead)) hlk
    refine ⟨.undef,rfl,fun h=>(by cases h),ht.stays,fun h=>(by cases h),?_⟩
    intro I0 B A w a Q hm hsz hrd hnew
    have hr:=Ow (w:=w) hrd
    have hf':=hr f (by simp [Op.operands,Call.operands])
    have hx':=hr x (by simp [Op.operands,Call.operands]; exact .inr (by rw [← Array.mem_toList_iff,hargs]; simp))
    rw [hf] at hf'
    rw [hx] at hx'
    simp only [Ah] at hf' hx'
    obtain ⟨fs,cs,hfv,hfs,hcs⟩:=hf'
    obtain ⟨vs,hxv,hvs⟩:=hx'
    have e1:fs=#[]:=by
      have:=hfs.length; simp at this; exact Array.eq_empty_of_size_eq_zero this.symm
    have e2:cs=#[]:=by
      have:=hcs.length; simp at this; exact Array.eq_empty_of_size_eq_zero this.symm
    subst e1; subst e2
    simp only [At,Ah] at hvs
    obtain ⟨u1,us1,h1,rfl,u2,us2,rfl,rfl,v,us3,rfl,⟨hcell,p,hp,hpd⟩,rfl⟩:=hvs
    have hp:A n=some p:=hp
    have hvs':vs=#[.int .i64 r,.int .i64 c,v]:=Array.toList_inj.1 (by simpa using h1)
    subst hvs'
    obtain ⟨hlive,sv,hkind,hown⟩:=C2 hm hp hlk
    simp only [Bool.false_eq_true,if_false] at hlive
    have hsv:v=sv:=by
      rcases hpd with hpd | ⟨size,hk⟩
      · rw [hlive] at hpd; cases hpd
      · rw [hkind] at hk; cases hk; rfl
    subst hsv
    have hblk:p.E1=v.ownBlock:=by unfold Place.E1; rw [hkind]
    have hrun:=(he.spoil g e hE).run w r c v l (Np hown (Nat.zero_le _))
    let A':Nat→Option Place:=fun m=>if m=n then some ⟨.dead,p.kind⟩ else A m
    have hA':∀ {m:Nat} {q:Place},A' m=some q→q.st≠.dead→m≠n∧A m=some q:=by
      intro m q hq hqd
      by_cases hmn:m=n
      · have hq:(if m=n then some ⟨.dead,p.kind⟩ else A m)=some q:=hq
        rw [if_pos hmn] at hq; cases hq; exact absurd rfl hqd
      · have hq:(if m=n then some ⟨.dead,p.kind⟩ else A m)=some q:=hq
        rw [if_neg hmn] at hq; exact ⟨hmn,hq⟩
    intro K hK
    rw [if_pos (Lh hg)]
    obtain rfl:args=#[x]:=by
      cases args with | mk l=>simp only at hargs; rw [hargs]
    refine C4.wp (K':=fun _ w'=>Below 0 w w'∧∀ b,b<w.heap.size→v.ownBlock≠some b→w'.heap[b]?=w.heap[b]?) ?_ ?_
    · unfold C4
      have hexec:(execOp a.eval ⟨dst,.call ⟨.value f,#[x],ts⟩,ty,pos,after,guard⟩).run P w=.ok (.enter g #[.agg #[.int .i64 r,.int .i64 c,v]]) w:=by
        simp only [execOp,resolve,hfv,Deferred.ofValue,Sem.run_bind,Sem.run_pure,Result.andThen_ok,invoke]
        have:(#[]++Array.map a.eval #[x]++#[]:Array Value)=#[.agg #[.int .i64 r,.int .i64 c,v]]:=by simp [hxv]
        rw [this]
        exact (he.spoil g e hE).call _ _
      rw [hexec]
      exact hrun.mono fun en w' ⟨⟨u,hu⟩,hb,hk⟩=>⟨u,hu,hb,hk⟩
    · rintro u w' ⟨hb,hk⟩
      have hmv:Ga A w A' w':=by
        refine ⟨hb.size,fun m q hq=>?_,fun m q b hq hql hqb _=>?_,fun b hlt hno=>hk b hlt (fun h=>hno n p hp hlive (by rw [hblk]; exact h))⟩
        · by_cases hmn:m=n
          · subst hmn
            exact ⟨⟨.dead,p.kind⟩,if_pos rfl,.inl rfl⟩
          · refine ⟨q,(if_neg hmn).trans hq,?_⟩
            by_cases hd:q.st=.dead
            · exact .inl hd
            · exact .inr ⟨hd,rfl⟩
        · obtain ⟨_,hq⟩:=hA' hq (by rw [hql]; simp)
          exact ⟨m,q,hq,hql,hqb⟩
      refine hK u w' ⟨A',⟨Nat.le_trans hm.hB hb.size,hm.I0lt,fun m q fo hq hlo=>?_,fun m q b hq hqd hqb=>?_,fun m m' q q' b hq hq' hqd hqd' hqb hqb'=>?_⟩,hmv,⟨hb.os,hb.tape,hb.output,hb.size,fun b hlt=>hk b (Nat.lt_of_lt_of_le hlt hm.hB) fun h=>?_⟩,by simp [Ah],fun m q hq hn=>?_,fun h=>(by cases h)⟩
      · rw [El hlk] at hlo
        by_cases hmn:m=n
        · rw [if_pos hmn] at hlo; cases hlo
          have hq:(if m=n then some ⟨.dead,p.kind⟩ else A m)=some q:=hq
          rw [if_pos hmn] at hq; cases hq
          rfl
        · rw [if_neg hmn] at hlo
          have hq:(if m=n then some ⟨.dead,p.kind⟩ else A m)=some q:=hq
          rw [if_neg hmn] at hq
          refine Lp hmv.Cc (fun hd b hb'=>hk b (hm.blkB m q b hq hd hb').2 fun h=>hmn (hm.inj m n q p b hq hp hd (by rw [hlive]; simp) hb' (by rw [hblk]; exact h))) (hm.obj m q fo hq hlo)
      · obtain ⟨_,hq⟩:=hA' hq hqd
        have:=hm.blkB m q b hq hqd hqb
        exact ⟨this.1,Nat.lt_of_lt_of_le this.2 hb.size⟩
      · obtain ⟨_,hq⟩:=hA' hq hqd
        obtain ⟨_,hq'⟩:=hA' hq' hqd'
        exact hm.inj m m' q q' b hq hq' hqd hqd' hqb hqb'
      · have:=(hm.blkB n p b hp (by rw [hlive]; simp) (by rw [hblk]; exact h)).1
        omega
      · by_cases hmn:m=n
        · subst hmn; rw [hp] at hn; cases hn
        · have hq:(if m=n then some ⟨.dead,p.kind⟩ else A m)=some q:=hq
          rw [if_neg hmn,hn] at hq; cases hq
  · cases hs
theorem Rh (he:Hb P E) {ops:Array Oper} {draw:Bool} {st st':St} {o:Oper} (hs:Ih E ops draw st o=some (true,st')):∃ d,Mc P E ops draw st o st' d:=by
  cases hmut:O2 o.op with
  | false =>
    by_cases hsp:∀ g?,Ki ops st.tmps o=some g?→(bif draw then none else Hy E (Fa st.tmps) g? o.op)=none
    · exact Wc he hs hmut hsp
    · exact Wb he hs hsp
  | true =>
    obtain ⟨dst,op,ty,pos,after,guard⟩:=o
    dsimp only at hmut
    unfold O2 at hmut
    split at hmut
    · exact Wa he hs
    · exact Uj he hs
    · cases hmut
end
end Go.Den
namespace Go.Den
open Go.RowKit (Below)
structure Gt (S I0:Nat→Prop) (B:Nat) (w0:World) (A:Nat→Option Place) (f:Nat→Option (Bool × OB)) (g:Nat→DV) (len:Nat) (a:Act) (w:World):Prop where
  defers:a.defers=[]
  size:a.tmps.size=len
  below:Below B w0 w
  hB:B≤w.heap.size
  I0lt:∀ b,I0 b→b<B
  obj:∀ n p,A n=some p→∃ fo,f n=some fo∧B2 (A3 I0 B A w) w p fo
  blkB:∀ n p b,A n=some p→p.st≠.dead→p.E1=some b→B≤b∧b<w.heap.size
  inj:∀ n m p q b,A n=some p→A m=some q→p.st≠.dead→q.st≠.dead→p.E1=some b→q.E1=some b→n=m
  tmps:∀ t,Ah (A3 I0 B A w) w (g t) (a.tmps.getD t undef)
  kept:∀ b,S b→b<w.heap.size∧w.heap[b]?=w0.heap[b]?∧∀ n p,A n=some p→p.st=.live→p.E1≠some b
theorem Ts {S:Nat→Prop} {A A':Nat→Option Place} {w0 w w':World} (h:∀ b,S b→b<w.heap.size∧w.heap[b]?=w0.heap[b]?∧∀ n p,A n=some p→p.st=.live→p.E1≠some b) (hm:Ga A w A' w') :
    ∀ b,S b→b<w'.heap.size∧w'.heap[b]?=w0.heap[b]?∧∀ n p,A' n=some p→p.st=.live→p.E1≠some b:=fun b hb=>by
  obtain ⟨k1,k2,k3⟩:=h b hb
  refine ⟨Nat.lt_of_lt_of_le k1 hm.size,(hm.kept b k1 k3).trans k2,fun n p hp hl hbk=>?_⟩
  obtain ⟨m,q,hq,hql,hqb⟩:=hm.live n p b hp hl hbk k1
  exact k3 m q hq hql hqb
section
variable {P:Program} {E:Env} {S I0:Nat→Prop} {B:Nat} {w0:World} {A:Nat→Option Place} {f f':Nat→Option (Bool × OB)} {g g':Nat→DV} {len:Nat} {a:Act} {w:World}
theorem Gt.mem (h:Gt S I0 B w0 A f g len a w) {hp:Cg} (hf:∀ n p fo,A n=some p→look hp n=some fo→f n=some fo):Mem I0 B A hp w :=
  ⟨h.hB,h.I0lt,fun n p fo hn hl=>by
    obtain ⟨fo',h1,h2⟩:=h.obj n p hn
    rw [hf n p fo hn hl] at h1; cases h1; exact h2,h.blkB,h.inj⟩
theorem W7 {dst:Option Tmp} {v:Value} {t:Nat}:(a.put dst v).tmps.getD t undef=if dst=some t∧t<a.tmps.size then v else a.tmps.getD t undef:=by
  cases dst with
  | none=>simp [Act.put]
  | some d =>
    simp only [Act.put,Ahq,Array.getD_eq_getD_getElem?]
    by_cases h:d=t
    · subst h
      by_cases h2:d<a.tmps.size
      · simp [h2]
      · simp [h2]
    · rw [Array.getElem?_setIfInBounds_ne h,if_neg (fun e=>h e.1)]
theorem Tv {l:List DV} {dst:Option Nat} {d:DV} {t:Nat}:(Og l dst d).getD t .undef=if dst=some t∧t<l.length then d else l.getD t .undef:=by
  cases dst with
  | none=>simp [Og]
  | some e =>
    simp only [Og,Ahq,Ahx]
    by_cases h:e=t
    · subst h
      by_cases h2:e<l.length
      · simp [h2]
      · simp [h2]
    · rw [List.getElem?_set_ne h,if_neg (fun e=>h e.1)]
theorem Wr {dst:Option Tmp} {v:Value}:(a.put dst v).tmps.size=a.tmps.size:=by cases dst<;>simp [Act.put]
theorem put_defers {dst:Option Tmp} {v:Value}:(a.put dst v).defers=a.defers:=by cases dst<;>rfl
theorem Qe {l:List DV} {dst:Option Nat} {d:DV}:(Og l dst d).length=l.length:=by cases dst<;>simp [Og]
theorem Gt.step {ops:Array Oper} {st st':St} {o:Oper} {d:DV} (h:Gt S I0 B w0 A f g len a w) (hk:Mc P E ops true st o st' d)
    (h1:∀ n,A n≠none→look st.heap n≠none→look st.heap n=f n)
    (h2:∀ t∈o.looksAt ops,st.tmps.getD t .undef=g t) (h3:st.tmps.length=len)
    (h4:∀ n,look st.heap n=none→look st'.heap n≠none→f n=none)
    (h5:∀ n,look st'.heap n≠none→(n∈D2 E ops st o∨look st.heap n=none)→f' n=look st'.heap n)
    (h6:∀ n,n ∉ D2 E ops st o→¬(look st.heap n=none∧look st'.heap n≠none)→f' n=f n)
    (h7:∀ t,g' t=if o.dst=some t∧t<len then d else g t) {Q:Exit→Act→World→Prop} :
    Gm P ops o a w Q fun v w'=>∃ A',Gt S I0 B w0 A' f' g' len (a.put o.dst v) w':=by
  have hm:Mem I0 B A st.heap w:=h.mem fun n p fo hn hl=>by
    rw [← h1 n (by rw [hn]; simp) (by rw [hl]; simp)]; exact hl
  refine (hk.run hm (h.size.trans h3.symm) (fun t ht=>by rw [h2 t ht]; exact h.tmps t) (fun n hn hn'=>?_)).mono ?_
  · cases hA:A n with
    | none=>rfl
    | some p =>
      obtain ⟨fo,hfo,_⟩:=h.obj n p hA
      rw [h4 n hn hn'] at hfo; cases hfo
  · rintro v w' ⟨A',hm',hmv,hb,hv,hnew,hdr⟩
    obtain ⟨hkept,hsame⟩:=hdr rfl
    have hlater:=hmv.Cc (I0:=I0) (B:=B)
    refine ⟨A',put_defers.trans h.defers,Wr.trans h.size,h.below.trans hb,hm'.hB,hm'.I0lt,fun n p hp=>?_,hm'.blkB,hm'.inj,fun t=>?_,Ts h.kept hmv⟩
    · have Im:look st'.heap n≠none→(n∈D2 E ops st o∨look st.heap n=none)→∃ fo,f' n=some fo∧B2 (A3 I0 B A' w') w' p fo:=by
        intro hl ht
        cases hq:look st'.heap n with
        | none=>exact absurd hq hl
        | some fo=>exact ⟨fo,by rw [h5 n hl ht,hq],hm'.obj n p fo hp hq⟩
      cases hA:A n with
      | none =>
        obtain ⟨e1,e2⟩:=hnew n p hp hA
        exact Im e2 (.inr e1)
      | some q =>
        obtain ⟨fo,hfo,hr⟩:=h.obj n q hA
        by_cases hmu:n∈D2 E ops st o
        · exact Im (hk.stays n (hk.there rfl n hmu)) (.inl hmu)
        · have hs:=hsame n q hmu hA
          rw [hp] at hs; cases hs
          refine ⟨fo,?_,Lp hlater (fun hd b hb=>hkept n _ b hmu hA hd hb) hr⟩
          rw [h6 n hmu (fun e=>by rw [h4 n e.1 e.2] at hfo; cases hfo)]; exact hfo
    · rw [W7,h7,h.size]
      split
      · exact hv
      · exact Ah.Cc hlater _ _ (h.tmps t)
def D1 (S I0:Nat→Prop) (B:Nat) (w0:World) (st:St) (a:Act) (w:World):Prop:=∃ A,Gt S I0 B w0 A (look st.heap) (fun t=>st.tmps.getD t .undef) st.tmps.length a w
theorem D1.step {ops:Array Oper} {draw:Bool} {st st':St} {o:Oper} {d:DV} (h:D1 S I0 B w0 st a w) (hk:Mc P E ops draw st o st' d) {Q:Exit→Act→World→Prop} :
    Gm P ops o a w Q fun v w'=>D1 S I0 B w0 st' (a.put o.dst v) w':=by
  obtain ⟨A,h⟩:=h
  have hm:Mem I0 B A st.heap w:=h.mem fun n p fo hn hl=>hl
  refine (hk.run hm h.size (fun t _=>h.tmps t) (fun n hn _=>?_)).mono ?_
  · cases hA:A n with
    | none=>rfl
    | some p =>
      obtain ⟨fo,hfo,_⟩:=h.obj n p hA
      rw [hn] at hfo; cases hfo
  · rintro v w' ⟨A',hm',hmv,hb,hv,hnew,_⟩
    have hlater:=hmv.Cc (I0:=I0) (B:=B)
    refine ⟨A',put_defers.trans h.defers,Wr.trans (h.size.trans (by rw [hk.tmps,Qe])),h.below.trans hb,hm'.hB,hm'.I0lt,fun n p hp=>?_,hm'.blkB,hm'.inj,fun t=>?_,Ts h.kept hmv⟩
    · have hl:look st'.heap n≠none:=by
        cases hA:A n with
        | none=>exact (hnew n p hp hA).2
        | some q =>
          obtain ⟨fo,hfo,_⟩:=h.obj n q hA
          exact hk.stays n (by rw [hfo]; simp)
      cases hq:look st'.heap n with
      | none=>exact absurd hq hl
      | some fo=>exact ⟨fo,rfl,hm'.obj n p fo hp hq⟩
    · rw [W7,hk.tmps,Tv,h.size]
      split
      · exact hv
      · exact Ah.Cc hlater _ _ (h.tmps t)
end
end Go.Den
namespace Go.Den
open Go.RowKit (Below)
theorem H4 {n:Nat}:∀ {l:List Nat},It n l=true↔n∈l
  | []=>by simp [It]
  | m::l=>by
    simp only [It,List.mem_cons]
    by_cases h:n=m
    · subst h; simp
    · rw [show Nat.beq n m=false from by cases hb:Nat.beq n m with | false=>rfl | true=>exact absurd (Ah5 hb) h]
      simp only [Ahr,H4,h,false_or]
theorem Nw {n:Nat} {l:List Nat}:It n l=false↔n ∉ l:=by rw [← H4]; simp
section
variable {α:Type} {val:Nat→α} {touch S S':Nat→Prop}
open Classical in
def after (val:Nat→α) (touch S:Nat→Prop):Nat→α
  | 0=>val 0
  | k+1=>if S k∧touch k then val (k+1) else after val touch S k
theorem Js {N:Nat} (h:∀ j,j<N→touch j→(S j↔S' j)):after val touch S N=after val touch S' N:=by
  induction N with
  | zero=>rfl
  | succ k ih =>
    simp only [after]
    by_cases ht:touch k
    · rw [ih fun j hj=>h j (by omega)]
      by_cases hs:S k
      · rw [if_pos ⟨hs,ht⟩,if_pos ⟨(h k (by omega) ht).1 hs,ht⟩]
      · rw [if_neg (fun e=>hs e.1),if_neg (fun e=>hs ((h k (by omega) ht).2 e.1))]
    · rw [if_neg (fun e=>ht e.2),if_neg (fun e=>ht e.2)]
      exact ih fun j hj=>h j (by omega)
theorem T9:∀ {k:Nat},(∀ j,j<k→¬ touch j→val (j+1)=val j)→(∀ j,j<k→touch j→S j)→after val touch S k=val k
  | 0,_,_=>rfl
  | k+1,hv,h=>by
    simp only [after]
    by_cases ht:touch k
    · rw [if_pos ⟨h k (by omega) ht,ht⟩]
    · rw [if_neg (fun e=>ht e.2),T9 (fun j hj=>hv j (by omega)) (fun j hj=>h j (by omega)),hv k (by omega) ht]
theorem N8 {k:Nat}:∀ {N:Nat},k≤N→(∀ j,k≤j→j<N→touch j→¬ S j)→after val touch S N=after val touch S k
  | 0, hk, _ => by obtain rfl:k=0:=by omega
                   rfl
  | N+1,hk,h=>by
    by_cases e:k=N+1
    · rw [e]
    · simp only [after]
      rw [if_neg (fun e'=>h N (by omega) (by omega) e'.2 e'.1)]
      exact N8 (by omega) fun j h1 h2=>h j h1 (by omega)
theorem H9 {k N:Nat} (hv:∀ j,j<N→¬ touch j→val (j+1)=val j) (hk:k≤N) (h:∀ j,j<N→touch j→(S j↔j<k)):after val touch S N=val k:=by
  rw [N8 hk fun j h1 h2 h3 h4=>by have:=(h j h2 h3).1 h4; omega]
  exact T9 (fun j hj=>hv j (by omega)) fun j h1 h2=>(h j (by omega) h2).2 h1
theorem Sq {k N:Nat} (hk:k<N) (ht:touch k) (hs:S k) (h:∀ j,k<j→j<N→touch j→¬ S j):after val touch S N=val (k+1):=by
  rw [N8 (k:=k+1) (by omega) fun j h1 h2=>h j (by omega) h2]
  simp only [after]
  rw [if_pos ⟨hs,ht⟩]
end
theorem H6 {p:Nat→Bool}:∀ {h:Cg} {n:Nat},look (h.filter fun x=>p x.1) n=bif p n then look h n else none
  | [],n=>by simp [look]
  | (m,x)::h,n=>by
    simp only [List.filter_cons,look]
    by_cases e:m=n
    · subst e
      cases hp:p m<;>simp [look,H6,hp]
    · rw [show (m==n)=false by simpa using e]
      cases hp:p m
      · simpa using H6
      · simp only [if_true,look,Ahr,show (m==n)=false by simpa using e]
        exact H6
theorem Abi {ms:List Nat} {h:Cg} {n:Nat}:look (Wz ms h) n=if n∈ms then none else look h n:=by
  unfold Wz
  rw [H6 (p:=fun m=>!(It m ms))]
  by_cases hn:n∈ms
  · rw [H4.2 hn,if_pos hn]; rfl
  · rw [Nw.2 hn,if_neg hn]; rfl
theorem Adu {ms:List Nat} {h:Cg} {n:Nat}:look (Agu ms h) n=if n∈ms then look h n else none:=by
  unfold Agu
  rw [H6 (p:=fun m=>It m ms)]
  by_cases hn:n∈ms
  · rw [H4.2 hn,if_pos hn]; rfl
  · rw [Nw.2 hn,if_neg hn]; rfl
theorem Adt {h:Cg} {n:Nat} {x:Bool × OB} (hl:look h n=some x):(n,x)∈h:=by
  induction h with
  | nil=>cases hl
  | cons y h ih =>
    obtain ⟨m,z⟩:=y
    simp only [look] at hl
    by_cases e:m=n
    · subst e; simp at hl; subst hl; exact List.mem_cons_self
    · rw [show (m==n)=false by simpa using e] at hl
      exact List.mem_cons_of_mem _ (ih hl)
structure Saw (P:Program) (E:Env) (ops:Array Oper) (ms:List Nat) (st:St) (o:Oper) (st':St) (mk mk':St) (d:DV):Prop where
  ok:Mc P E ops true mk o mk' d
  seen:mk=Jz ms st
  tmps:mk.tmps=st.tmps
  tmps':st'.tmps=mk'.tmps
  mask:∀ n,look mk.heap n=if n∈ms then none else look st.heap n
  out:∀ n,look mk'.heap n≠none→n ∉ ms
  heap:∀ n,look st'.heap n=if n∈ms then look st.heap n else look mk'.heap n
theorem Acs {P:Program} {E:Env} (he:Hb P E) {ops:Array Oper} {ms:List Nat} {st st':St} {o:Oper} (h:V9 E ops ms st o=some (true,st')):∃ mk mk' d,Saw P E ops ms st o st' mk mk' d:=by
  cases ms with
  | nil =>
    simp only [V9] at h
    obtain ⟨d,hd⟩:=Rh he h
    exact ⟨st,st',d,hd,rfl,rfl,rfl,fun n=>by simp,fun n _=>by simp,fun n=>by simp⟩
  | cons m ms =>
    simp only [V9] at h
    cases hs:Ih E ops true ⟨st.tmps,Wz (m::ms) st.heap⟩ o with
    | none=>rw [hs] at h; cases h
    | some r =>
      obtain ⟨r,mk'⟩:=r
      rw [hs] at h
      simp only at h
      cases hc:(mk'.heap.all fun x=>!(It x.1 (m::ms))) with
      | false=>rw [hc] at h; cases h
      | true =>
        rw [hc,Ahn,Ahq,Ahw] at h
        obtain ⟨rfl,rfl⟩:=h
        obtain ⟨d,hd⟩:=Rh he hs
        have hout:∀ n,look mk'.heap n≠none→n ∉ m::ms:=by
          intro n hn
          cases hq:look mk'.heap n with
          | none=>exact absurd hq hn
          | some x =>
            have:=List.all_eq_true.1 hc _ (Adt hq)
            rw [Bool.not_eq_true'] at this
            exact Nw.1 this
        refine ⟨_,mk',d,hd,rfl,rfl,rfl,fun n=>Abi,hout,fun n=>?_⟩
        show look (mk'.heap++Agu (m::ms) st.heap) n=_
        rw [Jl,Adu]
        by_cases hn:n∈m::ms
        · rw [if_pos hn]
          cases hq:look mk'.heap n with
          | none=>simp [hn]
          | some x=>exact absurd hn (hout n (by rw [hq]; simp))
        · rw [if_neg hn,if_neg hn]
          cases look mk'.heap n<;>rfl
section
variable {P:Program} {E:Env} {ops:Array Oper} {ms:List Nat} {st st' mk mk':St} {o:Oper} {d:DV} (h:Saw P E ops ms st o st' mk mk' d)
include h
theorem Saw.muts {n:Nat} (hn:n∈D2 E ops (Jz ms st) o):look st.heap n≠none∧n ∉ ms:=by
  have h1:=h.ok.there rfl n (by rw [h.seen]; exact hn)
  rw [h.mask] at h1
  by_cases hm:n∈ms
  · rw [if_pos hm] at h1; exact absurd rfl h1
  · rw [if_neg hm] at h1; exact ⟨h1,hm⟩
theorem Saw.stays {n:Nat} (hn:look st.heap n≠none):look st'.heap n≠none:=by
  rw [h.heap]
  by_cases hm:n∈ms
  · rw [if_pos hm]; exact hn
  · rw [if_neg hm]
    exact h.ok.stays n (by rw [h.mask,if_neg hm]; exact hn)
theorem Saw.same {n:Nat} (hn:n ∉ D2 E ops (Jz ms st) o) (hc:¬(look st.heap n=none∧look st'.heap n≠none)):look st'.heap n=look st.heap n:=by
  cases hq:look st.heap n with
  | none =>
    cases hq':look st'.heap n with
    | none=>rfl
    | some x=>exact absurd ⟨hq,by rw [hq']; simp⟩ hc
  | some x =>
    rw [h.heap]
    by_cases hm:n∈ms
    · rw [if_pos hm,hq]
    · rw [if_neg hm]
      have h1:look mk.heap n=some x:=by rw [h.mask,if_neg hm,hq]
      rw [h.ok.same rfl n (by rw [h.seen]; exact hn) (by rw [h1]; simp),h1]
theorem Saw.made {n:Nat} (h1:look st.heap n=none) (h2:look st'.heap n≠none):n ∉ ms:=by
  intro hm
  rw [h.heap,if_pos hm] at h2
  exact h2 h1
theorem Saw.getD {t:Nat}:st'.tmps.getD t .undef=if o.dst=some t∧t<st.tmps.length then d else st.tmps.getD t .undef:=by
  rw [h.tmps',h.ok.tmps,h.tmps,Tv]
theorem Saw.length:st'.tmps.length=st.tmps.length:=by rw [h.tmps',h.ok.tmps,Qe,h.tmps]
end
structure Trace (P:Program) (E:Env) (ops:Array Oper) (D:List (List Nat)) (M:List (Nat × List Nat)) (tr:Nat→St):Prop where
  saw:∀ k o,ops[k]?=some o→∃ mk mk' d,Saw P E ops (Fg D k M) (tr k) o (tr (k+1)) mk mk' d
  muts:∀ k o,ops[k]?=some o→Ls D k=true→∀ n,n∈D2 E ops (Jz (Fg D k M) (tr k)) o→n∈Is k M
theorem Qh {β:Type} {P:Program} {E:Env} (he:Hb P E) {ops:Array Oper} {D:List (List Nat)} {M:List (Nat × List Nat)} {K:St→Option β} {b:β} :
    ∀ (l:List Oper) (k:Nat) (st:St),(∀ j,l[j]?=ops[k+j]?)→Zp E ops D M k l st K=some b →
    ∃ tr:Nat→St,tr 0=st∧K (tr l.length)=some b∧∀ j o,l[j]?=some o→(∃ mk mk' d,Saw P E ops (Fg D (k+j) M) (tr j) o (tr (j+1)) mk mk' d)∧(Ls D (k+j)=true→∀ n,n∈D2 E ops (Jz (Fg D (k+j) M) (tr j)) o→n∈Is (k+j) M)
  | [],k,st,_,h=>⟨fun _=>st,rfl,h,fun j o hj=>(by cases hj)⟩
  | o::l,k,st,hl,h=>by
    simp only [Zp] at h
    cases hs:V9 E ops (Fg D k M) st o with
    | none=>rw [hs] at h; cases h
    | some r =>
      obtain ⟨r,st'⟩:=r
      rw [hs] at h
      simp only at h
      cases hc:(r&&(!(Ls D k)||(D2 E ops (Jz (Fg D k M) st) o).all fun n=>It n (Is k M))) with
      | false=>rw [hc] at h; cases h
      | true =>
        rw [hc,Ahn] at h
        simp only [Ahy,Bool.or_eq_true,Bool.not_eq_true',List.all_eq_true] at hc
        obtain ⟨rfl,hc⟩:=hc
        obtain ⟨tr,h1,h2,h3⟩:=Qh he l (k+1) st' (fun j=>by have:=hl (j+1); simpa [Nat.add_assoc,Nat.add_comm 1 j] using this) h
        refine ⟨fun j=>match j with | 0=>st | j+1=>tr j,rfl,h2,fun j p hj=>?_⟩
        cases j with
        | zero =>
          simp only [List.getElem?_cons_zero,Ahq] at hj
          subst hj
          refine ⟨by show ∃ mk mk' d,Saw P E ops (Fg D k M) st o (tr 0) mk mk' d; rw [h1]; exact Acs he hs,fun hlo n hn=>?_⟩
          rcases hc with hc | hc
          · have hlo':Ls D k=true:=hlo
            rw [hc] at hlo'; cases hlo'
          · exact H4.1 (hc n hn)
        | succ j =>
          rw [List.getElem?_cons_succ] at hj
          have:=h3 j p hj
          rw [show k+(j+1)=k+1+j by omega]
          exact this
end Go.Den
namespace Go.Den
open Go.RowKit (Below)
theorem Nc {ops:Array Oper} {k:Nat} {o:Oper} (h:ops[k]?=some o):(ops.toList.map F4).getD k []=F4 o:=by
  have:ops.toList[k]?=some o:=by simpa using h
  simp [Ahx,this]
theorem Dv {ops:Array Oper} {k i:Nat} (h:i∈(ops.toList.map F4).getD k []):∃ o,ops[k]?=some o∧i∈F4 o:=by
  cases hk:ops[k]? with
  | none =>
    have:ops.toList[k]?=none:=by simpa using hk
    simp [Ahx,this] at h
  | some o=>rw [Nc hk] at h; exact ⟨o,rfl,h⟩
theorem Wx {o:Oper} {i:Nat}:i∈F4 o↔∃ e∈o.after,Region.binds .any e=true∧e.on=i:=by
  unfold F4
  simp only [List.mem_filterMap,Array.mem_toList_iff]
  constructor
  · rintro ⟨e,he,h⟩
    cases hb:Region.binds .any e with
    | false=>rw [hb] at h; simp at h
    | true=>rw [hb] at h; simp at h; exact ⟨e,he,hb,h⟩
  · rintro ⟨e,he,hb,rfl⟩
    exact ⟨e,he,by rw [hb]; rfl⟩
structure N9 (ops:Array Oper):Prop where
  lt:∀ (k:Nat) o,ops[k]?=some o→∀ i∈F4 o,i<k
  once:∀ (k j:Nat) o p t,ops[k]?=some o→ops[j]?=some p→p.dst=some t→o.dst=some t→j=k
  told:∀ (k j:Nat) o p t,ops[k]?=some o→ops[j]?=some p→p.dst=some t→t∈o.looksAt ops→Qx (ops.toList.map F4) j k=true∨Qx (ops.toList.map F4) k j=true
theorem lt_size {ops:Array Oper} {k:Nat} {o:Oper} (h:ops[k]?=some o):k<ops.size:=by
  rcases Nat.lt_or_ge k ops.size with h' | h'
  · exact h'
  · rw [Array.getElem?_eq_none h'] at h; cases h
theorem Xh {ops:Array Oper} (h:Vd ops (ops.toList.map F4)=true):N9 ops:=by
  unfold Vd at h
  simp only [List.all_eq_true,List.mem_range,List.length_map,Array.length_toList] at h
  refine ⟨fun k o hk i hi=>?_,fun k j o p t hk hj hp ho=>?_,fun k j o p t hk hj hp ht=>?_⟩
  · have h1:=h k (lt_size hk)
    rw [Ahy,List.all_eq_true] at h1
    have:=h1.1 i (by rw [Nc hk]; exact hi)
    simpa [Nat.blt_eq] using this
  · have h1:=h k (lt_size hk)
    rw [Ahy,hk] at h1
    have h2:=h1.2
    simp only [List.all_eq_true,List.mem_range] at h2
    have h3:=h2 j (lt_size hj)
    rw [hj] at h3
    simp only [hp,Ahy,Bool.or_eq_true] at h3
    rcases h3.1 with h4 | h4
    · exact Ah5 h4
    · rw [ho] at h4; simp at h4
  · have h1:=h k (lt_size hk)
    rw [Ahy,hk] at h1
    have h2:=h1.2
    simp only [List.all_eq_true,List.mem_range] at h2
    have h3:=h2 j (lt_size hj)
    rw [hj] at h3
    simp only [hp,Ahy,Bool.or_eq_true] at h3
    rcases h3.2 with h4 | h4
    · rw [H4.2 ht] at h4; simp at h4
    · exact h4
theorem T7 {D:List (List Nat)} {i j:Nat} (h:Qx D i j=true):i∈D.getD j []∨∃ m∈D.getD j [],i∈D.getD m []:=by
  unfold Qx at h
  simp only [Bool.or_eq_true,List.any_eq_true] at h
  exact h.imp H4.1 fun ⟨m,h1,h2⟩=>⟨m,h1,H4.1 h2⟩
section
variable {ops:Array Oper} (hd:N9 ops)
include hd
theorem N9.Sp {i j:Nat} (h:Qx (ops.toList.map F4) i j=true):i<j:=by
  rcases T7 h with h | ⟨m,h1,h2⟩
  · obtain ⟨o,ho,hi⟩:=Dv h
    exact hd.lt j o ho i hi
  · obtain ⟨o,ho,hi⟩:=Dv h1
    obtain ⟨p,hp,hj⟩:=Dv h2
    have:=hd.lt j o ho m hi
    have:=hd.lt m p hp i hj
    omega
end
def P8 (ops:Array Oper) (S:Nat→Prop):Prop:=∀ k o,ops[k]?=some o→S k→∀ i∈F4 o,S i
theorem P8.bef {ops:Array Oper} {S:Nat→Prop} (hc:P8 ops S) {k:Nat} (hk:∀ o,ops[k]?=some o→∀ i∈F4 o,S i) {i:Nat} (h:Qx (ops.toList.map F4) i k=true):S i:=by
  rcases T7 h with h | ⟨m,h1,h2⟩
  · obtain ⟨o,ho,hi⟩:=Dv h
    exact hk o ho i hi
  · obtain ⟨o,ho,hi⟩:=Dv h1
    obtain ⟨p,hp,hj⟩:=Dv h2
    exact hc m p hp (hk o ho m hi) i hj
theorem P7 {D:List (List Nat)} {i j:Nat} (h1:i≠j) (h2:Qx D i j≠true) (h3:Qx D j i≠true):Je D i j=true:=by
  unfold Je
  have e1:Nat.beq i j=false:=by
    cases hb:Nat.beq i j with
    | false=>rfl
    | true=>exact absurd (Ah5 hb) h1
  rw [e1,Bool.not_eq_true _ |>.mp h2,Bool.not_eq_true _ |>.mp h3]; rfl
theorem Nv {D:List (List Nat)} {s k n:Nat} (ha:Je D s k=true):∀ {M:List (Nat × List Nat)},n∈Is s M→n∈Fg D k M
  | [],h=>by simp [Is] at h
  | (s',ns)::M,h=>by
    simp only [Is] at h
    simp only [Fg]
    cases hb:Nat.beq s' s with
    | true =>
      have:=Ah5 hb
      subst this
      rw [hb] at h
      rw [ha]
      simp only [Ahn,List.mem_append] at h ⊢
      exact h.imp id (Nv ha)
    | false =>
      rw [hb] at h
      simp only [Ahr] at h
      have:=Nv ha h
      cases Je D s' k
      · exact this
      · exact List.mem_append.2 (.inr this)
theorem Abh {D:List (List Nat)} {s k:Nat} (ha:Je D s k=true) (hk:k<D.length):Ls D s=true:=by
  unfold Ls
  exact List.any_eq_true.2 ⟨k,List.mem_range.2 hk,ha⟩
def Uh (E:Env) (ops:Array Oper) (M:List (Nat × List Nat)) (tr:Nat→St) (n:Nat) (k:Nat):Prop :=
  ∃ o,ops[k]?=some o∧(n∈D2 E ops (Jz (Fg (ops.toList.map F4) k M) (tr k)) o∨(look (tr k).heap n=none∧look (tr (k+1)).heap n≠none))
def Acq (ops:Array Oper) (len:Nat) (t:Nat) (k:Nat):Prop:=t<len∧∃ o,ops[k]?=some o∧o.dst=some t
def Lx (E:Env) (ops:Array Oper) (M:List (Nat × List Nat)) (tr:Nat→St) (S:Nat→Prop) (n:Nat):Option (Bool × OB):=after (fun k=>look (tr k).heap n) (Uh E ops M tr n) S ops.size
def Ta (ops:Array Oper) (tr:Nat→St) (S:Nat→Prop) (t:Nat):DV:=after (fun k=>(tr k).tmps.getD t .undef) (Acq ops (tr 0).tmps.length t) S ops.size
section
variable {P:Program} {E:Env} {ops:Array Oper} {M:List (Nat × List Nat)} {tr:Nat→St} (hd:N9 ops) (T:Trace P E ops (ops.toList.map F4) M tr)
include T
theorem Trace.len {k:Nat} (h:k≤ops.size):(tr k).tmps.length=(tr 0).tmps.length:=by
  induction k with
  | zero=>rfl
  | succ k ih =>
    obtain ⟨mk,mk',d,hs⟩:=T.saw k ops[k] (Ah7 (by omega))
    rw [hs.length,ih (by omega)]
theorem Trace.stays {n j k:Nat} (hj:look (tr j).heap n≠none) (hjk:j≤k) (hk:k≤ops.size):look (tr k).heap n≠none:=by
  induction k with
  | zero => obtain rfl:j=0:=by omega
            exact hj
  | succ k ih =>
    by_cases e:j=k+1
    · rw [← e]; exact hj
    · obtain ⟨mk,mk',d,hs⟩:=T.saw k ops[k] (Ah7 (by omega))
      exact hs.stays (ih (by omega) (by omega))
theorem Trace.Acf {n j:Nat} (hj:j<ops.size) (ht:¬ Uh E ops M tr n j):look (tr (j+1)).heap n=look (tr j).heap n:=by
  obtain ⟨mk,mk',d,hs⟩:=T.saw j ops[j] (Ah7 hj)
  exact hs.same (fun h=>ht ⟨_,Ah7 hj,.inl h⟩) (fun h=>ht ⟨_,Ah7 hj,.inr h⟩)
theorem Trace.valT {t j:Nat} (hj:j<ops.size) (ht:¬ Acq ops (tr 0).tmps.length t j):(tr (j+1)).tmps.getD t .undef=(tr j).tmps.getD t .undef:=by
  obtain ⟨mk,mk',d,hs⟩:=T.saw j ops[j] (Ah7 hj)
  rw [hs.getD,T.len (by omega),if_neg (fun e=>ht ⟨e.2,_,Ah7 hj,e.1⟩)]
theorem Trace.Im {n j:Nat} {o:Oper} (ho:ops[j]?=some o) (ht:Uh E ops M tr n j):(n∈D2 E ops (Jz (Fg (ops.toList.map F4) j M) (tr j)) o∧look (tr j).heap n≠none)∨(look (tr j).heap n=none∧look (tr (j+1)).heap n≠none):=by
  obtain ⟨o',ho',h⟩:=ht
  rw [ho] at ho'; cases ho'
  rcases h with h | h
  · obtain ⟨mk,mk',d,hs⟩:=T.saw j o ho
    exact .inl ⟨h,(hs.muts h).1⟩
  · exact .inr h
theorem Trace.Ad8 {s k n:Nat} {o:Oper} (hs:ops[s]?=some o) (hk:k<ops.size) (ha:Je (ops.toList.map F4) s k=true) (hn:n∈D2 E ops (Jz (Fg (ops.toList.map F4) s M) (tr s)) o):n∈Fg (ops.toList.map F4) k M :=
  Nv ha (T.muts s o hs (Abh ha (by simpa using hk)) n hn)
omit T in
theorem L7 {S:Nat→Prop} (hd:N9 ops) (hc:P8 ops S) {k:Nat} (hk:¬ S k) {j:Nat} (hj:S j) (hlt:k<j):Je (ops.toList.map F4) j k=true:=by
  refine P7 (by omega) (fun e=>?_) (fun e=>?_)
  · have:=hd.Sp e; omega
  · exact hk (hc.bef (fun p hp=>hc j p hp hj) e)
omit T in
theorem Vp {S:Nat→Prop} (hd:N9 ops) (hc:P8 ops S) {k:Nat} {o:Oper} (ho:ops[k]?=some o) (hr:∀ i∈F4 o,S i) {j:Nat} (hj:¬ S j) (hlt:j<k):Je (ops.toList.map F4) j k=true:=by
  refine P7 (by omega) (fun e=>?_) (fun e=>?_)
  · exact hj (hc.bef (fun p hp=>by rw [ho] at hp; cases hp; exact hr) e)
  · have:=hd.Sp e; omega
include hd
variable {S:Nat→Prop} (hc:P8 ops S) {k:Nat} {o:Oper} (ho:ops[k]?=some o) (hk:¬ S k) (hr:∀ i∈F4 o,S i)
include hc ho hk hr
theorem Trace.Agj {n:Nat} (hm:n ∉ Fg (ops.toList.map F4) k M) (h1:look (tr k).heap n≠none) (h2:Lx E ops M tr S n≠none):Lx E ops M tr S n=look (tr k).heap n:=by
  have hkN:=lt_size ho
  refine H9 (val:=fun k=>look (tr k).heap n) (fun j hj ht=>T.Acf hj ht) (by omega) fun j hj ht=>?_
  have hoj:ops[j]?=some ops[j]:=Ah7 hj
  constructor
  · intro hS
    rcases Nat.lt_or_ge j k with h | h
    · exact h
    · have hne:j≠k:=fun e=>hk (e ▸ hS)
      have ha:=L7 hd hc hk hS (by omega)
      rcases T.Im hoj ht with ⟨h3,_⟩ | ⟨h3,_⟩
      · exact absurd (T.Ad8 hoj hkN ha h3) hm
      · exact absurd h3 (T.stays h1 (by omega) (by omega))
  · intro hlt
    refine Classical.byContradiction fun hS=>?_
    have ha:=Vp hd hc ho hr hS hlt
    rcases T.Im hoj ht with ⟨h3,_⟩ | ⟨h3,h4⟩
    · exact hm (T.Ad8 hoj hkN ha h3)
    ·
      refine h2 ?_
      have:Lx E ops M tr S n=look (tr 0).heap n:=by
        refine H9 (k:=0) (val:=fun k=>look (tr k).heap n) (fun j hj ht=>T.Acf hj ht) (by omega) fun i hi hti=>⟨fun hSi=>?_,fun h=>by omega⟩
        exfalso
        have hoi:ops[i]?=some ops[i]:=Ah7 hi
        have hij:i≠j:=fun e=>hS (e ▸ hSi)
        have hji:j<i:=by
          rcases T.Im hoi hti with ⟨_,h5⟩ | ⟨h5,h6⟩
          · rcases Nat.lt_or_ge j i with h | h
            · exact h
            · exact absurd h3 (T.stays h5 h (by omega))
          · rcases Nat.lt_or_ge j i with h | h
            · exact h
            · exact absurd h3 (T.stays h6 (by omega) (by omega))
        have hap:Je (ops.toList.map F4) i j=true:=by
          refine P7 hij (fun e=>?_) (fun e=>?_)
          · have:=hd.Sp e; omega
          · exact hS (hc.bef (fun p hp=>hc i p hp hSi) e)
        rcases T.Im hoi hti with ⟨h5,_⟩ | ⟨h5,_⟩
        · obtain ⟨mk,mk',d,hsj⟩:=T.saw j _ hoj
          exact hsj.made h3 h4 (T.Ad8 hoi hj hap h5)
        · exact absurd h5 (T.stays h4 (by omega) (by omega))
      rw [this]
      cases hq:look (tr 0).heap n with
      | none=>rfl
      | some x=>exact absurd h3 (T.stays (j:=0) (by rw [hq]; simp) (by omega) (by omega))
theorem Trace.tmp_at {t:Nat} (ht:t∈o.looksAt ops):Ta ops tr S t=(tr k).tmps.getD t .undef:=by
  have hkN:=lt_size ho
  refine H9 (val:=fun k=>(tr k).tmps.getD t .undef) (fun j hj h=>T.valT hj h) (by omega) fun j hj hj'=>?_
  obtain ⟨_,p,hp,hdst⟩:=hj'
  rcases hd.told k j o p t ho hp hdst ht with h | h
  · have:=hd.Sp h
    exact ⟨fun _=>this,fun _=>hc.bef (fun p hp=>by rw [ho] at hp; cases hp; exact hr) h⟩
  · have:=hd.Sp h
    exact ⟨fun hS=>absurd (hc.bef (fun p hp=>hc j p hp hS) h) hk,fun h=>by omega⟩
theorem Trace.step {S0 I0:Nat→Prop} {B:Nat} {w0:World} {A:Nat→Option Place} {a:Act} {w:World} (h:Gt S0 I0 B w0 A (Lx E ops M tr S) (Ta ops tr S) (tr 0).tmps.length a w) {Q:Exit→Act→World→Prop} :
    Gm P ops o a w Q fun v w'=>∃ A',Gt S0 I0 B w0 A' (Lx E ops M tr fun j=>S j∨j=k) (Ta ops tr fun j=>S j∨j=k) (tr 0).tmps.length (a.put o.dst v) w':=by
  have hkN:=lt_size ho
  obtain ⟨mk,mk',d,hs⟩:=T.saw k o ho
  have hout:∀ {n},look mk'.heap n≠none→look mk'.heap n=look (tr (k+1)).heap n:=by
    intro n hn
    rw [hs.heap,if_neg (hs.out n hn)]
  refine h.step hs.ok (fun n hA hl=>?_) (fun t ht=>?_) (by rw [hs.tmps,T.len (by omega)]) (fun n h1 h2=>?_) (fun n h1 h2=>?_) (fun n h1 h2=>?_) (fun t=>?_)
  · have hm:n ∉ Fg (ops.toList.map F4) k M:=fun e=>hl (by rw [hs.mask,if_pos e])
    rw [hs.mask,if_neg hm] at hl ⊢
    refine (T.Agj hd hc ho hk hr hm hl ?_).symm
    cases hA':A n with
    | none=>exact absurd hA' hA
    | some p =>
      obtain ⟨fo,hfo,_⟩:=h.obj n p hA'
      rw [hfo]; simp
  · rw [hs.tmps]; exact (T.tmp_at hd hc ho hk hr ht).symm
  ·
    have hm:=hs.out n h2
    rw [hs.mask,if_neg hm] at h1
    rw [hout h2] at h2
    have:Lx E ops M tr S n=look (tr 0).heap n:=by
      refine H9 (k:=0) (val:=fun k=>look (tr k).heap n) (fun j hj ht=>T.Acf hj ht) (by omega) fun i hi hti=>⟨fun hSi=>?_,fun h=>by omega⟩
      exfalso
      have hoi:ops[i]?=some ops[i]:=Ah7 hi
      have hik:i≠k:=fun e=>hk (e ▸ hSi)
      rcases T.Im hoi hti with ⟨h5,h6⟩ | ⟨h5,h6⟩
      · rcases Nat.lt_or_ge i k with hlt | hge
        · exact absurd h1 (T.stays h6 (by omega) (by omega))
        · exact hm (T.Ad8 hoi hkN (L7 hd hc hk hSi (by omega)) h5)
      · rcases Nat.lt_or_ge i k with hlt | hge
        · exact absurd h1 (T.stays h6 (by omega) (by omega))
        · exact absurd h5 (T.stays h2 (by omega) (by omega))
    rw [this]
    cases hq:look (tr 0).heap n with
    | none=>rfl
    | some x=>exact absurd h1 (T.stays (j:=0) (by rw [hq]; simp) (by omega) (by omega))
  · have hm:=hs.out n h1
    rw [hs.mask,if_neg hm,hs.seen] at h2
    have e1:=hout h1
    rw [e1] at h1 ⊢
    have ht:Uh E ops M tr n k:=⟨o,ho,h2.imp id fun e=>⟨e,h1⟩⟩
    refine Sq (val:=fun k=>look (tr k).heap n) hkN ht (.inr rfl) fun i hlt hi hti hSi=>?_
    have hSi:=hSi.resolve_right (by omega)
    have hoi:ops[i]?=some ops[i]:=Ah7 hi
    rcases T.Im hoi hti with ⟨h5,_⟩ | ⟨h5,_⟩
    · exact hm (T.Ad8 hoi hkN (L7 hd hc hk hSi hlt) h5)
    · exact absurd h5 (T.stays h1 (by omega) (by omega))
  · rw [hs.seen] at h1
    refine Js fun j hj ht=>⟨fun h=>h.resolve_right fun e=>?_,.inl⟩
    subst e
    obtain ⟨o',ho',h3⟩:=ht
    rw [ho] at ho'; cases ho'
    rcases h3 with h3 | ⟨h3,h4⟩
    · exact h1 h3
    · have hm:=hs.made h3 h4
      refine h2 ⟨by rw [hs.mask,if_neg hm]; exact h3,?_⟩
      rw [hs.heap,if_neg hm] at h4; exact h4
  · split
    · rename_i ht
      have h1:Ta ops tr (fun j=>S j∨j=k) t=(tr (k+1)).tmps.getD t .undef:=by
        refine Sq (val:=fun k=>(tr k).tmps.getD t .undef) hkN ⟨ht.2,o,ho,ht.1⟩ (.inr rfl) fun i hlt hi hti hSi=>?_
        obtain ⟨_,p,hp,hdst⟩:=hti
        have:=hd.once i k p o t hp ho ht.1 hdst
        omega
      rw [h1,hs.getD,if_pos ⟨ht.1,by rw [T.len (by omega)]; exact ht.2⟩]
    · rename_i ht
      refine Js fun j hj hj'=>⟨fun h=>h.resolve_right fun e=>?_,.inl⟩
      subst e
      obtain ⟨h1,p,hp,hdst⟩:=hj'
      rw [ho] at hp; cases hp
      exact ht ⟨hdst,h1⟩
end
end Go.Den
namespace Go.Den
open Go.RowKit (Below)
section
variable {P:Program} {E:Env} {S I0:Nat→Prop} {B:Nat} {w0:World}
theorem Zr {β:Type} (he:Hb P E) {ops:Array Oper} {draw:Bool} {Q:Exit→Act→World→Prop} {K:St→Option β} {r:β} :
    ∀ (l:List Oper) (k:Nat) (st:St),(∀ j,l[j]?=ops[k+j]?)→Af7 E ops draw l st K=some r→∀ a w,D1 S I0 B w0 st a w →
    (∀ st a w,K st=some r→D1 S I0 B w0 st a w→Q .normal a w)→wpOps P ops Q (List.range' k l.length) a w
  | [],k,st,_,h,a,w,hh,hQ=>hQ st a w h hh
  | o::l,k,st,hl,h,a,w,hh,hQ=>by
    simp only [Af7] at h
    cases hs:Ih E ops draw st o with
    | none=>rw [hs] at h; cases h
    | some x =>
      obtain ⟨b,st'⟩:=x
      rw [hs] at h
      simp only at h
      cases b with
      | false=>cases h
      | true =>
        simp only [Ahn] at h
        obtain ⟨d,hd⟩:=Rh he hs
        have ho:ops[k]?=some o:=by simpa using (hl 0).symm
        rw [List.length_cons,List.range'_succ]
        simp only [wpOps,ho]
        have:=hh.step hd (Q:=Q) (wpOps P ops Q (List.range' (k+1) l.length)) (fun v w' hv=>Zr he l (k+1) st' (fun j=>by have:=hl (j+1); simpa [Nat.add_assoc,Nat.add_comm 1 j] using this) h _ _ hv hQ)
        split
        · rename_i hw; rw [if_pos hw] at this; exact .inl this
        · rename_i hw; rw [if_neg hw] at this; exact this
theorem Gt.congr {A:Nat→Option Place} {f f':Nat→Option (Bool × OB)} {g g':Nat→DV} {len len':Nat} {a:Act} {w:World} (h:Gt S I0 B w0 A f g len a w) (hf:∀ n,f n=f' n) (hg:∀ t,g t=g' t) (hl:len=len'):Gt S I0 B w0 A f' g' len' a w:=by
  obtain rfl:f=f':=funext hf
  obtain rfl:g=g':=funext hg
  subst hl; exact h
def Ij (listed:Array Bool) (j:Nat):Prop:=listed.getD j false=true
theorem Ld {l:Array Bool} {j:Nat} (h:l.getD j true=false):j<l.size∧l.getD j false=false:=by
  rcases Nat.lt_or_ge j l.size with h' | h'
  · refine ⟨h',?_⟩
    simp only [Array.getD_eq_getD_getElem?,Ah7 h',Option.getD_some] at h ⊢; exact h
  · simp [Array.getD_eq_getD_getElem?,Array.getElem?_eq_none h'] at h
theorem P3 {listed:Array Bool} {k:Nat} (hk:k<listed.size) (j:Nat):Ij (listed.setIfInBounds k true) j↔Ij listed j∨j=k:=by
  unfold Ij
  simp only [Array.getD_eq_getD_getElem?]
  by_cases e:k=j
  · subst e; simp [hk]
  · rw [Array.getElem?_setIfInBounds_ne e]
    exact ⟨.inl,fun h=>h.resolve_right (fun h=>e h.symm)⟩
theorem count_set {listed:Array Bool} {k:Nat} (h:listed.getD k true=false):(listed.setIfInBounds k true).toList.count false+1=listed.toList.count false:=by
  obtain ⟨hk,h2⟩:=Ld h
  have hk':k<listed.toList.length:=by simpa using hk
  have hv:listed.toList[k]=false:=by
    simpa [Array.getD_eq_getD_getElem?,Ah7 hk] using h2
  have hp:0<List.count false listed.toList:=List.count_pos_iff.2 (hv ▸ List.getElem_mem hk')
  rw [Array.toList_setIfInBounds,List.count_set hk',hv,if_pos (beq_self_eq_true _),if_neg (by simp)]
  omega
theorem any_ok {ops:Array Oper} {M:List (Nat × List Nat)} {tr:Nat→St} (hd:N9 ops) (T:Trace P E ops (ops.toList.map F4) M tr) {Q:Exit→Act→World→Prop}
    (hQ:∀ a w,D1 S I0 B w0 (tr ops.size) a w→Q .normal a w):∀ (fuel:Nat) (listed:Array Bool) (a:Act) (w:World),listed.size=ops.size→P8 ops (Ij listed)→listed.toList.count false=fuel →
    (∃ A,Gt S I0 B w0 A (Lx E ops M tr (Ij listed)) (Ta ops tr (Ij listed)) (tr 0).tmps.length a w)→wpAny P .any ops Q fuel listed a w:=by
  have last:∀ (listed:Array Bool) (a:Act) (w:World),listed.size=ops.size→Region.ready .any ops listed=[]→(∃ A,Gt S I0 B w0 A (Lx E ops M tr (Ij listed)) (Ta ops tr (Ij listed)) (tr 0).tmps.length a w)→Q .normal a w:=by
    rintro listed a w hsz hr ⟨A,h⟩
    have all:∀ k,k<ops.size→Ij listed k:=by
      intro k
      induction k using Nat.strongRecOn with
      | _ k ih =>
        intro hk
        refine Classical.byContradiction fun hn=>?_
        have:k∈Region.ready .any ops listed:=mem_ready.2 ⟨?_,ops[k],Ah7 hk,fun e he hb=>?_⟩
        · rw [hr] at this; cases this
        · unfold Ij at hn
          have hk':k<listed.size:=by omega
          simp only [Array.getD_eq_getD_getElem?,Ah7 hk',Option.getD_some,Bool.not_eq_true] at hn ⊢
          exact hn
        · have hlt:=hd.lt k ops[k] (Ah7 hk) e.on (Wx.2 ⟨e,he,hb,rfl⟩)
          exact ih e.on hlt (by omega)
    refine hQ a w ⟨A,h.congr (fun n=>?_) (fun t=>?_) (T.len (Nat.le_refl _)).symm⟩
    · exact H9 (val:=fun k=>look (tr k).heap n) (fun j hj ht=>T.Acf hj ht) (Nat.le_refl _) fun j hj _=>⟨fun _=>hj,fun _=>all j hj⟩
    · exact H9 (val:=fun k=>(tr k).tmps.getD t .undef) (fun j hj ht=>T.valT hj ht) (Nat.le_refl _) fun j hj _=>⟨fun _=>hj,fun _=>all j hj⟩
  intro fuel
  induction fuel with
  | zero =>
    intro listed a w hsz hc hf h
    have hr:Region.ready .any ops listed=[]:=by
      refine List.eq_nil_iff_forall_not_mem.2 fun k hk=>?_
      have h1:=count_set (mem_ready.1 hk).1
      omega
    exact ⟨hr,last listed a w hsz hr h⟩
  | succ fuel ih =>
    intro listed a w hsz hc hf h
    refine ⟨fun hr=>last listed a w hsz hr h,fun k hk=>?_⟩
    obtain ⟨hun,o,ho,hall⟩:=mem_ready.1 hk
    obtain ⟨hks,hkf⟩:=Ld hun
    have hkS:¬ Ij listed k:=by unfold Ij; rw [hkf]; simp
    have hrS:∀ i∈F4 o,Ij listed i:=fun i hi=>by
      obtain ⟨e,he,hb,rfl⟩:=Wx.1 hi
      exact hall e he hb
    obtain ⟨A,h⟩:=h
    have hstep:=T.step hd hc ho hkS hrS h (Q:=Q) (wpAny P .any ops Q fuel (listed.setIfInBounds k true)) (fun v w' hv=>by
      obtain ⟨A',hv⟩:=hv
      refine ih _ _ _ (by simp [hsz]) ?_ ?_ ⟨A',hv.congr (fun n=>?_) (fun t=>?_) rfl⟩
      · intro j p hp hj i hi
        rw [P3 hks] at hj ⊢
        rcases hj with hj | rfl
        · exact .inl (hc j p hp hj i hi)
        · rw [ho] at hp; cases hp
          exact .inl (hrS i hi)
      · have:=count_set hun; omega
      · exact Js fun j _ _=>(P3 hks j).symm
      · exact Js fun j _ _=>(P3 hks j).symm)
    unfold wpOp
    rw [ho]
    simp only
    split
    · rename_i hw; rw [if_pos hw] at hstep; exact .inl hstep
    · rename_i hw; rw [if_neg hw] at hstep; exact hstep
theorem D1.drew {st:St} {a:Act} {w:World} (h:D1 S I0 B w0 st a w):D1 S I0 B w0 st a { w with drawn:=w.drawn+1 }:=by
  obtain ⟨A,h⟩:=h
  have hmv:Ga A w A { w with drawn:=w.drawn+1 }:=⟨Nat.le_refl _,(Ga.refl A w).names,(Ga.refl A w).live,fun _ _ _=>rfl⟩
  have hl:=hmv.Cc (I0:=I0) (B:=B)
  exact ⟨A,h.defers,h.size,h.below.trans ⟨rfl,rfl,rfl,Nat.le_refl _,fun _ _=>rfl⟩,h.hB,h.I0lt,fun n p hp=>by
    obtain ⟨fo,h1,h2⟩:=h.obj n p hp
    exact ⟨fo,h1,Lp hl (fun _ _ _=>rfl) h2⟩,h.blkB,h.inj,fun t=>Ah.Cc hl _ _ (h.tmps t),h.kept⟩
theorem Aei {β:Type} (he:Hb P E) {id:Nat} {ops:Array Oper} {Q:Exit→Act→World→Prop} {K:St→Option β} {r:β} {st:St} (h:Aej E ops st K=some r) {a:Act} {w:World} (hh:D1 S I0 B w0 st a w)
    (hQ:∀ st a w,K st=some r→D1 S I0 B w0 st a w→Q .normal a w):(Code.region id ops true).wp P Q a w:=by
  unfold Aej at h
  cases hc:Vd ops (ops.toList.map F4) with
  | false=>rw [hc] at h; cases h
  | true =>
    rw [hc,Ahn] at h
    have hd:=Xh hc
    generalize (bif Yn ops (ops.toList.map F4) 0 ops.toList then U7 E ops 0 ops.toList st else [])=M at h
    obtain ⟨tr,h0,h1,h2⟩:=Qh he ops.toList 0 st (fun j=>by simp) h
    have T:Trace P E ops (ops.toList.map F4) M tr:=⟨fun k o ho=>by
      have:=(h2 k o (by simpa using ho)).1
      rw [Nat.zero_add] at this; exact this,fun k o ho hlo=>by
      have:=(h2 k o (by simpa using ho)).2
      rw [Nat.zero_add] at this; exact this hlo⟩
    refine wp_region_any he.mixed (any_ok hd T (fun a w hw=>hQ _ a w (by simpa using h1) hw) _ _ _ _ (by simp) ?_ (by simp) ?_)
    · intro k o _ hk
      unfold Ij at hk
      simp only [Array.getD_eq_getD_getElem?,Array.getElem?_replicate] at hk
      split at hk<;>cases hk
    · obtain ⟨A,hA⟩:=hh.drew
      subst h0
      refine ⟨A,hA.congr (fun n=>?_) (fun t=>?_) rfl⟩
      · refine (H9 (k:=0) (val:=fun k=>look (tr k).heap n) (fun j hj ht=>T.Acf hj ht) (by omega) fun j hj _=>⟨fun hk=>?_,fun h=>by omega⟩).symm
        unfold Ij at hk
        simp only [Array.getD_eq_getD_getElem?,Array.getElem?_replicate] at hk
        split at hk<;>cases hk
      · refine (H9 (k:=0) (val:=fun k=>(tr k).tmps.getD t .undef) (fun j hj ht=>T.valT hj ht) (by omega) fun j hj _=>⟨fun hk=>?_,fun h=>by omega⟩).symm
        unfold Ij at hk
        simp only [Array.getD_eq_getD_getElem?,Array.getElem?_replicate] at hk
        split at hk<;>cases hk
end
end Go.Den
namespace Go.Den
open Go.RowKit (Below)
def Ctx.only (c:Ctx) (ns:List Nat):Ctx:={ c with at_:=fun n=>if n∈ns then c.at_ n else none }
theorem K2 {n:Nat} {l:List Nat} (h:l.contains n=true):n∈l:=by simpa using h
theorem Ur {c:Ctx} {w:World} (ns:List Nat):∀ (f:Nat) (d:DV) (v:Value),De f ns d=true→Ah c w d v→Ah (c.only ns) w d v:=by
  intro f
  induction f with
  | zero=>intro d v h; simp [De] at h
  | succ f ih =>
    have all:∀ (l:List DV) (vs:List Value),l.all (De f ns)=true→At c w l vs→At (c.only ns) w l vs:=by
      intro l
      induction l with
      | nil=>intro vs _ h; rw [At.Ep] at h ⊢; exact h
      | cons d l ihl =>
        intro vs h hv
        simp only [List.all_cons,Ahy] at h
        rw [At.Bp] at hv ⊢
        obtain ⟨u,us,e,h1,h2⟩:=hv
        exact ⟨u,us,e,ih d u h.1 h1,ihl us h.2 h2⟩
    intro d v h hv
    cases d with
    | agg l =>
      simp only [De] at h
      simp only [Ah] at hv ⊢
      obtain ⟨vs,e,hl⟩:=hv
      exact ⟨vs,e,all l _ h hl⟩
    | tup l =>
      simp only [De] at h
      simp only [Ah] at hv ⊢
      obtain ⟨vs,e,hl⟩:=hv
      exact ⟨vs,e,all l _ h hl⟩
    | fn g a b =>
      simp only [De,Ahy] at h
      simp only [Ah] at hv ⊢
      obtain ⟨fs,cs,e,h1,h2⟩:=hv
      exact ⟨fs,cs,e,all a _ h.1 h1,all b _ h.2 h2⟩
    | gd g d =>
      simp only [De] at h
      simp only [Ah] at hv ⊢
      exact ⟨fun e=>ih d v h (hv.1 e),hv.2⟩
    | oref n =>
      simp only [De] at h
      simp only [Ah] at hv ⊢
      obtain ⟨h1,p,hp,hd⟩:=hv
      exact ⟨h1,p,by simp only [Ctx.only,K2 h,if_true]; exact hp,hd⟩
    | sref n o m =>
      simp only [De] at h
      simp only [Ah] at hv ⊢
      obtain ⟨h1,p,hp,hd⟩:=hv
      exact ⟨h1,p,by simp only [Ctx.only,K2 h,if_true]; exact hp,hd⟩
    | ptr n i j =>
      simp only [De] at h
      simp only [Ah] at hv ⊢
      obtain ⟨h1,p,hp,hd⟩:=hv
      exact ⟨h1,p,by simp only [Ctx.only,K2 h,if_true]; exact hp,hd⟩
    | ints g k l=>cases g<;>(simp only [Ah] at hv ⊢; exact hv)
    | recs g k l=>cases g<;>(simp only [Ah] at hv ⊢; exact hv)
    | undef=>simp only [Ah]
    | _=>simp only [Ah] at hv ⊢; exact hv
def Sg (n:Nat):List (Nat × Nat × Nat × OB)→Option (Nat × Nat × Nat × OB)
  | []=>none
  | x::xs=>if x.2.2.1=n then some x else Sg n xs
theorem P1 {n:Nat}:∀ {l:List (Nat × Nat × Nat × OB)} {x},Sg n l=some x→x∈l∧x.2.2.1=n
  | [],x,h=>by cases h
  | y::l,x,h=>by
    simp only [Sg] at h
    split at h
    · cases h; exact ⟨List.mem_cons_self,‹_›⟩
    · exact ⟨List.mem_cons_of_mem _ (P1 h).1,(P1 h).2⟩
theorem O7:∀ {l:List (Nat × Nat × Nat × OB)} {x},(l.map (·.2.2.1)).Nodup→x∈l→Sg x.2.2.1 l=some x
  | [],x,_,h=>by cases h
  | y::l,x,hn,h=>by
    simp only [List.map_cons,List.nodup_cons] at hn
    simp only [Sg]
    rcases List.mem_cons.1 h with rfl | h
    · rw [if_pos rfl]
    · rw [if_neg (fun e=>hn.1 (by rw [e]; exact List.mem_map.2 ⟨x,h,rfl⟩))]
      exact O7 hn.2 h
theorem Ns {b j nm:Nat}:∀ {l:List (Nat × Nat × Nat × OB)},Hj b j l=some nm→∃ ob,(b,j,nm,ob)∈l
  | [],h=>by cases h
  | (b',j',nm',ob)::l,h=>by
    simp only [Hj] at h
    cases hb:(Nat.beq b b'&&Nat.beq j j') with
    | true =>
      rw [hb] at h
      simp only [Ahn,Ahq] at h
      simp only [Ahy] at hb
      have e1:=Ah5 hb.1
      have e2:=Ah5 hb.2
      subst e1 e2 h
      exact ⟨ob,List.mem_cons_self⟩
    | false =>
      rw [hb] at h
      obtain ⟨ob',h'⟩:=Ns h
      exact ⟨ob',List.mem_cons_of_mem _ h'⟩
theorem Rr {st:St}:∀ {l:List (Nat × Nat × Nat × OB)} {h:Cg} {ns:List Nat},Rs st l=some (h,ns)→(l.map (·.2.2.1)).Nodup→ns.Nodup →
    (∀ x∈l,∃ s ob,Ut st x=some (s,ob)∧look h x.2.2.1=some (false,ob)∧∀ n,s=some n→n∈ns) ∧
    (∀ n fo,look h n=some fo→∃ x∈l,x.2.2.1=n) ∧
    (∀ x∈l,∀ y∈l,∀ n ob ob',Ut st x=some (some n,ob)→Ut st y=some (some n,ob')→x=y)
  | [],h,ns,hs,_,_=>by
    simp only [Rs,Ahq,Ahw] at hs
    obtain ⟨rfl,rfl⟩:=hs
    exact ⟨fun x hx=>(by cases hx),fun n fo hl=>(by cases hl),fun x hx=>(by cases hx)⟩
  | x::l,h,ns,hs,hn,hns=>by
    simp only [Rs] at hs
    cases ho:Ut st x with
    | none=>simp [ho] at hs
    | some r =>
      obtain ⟨s,ob⟩:=r
      cases hl:Rs st l with
      | none=>simp [ho,hl] at hs
      | some r =>
        obtain ⟨h',ns'⟩:=r
        simp only [ho,hl,Ahq,Ahw] at hs
        obtain ⟨rfl,rfl⟩:=hs
        simp only [List.map_cons,List.nodup_cons] at hn
        rw [List.nodup_append] at hns
        obtain ⟨i1,i2,i3⟩:=Rr hl hn.2 hns.2.1
        have hx:∀ y∈l,x.2.2.1≠y.2.2.1:=fun y hy e=>hn.1 (by rw [e]; exact List.mem_map.2 ⟨y,hy,rfl⟩)
        have cross:∀ y∈l,∀ n ob ob',Ut st x=some (some n,ob)→Ut st y=some (some n,ob')→False:=by
          intro y hy n o1 o2 h1 h2
          rw [ho] at h1; cases h1
          obtain ⟨s',ob',h3,_,h4⟩:=i1 y hy
          rw [h2] at h3; cases h3
          exact hns.2.2 n (by simp) n (h4 n rfl) rfl
        refine ⟨fun y hy=>?_,fun n fo hl'=>?_,fun y hy z hz n o1 o2 h1 h2=>?_⟩
        · rcases List.mem_cons.1 hy with rfl | hy
          · exact ⟨s,ob,ho,by simp [look],fun n e=>by rw [e]; simp⟩
          · obtain ⟨s',ob',h1,h2,h3⟩:=i1 y hy
            refine ⟨s',ob',h1,?_,fun n e=>List.mem_append.2 (.inr (h3 n e))⟩
            simp only [look,show (x.2.2.1==y.2.2.1)=false by simpa using hx y hy,Ahr]
            exact h2
        · simp only [look] at hl'
          by_cases e:x.2.2.1=n
          · exact ⟨x,List.mem_cons_self,e⟩
          · rw [show (x.2.2.1==n)=false by simpa using e] at hl'
            obtain ⟨y,hy,hyn⟩:=i2 n fo hl'
            exact ⟨y,List.mem_cons_of_mem _ hy,hyn⟩
        · rcases List.mem_cons.1 hy with e1 | hy2
          · rcases List.mem_cons.1 hz with e2 | hz2
            · rw [e1,e2]
            · exact (cross z hz2 n o1 o2 (e1 ▸ h1) h2).elim
          · rcases List.mem_cons.1 hz with e2 | hz2
            · exact (cross y hy2 n o2 o1 (e2 ▸ h2) h1).elim
            · exact i3 y hy2 z hz2 n o1 o2 h1 h2
theorem Qq {st:St} {H:A0}:∀ {bs:List Nat} {h:Cg},N6 st H bs=some h→bs.Nodup →
    (∀ b∈bs,∃ f cs,look st.heap b=some (f,.box cs)∧Ml H.objs H.boxes (b+1) 0 cs=true∧look h b=some (f,.box (N4 H.objs (b+1) 0 cs)))∧(∀ n fo,look h n=some fo→n∈bs)
  | [],h,hs,_=>by
    simp only [N6,Ahq] at hs
    subst hs
    exact ⟨fun x hx=>(by cases hx),fun n fo hl=>(by cases hl)⟩
  | b::bs,h,hs,hn=>by
    simp only [N6] at hs
    split at hs
    · rename_i f cs hl
      cases hc:Ml H.objs H.boxes (b+1) 0 cs with
      | false=>rw [hc] at hs; cases hs
      | true =>
        rw [hc,Ahn] at hs
        cases hb:N6 st H bs with
        | none=>rw [hb] at hs; cases hs
        | some h' =>
          rw [hb] at hs
          simp only [Ahq] at hs
          subst hs
          simp only [List.nodup_cons] at hn
          obtain ⟨i1,i2⟩:=Qq hb hn.2
          refine ⟨fun c hc'=>?_,fun n fo hl'=>?_⟩
          · rcases List.mem_cons.1 hc' with rfl | hc'
            · exact ⟨f,cs,hl,hc,by simp [look]⟩
            · obtain ⟨f',cs',h1,h2,h3⟩:=i1 c hc'
              refine ⟨f',cs',h1,h2,?_⟩
              have:b≠c:=fun e=>hn.1 (e ▸ hc')
              simp only [look,show (b==c)=false by simpa using this,Ahr]
              exact h3
          · simp only [look] at hl'
            by_cases e:b=n
            · rw [e]; exact List.mem_cons_self
            · rw [show (b==n)=false by simpa using e] at hl'
              exact List.mem_cons_of_mem _ (i2 n fo hl')
    · cases hs
theorem S9 {H:A0}:∀ (l:List DV) (k i:Nat),i<l.length→(Re H k l).getD i .undef=(match Hj 0 (k+i) H.objs with | some nm=>.oref nm | none=>bif It (k+i) H.keep then l.getD i .undef else .undef)
  | [],k,i,h=>by simp at h
  | d::l,k,i,h=>by
    cases i with
    | zero =>
      simp only [Re,List.getD_cons_zero,Nat.add_zero]
      cases Hj 0 k H.objs<;>rfl
    | succ i =>
      have:=S9 (H:=H) l (k+1) i (by simpa using h)
      simp only [Re,List.getD_cons_succ,this]
      rw [show k+1+i=k+(i+1) by omega]
theorem Ko {H:A0}:∀ (l:List DV) (k:Nat),(Re H k l).length=l.length
  | [],k=>rfl
  | d::l,k=>by simp [Re,Ko l]
theorem Rp {H:A0}:∀ {l:List DV} {k i:Nat},Rq H k l=true→i<l.length→Hj 0 (k+i) H.objs=none→It (k+i) H.keep=true→De 8 H.boxes (l.getD i .undef)=true
  | [],k,i,_,h,_,_=>by simp at h
  | d::l,k,i,h,hi,h1,h2=>by
    simp only [Rq,Ahy,Bool.or_eq_true,Bool.not_eq_true'] at h
    cases i with
    | zero =>
      rcases h.1 with h | h | h
      · rw [Nat.add_zero] at h1; rw [h1] at h; cases h
      · rw [Nat.add_zero] at h2; rw [h2] at h; cases h
      · exact h
    | succ i =>
      rw [List.getD_cons_succ]
      exact Rp (k:=k+1) h.2 (by simpa using hi) (by rw [show k+1+i=k+(i+1) by omega]; exact h1) (by rw [show k+1+i=k+(i+1) by omega]; exact h2)
theorem Sm {c c':Ctx} {w:World} {objs:List (Nat × Nat × Nat × OB)} {boxes:List Nat} {b:Nat} :
    ∀ (l:List DV) (vs:List Value) (k:Nat),Ml objs boxes b k l=true→At c w l vs →
    (∀ d v,De 8 boxes d=true→Ah c w d v→Ah c' w d v)→(∀ i nm d v,l[i]?=some d→Hj b (k+i) objs=some nm→Ah c w d v→Ah c' w (.oref nm) v)→At c' w (N4 objs b k l) vs
  | [],vs,k,_,h,_,_=>by rw [At.Ep] at h; subst h; simp [N4,At]
  | d::l,vs,k,hok,h,h1,h2=>by
    simp only [Ml,Ahy,Bool.or_eq_true] at hok
    rw [At.Bp] at h
    obtain ⟨u,us,rfl,hu,hus⟩:=h
    simp only [N4]
    rw [At.Bp]
    refine ⟨u,us,rfl,?_,Sm l us (k+1) hok.2 hus h1 fun i nm e v hi hn=>h2 (i+1) nm e v hi (by rw [show k+(i+1)=k+1+i by omega]; exact hn)⟩
    cases hn:Hj b k objs with
    | some nm=>exact h2 0 nm d u rfl hn hu
    | none =>
      rw [hn] at hok
      exact h1 d u (hok.1.resolve_left (by simp)) hu
end Go.Den
namespace Go.Den
open Go.RowKit (Below)
def obSize:OB→Nat
  | .recs _ sz _=>sz
  | _=>1
def G5 (ob:OB):Place:=⟨.live,.row (.slice none 0 0) (obSize ob)⟩
open Classical in
def Kg (st:St) (H:A0) (A:Nat→Option Place) (n:Nat):Option Place :=
  if n∈H.boxes then A n else
  match Sg n H.objs with
  | some x=>match Oe st x with
    | .nil=>some (G5 x.2.2.2)
    | .oref m=>A m
    | _=>none
  | none=>none
theorem Hm {st:St} {H:A0} {A:Nat→Option Place} {n:Nat} {p:Place} (h:Kg st H A n=some p) :
    (n∈H.boxes∧A n=some p)∨(n ∉ H.boxes∧∃ x∈H.objs,x.2.2.1=n∧((Oe st x=.nil∧p=G5 x.2.2.2)∨∃ m,Oe st x=.oref m∧A m=some p)):=by
  unfold Kg at h
  by_cases hb:n∈H.boxes
  · rw [if_pos hb] at h; exact .inl ⟨hb,h⟩
  · rw [if_neg hb] at h
    refine .inr ⟨hb,?_⟩
    cases hf:Sg n H.objs with
    | none=>rw [hf] at h; cases h
    | some x =>
      rw [hf] at h
      obtain ⟨hx,hn⟩:=P1 hf
      refine ⟨x,hx,hn,?_⟩
      simp only at h
      split at h
      · rename_i e; cases h; exact .inl ⟨e,rfl⟩
      · rename_i m e; exact .inr ⟨m,e,h⟩
      · cases h
theorem Lq {st:St} {x:Nat × Nat × Nat × OB} {s:Option Nat} {ob:OB} (h:Ut st x=some (s,ob)) :
    (Oe st x=.nil∧s=none∧ob=x.2.2.2∧((∃ e k,ob=.ints e k [])∨∃ e sz,0<sz∧ob=.recs e sz [])) ∨
    (∃ m,Oe st x=.oref m∧s=some m∧look st.heap m=some (false,ob)∧((∃ e k l,ob=.ints e k l)∨∃ e sz l,ob=.recs e sz l)):=by
  unfold Ut at h
  split at h
  · rename_i hs
    left
    split at h
    · rename_i e k hx
      simp only [Ahq,Ahw] at h
      exact ⟨hs,h.1.symm,by rw [hx]; exact h.2.symm,.inl ⟨e,k,h.2.symm⟩⟩
    · rename_i e sz hx
      cases hb:Nat.blt 0 sz with
      | false=>rw [hb] at h; cases h
      | true =>
        rw [hb] at h
        simp only [Ahn,Ahq,Ahw] at h
        exact ⟨hs,h.1.symm,by rw [hx]; exact h.2.symm,.inr ⟨e,sz,by simpa [Nat.blt_eq] using hb,h.2.symm⟩⟩
    · cases h
  · rename_i m hs
    right
    split at h
    · rename_i e k l hl
      simp only [Ahq,Ahw] at h
      exact ⟨m,hs,h.1.symm,by rw [hl,h.2],.inl ⟨e,k,l,h.2.symm⟩⟩
    · rename_i e sz l hl
      simp only [Ahq,Ahw] at h
      exact ⟨m,hs,h.1.symm,by rw [hl,h.2],.inr ⟨e,sz,l,h.2.symm⟩⟩
    · cases h
  · cases h
section
variable {S I0:Nat→Prop} {B:Nat} {w0:World}
theorem Ab1 {H:A0} {st st1:St} (h:Y7 (some H) st=some st1) {a:Act} {w:World} (hh:D1 S I0 B w0 st a w):D1 S I0 B w0 st1 a w:=by
  obtain ⟨A,hA⟩:=hh
  simp only [Y7] at h
  cases hbd:N6 st H H.boxes with
  | none=>rw [hbd] at h; cases h
  | some hb =>
  cases hod:Rs st H.objs with
  | none=>rw [hbd,hod] at h; cases h
  | some r =>
  obtain ⟨ho,ns⟩:=r
  rw [hbd,hod] at h
  simp only at h
  cases hc:(Ie (H.boxes++H.objs.map (·.2.2.1))&&Ie ns&&Rq H 0 st.tmps) with
  | false=>rw [hc] at h; cases h
  | true =>
  rw [hc,Ahn,Ahq] at h
  subst h
  simp only [Ahy] at hc
  obtain ⟨⟨hn,hns⟩,hok⟩:=hc
  have hnd:=Gw hn
  rw [List.nodup_append] at hnd
  obtain ⟨hnb,hno,hdis⟩:=hnd
  obtain ⟨o1,o2,o3⟩:=Rr hod hno (Gw hns)
  obtain ⟨b1,b2⟩:=Qq hbd hnb
  have hnin:∀ x∈H.objs,x.2.2.1 ∉ H.boxes:=fun x hx e=>hdis _ e _ (List.mem_map.2 ⟨x,hx,rfl⟩) rfl
  have hat:∀ x∈H.objs,Kg st H A x.2.2.1=match Oe st x with | .nil=>some (G5 x.2.2.2) | .oref m=>A m | _=>none:=by
    intro x hx
    unfold Kg
    rw [if_neg (hnin x hx),O7 hno hx]
  have hokc:∀ b,(A3 I0 B A w).ok b→(A3 I0 B (Kg st H A) w).ok b:=by
    rintro b ⟨h1,h2,h3⟩
    refine ⟨h1,h2,fun n p hp hl=>?_⟩
    rcases Hm hp with ⟨_,hp⟩ | ⟨_,x,_,_,⟨_,rfl⟩ | ⟨m,_,hp⟩⟩
    · exact h3 n p hp hl
    · simp [G5,Place.E1,Value.ownBlock]
    · exact h3 m p hp hl
  have hrefs:∀ d v,De 8 H.boxes d=true→Ah (A3 I0 B A w) w d v→Ah (A3 I0 B (Kg st H A) w) w d v:=by
    intro d v hd hv
    have hl:Ib ((A3 I0 B A w).only H.boxes) w (A3 I0 B (Kg st H A) w) w:=by
     refine ⟨hokc,rfl,rfl,fun _ _ h=>(by cases h),fun n p hp=>?_,fun _ _ _=>rfl,fun _ _ h=>(by cases h)⟩
     simp only [Ctx.only] at hp
     split at hp
     · rename_i hnb'
       refine ⟨p,?_,?_⟩
       · show Kg st H A n=some p
         unfold Kg
         rw [if_pos hnb']; exact hp
       · by_cases hpd:p.st=.dead
         · exact .inl hpd
         · exact .inr ⟨hpd,rfl⟩
     · cases hp
    exact Ah.Cc hl d v (Ur H.boxes 8 d v hd hv)
  have hbare:∀ l rows,B1 (A3 I0 B A w).bare w l rows→B1 (A3 I0 B (Kg st H A) w).bare w l rows:=fun l rows =>
    B1.Cc (c:=(A3 I0 B A w).bare) (c':=(A3 I0 B (Kg st H A) w).bare) (w:=w) (w':=w) ⟨hokc,rfl,rfl,fun _ _ h=>(by cases h),fun _ _ h=>(by cases h),fun _ _ _=>rfl,fun _ _ h=>(by cases h)⟩ l rows
  have hnamed:∀ x∈H.objs,∀ v,Ah (A3 I0 B A w) w (Oe st x) v→Ah (A3 I0 B (Kg st H A) w) w (.oref x.2.2.1) v:=by
    intro x hx v hv
    obtain ⟨s,ob,h1,_,_⟩:=o1 x hx
    have hax:=hat x hx
    rcases Lq h1 with ⟨e,_⟩ | ⟨m,e,_⟩
    · rw [e] at hv hax
      simp only [Ah] at hv ⊢
      subst hv
      exact ⟨rfl,_,hax,.inr ⟨_,rfl⟩⟩
    · rw [e] at hv hax
      simp only [Ah] at hv ⊢
      obtain ⟨h1,p,hp,hd⟩:=hv
      exact ⟨h1,p,hax.trans hp,hd⟩
  refine ⟨Kg st H A,hA.defers,hA.size.trans (Ko _ _).symm,hA.below,hA.hB,hA.I0lt,fun n p hp=>?_,fun n p b hp hd hpb=>?_,fun n m p q b hp hq hpd hqd hpb hqb=>?_,fun t=>?_,fun b hb=>⟨(hA.kept b hb).1,(hA.kept b hb).2.1,fun n p hp hl hbk=>by
    rcases Hm hp with ⟨_,hp⟩ | ⟨_,x,_,_,⟨_,rfl⟩ | ⟨m,_,hp⟩⟩
    · exact (hA.kept b hb).2.2 n p hp hl hbk
    · simp [G5,Place.E1,Value.ownBlock] at hbk
    · exact (hA.kept b hb).2.2 m p hp hl hbk⟩⟩
  · rcases Hm hp with ⟨hnb',hp⟩ | ⟨hnb',x,hx,rfl,hsrc⟩
    · obtain ⟨f,cs,h1,h2,h3⟩:=b1 n hnb'
      obtain ⟨fo,h4,h5⟩:=hA.obj n p hp
      rw [h1] at h4; cases h4
      refine ⟨(f,.box (N4 H.objs (n+1) 0 cs)),by rw [Jl,h3],?_⟩
      obtain ⟨hst,b,e,cells,hk,hh,hl⟩:=h5
      refine ⟨hst,b,e,cells,hk,hh,Sm cs _ 0 h2 hl hrefs fun i nm d v hi hnm hv=>?_⟩
      obtain ⟨ob,hx⟩:=Ns hnm
      refine hnamed _ hx v ?_
      have:Oe st (n+1,0+i,nm,ob)=d:=by
        simp [Oe,h1,Ahx,hi]
      rw [this]; exact hv
    · obtain ⟨s,ob,h1,h2,_⟩:=o1 x hx
      have hl:look (hb++ho) x.2.2.1=some (false,ob):=by
        rw [Jl]
        cases hq:look hb x.2.2.1 with
        | none=>exact h2
        | some fo=>exact absurd (b2 _ _ hq) hnb'
      refine ⟨_,hl,?_⟩
      rcases Lq h1 with ⟨e,_,e2,hob⟩ | ⟨m,e,_,hlm,hob⟩
      · rcases hsrc with ⟨_,rfl⟩ | ⟨m,e',_⟩
        · rw [← e2]
          rcases hob with ⟨e,k,rfl⟩ | ⟨e,sz,hsz,rfl⟩
          · exact ⟨rfl,_,rfl,World.ownsRow_nil w B e 1⟩
          · exact ⟨rfl,hsz,_,[],rfl,by simp [B1],fun r hr=>(by cases hr),World.ownsRow_nil w B e sz⟩
        · rw [e] at e'; cases e'
      · rcases hsrc with ⟨e',_⟩ | ⟨m',e',hp'⟩
        · rw [e] at e'; cases e'
        · rw [e] at e'; cases e'
          obtain ⟨fo,h4,h5⟩:=hA.obj m p hp'
          rw [hlm] at h4; cases h4
          rcases hob with ⟨e,k,l,rfl⟩ | ⟨e,sz,l,rfl⟩
          · exact h5
          · obtain ⟨i1,i2,sv,rows,i3,i4,i5,i6⟩:=h5
            exact ⟨i1,i2,sv,rows,i3,hbare _ _ i4,i5,i6⟩
  · rcases Hm hp with ⟨_,hp⟩ | ⟨_,x,hx,rfl,⟨_,rfl⟩ | ⟨m,_,hp⟩⟩
    · exact hA.blkB n p b hp hd hpb
    · simp [G5,Place.E1,Value.ownBlock] at hpb
    · exact hA.blkB m p b hp hd hpb
  · have isBox:∀ n p,n∈H.boxes→A n=some p→∃ b,p.kind=.box b:=by
      intro n p hnb' hp
      obtain ⟨f,cs,h1,_,_⟩:=b1 n hnb'
      obtain ⟨fo,h4,h5⟩:=hA.obj n p hp
      rw [h1] at h4; cases h4
      obtain ⟨_,b,_,_,hk,_⟩:=h5
      exact ⟨b,hk⟩
    have isRow:∀ x∈H.objs,∀ m p,Oe st x=.oref m→A m=some p→∃ sv sz,p.kind=.row sv sz:=by
      intro x hx m p e hp
      obtain ⟨s,ob,h1,_,_⟩:=o1 x hx
      rcases Lq h1 with ⟨e',_⟩ | ⟨m',e',_,hlm,hob⟩
      · rw [e] at e'; cases e'
      · rw [e] at e'; cases e'
        obtain ⟨fo,h4,h5⟩:=hA.obj m p hp
        rw [hlm] at h4; cases h4
        rcases hob with ⟨e,k,l,rfl⟩ | ⟨e,sz,l,rfl⟩
        · obtain ⟨_,sv,hk,_⟩:=h5; exact ⟨sv,1,hk⟩
        · obtain ⟨_,_,sv,_,hk,_⟩:=h5; exact ⟨sv,sz,hk⟩
    have same:∀ m m':Nat,∀ p q:Place,A m=some p→A m'=some q→p.st≠.dead→q.st≠.dead→p.E1=some b→q.E1=some b→m=m':=fun m m' p q h1 h2 h3 h4 h5 h6=>hA.inj m m' p q b h1 h2 h3 h4 h5 h6
    rcases Hm hp with ⟨hnb',hp⟩ | ⟨_,x,hx,rfl,⟨_,rfl⟩ | ⟨i,hi,hp⟩⟩
    · rcases Hm hq with ⟨_,hq⟩ | ⟨_,y,hy,rfl,⟨_,rfl⟩ | ⟨j,hj,hq⟩⟩
      · exact same n m p q hp hq hpd hqd hpb hqb
      · simp [G5,Place.E1,Value.ownBlock] at hqb
      · have e:=same n j p q hp hq hpd hqd hpb hqb
        subst e
        rw [hp] at hq; cases hq
        obtain ⟨b',hk⟩:=isBox n p hnb' hp
        obtain ⟨sv,sz,hk'⟩:=isRow y hy n p hj hp
        rw [hk] at hk'; cases hk'
    · simp [G5,Place.E1,Value.ownBlock] at hpb
    · rcases Hm hq with ⟨hmb,hq⟩ | ⟨_,y,hy,rfl,⟨_,rfl⟩ | ⟨j,hj,hq⟩⟩
      · have e:=same i m p q hp hq hpd hqd hpb hqb
        subst e
        rw [hp] at hq; cases hq
        obtain ⟨b',hk⟩:=isBox i p hmb hp
        obtain ⟨sv,sz,hk'⟩:=isRow x hx i p hi hp
        rw [hk] at hk'; cases hk'
      · simp [G5,Place.E1,Value.ownBlock] at hqb
      · have e:=same i j p q hp hq hpd hqd hpb hqb
        subst e
        obtain ⟨s,ob,h1,_,_⟩:=o1 x hx
        obtain ⟨s',ob',h1',_,_⟩:=o1 y hy
        have hs:s=some i:=by
          rcases Lq h1 with ⟨e',_⟩ | ⟨m',e',e2,_⟩
          · rw [hi] at e'; cases e'
          · rw [hi] at e'; cases e'; exact e2
        have hs':s'=some i:=by
          rcases Lq h1' with ⟨e',_⟩ | ⟨m',e',e2,_⟩
          · rw [hj] at e'; cases e'
          · rw [hj] at e'; cases e'; exact e2
        subst hs hs'
        rw [o3 x hx y hy i ob ob' h1 h1']
  · rcases Nat.lt_or_ge t st.tmps.length with hlt | hge
    · rw [S9 st.tmps 0 t hlt]
      cases hnm:Hj 0 (0+t) H.objs with
      | some nm =>
        obtain ⟨ob,hx⟩:=Ns hnm
        refine hnamed _ hx _ ?_
        have:Oe st (0,0+t,nm,ob)=st.tmps.getD t .undef:=by simp [Oe]
        rw [this]; exact hA.tmps t
      | none =>
        simp only
        cases hk:It (0+t) H.keep with
        | true=>exact hrefs _ _ (Rp hok hlt hnm hk) (hA.tmps t)
        | false=>simp only [Ahr,Ah]
    · rw [Ahx,List.getElem?_eq_none (by rw [Ko]; exact hge)]
      simp only [Option.getD_none,Ah]
theorem Aet {H:A0} {st st1:St} (h:canon (some H) st=some st1) {a:Act} {w:World} (hh:D1 S I0 B w0 st a w):D1 S I0 B w0 st1 a w:=Ab1 (H:=trimH st H) h hh
end
end Go.Den
namespace Go.Den
open Go.RowKit (Below)
section
variable {P:Program} {E:Env} {S I0:Nat→Prop} {B:Nat} {w0:World}
theorem Yv {keep:Option (List Nat)} {st:St} (t:Nat):(forget keep st).tmps.getD t .undef=st.tmps.getD t .undef∨(forget keep st).tmps.getD t .undef=.undef:=by
  cases keep with
  | none=>exact .inl rfl
  | some ks =>
    simp only [forget,Ahx,List.getElem?_map,List.getElem?_zipIdx]
    cases st.tmps[t]? with
    | none=>exact .inl rfl
    | some d =>
      simp only [Option.map_some,Option.getD_some]
      cases ks.contains (0+t)
      · exact .inr rfl
      · exact .inl rfl
theorem S4 {keep:Option (List Nat)} {st:St}:(forget keep st).tmps.length=st.tmps.length:=by
  cases keep<;>simp [forget]
theorem W8 {keep:Option (List Nat)} {st:St}:(forget keep st).heap=st.heap:=by
  cases keep<;>rfl
theorem D1.forget {keep:Option (List Nat)} {st:St} {a:Act} {w:World} (h:D1 S I0 B w0 st a w):D1 S I0 B w0 (forget keep st) a w:=by
  obtain ⟨A,h⟩:=h
  refine ⟨A,h.defers,h.size.trans S4.symm,h.below,h.hB,h.I0lt,by rw [W8]; exact h.obj,h.blkB,h.inj,fun t=>?_,h.kept⟩
  rcases Yv (keep:=keep) (st:=st) t with e | e
  · rw [e]; exact h.tmps t
  · rw [e]; simp only [Ah]
def Ae4 {β:Type} (P:Program) (S I0:Nat→Prop) (B:Nat) (w0:World) (r:β) (c:Code) (body:St→(St→Option β)→(Nat→St→Option β)→(St→Option β)→Option β):Prop :=
  ∀ (st:St) (Kn:St→Option β) (Kx:Nat→St→Option β) (Kr:St→Option β),body st Kn Kx Kr=some r→∀ (a:Act) (w:World),D1 S I0 B w0 st a w→∀ Q:Exit→Act→World→Prop,
    (∀ st a w,Kn st=some r→D1 S I0 B w0 st a w→Q .normal a w)→(∀ id st a w,Kx id st=some r→D1 S I0 B w0 st a w→Q (.exit id) a w) →
    (∀ st a w,Kr st=some r→D1 S I0 B w0 st a w→Q .ret a w)→c.wp P Q a w
theorem T4 {H:Option A0} {st st1:St} (hc:canon H st=some st1) {a:Act} {w:World} (hh:D1 S I0 B w0 st a w):D1 S I0 B w0 st1 a w:=by
  cases H with
  | none=>simp only [canon,Ahq] at hc; subst hc; exact hh
  | some H=>exact Aet hc hh
theorem W5 {β:Type} {r:β} {c:Code} {body:St→(St→Option β)→(Nat→St→Option β)→(St→Option β)→Option β} (hb:Ae4 P S I0 B w0 r c body) {H:Option A0} {Kx:Nat→St→Option β} {Kr:St→Option β}
    {Q:Exit→Act→World→Prop} (hx:∀ id st a w,Kx id st=some r→D1 S I0 B w0 st a w→Q (.exit id) a w) (hr:∀ st a w,Kr st=some r→D1 S I0 B w0 st a w→Q .ret a w) :
    ∀ (n:Nat) (st:St),Sa H body n st Kx Kr=some r→∀ a w,D1 S I0 B w0 st a w→Code.rounds P c Q n a w
  | 0,st,h,_,_,_=>by simp [Sa] at h
  | n+1,st,h,a,w,hh=>by
    simp only [Sa] at h
    rw [rounds_succ]
    refine hb st _ Kx Kr h a w hh _ (fun st2 a2 w2 hk hh2=>?_) (fun id st2 a2 w2 hk hh2=>hx id st2 a2 w2 hk hh2) (fun st2 a2 w2 hk hh2=>hr st2 a2 w2 hk hh2)
    cases hc:canon H st2 with
    | none=>rw [hc] at hk; cases hk
    | some st3 =>
      rw [hc] at hk
      exact W5 hb hx hr n st3 hk a2 w2 (T4 hc hh2)
theorem Agt {β:Type} {r:β} {c:Code} {body:St→(St→Option β)→(Nat→St→Option β)→(St→Option β)→Option β} (hb:Ae4 P S I0 B w0 r c body) {H:Option A0} {Kx:Nat→St→Option β} {Kr:St→Option β}
    {Q:Exit→Act→World→Prop} (hx:∀ id st a w,Kx id st=some r→D1 S I0 B w0 st a w→Q (.exit id) a w) (hr:∀ st a w,Kr st=some r→D1 S I0 B w0 st a w→Q .ret a w)
    (n:Nat) (st:St) (h:iter H body n st Kx Kr=some r) (a:Act) (w:World) (hh:D1 S I0 B w0 st a w):Code.rounds P c Q n a w:=by
  unfold iter at h
  cases hc:canon H st with
  | none=>rw [hc] at h; cases h
  | some st1 =>
    rw [hc] at h
    exact W5 hb hx hr n st1 h a w (T4 hc hh)
theorem L4 {β:Type} (he:Hb P E) (fuel:Nat) (r:β):∀ (c:Code) (b:Nat),Ae4 P S I0 B w0 r c (den E fuel b c)
  | .skip,b=>fun st Kn Kx Kr h a w hh Q hn hx hr=>by
    simp only [den] at h
    exact wp_skip (hn st a w h hh)
  | .label l,b=>fun st Kn Kx Kr h a w hh Q hn hx hr=>by
    simp only [den] at h
    exact wp_label (hn st a w h hh)
  | .region id ops draw,b=>fun st Kn Kx Kr h a w hh Q hn hx hr=>by
    simp only [den] at h
    have reg:∀ st,Wo E ops draw Kn st=some r→D1 S I0 B w0 st a w→(Code.region id ops draw).wp P Q a w:=by
      intro st h hh
      cases draw with
      | true=>exact Aei he h hh hn
      | false =>
        simp only [Wo,Ahr] at h
        have:=Zr he ops.toList 0 _ (fun j=>by simp) h a w hh hn
        rw [Array.length_toList,← List.range_eq_range'] at this
        exact wp_region this
    cases hl:E.live id with
    | none=>rw [hl] at h; exact reg st h hh
    | some ks =>
      rw [hl] at h
      simp only [Td] at h
      exact reg _ h hh.forget
  | .seq x y,b=>fun st Kn Kx Kr h a w hh Q hn hx hr=>by
    simp only [den] at h
    refine wp_seq (L4 he fuel r x b st _ Kx Kr h a w hh _ (fun st' a' w' hk hh'=>?_) (fun id st' a' w' hk hh'=>hx id st' a' w' hk hh') (fun st' a' w' hk hh'=>hr st' a' w' hk hh'))
    exact L4 he fuel r y b st' Kn Kx Kr hk a' w' hh' Q hn hx hr
  | .cond c x y,b=>fun st Kn Kx Kr h a w hh Q hn hx hr=>by
    simp only [den] at h
    cases hv:Fa st.tmps c with
    | bool t =>
      rw [hv] at h
      simp only at h
      have hev:a.eval c=.bool t:=by
        obtain ⟨A,hA⟩:=hh
        have:Ah (A3 I0 B A w) w (Fa st.tmps c) (a.eval c):=by
          cases c with
          | tmp t=>exact hA.tmps t
          | const v=>exact T0 v
          | global g=>simp only [Fa,Ah]
          | func f=>simp [Fa] at hv
        rw [hv] at this
        simpa only [Ah] using this
      refine wp_cond hev ?_
      cases t with
      | true=>exact L4 he fuel r x b st Kn Kx Kr h a w hh Q hn hx hr
      | false=>exact L4 he fuel r y b st Kn Kx Kr h a w hh Q hn hx hr
    | _=>rw [hv] at h; cases h
  | .block id c,b=>fun st Kn Kx Kr h a w hh Q hn hx hr=>by
    simp only [den] at h
    refine wp_block (L4 he fuel r c id st Kn _ Kr h a w hh _ (fun st' a' w' hk hh'=>hn st' a' w' hk hh') (fun id' st' a' w' hk hh'=>?_) (fun st' a' w' hk hh'=>hr st' a' w' hk hh'))
    simp only [Exit.inBlock]
    by_cases e:id'=id
    · rw [if_pos e]
      rw [show (id'==id)=true by simpa using e] at hk
      exact hn st' a' w' hk hh'
    · rw [if_neg e]
      rw [show (id'==id)=false by simpa using e] at hk
      exact hx id' st' a' w' hk hh'
  | .loop c,b=>fun st Kn Kx Kr h a w hh Q hn hx hr=>by
    simp only [den] at h
    exact wp_loop_rounds fuel (Agt (L4 he fuel r c b) hx hr fuel st h a w hh)
  | .scope c,b=>fun st Kn Kx Kr h a w hh Q hn hx hr=>by
    simp only [den] at h
    exact wp_scope_straight (L4 he fuel r c b st Kn Kx Kr h a w hh _ (fun st' a' w' hk hh'=>hn st' a' w' hk hh') (fun id st' a' w' hk hh'=>hx id st' a' w' hk hh') (fun st' a' w' hk hh'=>hr st' a' w' hk hh'))
  | .exit id,b=>fun st Kn Kx Kr h a w hh Q hn hx hr=>by
    simp only [den] at h
    exact wp_exit (hx id st a w h hh)
  | .ret,b=>fun st Kn Kx Kr h a w hh Q hn hx hr=>by
    simp only [den] at h
    exact wp_ret (hr st a w h hh)
  | .rangeFunc ..,b=>fun st Kn Kx Kr h=>by simp [den] at h
  | .goto l,b=>fun st Kn Kx Kr h=>by simp [den] at h
  | .refuse s,b=>fun st Kn Kx Kr h=>by simp [den] at h
end
end Go.Den
namespace Go.Den
open Go.RowKit (Below)
def Adc:List Value→Value
  | [v]=>v
  | vs=>.tuple vs.toArray
def Pq (tmps:Array Value):ResultVar→Sem Value
  | .tmp t=>pure (tmps.getD t undef)
  | .cell a t=>do loadVar t (← asAddr (tmps.getD a undef))
section
variable {P:Program} {E:Env} {S I0:Nat→Prop} {B:Nat} {w0:World} {A:Nat→Option Place}
theorem X8 {t:TypeId} {va v:Value} {w:World} (h:(Instr.loadAt t va).run P w=.ok v w):(do loadVar t (← asAddr va):Sem Value).run P w=.ok v w:=by
  unfold Instr.loadAt at h
  cases va with
  | pointer a =>
    cases a with
    | none=>simp [Instr.sureAddr] at h
    | some a =>
      simp only [Instr.sureAddr,asAddr] at h ⊢
      exact h
  | _=>simp [Instr.sureAddr] at h
theorem Aa1 (hty:∀ t ti,E.ty t=some ti→Br P t ti) {st:St} {a:Act} {w:World} (hA:Gt S I0 B w0 A (look st.heap) (fun t=>st.tmps.getD t .undef) st.tmps.length a w)
    {r:ResultVar} {d:DV} (h1:Rn E st r=some d):∃ v,Ah (A3 I0 B A w) w d v∧(Pq a.tmps r).run P w=.ok v w:=by
  cases r with
  | tmp t =>
    simp only [Rn,Ahq] at h1
    subst h1
    exact ⟨_,hA.tmps t,by simp [Pq]⟩
  | cell x t =>
    simp only [Rn] at h1
    cases hT:E.ty t with
    | none=>simp [hT] at h1
    | some ti =>
      rw [hT,Ahv] at h1
      cases hl:Tq st.heap ti (st.tmps.getD x .undef) with
      | none=>rw [hl] at h1; cases h1
      | some q =>
        rw [hl,Ahv] at h1
        cases hq:q.req with
        | false=>rw [hq] at h1; cases h1
        | true =>
          rw [hq,Ahn,Ahq] at h1
          subst h1
          have hm:Mem I0 B A st.heap w:=hA.mem fun n p fo _ hl=>hl
          obtain ⟨v,hr,hv⟩:=W2 hm (hty _ _ hT) (hA.tmps x) hl hq
          exact ⟨v,hv,X8 hr⟩
theorem Ti (hty:∀ t ti,E.ty t=some ti→Br P t ti) {st:St} {a:Act} {w:World} (hA:Gt S I0 B w0 A (look st.heap) (fun t=>st.tmps.getD t .undef) st.tmps.length a w) :
    ∀ (rs:List ResultVar) (ds:List DV),Nn E st rs=some ds→∃ vs:List Value,At (A3 I0 B A w) w ds vs∧(rs.mapM (Pq a.tmps)).run P w=.ok vs w
  | [],ds,h=>by
    simp only [Nn,Ahq] at h; subst h
    exact ⟨[],by simp [At],rfl⟩
  | r::rs,ds,h=>by
    simp only [Nn] at h
    cases h1:Rn E st r with
    | none=>simp [h1] at h
    | some d =>
      cases h2:Nn E st rs with
      | none=>simp [h1,h2] at h
      | some ds' =>
        simp only [h1,h2,Ahv,Ahq] at h
        subst h
        obtain ⟨vs,i1,i2⟩:=Ti hty hA rs ds' h2
        obtain ⟨v,hv,hr⟩:=Aa1 hty hA h1
        refine ⟨v::vs,by rw [At.Bp]; exact ⟨v,vs,rfl,hv,i1⟩,?_⟩
        simp only [List.mapM_cons,Sem.run_bind,hr,Result.andThen_ok,i2,Sem.run_pure]
theorem Wj {fn:Func} {tmps:Array Value} {w:World} {vs:List Value} (h:(fn.results.toList.mapM (Pq tmps)).run P w=.ok vs w) :
    (results fn tmps).run P w=.ok (Adc vs) w:=by
  have h':(fn.results.mapM (Pq tmps)).run P w=.ok vs.toArray w:=by
    rw [Array.mapM_eq_mapM_toList]
    simp only [Sem.run_map,h,Result.andThen_ok]
  have e:results fn tmps=(do let vs←fn.results.mapM (Pq tmps); pure (if h:vs.size=1 then vs[0] else .tuple vs)):=by
    unfold results
    congr 2
  rw [e]
  simp only [Sem.run_bind,h',Result.andThen_ok,Sem.run_pure]
  congr 1
  match vs with
  | []=>rfl
  | [v]=>rfl
  | v::u::us=>simp [Adc]
def I5 (h:Cg) (f:Nat) (l:List DV):Option (List DV × List Nat × List Nat) :=
  l.foldr (fun d acc=>(Ej h f d).bind fun (x,ns,os)=>acc.bind fun (xs,ms,ps)=>some (x::xs,ns++ms,os++ps)) (some ([],[],[]))
theorem Pr {h:Cg} {f:Nat} {d:DV} {l:List DV} {r:List DV × List Nat × List Nat} (hh:I5 h f (d::l)=some r) :
    ∃ x ns os xs ms ps,Ej h f d=some (x,ns,os)∧I5 h f l=some (xs,ms,ps)∧r=(x::xs,ns++ms,os++ps):=by
  have e:I5 h f (d::l)=(Ej h f d).bind fun (x,ns,os)=>(I5 h f l).bind fun (xs,ms,ps)=>some (x::xs,ns++ms,os++ps):=rfl
  rw [e] at hh
  cases h1:Ej h f d with
  | none=>simp [h1] at hh
  | some a =>
    obtain ⟨x,ns,os⟩:=a
    cases h2:I5 h f l with
    | none=>simp [h1,h2] at hh
    | some b =>
      obtain ⟨xs,ms,ps⟩:=b
      simp only [h1,h2,Ahv,Ahq] at hh
      exact ⟨x,ns,os,xs,ms,ps,rfl,rfl,hh.symm⟩
def H2 (A:Nat→Option Place) (OS:List Nat) (i:Nat):Option Nat :=
  if i∈OS then match A i with
    | some p=>if p.st=.live then p.E1 else none
    | none=>none
  else none
theorem Kd {OS:List Nat} {i b:Nat} (h:H2 A OS i=some b):i∈OS∧∃ p,A i=some p∧p.st=.live∧p.E1=some b:=by
  unfold H2 at h
  split at h
  · cases hA:A i with
    | none=>rw [hA] at h; cases h
    | some p =>
      rw [hA] at h
      simp only at h
      split at h
      · exact ⟨‹_›,p,rfl,‹_›,h⟩
      · cases h
  · cases h
theorem Ws {OS:List Nat} {i b:Nat} {p:Place} (h:i∈OS) (hp:A i=some p) (hl:p.st=.live) (hb:p.E1=some b):H2 A OS i=some b:=by
  unfold H2
  rw [if_pos h,hp]
  simp only [hl,if_true,hb]
theorem Ac5 {h:Cg} {w w':World} (hm:Mem I0 w.heap.size A h w') {NS OS:List Nat} (hdis:∀ n∈NS,n ∉ OS) :
    ∀ (f:Nat) (d:DV) (v:Value) d' ns os,Ej h f d=some (d',ns,os)→(∀ n∈ns,n∈NS)→(∀ n∈os,n∈OS)→Ah (A3 I0 w.heap.size A w') w' d v→Ah (Ci I0 (H2 A OS) w w') w' d' v:=by
  have hok:∀ b,(A3 I0 w.heap.size A w').ok b→(Ci I0 (H2 A OS) w w').ok b:=by
    rintro b ⟨h1,h2,h3⟩
    refine ⟨h1,h2,fun i hi=>?_⟩
    obtain ⟨_,p,hp,hl,hb⟩:=Kd hi
    exact h3 i p hp hl hb
  have hbare:∀ l rows,B1 (A3 I0 w.heap.size A w').bare w' l rows→B1 (Ci I0 (H2 A OS) w w').bare w' l rows:=fun l rows =>
    B1.Cc (c:=(A3 I0 w.heap.size A w').bare) (c':=(Ci I0 (H2 A OS) w w').bare) (w:=w') (w':=w') ⟨hok,rfl,rfl,fun _ _ h=>(by cases h),fun _ _ h=>(by cases h),fun _ _ _=>rfl,fun _ _ h=>(by cases h)⟩ l rows
  have hleaf:∀ d v,De 1 [] d=true→Ah (A3 I0 w.heap.size A w') w' d v→Ah (Ci I0 (H2 A OS) w w') w' d v:=by
    intro d v hd hv
    have hl:Ib ((A3 I0 w.heap.size A w').only []) w' (Ci I0 (H2 A OS) w w') w' :=
      ⟨hok,rfl,rfl,fun _ _ h=>(by cases h),fun n p hp=>(by simp [Ctx.only] at hp),fun _ _ _=>rfl,fun _ _ h=>(by cases h)⟩
    exact Ah.Cc hl d v (Ur [] 1 d v hd hv)
  have frozenBlk:∀ n p,A n=some p→p.st≠.dead→(p.st≠.live∨n ∉ OS)→∀ b,p.E1=some b→(Ci I0 (H2 A OS) w w').E1 .fresh b:=by
    intro n p hp hd hc b hb
    obtain ⟨h1,h2⟩:=hm.blkB n p b hp hd hb
    refine ⟨⟨h2,.inr h1,fun i hi=>?_⟩,rfl,h1⟩
    obtain ⟨hio,q,hq,hl,hqb⟩:=Kd hi
    have e:=hm.inj n i p q b hp hq hd (by rw [hl]; simp) hb hqb
    subst e
    rw [hp] at hq; cases hq
    rcases hc with hc | hc
    · exact hc hl
    · exact hc hio
  intro f
  induction f with
  | zero=>intro d v d' ns os h; simp [Ej] at h
  | succ f ih =>
    have all:∀ (l:List DV) (vs:List Value) l' ns os,I5 h f l=some (l',ns,os)→(∀ n∈ns,n∈NS)→(∀ n∈os,n∈OS)→At (A3 I0 w.heap.size A w') w' l vs→At (Ci I0 (H2 A OS) w w') w' l' vs:=by
      intro l
      induction l with
      | nil =>
        intro vs l' ns os hr _ _ hv
        simp only [I5,List.foldr_nil,Ahq,Ahw] at hr
        obtain ⟨rfl,_,_⟩:=hr
        rw [At.Ep] at hv ⊢; exact hv
      | cons d l ihl =>
        intro vs l' ns os hr h1 h2 hv
        obtain ⟨x,n1,o1,xs,ms,ps,e1,e2,e⟩:=Pr hr
        cases e
        rw [At.Bp] at hv ⊢
        obtain ⟨u,us,e,hu,hus⟩:=hv
        exact ⟨u,us,e,ih d u x n1 o1 e1 (fun n hn=>h1 n (List.mem_append.2 (.inl hn))) (fun n hn=>h2 n (List.mem_append.2 (.inl hn))) hu,
          ihl us xs ms ps e2 (fun n hn=>h1 n (List.mem_append.2 (.inr hn))) (fun n hn=>h2 n (List.mem_append.2 (.inr hn))) hus⟩
    intro d v d' ns os hr hns hos hv
    cases d with
    | agg l =>
      have hr:(I5 h f l).bind (fun (l,ns,os)=>some (DV.agg l,ns,os))=some (d',ns,os):=hr
      cases hl:I5 h f l with
      | none=>rw [hl] at hr; cases hr
      | some r =>
        obtain ⟨l',ns',os'⟩:=r
        rw [hl] at hr
        simp only [Ahv,Ahq,Ahw] at hr
        obtain ⟨rfl,rfl,rfl⟩:=hr
        simp only [Ah] at hv ⊢
        obtain ⟨vs,e,h1⟩:=hv
        exact ⟨vs,e,all l _ l' _ _ hl hns hos h1⟩
    | tup l =>
      have hr:(I5 h f l).bind (fun (l,ns,os)=>some (DV.tup l,ns,os))=some (d',ns,os):=hr
      cases hl:I5 h f l with
      | none=>rw [hl] at hr; cases hr
      | some r =>
        obtain ⟨l',ns',os'⟩:=r
        rw [hl] at hr
        simp only [Ahv,Ahq,Ahw] at hr
        obtain ⟨rfl,rfl,rfl⟩:=hr
        simp only [Ah] at hv ⊢
        obtain ⟨vs,e,h1⟩:=hv
        exact ⟨vs,e,all l _ l' _ _ hl hns hos h1⟩
    | oref n =>
      simp only [Ah] at hv
      obtain ⟨hone,p,hp,hd⟩:=hv
      simp only [Ej] at hr
      split at hr
      · rename_i e k l hl
        simp only [Ahq,Ahw] at hr
        obtain ⟨rfl,rfl,rfl⟩:=hr
        obtain ⟨hst,sv,hk,ho⟩:=C2 hm hp hl
        obtain ⟨size,hk'⟩:=hd.resolve_left (A9 hst)
        rw [hk] at hk'; cases hk'
        simp only [Ah]
        exact ⟨ho,fun b hb=>Ws (hos n (by simp)) hp hst (by unfold Place.E1; rw [hk]; exact hb)⟩
      · rename_i e sz l hl
        simp only [Ahq,Ahw] at hr
        obtain ⟨rfl,rfl,rfl⟩:=hr
        obtain ⟨hst,hsz,sv,rows,hk,hrr,hlen,ho⟩:=Df hm hp hl
        obtain ⟨size,hk'⟩:=hd.resolve_left (A9 hst)
        rw [hk] at hk'; cases hk'
        simp only [Ah]
        exact ⟨rows,hbare _ _ hrr,hlen,ho,fun b hb=>Ws (hos n (by simp)) hp hst (by unfold Place.E1; rw [hk]; exact hb)⟩
      · rename_i e k l hl
        simp only [Ahq,Ahw] at hr
        obtain ⟨rfl,rfl,rfl⟩:=hr
        obtain ⟨hst,sv,hk,ho⟩:=C2 hm hp hl
        obtain ⟨size,hk'⟩:=hd.resolve_left (A9 hst)
        rw [hk] at hk'; cases hk'
        have hst':p.st=.frozen:=hst
        have:=Hi hk ho (Eb ho) (ok:=(Ci I0 (H2 A OS) w w').E1 .fresh) (frozenBlk n p hp (A9 hst) (.inl (by rw [hst']; simp)))
        simp only [List.drop_zero,List.take_length] at this
        simp only [Ah]
        exact this
      · rename_i e sz l hl
        simp only [Ahq,Ahw] at hr
        obtain ⟨rfl,rfl,rfl⟩:=hr
        obtain ⟨hst,hsz,sv,rows,hk,hrr,hlen,ho⟩:=Df hm hp hl
        obtain ⟨size,hk'⟩:=hd.resolve_left (A9 hst)
        rw [hk] at hk'; cases hk'
        have hst':p.st=.frozen:=hst
        have:=Hh hk (hbare _ _ hrr) hlen ho (Eb ho) (ok:=(Ci I0 (H2 A OS) w w').E1 .fresh) (frozenBlk n p hp (A9 hst) (.inl (by rw [hst']; simp)))
        simp only [List.drop_zero,List.take_length] at this
        simp only [Ah]
        exact this
      · cases hr
    | sref n off len =>
      simp only [Ah] at hv
      obtain ⟨hone,p,hp,hd⟩:=hv
      simp only [Ej] at hr
      split at hr
      · rename_i fz e k l hl
        simp only [Ahq,Ahw] at hr
        obtain ⟨rfl,rfl,rfl⟩:=hr
        obtain ⟨hst,sv,hk,ho⟩:=C2 hm hp hl
        obtain ⟨sv',size,hk',hs⟩:=hd.resolve_left (A9 hst)
        rw [hk] at hk'; cases hk'
        have:=Hi hk ho hs (ok:=(Ci I0 (H2 A OS) w w').E1 .fresh) (frozenBlk n p hp (A9 hst) (.inr (hdis n (hns n (by simp)))))
        simp only [Ah]
        exact this
      · rename_i fz e sz l hl
        simp only [Ahq,Ahw] at hr
        obtain ⟨rfl,rfl,rfl⟩:=hr
        obtain ⟨hst,hsz,sv,rows,hk,hrr,hlen,ho⟩:=Df hm hp hl
        obtain ⟨sv',size,hk',hs⟩:=hd.resolve_left (A9 hst)
        rw [hk] at hk'; cases hk'
        have:=Hh hk (hbare _ _ hrr) hlen ho hs (ok:=(Ci I0 (H2 A OS) w w').E1 .fresh) (frozenBlk n p hp (A9 hst) (.inr (hdis n (hns n (by simp)))))
        simp only [Ah]
        exact this
      · cases hr
    | ptr n i j=>simp [Ej] at hr
    | fn g a b=>simp [Ej] at hr
    | gd g d=>simp [Ej] at hr
    | undef=>simp [Ej] at hr
    | cellp cs=>simp [Ej] at hr
    | nil=>simp only [Ej,Ahq,Ahw] at hr; obtain ⟨rfl,_,_⟩:=hr; exact hleaf _ _ rfl hv
    | bool b=>simp only [Ej,Ahq,Ahw] at hr; obtain ⟨rfl,_,_⟩:=hr; exact hleaf _ _ rfl hv
    | int k n=>simp only [Ej,Ahq,Ahw] at hr; obtain ⟨rfl,_,_⟩:=hr; exact hleaf _ _ rfl hv
    | fl n=>simp only [Ej,Ahq,Ahw] at hr; obtain ⟨rfl,_,_⟩:=hr; exact hleaf _ _ rfl hv
    | nb n=>simp only [Ej,Ahq,Ahw] at hr; obtain ⟨rfl,_,_⟩:=hr; exact hleaf _ _ rfl hv
    | ints g k l=>simp only [Ej,Ahq,Ahw] at hr; obtain ⟨rfl,_,_⟩:=hr; exact hleaf _ _ rfl hv
    | recs g k l=>simp only [Ej,Ahq,Ahw] at hr; obtain ⟨rfl,_,_⟩:=hr; exact hleaf _ _ rfl hv
end
end Go.Den
end
