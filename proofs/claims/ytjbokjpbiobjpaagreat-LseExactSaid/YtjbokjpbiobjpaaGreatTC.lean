/- A verified evaluator of the program's form and its use for this seat: Den20, Den21, Den22, Den23, Den24, Den25, Den26, Den27, Den28, Den29, Den30, Den31. -/
import Derived.Test.YtjbokjpbiobjpaaGreatTB
import Derived.Orders
import Derived.LoopN
import Derived.Scope
set_option linter.unusedVariables false
set_option linter.unusedSimpArgs false
noncomputable section
namespace Go.Den
open Go.RowKit (Below)
section
variable {P:Program} {E:Env} {I0:Nat→Prop} {B:Nat} {A:Nat→Option Place} {h:Dh} {w:World} {t:TypeId}
theorem Afc (hty:∀ t ti,E.ty t=some ti→Bv P t ti) (hm:Mem I0 B A h w) {nm:Nat} (hnm:A nm=none) {ty:TypeId} {s x v:DV} {vs vx:Value} (hs:Aj (Bi I0 B A w) w s vs) (hx:Aj (Bi I0 B A w) w x vx) {req:Bool} {h':Dh}
    (ha:L9 E h nm t s x=some (req,v,h')) (hreq:req=true) :
    ∃ v' w' A',(Builtin.append_ #[t,t] ty #[vs,vx]).run P w=.ok v' w'∧Mem I0 B A' h' w'∧Ho A w A' w'∧Below B w w'∧Aj (Bi I0 B A' w') w' v v' ∧
      (∀ m p,A' m=some p→A m=none→m=nm)∧(∀ m,(look h' m).isSome=(decide (m=nm)||(look h m).isSome))∧P4 (Zl s) A w w'∧(∀ m q,m ∉ Zl s→A m=some q→A' m=some q) ∧
      (∀ m,m ∉ Zl s→m≠nm→look h' m=look h m)∧(∀ m,m∈Zl s→look h m≠none)∧look h nm=none:=by
  subst hreq
  unfold L9 at ha
  split at ha
  · rename_i e _ hT
    have hu:=(hty _ _ hT).desc
    simp only [B4] at hu
    cases hE:E.ty e with
    | none=>simp [hE] at ha
    | some ei =>
    simp only [hE,Au1] at ha
    by_cases hq:(decide (ei.bytes≤128)&&decide (0<ei.size)&&(look h nm).isNone)=true
    · rw [hq,Aut] at ha
      simp only [Au4,Au0,Option.isNone_iff_eq_none] at hq
      obtain ⟨⟨hq1,hq2⟩,hq3⟩:=hq
      have hei:=hty _ _ hE
      have hne:∀ {old:Option Nat} {p:Place} m q,P7 A old nm p m=some q→A m=none→m=nm:=by
        intro old p m q hq hA
        unfold P7 at hq
        split at hq
        · assumption
        · split at hq
          · rw [hA] at hq; cases hq
          · rw [hA] at hq; cases hq
      have ltB:∀ {w':World} {sz n:Nat} {v':Value} {xs:List Value},w'.ownsRow B e sz v' n xs→∀ b,v'.ownBlock=some b→B≤b∧b<w'.heap.size:=fun ho b hb=>ho.lt b hb
      have keepN:∀ {w':World},w.grownBy w' none→P4 [] A w w':=fun hg m q b _ hq hqd hqb=>hg.block b (hm.blkB m q b hq hqd hqb).2 (by simp)
      have sameN:∀ {p:Place} m q,m ∉ ([]:List Nat)→A m=some q→P7 A none nm p m=some q:=by
        intro p m q _ hq
        unfold P7
        rw [if_neg (fun e=>by rw [e,hnm] at hq; cases hq),if_neg (by simp)]
        exact hq
      have sameO:∀ {n:Nat} {p:Place} m q,m ∉ [n]→A m=some q→P7 A (some n) nm p m=some q:=by
        intro n p m q hn hq
        unfold P7
        rw [if_neg (fun e=>by rw [e,hnm] at hq; cases hq),if_neg (fun e=>hn (by rw [Option.some.inj e]; exact List.mem_singleton.2 rfl))]
        exact hq
      have keepO:∀ {n:Nat} {p:Place} {b':Option Nat} {w':World},A n=some p→p.st≠.dead→(∀ b,b'=some b→p.F1=some b)→w.grownBy w' b'→P4 [n] A w w':=fun {n p b' w'} hp hd hb hg m q b hn hq hqd hqb =>
        hg.block b (hm.blkB m q b hq hqd hqb).2 (fun e=>hn (by rw [hm.inj m n q p b hq hp hqd hd hqb (hb b e.symm)]; exact List.mem_singleton.2 rfl))
      split at ha
      ·
        simp only [Aj] at hs; subst hs
        have hown:w.ownsRow B e ei.size (.slice none 0 0) 0 []:=World.ownsRow_nil w B e ei.size
        have hlk:∀ ob m fo,look ((nm,false,ob)::h) m=some fo→(m=nm∧fo=(false,ob))∨(m≠nm∧(none:Option Nat)=some m∧fo=(false,.dead))∨(m≠nm∧(none:Option Nat)≠some m∧look h m=some fo):=by
          intro ob m fo hl
          simp only [look] at hl
          by_cases e:nm=m
          · subst e; simp at hl; exact .inl ⟨rfl,hl.symm⟩
          · rw [show (nm==m)=false by simpa using e] at hl
            exact .inr (.inr ⟨fun e'=>e e'.symm,by simp,hl⟩)
        have hsame:∀ ob m,m≠nm→look ((nm,false,ob)::h) m=look h m:=by
          intro ob m hm'
          simp only [look,show (nm==m)=false by simpa using fun e:nm=m=>hm' e.symm,Aux]
        have hdom:∀ ob m,(look ((nm,false,ob)::h) m).isSome=(decide (m=nm)||(look h m).isSome):=by
          intro ob m
          simp only [look]
          by_cases e:nm=m
          · subst e; simp
          · rw [show (nm==m)=false by simpa using e]; simp [show ¬ m=nm from fun e'=>e e'.symm]
        split at ha
        · rename_i k hk
          by_cases hs1:ei.size=1
          · simp only [hs1,beq_self_eq_true,Aut] at ha
            cases hel:Mj h k x with
            | none=>simp [hel] at ha
            | some l =>
              simp only [hel,Au1,Auw,Au2,Au0] at ha
              obtain ⟨hlim,rfl,rfl⟩:=ha
              obtain ⟨a,m,c,rfl,rfl,hsrc⟩:=Yi hm hx hel
              obtain ⟨v',w',hrun,hown',hg,hb⟩:=Nz (P:=P) (ty:=ty) hu hei hq1 hq2 hm.hB hown (a:=a) (c:=c) (news:=l.map (Value.int k)) (by rw [hs1]; simp) hsrc (by simp [Value.oneCell']) (by simpa using hlim)
              obtain ⟨h1,h2,h3⟩:=N0 hm hnm (old:=none) (v:=.slice none 0 0) (sz:=1) hg (fun b hb=>by cases hb) hb (hlk (.ints e k l)) (ltB hown') (fun _=>by
                unfold Cr
                refine ⟨rfl,v',rfl,?_⟩
                rw [hs1] at hown'
                have q:=hown'
                simp only [Nat.zero_add,List.nil_append] at q
                exact q)
              exact ⟨v',w',_,hrun,h1,h2,h3,by simp only [Aj]; exact ⟨Gf hown',_,if_pos rfl,.inr ⟨1,rfl⟩⟩,hne,hdom _,keepN hg,sameN,fun m _ hmn=>hsame _ m hmn,fun m hmn=>absurd hmn (by simp [Zl]),hq3⟩
          · rw [show (ei.size==1)=false by simpa using hs1] at ha; simp at ha
        · cases hel:Mi h ei.size x with
          | none=>simp [hel] at ha
          | some l =>
            simp only [hel,Au1,Auw,Au2,Au0] at ha
            obtain ⟨hlim,rfl,rfl⟩:=ha
            obtain ⟨a,m,c,rows,rfl,rfl,hrr,hlen,hsrc⟩:=Yh hm hx hel
            obtain ⟨v',w',hrun,hown',hg,hb⟩:=Nz (P:=P) (ty:=ty) hu hei hq1 hq2 hm.hB hown (a:=a) (c:=c) (news:=rows.flatten) (by rw [I2 (fun r hr=>(hlen r hr).1),hrr.length]) hsrc (fun u hu=>by
                obtain ⟨r,hr,hur⟩:=List.mem_flatten.1 hu
                exact (hlen r hr).2 u hur) (by simpa using hlim)
            obtain ⟨h1,h2,h3⟩:=N0 hm hnm (old:=none) (v:=.slice none 0 0) (sz:=ei.size) hg (fun b hb=>by cases hb) hb (hlk (.recs e ei.size l)) (ltB hown') (fun hmv=>by
              unfold Cr
              refine ⟨rfl,hq2,v',rows,rfl,Cq.C4 (hmv.C4 (I0:=I0) (B:=B)).bare _ _ hrr,hlen,?_⟩
              have q:=hown'
              simp only [Nat.zero_add,List.nil_append] at q
              exact q)
            exact ⟨v',w',_,hrun,h1,h2,h3,by simp only [Aj]; exact ⟨Gf hown',_,if_pos rfl,.inr ⟨_,rfl⟩⟩,hne,hdom _,keepN hg,sameN,fun m _ hmn=>hsame _ m hmn,fun m hmn=>absurd hmn (by simp [Zl]),hq3⟩
      ·
        rename_i n
        simp only [Aj] at hs
        obtain ⟨_,p,hp,hd⟩:=hs
        have hlk:∀ {ob0 ob:OB},look h n=some (false,ob0)→∀ m fo,look ((nm,false,ob)::upd h n (false,.dead)) m=some fo→(m=nm∧fo=(false,ob))∨(m≠nm∧(some n:Option Nat)=some m∧fo=(false,.dead))∨(m≠nm∧(some n:Option Nat)≠some m∧look h m=some fo):=by
          intro ob0 ob hl0 m fo hl
          simp only [look] at hl
          by_cases e:nm=m
          · subst e; simp at hl; exact .inl ⟨rfl,hl.symm⟩
          · rw [show (nm==m)=false by simpa using e] at hl
            simp only [Aux] at hl
            rw [Fp hl0] at hl
            by_cases e':m=n
            · subst e'; rw [if_pos rfl] at hl; cases hl; exact .inr (.inl ⟨fun e'=>e e'.symm,rfl,rfl⟩)
            · rw [if_neg e'] at hl
              exact .inr (.inr ⟨fun e'=>e e'.symm,fun e''=>e' (Option.some.inj e'').symm,hl⟩)
        have hsame:∀ {ob0 ob:OB},look h n=some (false,ob0)→∀ m,m ∉ [n]→m≠nm→look ((nm,false,ob)::upd h n (false,.dead)) m=look h m:=by
          intro ob0 ob hl0 m hn hm'
          simp only [look,show (nm==m)=false by simpa using fun e:nm=m=>hm' e.symm,Aux]
          rw [Fp hl0,if_neg (fun e=>hn (by rw [e]; exact List.mem_singleton.2 rfl))]
        have hdom:∀ {ob0 ob:OB},look h n=some (false,ob0)→∀ m,(look ((nm,false,ob)::upd h n (false,.dead)) m).isSome=(decide (m=nm)||(look h m).isSome):=by
          intro ob0 ob hl0 m
          simp only [look]
          by_cases e:nm=m
          · subst e; simp
          · rw [show (nm==m)=false by simpa using e]
            simp only [Aux,show ¬ m=nm from fun e'=>e e'.symm,decide_false,Bool.false_or]
            rw [Fp hl0]; split<;>simp_all
        split at ha
        · rename_i e' k l' hlo
          obtain ⟨hst,sv,hk,ho⟩:=D6 hm hp hlo
          obtain ⟨size,hk'⟩:=hd.resolve_left (Bm hst)
          rw [hk] at hk'; cases hk'
          cases hel:Mj h k x with
          | none=>simp [hel] at ha
          | some l =>
            simp only [hel,Au1] at ha
            by_cases hc:(e==e'&&ei.size==1)=true
            · rw [hc,Aut] at ha
              simp only [Auw,Au2,Au0] at ha
              obtain ⟨hlim,rfl,rfl⟩:=ha
              simp only [Au4,beq_iff_eq] at hc
              obtain ⟨rfl,hs1⟩:=hc
              obtain ⟨a,m,c,rfl,rfl,hsrc⟩:=Yi hm hx hel
              obtain ⟨v',w',hrun,hown',hg,hb⟩:=Nz (P:=P) (ty:=ty) hu hei hq1 hq2 hm.hB (by rw [hs1]; exact ho) (a:=a) (c:=c) (news:=l.map (Value.int k)) (by rw [hs1]; simp) hsrc (by simp [Value.oneCell']) hlim
              obtain ⟨h1,h2,h3⟩:=N0 hm hnm (old:=some n) (sz:=1) hg (fun b hb=>⟨n,p,rfl,hp,hst,by unfold Place.F1; rw [hk]; exact hb⟩) hb (hlk (ob:=.ints e k (l'++l)) hlo) (ltB hown') (fun _=>by
                unfold Cr
                refine ⟨rfl,v',rfl,?_⟩
                rw [hs1] at hown'
                rw [List.length_append,List.map_append]
                exact hown')
              exact ⟨v',w',_,hrun,h1,h2,h3,by simp only [Aj]; exact ⟨Gf hown',_,if_pos rfl,.inr ⟨1,rfl⟩⟩,hne,hdom hlo,keepO hp (Bm hst) (fun b hb=>by unfold Place.F1; rw [hk]; exact hb) hg,sameO,fun m h1 h2=>hsame hlo m h1 h2,fun m hmn=>by rw [List.mem_singleton.1 hmn,hlo]; simp,hq3⟩
            · simp only [Bool.not_eq_true] at hc; rw [hc] at ha; simp at ha
        · rename_i e' sz l' hlo
          obtain ⟨hst,hsz,sv,rows',hk,hrr',hlen',ho⟩:=Ef hm hp hlo
          obtain ⟨size,hk'⟩:=hd.resolve_left (Bm hst)
          rw [hk] at hk'; cases hk'
          cases hel:Mi h sz x with
          | none=>simp [hel] at ha
          | some l =>
            simp only [hel,Au1] at ha
            by_cases hc:(e==e'&&sz==ei.size)=true
            · rw [hc,Aut] at ha
              simp only [Auw,Au2,Au0] at ha
              obtain ⟨hlim,rfl,rfl⟩:=ha
              simp only [Au4,beq_iff_eq] at hc
              obtain ⟨rfl,rfl⟩:=hc
              obtain ⟨a,m,c,rows,rfl,rfl,hrr,hlen,hsrc⟩:=Yh hm hx hel
              obtain ⟨v',w',hrun,hown',hg,hb⟩:=Nz (P:=P) (ty:=ty) hu hei hq1 hq2 hm.hB ho (a:=a) (c:=c) (news:=rows.flatten) (by rw [I2 (fun r hr=>(hlen r hr).1),hrr.length]) hsrc (fun u hu=>by
                obtain ⟨r,hr,hur⟩:=List.mem_flatten.1 hu
                exact (hlen r hr).2 u hur) hlim
              obtain ⟨h1,h2,h3⟩:=N0 hm hnm (old:=some n) (sz:=ei.size) hg (fun b hb=>⟨n,p,rfl,hp,hst,by unfold Place.F1; rw [hk]; exact hb⟩) hb (hlk (ob:=.recs e ei.size (l'++l)) hlo) (ltB hown') (fun hmv=>by
                unfold Cr
                have hbr:=(hmv.C4 (I0:=I0) (B:=B)).bare
                refine ⟨rfl,hq2,v',rows'++rows,rfl,(Cq.C4 hbr _ _ hrr').append (Cq.C4 hbr _ _ hrr),?_,?_⟩
                · intro r hr
                  rcases List.mem_append.1 hr with hr | hr
                  · exact hlen' r hr
                  · exact hlen r hr
                · rw [List.length_append,List.flatten_append]; exact hown')
              exact ⟨v',w',_,hrun,h1,h2,h3,by simp only [Aj]; exact ⟨Gf hown',_,if_pos rfl,.inr ⟨_,rfl⟩⟩,hne,hdom hlo,keepO hp (Bm hst) (fun b hb=>by unfold Place.F1; rw [hk]; exact hb) hg,sameO,fun m h1 h2=>hsame hlo m h1 h2,fun m hmn=>by rw [List.mem_singleton.1 hmn,hlo]; simp,hq3⟩
            · simp only [Bool.not_eq_true] at hc; rw [hc] at ha; simp at ha
        · cases ha
      · cases ha
    · simp only [Bool.not_eq_true] at hq; rw [hq] at ha; simp at ha
  · cases ha
end
end Go.Den
namespace Go.Den
open Go.RowKit (Below)
def H4 (P:Program) (ops:Array Oper) (o:Oper) (a:Act) (w:World) (Q:Exit→Act→World→Prop) (G:Value→World→Prop):Prop :=
  ∀ K:Act→World→Prop,(∀ v w',G v w'→K (a.put o.dst v) w') →
    if Region.wanted o (yielded ops a.tmps) then o.wp P a w K Q else K (a.put o.dst undef) w
theorem H4.mono {P:Program} {ops:Array Oper} {o:Oper} {a:Act} {w:World} {Q:Exit→Act→World→Prop} {G G':Value→World→Prop} (h:H4 P ops o a w Q G) (hg:∀ v w',G v w'→G' v w'):H4 P ops o a w Q G' :=
  fun K hK=>h K fun v w' hh=>hK v w' (hg v w' hh)
theorem D7.wp {P:Program} {o:Oper} {a:Act} {w:World} {K:Act→World→Prop} {Q:Exit→Act→World→Prop} {K':Value→World→Prop} (h:D7 P (execOp a.eval o) w K') (hK:∀ v w',K' v w'→K (a.put o.dst v) w'):o.wp P a w K Q:=by
  unfold D7 at h
  unfold Oper.wp
  split at h
  · rename_i v w' hr
    rw [hr,Oper.upon_value]; exact hK _ _ h
  · rename_i f args w' hr
    rw [hr,Oper.upon_enter]
    refine Calls.mono h fun e w'' ⟨v,he,hk⟩=>?_
    subst he; exact hK _ _ hk
  · exact h.elim
section
variable {P:Program} {E:Env} {I0:Nat→Prop} {B:Nat} {A:Nat→Option Place} {h:Dh} {w:World}
theorem K6 {c:Ctx} {g:Bool} {d:DV} {v:Value} (hv:Aj c w d v) (hg:g=true) (hs:(F7 g d).2=true):Aj c w (F7 g d).1 v:=by
  subst hg
  cases d<;>try exact hv
  rename_i c' d'
  simp only [F7,Bool.not_true,Bool.false_or] at hs ⊢
  simp only [Aj] at hv
  exact hv.1 hs
theorem Agn {c:Ctx} {ops:Array Oper} {l:List DV} {o:Oper} {a:Act} (hsz:a.tmps.size=l.length)
    (hrd:∀ t∈o.looksAt ops,Aj c w (l.getD t .undef) (a.tmps.getD t undef)) {g?:Option Bool} (hc:M7 ops l o=some g?) :
    (g?=none∧o.guard=none)∨∃ b,g?=some b∧Region.wanted o (yielded ops a.tmps)=b:=by
  unfold M7 at hc
  split at hc
  · rename_i hg
    cases hc; exact .inl ⟨rfl,hg⟩
  · rename_i j want hg
    cases hd:(ops[j]?).bind (·.dst) with
    | none=>simp [hd] at hc
    | some d =>
      simp only [hd] at hc
      have hv:=hrd d (by unfold Oper.looksAt; simp [hg,hd])
      have hlt:∀ {x:DV},l.getD d .undef=x→x≠.undef→d<a.tmps.size:=fun {x} hx hne=>by
        rw [hsz]
        refine Nat.lt_of_not_le fun hle=>hne ?_
        rw [← hx,Au3,List.getElem?_eq_none hle]; rfl
      have hy:∀ {u:Value},d<a.tmps.size→a.tmps.getD d undef=u→yielded ops a.tmps j=match u with | .bool b=>some b | _=>none:=fun {u} hl hu=>by
        unfold yielded
        rw [hd,Au1]
        have:a.tmps[d]?=some u:=by
          rw [Avd hl]
          rw [Array.getD_eq_getD_getElem?,Avd hl] at hu
          exact congrArg some hu
        rw [this]
        cases u<;>rfl
      split at hc
      · rename_i b hb
        cases hc
        rw [hb] at hv; simp only [Aj] at hv
        refine .inr ⟨_,rfl,?_⟩
        unfold Region.wanted; rw [hg]; simp only
        rw [hy (hlt hb (by simp)) hv]
        cases b<;>cases want<;>rfl
      · rename_i c' b hb
        cases hc
        rw [hb] at hv; simp only [Aj] at hv
        refine .inr ⟨_,rfl,?_⟩
        unfold Region.wanted; rw [hg]; simp only
        cases c' with
        | true =>
          rw [hy (hlt hb (by simp)) (hv.1 rfl)]
          cases b<;>cases want<;>rfl
        | false =>
          rw [hy (hlt hb (by simp)) (hv.2 rfl)]
          cases want<;>rfl
      · cases hc
def Og (g?:Option Bool) (v:DV):DV:=match g? with | some c=>.gd c v | none=>v
theorem Aal {c:Ctx} {g?:Option Bool} {d:DV} {v:Value} (hg:g?.getD true=true) (hv:Aj c w d v):Aj c w (Og g? d) v:=by
  cases g? with
  | none=>exact hv
  | some b =>
    simp only [Option.getD_some] at hg; subst hg
    simp only [Og,Aj]
    exact ⟨fun _=>hv,fun e=>by cases e⟩
theorem Aj7 (he:Io P E) (hm:Mem I0 B A h w) {ops:Array Oper} {l:List DV} {o:Oper} {a:Act}
    (hops:∀ x∈o.op.operands.toList,Aj (Bi I0 B A w) w (Gc l x) (a.eval x))
    {g?:Option Bool} (hg:(g?=none∧o.guard=none)∨∃ b,g?=some b∧Region.wanted o (yielded ops a.tmps)=b)
    {nm:Nat} {r:R2} (hq:D2 E h nm (fun x=>(F7 (g?.getD true) (Gc l x)).1) o.op=some r)
    (hreq:(!(g?.getD true)||(Qo (g?.getD true) (Gc l) o.op.operands.toList&&r.req))=true)
    (hobj:r.objs=[]∨g?.getD true=true) (hfrz:r.frz=[]∨g?.getD true=true)
    (hnew:∀ n ob,(n,ob)∈r.objs→A n=none) (hnd:(r.objs.map (·.1)).Nodup) {Q:Exit→Act→World→Prop} :
    H4 P ops o a w Q fun v w'=>∃ A',Ip I0 B A w r.objs r.frz A' w'∧Aj (Bi I0 B A' w') w' (Og g? r.v) v:=by
  intro K hK
  have hwant:Region.wanted o (yielded ops a.tmps)=g?.getD true:=by
    rcases hg with ⟨rfl,hg⟩ | ⟨b,rfl,hg⟩
    · simp [Region.wanted,hg]
    · simpa using hg
  rw [hwant]
  by_cases hgt:g?.getD true=true
  · rw [if_pos hgt]
    rw [hgt] at hreq hq
    simp only [Bool.not_true,Bool.false_or,Au4] at hreq
    have hops':Ops (Bi I0 B A w) w (fun x=>(F7 true (Gc l x)).1) a.eval o.op:=fun x hx=>by
      refine K6 (hops x hx) rfl ?_
      have:=hreq.1
      unfold Qo at this
      rw [List.all_eq_true] at this
      exact this x hx
    exact D7.wp (K':=fun v w'=>∃ A',Ip I0 B A w r.objs r.frz A' w'∧Aj (Bi I0 B A' w') w' (Og g? r.v) v)
      (Ahl he hm hops' hq hreq.2 hnew hnd fun v w' A' h1 h2=>⟨A',h1,Aal hgt h2⟩) hK
  · rw [if_neg hgt]
    have hgf:g?=some false:=by
      cases g? with
      | none=>simp at hgt
      | some b=>simp only [Option.getD_some,Bool.not_eq_true] at hgt; rw [hgt]
    have h1:r.objs=[]:=hobj.resolve_right hgt
    have h2:r.frz=[]:=hfrz.resolve_right hgt
    subst hgf
    refine hK undef w ⟨A,by rw [h1,h2]; exact Ip.refl (.inl rfl),?_⟩
    simp only [Og,Aj]
    exact ⟨fun e=>(by cases e),fun _=>trivial⟩
theorem An4 {ops:Array Oper} {l:List DV} {dst:Option Tmp} {c x y:Operand} {ty:TypeId} {pos:String} {after:Array Edge} {guard:Option (Nat × Bool)} {a:Act} {cx:Ctx}
    (hc:Aj cx w (Gc l c) (a.eval c)) (hx:Aj cx w (Gc l x) (a.eval x)) (hy:Aj cx w (Gc l y) (a.eval y))
    {g?:Option Bool} (hg:(g?=none∧guard=none)∨∃ b,g?=some b∧Region.wanted ⟨dst,.pick c x y,ty,pos,after,guard⟩ (yielded ops a.tmps)=b)
    {c' r:Bool} {v:DV} (hsc:(F7 (g?.getD true) (Gc l c)).1=.bool c') (hp:Afy c' (Gc l x) (Gc l y)=some (r,v))
    (hreq:(!(g?.getD true)||((F7 (g?.getD true) (Gc l c)).2&&r))=true) {Q:Exit→Act→World→Prop} :
    H4 P ops ⟨dst,.pick c x y,ty,pos,after,guard⟩ a w Q fun u w'=>w'=w∧Aj cx w (Og g? v) u:=by
  intro K hK
  have hwant:Region.wanted ⟨dst,.pick c x y,ty,pos,after,guard⟩ (yielded ops a.tmps)=g?.getD true:=by
    rcases hg with ⟨rfl,hg⟩ | ⟨b,rfl,hg⟩
    · simp [Region.wanted,hg]
    · simpa using hg
  rw [hwant]
  by_cases hgt:g?.getD true=true
  · rw [if_pos hgt]
    rw [hgt] at hreq hsc
    simp only [Bool.not_true,Bool.false_or,Au4] at hreq
    have hcv:=K6 hc rfl hreq.1
    rw [hsc] at hcv; simp only [Aj] at hcv
    refine D7.wp (K':=fun u w'=>w'=w∧Aj cx w (Og g? v) u) (D7.value (v:=if c' then a.eval x else a.eval y) (w':=w) ?_ ⟨rfl,Aal hgt ?_⟩) hK
    · simp [execOp,hcv,asBool]
    · have h2:=hreq.2
      unfold Afy at hp
      cases c' with
      | true =>
        simp only [if_true]
        split at hp
        · rename_i p q e1 e2
          simp only [Auw,Au2] at hp
          obtain ⟨rfl,rfl⟩:=hp
          simp only [Au4] at h2
          have:=K6 hx rfl h2.1
          rw [e1] at this; exact this
        · rename_i k p k' q e1 e2
          by_cases hk:k=k'
          · simp only [hk,decide_true,Aut,Auw,Au2] at hp
            obtain ⟨rfl,rfl⟩:=hp
            simp only [Au4] at h2
            have:=K6 hx rfl h2.1
            rw [e1] at this; subst hk; exact this
          · simp [hk] at hp
        · cases hp
      | false =>
        simp only [Bool.false_eq_true,if_false]
        split at hp
        · rename_i p q e1 e2
          simp only [Auw,Au2] at hp
          obtain ⟨rfl,rfl⟩:=hp
          simp only [Au4] at h2
          have:=K6 hy rfl h2.2
          rw [show (!false)=true from rfl] at e2
          rw [e2] at this; exact this
        · rename_i k p k' q e1 e2
          by_cases hk:k=k'
          · simp only [hk,decide_true,Aut,Auw,Au2] at hp
            obtain ⟨rfl,rfl⟩:=hp
            simp only [Au4] at h2
            have:=K6 hy rfl h2.2
            rw [show (!false)=true from rfl] at e2
            rw [e2] at this; exact this
          · simp [hk] at hp
        · cases hp
  · rw [if_neg hgt]
    have hgf:g?=some false:=by
      cases g? with
      | none=>simp at hgt
      | some b=>simp only [Option.getD_some,Bool.not_eq_true] at hgt; rw [hgt]
    subst hgf
    refine hK undef w ⟨rfl,?_⟩
    simp only [Og,Aj]
    exact ⟨fun e=>(by cases e),fun _=>trivial⟩
theorem Akz {ops:Array Oper} {o:Oper} {t:Tmp} (h:Operand.tmp t∈o.op.operands.toList):t∈o.looksAt ops:=by
  unfold Oper.looksAt
  exact List.mem_append.2 (.inl (List.mem_filterMap.2 ⟨_,h,rfl⟩))
theorem Yk {c:Ctx} (v:Value):Aj c w (Ae2 v) v:=by
  unfold Ae2
  split<;>simp only [Aj]
  exact ⟨_,rfl,.inl rfl⟩
theorem R3 {c:Ctx} {ops:Array Oper} {l:List DV} {o:Oper} {a:Act}
    (hrd:∀ t∈o.looksAt ops,Aj c w (l.getD t .undef) (a.tmps.getD t undef)):∀ x∈o.op.operands.toList,Aj c w (Gc l x) (a.eval x):=by
  intro x hx
  cases x with
  | tmp t=>exact hrd t (Akz hx)
  | const v=>exact Yk v
  | global g=>simp only [Gc,Aj]
  | func f=>simp [Gc,Aj,Act.eval,A4]
theorem At7 (he:Io P E) {ops:Array Oper} {draw:Bool} {st st':St} {o:Oper} (hs:Kj E ops draw st o=some (true,st')) (hmut:Sd o.op=false)
    (hsp:∀ g?,M7 ops st.tmps o=some g?→(bif draw then none else Jv E (Gc st.tmps) g? o.op)=none) :
    ∃ d objs frz,st'.tmps=Rn st.tmps o.dst d∧st'.heap=objs.map (fun (x:Nat × OB)=>(x.1,false,x.2))++Ij st.heap frz ∧
      (∀ n ob,(n,ob)∈objs→look st.heap n=none)∧(objs.map (·.1)).Nodup∧(E5 E ops st o=frz∧∀ n∈frz,look st.heap n≠none) ∧
      ∀ {I0:Nat→Prop} {B:Nat} {A:Nat→Option Place} {w:World} {a:Act} {Q:Exit→Act→World→Prop},Mem I0 B A st.heap w→a.tmps.size=st.tmps.length →
        (∀ t∈o.looksAt ops,Aj (Bi I0 B A w) w (st.tmps.getD t .undef) (a.tmps.getD t undef))→(∀ n ob,(n,ob)∈objs→A n=none) →
        H4 P ops o a w Q fun v w'=>∃ A',Ip I0 B A w objs frz A' w'∧Aj (Bi I0 B A' w') w' d v:=by
  obtain ⟨dst,op,ty,pos,after,guard⟩:=o
  unfold Kj at hs
  cases hc:M7 ops st.tmps ⟨dst,op,ty,pos,after,guard⟩ with
  | none=>simp [hc] at hs
  | some g? =>
  simp only [hc,Au1] at hs
  dsimp only at hmut
  replace hsp:=hsp g? hc
  dsimp only at hsp
  have quiet:∀ (hs:((D2 E st.heap (dst.getD 0) (fun x=>(F7 (g?.getD true) (Gc st.tmps x)).1) op).bind fun r =>
      bif (r.objs.all fun (n,_)=>(look st.heap n).isNone)&&Kf (r.objs.map (·.1))&&(r.objs.isEmpty||dst.isSome)&&(r.frz.isEmpty||r.frz.all fun n=>(look st.heap n).isSome) then
        some (bif r.objs.isEmpty&&r.frz.isEmpty then !(g?.getD true)||(Qo (g?.getD true) (Gc st.tmps) op.operands.toList&&r.req) else g?.getD true&&(Qo (g?.getD true) (Gc st.tmps) op.operands.toList&&r.req),
          ({ tmps:=Rn st.tmps dst (Og g? r.v),heap:=(r.objs.map fun (n,ob)=>(n,false,ob))++Ij st.heap r.frz }:St))
      else none)=some (true,st')),∃ d objs frz,st'.tmps=Rn st.tmps dst d∧st'.heap=objs.map (fun (x:Nat × OB)=>(x.1,false,x.2))++Ij st.heap frz ∧
      (∀ n ob,(n,ob)∈objs→look st.heap n=none)∧(objs.map (·.1)).Nodup∧(E5 E ops st ⟨dst,op,ty,pos,after,guard⟩=frz∧∀ n∈frz,look st.heap n≠none) ∧
      ∀ {I0:Nat→Prop} {B:Nat} {A:Nat→Option Place} {w:World} {a:Act} {Q:Exit→Act→World→Prop},Mem I0 B A st.heap w→a.tmps.size=st.tmps.length →
        (∀ t∈Oper.looksAt ops ⟨dst,op,ty,pos,after,guard⟩,Aj (Bi I0 B A w) w (st.tmps.getD t .undef) (a.tmps.getD t undef))→(∀ n ob,(n,ob)∈objs→A n=none) →
        H4 P ops ⟨dst,op,ty,pos,after,guard⟩ a w Q fun v w'=>∃ A',Ip I0 B A w objs frz A' w'∧Aj (Bi I0 B A' w') w' d v:=by
    intro hs
    cases hq:D2 E st.heap (dst.getD 0) (fun x=>(F7 (g?.getD true) (Gc st.tmps x)).1) op with
    | none=>simp [hq] at hs
    | some r =>
      simp only [hq,Au1] at hs
      by_cases hcc:((r.objs.all fun (n,_)=>(look st.heap n).isNone)&&Kf (r.objs.map (·.1))&&(r.objs.isEmpty||dst.isSome)&&(r.frz.isEmpty||r.frz.all fun n=>(look st.heap n).isSome))=true
      · rw [hcc,Aut,Auw,Au2] at hs
        obtain ⟨hreq,rfl⟩:=hs
        simp only [Au4,Bool.or_eq_true,List.isEmpty_iff,Option.isNone_iff_eq_none,List.all_eq_true] at hcc
        obtain ⟨⟨⟨h1,h2⟩,h3⟩,h4⟩:=hcc
        replace hreq:(!(g?.getD true)||(Qo (g?.getD true) (Gc st.tmps) op.operands.toList&&r.req))=true∧(r.objs=[]∨g?.getD true=true)∧(r.frz=[]∨g?.getD true=true):=by
          cases ho:r.objs.isEmpty&&r.frz.isEmpty with
          | true =>
            rw [ho,Aut] at hreq
            simp only [Au4,List.isEmpty_iff] at ho
            exact ⟨hreq,.inl ho.1,.inl ho.2⟩
          | false =>
            rw [ho,Aux,Au4] at hreq
            exact ⟨by rw [hreq.2,Bool.or_true],.inr hreq.1,.inr hreq.1⟩
        refine ⟨Og g? r.v,r.objs,r.frz,rfl,rfl,fun n ob hn=>h1 (n,ob) hn,Ih h2,⟨by unfold E5; dsimp only; rw [hmut,hc]; simp only [Aux,hq],fun n hn e=>?_⟩,?_⟩
        · rcases h4 with h4 | h4
          · rw [h4] at hn; cases hn
          · have:=h4 n hn; rw [e] at this; cases this
        intro I0 B A w a Q hm hsz hrd hnew
        exact Aj7 he hm (R3 hrd) (Agn hsz hrd hc) hq hreq.1 hreq.2.1 hreq.2.2 hnew (Ih h2)
      · simp only [Bool.not_eq_true] at hcc; rw [hcc] at hs; cases hs
  cases op
  case pick c x y =>
    simp only at hs
    split at hs
    · rename_i c' hsc
      cases hp:Afy c' (Gc st.tmps x) (Gc st.tmps y) with
      | none=>simp [hp] at hs
      | some rv =>
        obtain ⟨r,v⟩:=rv
        simp only [hp,Au1,Auw,Au2] at hs
        obtain ⟨hreq,rfl⟩:=hs
        refine ⟨Og g? v,[],[],rfl,rfl,fun n ob hn=>(by cases hn),List.nodup_nil,⟨by unfold E5; dsimp only [Sd]; rw [hc]; rfl,fun n hn=>(by cases hn)⟩,?_⟩
        intro I0 B A w a Q hm hsz hrd hnew
        have hr:=R3 (w:=w) hrd
        refine H4.mono (An4 (hr c (by simp [Op.operands])) (hr x (by simp [Op.operands])) (hr y (by simp [Op.operands])) (Agn hsz hrd hc) hsc hp hreq) ?_
        rintro u w' ⟨rfl,hu⟩
        exact ⟨A,Ip.refl (.inl rfl),hu⟩
    · cases hs
  case store=>simp [Sd] at hmut
  case call c =>
    obtain ⟨callee,args,ts⟩:=c
    cases callee
    case builtin b =>
      cases b
      case append=>simp [Sd] at hmut
      all_goals (dsimp only at hs; rw [hsp] at hs; exact quiet hs)
    all_goals (dsimp only at hs; rw [hsp] at hs; exact quiet hs)
  all_goals (dsimp only at hs; rw [hsp] at hs; exact quiet hs)
end
end Go.Den
namespace Go.Den
open Go.RowKit (Below)
theorem L4 (a b:Dh) (n:Nat):look (a++b) n=match look a n with | some x=>some x | none=>look b n:=by
  induction a with
  | nil=>rfl
  | cons x a ih =>
    obtain ⟨m,y⟩:=x
    simp only [List.cons_append,look]
    cases m==n<;>simp [ih]
theorem Zp (h:Dh) (m n:Nat):look (match look h m with | some (_,o)=>upd h m (true,o) | none=>h) n=(look h n).map fun x=>(x.1||decide (n=m),x.2):=by
  cases hm:look h m with
  | none =>
    simp only
    cases hn:look h n with
    | none=>rfl
    | some x =>
      have:n≠m:=fun e=>by rw [e,hm] at hn; cases hn
      simp [this]
  | some x =>
    obtain ⟨f,o⟩:=x
    simp only
    rw [Fp hm]
    by_cases e:n=m
    · subst e; simp [hm]
    · rw [if_neg e]
      cases look h n with
      | none=>rfl
      | some x=>simp [e]
theorem Oy:∀ (ns:List Nat) (h:Dh) (n:Nat),look (Ij h ns) n=(look h n).map fun x=>(x.1||decide (n∈ns),x.2)
  | [],h,n=>by
    unfold Ij
    simp
  | m::ns,h,n=>by
    have e:Ij h (m::ns)=Ij (match look h m with | some (_,o)=>upd h m (true,o) | none=>h) ns:=rfl
    rw [e,Oy ns,Zp]
    cases look h n with
    | none=>rfl
    | some x=>simp [Bool.or_assoc]
theorem Tl {objs:List (Nat × OB)}:∀ {n:Nat} {x:Bool × OB},look (objs.map (fun (x:Nat × OB)=>(x.1,false,x.2))) n=some x→∃ ob,(n,ob)∈objs∧x=(false,ob):=by
  induction objs with
  | nil=>intro n x h; cases h
  | cons y l ih =>
    intro n x h
    simp only [List.map_cons,look] at h
    by_cases e:y.1=n
    · rw [show (y.1==n)=true by simpa using e] at h
      simp only [Aut,Auw] at h
      exact ⟨y.2,by rw [← e]; exact List.mem_cons_self,h.symm⟩
    · rw [show (y.1==n)=false by simpa using e] at h
      obtain ⟨ob,h1,h2⟩:=ih h
      exact ⟨ob,List.mem_cons_of_mem _ h1,h2⟩
theorem Wa {objs:List (Nat × OB)} {n:Nat} (h:look (objs.map (fun (x:Nat × OB)=>(x.1,false,x.2))) n=none):∀ ob,(n,ob) ∉ objs:=by
  induction objs with
  | nil=>intro ob h; cases h
  | cons y l ih =>
    intro ob hm
    simp only [List.map_cons,look] at h
    by_cases e:y.1=n
    · rw [show (y.1==n)=true by simpa using e] at h; simp at h
    · rw [show (y.1==n)=false by simpa using e] at h
      rcases List.mem_cons.1 hm with rfl | hm
      · exact e rfl
      · exact ih h ob hm
theorem Ahr {α:Type} {l:List (Nat × α)} (h:(l.map (·.1)).Nodup) {n:Nat} {x y:α} (h1:(n,x)∈l) (h2:(n,y)∈l):x=y:=by
  have e1:=Pv h h1
  have e2:=Pv h h2
  rw [e1] at e2; exact Option.some.inj e2
structure Pc (P:Program) (E:Env) (ops:Array Oper) (draw:Bool) (st:St) (o:Oper) (st':St) (d:DV):Prop where
  tmps:st'.tmps=Rn st.tmps o.dst d
  there:draw=true→∀ n,n∈E5 E ops st o→look st.heap n≠none
  stays:∀ n,look st.heap n≠none→look st'.heap n≠none
  same:draw=true→∀ n,n ∉ E5 E ops st o→look st.heap n≠none→look st'.heap n=look st.heap n
  run:∀ {I0:Nat→Prop} {B:Nat} {A:Nat→Option Place} {w:World} {a:Act} {Q:Exit→Act→World→Prop},Mem I0 B A st.heap w→a.tmps.size=st.tmps.length →
    (∀ t∈o.looksAt ops,Aj (Bi I0 B A w) w (st.tmps.getD t .undef) (a.tmps.getD t undef))→(∀ n,look st.heap n=none→look st'.heap n≠none→A n=none) →
    H4 P ops o a w Q fun v w'=>∃ A',Mem I0 B A' st'.heap w'∧Ho A w A' w'∧Below B w w'∧Aj (Bi I0 B A' w') w' d v ∧
      (∀ n p,A' n=some p→A n=none→look st.heap n=none∧look st'.heap n≠none) ∧
      (draw=true→P4 (E5 E ops st o) A w w'∧∀ m q,m ∉ E5 E ops st o→A m=some q→A' m=some q)
section
variable {P:Program} {E:Env}
theorem Aay (he:Io P E) {ops:Array Oper} {draw:Bool} {st st':St} {o:Oper} (hs:Kj E ops draw st o=some (true,st')) (hmut:Sd o.op=false)
    (hsp:∀ g?,M7 ops st.tmps o=some g?→(bif draw then none else Jv E (Gc st.tmps) g? o.op)=none) :
    ∃ d,Pc P E ops draw st o st' d:=by
  obtain ⟨d,objs,frz,h1,h2,h3,h4,h5,h6⟩:=At7 he hs hmut hsp
  obtain ⟨hm0,h5'⟩:=h5
  have hlk:∀ n,look st'.heap n=match look (objs.map (fun (x:Nat × OB)=>(x.1,false,x.2))) n with | some x=>some x | none=>(look st.heap n).map fun x=>(x.1||decide (n∈frz),x.2):=by
    intro n; rw [h2,L4,Oy]
  have hold:∀ n,look st.heap n≠none→look st'.heap n=(look st.heap n).map fun x=>(x.1||decide (n∈frz),x.2):=by
    intro n hn
    rw [hlk]
    cases hq:look (objs.map (fun (x:Nat × OB)=>(x.1,false,x.2))) n with
    | none=>rfl
    | some x =>
      obtain ⟨ob,hob,_⟩:=Tl hq
      exact absurd (h3 n ob hob) hn
  have hobj:∀ n ob,(n,ob)∈objs→look st'.heap n=some (false,ob):=by
    intro n ob hob
    rw [hlk]
    cases hq:look (objs.map (fun (x:Nat × OB)=>(x.1,false,x.2))) n with
    | none=>exact absurd hob (Wa hq ob)
    | some x =>
      obtain ⟨ob',hob',rfl⟩:=Tl hq
      rw [Ahr h4 hob hob']
  refine ⟨d,h1,fun _ n hn=>h5' n (hm0 ▸ hn),fun n hn=>?_,fun hd n hf hn=>?_,?_⟩
  · rw [hold n hn]
    cases hq:look st.heap n with
    | none=>exact absurd hq hn
    | some x=>simp
  · rw [hm0] at hf
    rw [hold n hn]
    cases look st.heap n with
    | none=>rfl
    | some x=>simp [hf]
  · intro I0 B A w a Q hm hsz hrd hnew
    have hnew':∀ n ob,(n,ob)∈objs→A n=none:=fun n ob hob=>hnew n (h3 n ob hob) (by rw [hobj n ob hob]; simp)
    refine (h6 hm hsz hrd hnew').mono ?_
    rintro v w' ⟨A',hg,hv⟩
    have hmem:Mem I0 B A' st'.heap w':=by
      refine hg.mem hm (fun n p fo' hp hl=>?_) (fun n ob fo' hob hn hl=>?_)
      · rw [hlk] at hl
        cases hq:look (objs.map (fun (x:Nat × OB)=>(x.1,false,x.2))) n with
        | some x =>
          obtain ⟨ob,hob,_⟩:=Tl hq
          rw [hnew' n ob hob] at hp; cases hp
        | none =>
          rw [hq] at hl
          cases hf:look st.heap n with
          | none=>rw [hf] at hl; cases hl
          | some fo=>rw [hf] at hl; cases hl; exact ⟨fo,rfl,rfl⟩
      · rw [hobj n ob hob] at hl; cases hl; rfl
    refine ⟨A',hmem,hg.Ap7,hg.below.mono hm.hB,hv,fun n p hp hn=>?_,fun hd=>⟨fun m q b _ hq hqd hqb=>hg.below.block b (hm.blkB m q b hq hqd hqb).2,fun m q hmf hq=>?_⟩⟩
    · obtain ⟨_,_,ob,hob,_⟩:=hg.new n p hn hp
      exact ⟨h3 n ob hob,by rw [hobj n ob hob]; simp⟩
    · have:=hg.old m q hq
      rw [this]
      rw [hm0] at hmf
      cases q
      simp [Xc,hmf]
end
end Go.Den
namespace Go.Den
open Go.RowKit (Below)
section
variable {P:Program} {E:Env}
theorem Oh {o:Oper} {y:Nat→Option Bool} (h:o.guard=none):Region.wanted o y=true:=by
  unfold Region.wanted; rw [h]
theorem Q1 {ops:Array Oper} {l:List DV} {o:Oper} (h:M7 ops l o=some none):o.guard=none:=by
  unfold M7 at h
  split at h
  · assumption
  · split at h
    · split at h<;>cases h
    · cases h
structure Pe (ns:List Nat) (nm:Option Nat) (h h':Dh):Prop where
  there:∀ m,m∈ns→look h m≠none
  stays:∀ m,look h m≠none→look h' m≠none
  same:∀ m,m ∉ ns→some m≠nm→look h' m=look h m
theorem Ld {h:Dh} {n:Nat} {x y:Bool × OB} (hl:look h n=some x):Pe [n] none h (upd h n y) where
  there:=fun m hm=>by rw [List.mem_singleton.1 hm,hl]; simp
  stays:=fun m hm=>by rw [Fp hl]; split<;>simp_all
  same:=fun m hm _=>by rw [Fp hl,if_neg (fun e=>hm (by rw [e]; exact List.mem_singleton.2 rfl))]
theorem Ph {h:Dh} {nm:Nat} {x:Bool × OB}:Pe [] (some nm) h ((nm,x)::h) where
  there:=fun m hm=>by cases hm
  stays:=fun m hm=>by simp only [look]; cases nm==m<;>simp [hm]
  same:=fun m _ hne=>by
    simp only [look]
    rw [show (nm==m)=false by simpa using fun e:nm=m=>hne (by rw [e])]; rfl
theorem Xk {h:Dh} {n nm:Nat} {x y z:Bool × OB} (hl:look h n=some x):Pe [n] (some nm) h ((nm,z)::upd h n y) where
  there:=(Ld (y:=y) hl).there
  stays:=fun m hm=>Ph.stays m ((Ld (y:=y) hl).stays m hm)
  same:=fun m hm hne=>by rw [Ph.same m (by simp) hne,(Ld (y:=y) hl).same m hm (by simp)]
theorem Aat {h h':Dh} {t:TypeId} {a v:DV} {r:Bool} (hs:Sy E h t a v=some (r,h')):Pe (Akn a) none h h':=by
  unfold Sy at hs
  cases hT:E.ty t with
  | none=>simp [hT] at hs
  | some ti =>
  simp only [hT,Au1] at hs
  cases hc:(Md v&&(cells v).length==ti.size&&(cells v).all Qh) with
  | false=>rw [hc] at hs; simp at hs
  | true =>
  rw [hc,Aut] at hs
  split at hs
  · rename_i n i j
    split at hs
    · rename_i cs hlk
      cases hq:(i==0&&decide (j+ti.size≤cs.length)) with
      | false=>rw [hq] at hs; simp at hs
      | true =>
        rw [hq,Aut,Auw,Au2] at hs
        obtain ⟨_,rfl⟩:=hs
        exact Ld hlk
    · rename_i e k l hlk
      split at hs
      · rename_i k' x
        cases hq:(j==0&&decide (k=k')) with
        | false=>rw [hq] at hs; simp at hs
        | true =>
          rw [hq,Aut,Auw,Au2] at hs
          obtain ⟨_,rfl⟩:=hs
          exact Ld hlk
      · cases hs
    · rename_i e sz l hlk
      cases hlow:J2 h (cells v) with
      | none=>simp [hlow] at hs
      | some q =>
      obtain ⟨vs,ns⟩:=q
      simp only [hlow,Au1] at hs
      cases hq:(decide (j+ti.size≤sz)&&ns.isEmpty) with
      | false=>rw [hq] at hs; simp at hs
      | true =>
        rw [hq,Aut,Auw,Au2] at hs
        obtain ⟨_,rfl⟩:=hs
        exact Ld hlk
    · cases hs
  · cases hs
theorem Aab {h h':Dh} {nm:Nat} {t:TypeId} {s x v:DV} {r:Bool} (ha:L9 E h nm t s x=some (r,v,h')):Pe (Zl s) (some nm) h h'∧look h nm=none:=by
  unfold L9 at ha
  split at ha
  · rename_i e _ hT
    cases hE:E.ty e with
    | none=>simp [hE] at ha
    | some ei =>
    simp only [hE,Au1] at ha
    cases hq:(decide (ei.bytes≤128)&&decide (0<ei.size)&&(look h nm).isNone) with
    | false=>rw [hq] at ha; simp at ha
    | true =>
    rw [hq,Aut] at ha
    simp only [Au4,Au0,Option.isNone_iff_eq_none] at hq
    refine ⟨?_,hq.2⟩
    split at ha
    · split at ha
      · rename_i k hk
        cases hs1:(ei.size==1) with
        | false=>rw [hs1] at ha; simp at ha
        | true =>
        rw [hs1,Aut] at ha
        cases hel:Mj h k x with
        | none=>simp [hel] at ha
        | some l =>
          simp only [hel,Au1,Auw,Au2] at ha
          obtain ⟨_,_,rfl⟩:=ha
          exact Ph
      · cases hel:Mi h ei.size x with
        | none=>simp [hel] at ha
        | some l =>
          simp only [hel,Au1,Auw,Au2] at ha
          obtain ⟨_,_,rfl⟩:=ha
          exact Ph
    · rename_i n
      split at ha
      · rename_i e' k l' hlo
        cases hel:Mj h k x with
        | none=>simp [hel] at ha
        | some l =>
          simp only [hel,Au1] at ha
          cases hc:(e==e'&&ei.size==1) with
          | false=>rw [hc] at ha; simp at ha
          | true =>
            rw [hc,Aut] at ha
            simp only [Auw,Au2] at ha
            obtain ⟨_,_,rfl⟩:=ha
            exact Xk hlo
      · rename_i e' sz l' hlo
        cases hel:Mi h sz x with
        | none=>simp [hel] at ha
        | some l =>
          simp only [hel,Au1] at ha
          cases hc:(e==e'&&sz==ei.size) with
          | false=>rw [hc] at ha; simp at ha
          | true =>
            rw [hc,Aut] at ha
            simp only [Auw,Au2] at ha
            obtain ⟨_,_,rfl⟩:=ha
            exact Xk hlo
      · cases ha
    · cases ha
  · cases ha
theorem Uh {h h':Dh} {nm:Nat} {t:TypeId} {s x v:DV} {r:Bool} (ha:L9 E h nm t s x=some (r,v,h')):(look h' nm).isSome=true:=by
  have push:∀ {y:Bool × OB} {k:Dh},(look ((nm,y)::k) nm).isSome=true:=by intro y k; simp [look]
  unfold L9 at ha
  split at ha
  · rename_i e _ hT
    cases hE:E.ty e with
    | none=>simp [hE] at ha
    | some ei =>
    simp only [hE,Au1] at ha
    cases hq:(decide (ei.bytes≤128)&&decide (0<ei.size)&&(look h nm).isNone) with
    | false=>rw [hq] at ha; simp at ha
    | true =>
    rw [hq,Aut] at ha
    split at ha
    · split at ha
      · rename_i k hk
        cases hs1:(ei.size==1) with
        | false=>rw [hs1] at ha; simp at ha
        | true =>
        rw [hs1,Aut] at ha
        cases hel:Mj h k x with
        | none=>simp [hel] at ha
        | some l =>
          simp only [hel,Au1,Auw,Au2] at ha
          obtain ⟨_,_,rfl⟩:=ha
          exact push
      · cases hel:Mi h ei.size x with
        | none=>simp [hel] at ha
        | some l =>
          simp only [hel,Au1,Auw,Au2] at ha
          obtain ⟨_,_,rfl⟩:=ha
          exact push
    · rename_i n
      split at ha
      · rename_i e' k l' hlo
        cases hel:Mj h k x with
        | none=>simp [hel] at ha
        | some l =>
          simp only [hel,Au1] at ha
          cases hc:(e==e'&&ei.size==1) with
          | false=>rw [hc] at ha; simp at ha
          | true =>
            rw [hc,Aut] at ha
            simp only [Auw,Au2] at ha
            obtain ⟨_,_,rfl⟩:=ha
            exact push
      · rename_i e' sz l' hlo
        cases hel:Mi h sz x with
        | none=>simp [hel] at ha
        | some l =>
          simp only [hel,Au1] at ha
          cases hc:(e==e'&&sz==ei.size) with
          | false=>rw [hc] at ha; simp at ha
          | true =>
            rw [hc,Aut] at ha
            simp only [Auw,Au2] at ha
            obtain ⟨_,_,rfl⟩:=ha
            exact push
      · cases ha
    · cases ha
  · cases ha
theorem Aaw (he:Io P E) {ops:Array Oper} {draw:Bool} {st st':St} {dst:Option Tmp} {t:TypeId} {x y:Operand} {ty:TypeId} {pos:String} {after:Array Edge} {guard:Option (Nat × Bool)}
    (hs:Kj E ops draw st ⟨dst,.store t x y,ty,pos,after,guard⟩=some (true,st')):∃ d,Pc P E ops draw st ⟨dst,.store t x y,ty,pos,after,guard⟩ st' d:=by
  unfold Kj at hs
  cases hc:M7 ops st.tmps ⟨dst,.store t x y,ty,pos,after,guard⟩ with
  | none=>simp [hc] at hs
  | some g? =>
  cases g? with
  | some b=>simp [hc] at hs
  | none =>
  have hg:=Q1 hc
  dsimp only at hg
  simp only [hc,Au1] at hs
  cases hst:Sy E st.heap t (Gc st.tmps x) (Gc st.tmps y) with
  | none=>simp [hst] at hs
  | some rh =>
  obtain ⟨r,h'⟩:=rh
  simp only [hst,Au1,Auw,Au2] at hs
  obtain ⟨rfl,rfl⟩:=hs
  have ht:=Aat hst
  refine ⟨.undef,rfl,fun _=>ht.there,ht.stays,fun _ n hn _=>ht.same n hn (by simp),?_⟩
  intro I0 B A w a Q hm hsz hrd hnew
  have hr:=R3 (w:=w) hrd
  obtain ⟨w',hrun,h1,h2,h3,h4,h5,h6,h7⟩:=Ag3 he.ty hm (hr x (by simp [Op.operands])) (hr y (by simp [Op.operands])) hst rfl
  intro K hK
  rw [if_pos (Oh hg)]
  unfold Oper.wp execOp
  simp only [Sem.run_bind,Sem.run_pure,Result.andThen_ok,hrun]
  rw [Oper.upon_skip]
  refine hK undef w' ⟨A,h1,h2,h3,by simp [Aj],fun n p hp hn=>(by rw [hn] at hp; cases hp),fun _=>⟨h5,fun m q _ hq=>hq⟩⟩
theorem Y3 (he:Io P E) {ops:Array Oper} {draw:Bool} {st st':St} {dst:Option Tmp} {args:Array Operand} {ts:Array TypeId} {ty:TypeId} {pos:String} {after:Array Edge} {guard:Option (Nat × Bool)}
    (hs:Kj E ops draw st ⟨dst,.call ⟨.builtin .append,args,ts⟩,ty,pos,after,guard⟩=some (true,st')):∃ d,Pc P E ops draw st ⟨dst,.call ⟨.builtin .append,args,ts⟩,ty,pos,after,guard⟩ st' d:=by
  unfold Kj at hs
  cases hc:M7 ops st.tmps ⟨dst,.call ⟨.builtin .append,args,ts⟩,ty,pos,after,guard⟩ with
  | none=>simp [hc] at hs
  | some g? =>
  simp only [hc,Au1] at hs
  split at hs
  · rename_i s x t t' hargs hts
    have hg:=Q1 hc
    dsimp only at hg
    cases hq:(t==t'&&dst.isSome) with
    | false=>rw [hq] at hs; simp at hs
    | true =>
    rw [hq,Aut] at hs
    simp only [Au4,beq_iff_eq] at hq
    obtain ⟨rfl,hdst⟩:=hq
    cases hap:L9 E st.heap (dst.getD 0) t (Gc st.tmps s) (Gc st.tmps x) with
    | none=>simp [hap] at hs
    | some rh =>
    obtain ⟨r,v,h'⟩:=rh
    simp only [hap,Au1,Auw,Au2] at hs
    obtain ⟨rfl,rfl⟩:=hs
    obtain ⟨ht,hnone⟩:=Aab hap
    have hmut:E5 E ops st ⟨dst,.call ⟨.builtin .append,args,ts⟩,ty,pos,after,guard⟩=Zl (Gc st.tmps s):=by
      unfold E5 Auc; simp only [hargs,Sd,Aut]
    obtain rfl:args=#[s,x]:=by
      cases args with | mk l=>simp only at hargs; rw [hargs]
    obtain rfl:ts=#[t,t]:=by
      cases ts with | mk l=>simp only at hts; rw [hts]
    refine ⟨v,rfl,fun _ n hn=>ht.there n (hmut ▸ hn),ht.stays,fun _ n hn hl=>ht.same n (hmut ▸ hn) (fun e=>hl ?_),?_⟩
    · cases dst with
      | none=>cases hdst
      | some d=>simp only [Option.getD_some] at e hnone; cases e; exact hnone
    · intro I0 B A w a Q hm hsz hrd hnew
      have hr:=R3 (w:=w) hrd
      have hnm:A (dst.getD 0)=none:=hnew _ hnone (by
        have:=Uh hap
        exact fun e=>by rw [e] at this; cases this)
      obtain ⟨v',w',A',hrun,h1,h2,h3,h4,h5,h6,h7,h8,_⟩:=Afc (ty:=ty) he.ty hm hnm (hr s (by simp [Op.operands,Call.operands])) (hr x (by simp [Op.operands,Call.operands])) hap rfl
      intro K hK
      rw [if_pos (Oh hg)]
      unfold Oper.wp execOp
      simp only [resolve,invoke,builtin,Sem.run_bind,Sem.run_pure,Result.andThen_ok,List.map_toArray,List.map_cons,List.map_nil,hrun]
      rw [Oper.upon_value]
      refine hK v' w' ⟨A',h1,h2,h3,h4,fun n p hp hn=>?_,fun _=>⟨hmut ▸ h7,fun m q hmn hq=>h8 m q (hmut ▸ hmn) hq⟩⟩
      have:=h5 n p hp hn
      subst this
      exact ⟨hnone,fun e=>by have:=Uh hap; rw [e] at this; cases this⟩
  · cases hs
theorem Oo {c c':Ctx} {w w':World} (h:J9 c w c' w') {p:Place} (hb:p.st≠.dead→∀ b,p.F1=some b→w'.heap[b]?=w.heap[b]?) {fo:Bool × OB} (hr:Cr c w p fo):Cr c' w' p fo:=by
  by_cases hd:p.st=.dead
  · obtain ⟨fz,ob⟩:=fo
    cases ob with
    | dead=>exact hd
    | box cs=>exact absurd hd (Bm hr.1)
    | ints e k l=>exact absurd hd (Bm hr.1)
    | recs e sz l=>exact absurd hd (Bm hr.1)
  · exact Cr.C4 h rfl rfl (hb hd) fo hr
theorem Y4 {ρ:Operand→DV} {g?:Option Bool} {op:Op} {n:Nat} {e:TypeId} (h:Jv E ρ g? op=some (n,e)) :
    g?=none∧∃ f args ts g x r c,op=.call ⟨.value f,args,ts⟩∧args.toList=[x]∧ρ f=.fn g [] []∧E.spoil g=some e∧ρ x=.agg [.int .i64 r,.int .i64 c,.oref n]:=by
  unfold Jv at h
  split at h
  · rename_i f args ts
    split at h
    · rename_i g x hf ha
      split at h
      · rename_i e' r c m he hx
        simp only [Auw,Au2] at h
        obtain ⟨rfl,rfl⟩:=h
        exact ⟨rfl,f,args,ts,g,x,r,c,rfl,ha,hf,he,hx⟩
      · cases h
    · cases h
  · cases h
theorem Aax (he:Io P E) {ops:Array Oper} {draw:Bool} {st st':St} {o:Oper} (hs:Kj E ops draw st o=some (true,st'))
    (hsp:¬ ∀ g?,M7 ops st.tmps o=some g?→(bif draw then none else Jv E (Gc st.tmps) g? o.op)=none):∃ d,Pc P E ops draw st o st' d:=by
  obtain ⟨dst,op,ty,pos,after,guard⟩:=o
  rw [Classical.not_forall] at hsp
  obtain ⟨g?,hsp⟩:=hsp
  rw [Classical.not_imp] at hsp
  obtain ⟨hc,hsp⟩:=hsp
  cases draw with
  | true=>exact absurd rfl hsp
  | false =>
  dsimp only at hsp
  rw [Aux] at hsp
  cases hsa:Jv E (Gc st.tmps) g? op with
  | none=>exact absurd hsa hsp
  | some ne =>
  obtain ⟨n,e⟩:=ne
  obtain ⟨rfl,f,args,ts,g,x,r,c,rfl,hargs,hf,hE,hx⟩:=Y4 hsa
  unfold Kj at hs
  simp only [hc,Au1,Aux,hsa] at hs
  have hg:=Q1 hc
  dsimp only at hg
  split at hs
  · rename_i e' l hlk
    cases hee:(e==e') with
    | false=>rw [hee] at hs; simp at hs
    | true =>
    rw [hee,Aut,Auw,Au2] at hs
    obtain ⟨_,rfl⟩:=hs
    obtain rfl:e=e':=by simpa using hee
    have ht:=Ld (y:=(false,OB.dead)) hlk
    refine ⟨.undef,rfl,fun h=>(by cases h),ht.stays,fun h=>(by cases h),?_⟩
    intro I0 B A w a Q hm hsz hrd hnew
    have hr:=R3 (w:=w) hrd
    have hf':=hr f (by simp [Op.operands,Call.operands])
    have hx':=hr x (by simp [Op.operands,Call.operands]; exact .inr (by rw [← Array.mem_toList_iff,hargs]; simp))
    rw [hf] at hf'
    rw [hx] at hx'
    simp only [Aj] at hf' hx'
    obtain ⟨fs,cs,hfv,hfs,hcs⟩:=hf'
    obtain ⟨vs,hxv,hvs⟩:=hx'
    have e1:fs=#[]:=by
      have:=hfs.length; simp at this; exact Array.eq_empty_of_size_eq_zero this.symm
    have e2:cs=#[]:=by
      have:=hcs.length; simp at this; exact Array.eq_empty_of_size_eq_zero this.symm
    subst e1; subst e2
    simp only [A4,Aj] at hvs
    obtain ⟨u1,us1,h1,rfl,u2,us2,rfl,rfl,v,us3,rfl,⟨hcell,p,hp,hpd⟩,rfl⟩:=hvs
    have hp:A n=some p:=hp
    have hvs':vs=#[.int .i64 r,.int .i64 c,v]:=Array.toList_inj.1 (by simpa using h1)
    subst hvs'
    obtain ⟨hlive,sv,hkind,hown⟩:=D6 hm hp hlk
    simp only [Bool.false_eq_true,if_false] at hlive
    have hsv:v=sv:=by
      rcases hpd with hpd | ⟨size,hk⟩
      · rw [hlive] at hpd; cases hpd
      · rw [hkind] at hk; cases hk; rfl
    subst hsv
    have hblk:p.F1=v.ownBlock:=by unfold Place.F1; rw [hkind]
    have hrun:=(he.spoil g e hE).run w r c v l (Qp hown (Nat.zero_le _))
    let A':Nat→Option Place:=fun m=>if m=n then some ⟨.dead,p.kind⟩ else A m
    have hA':∀ {m:Nat} {q:Place},A' m=some q→q.st≠.dead→m≠n∧A m=some q:=by
      intro m q hq hqd
      by_cases hmn:m=n
      · have hq:(if m=n then some ⟨.dead,p.kind⟩ else A m)=some q:=hq
        rw [if_pos hmn] at hq; cases hq; exact absurd rfl hqd
      · have hq:(if m=n then some ⟨.dead,p.kind⟩ else A m)=some q:=hq
        rw [if_neg hmn] at hq; exact ⟨hmn,hq⟩
    intro K hK
    rw [if_pos (Oh hg)]
    obtain rfl:args=#[x]:=by
      cases args with | mk l=>simp only at hargs; rw [hargs]
    refine D7.wp (K':=fun _ w'=>Below 0 w w'∧∀ b,b<w.heap.size→v.ownBlock≠some b→w'.heap[b]?=w.heap[b]?) ?_ ?_
    · unfold D7
      have hexec:(execOp a.eval ⟨dst,.call ⟨.value f,#[x],ts⟩,ty,pos,after,guard⟩).run P w=.ok (.enter g #[.agg #[.int .i64 r,.int .i64 c,v]]) w:=by
        simp only [execOp,resolve,hfv,Deferred.ofValue,Sem.run_bind,Sem.run_pure,Result.andThen_ok,invoke]
        have:(#[]++Array.map a.eval #[x]++#[]:Array Value)=#[.agg #[.int .i64 r,.int .i64 c,v]]:=by simp [hxv]
        rw [this]
        exact (he.spoil g e hE).call _ _
      rw [hexec]
      exact hrun.mono fun en w' ⟨⟨u,hu⟩,hb,hk⟩=>⟨u,hu,hb,hk⟩
    · rintro u w' ⟨hb,hk⟩
      have hmv:Ho A w A' w':=by
        refine ⟨hb.size,fun m q hq=>?_,fun m q b hq hql hqb _=>?_,fun b hlt hno=>hk b hlt (fun h=>hno n p hp hlive (by rw [hblk]; exact h))⟩
        · by_cases hmn:m=n
          · subst hmn
            exact ⟨⟨.dead,p.kind⟩,if_pos rfl,.inl rfl⟩
          · refine ⟨q,(if_neg hmn).trans hq,?_⟩
            by_cases hd:q.st=.dead
            · exact .inl hd
            · exact .inr ⟨hd,rfl⟩
        · obtain ⟨_,hq⟩:=hA' hq (by rw [hql]; simp)
          exact ⟨m,q,hq,hql,hqb⟩
      refine hK u w' ⟨A',⟨Nat.le_trans hm.hB hb.size,hm.I0lt,fun m q fo hq hlo=>?_,fun m q b hq hqd hqb=>?_,fun m m' q q' b hq hq' hqd hqd' hqb hqb'=>?_⟩,hmv,⟨hb.os,hb.tape,hb.output,hb.size,fun b hlt=>hk b (Nat.lt_of_lt_of_le hlt hm.hB) fun h=>?_⟩,by simp [Aj],fun m q hq hn=>?_,fun h=>(by cases h)⟩
      · rw [Fp hlk] at hlo
        by_cases hmn:m=n
        · rw [if_pos hmn] at hlo; cases hlo
          have hq:(if m=n then some ⟨.dead,p.kind⟩ else A m)=some q:=hq
          rw [if_pos hmn] at hq; cases hq
          rfl
        · rw [if_neg hmn] at hlo
          have hq:(if m=n then some ⟨.dead,p.kind⟩ else A m)=some q:=hq
          rw [if_neg hmn] at hq
          refine Oo hmv.C4 (fun hd b hb'=>hk b (hm.blkB m q b hq hd hb').2 fun h=>hmn (hm.inj m n q p b hq hp hd (by rw [hlive]; simp) hb' (by rw [hblk]; exact h))) (hm.obj m q fo hq hlo)
      · obtain ⟨_,hq⟩:=hA' hq hqd
        have:=hm.blkB m q b hq hqd hqb
        exact ⟨this.1,Nat.lt_of_lt_of_le this.2 hb.size⟩
      · obtain ⟨_,hq⟩:=hA' hq hqd
        obtain ⟨_,hq'⟩:=hA' hq' hqd'
        exact hm.inj m m' q q' b hq hq' hqd hqd' hqb hqb'
      · have:=(hm.blkB n p b hp (by rw [hlive]; simp) (by rw [hblk]; exact h)).1
        omega
      · by_cases hmn:m=n
        · subst hmn; rw [hp] at hn; cases hn
        · have hq:(if m=n then some ⟨.dead,p.kind⟩ else A m)=some q:=hq
          rw [if_neg hmn,hn] at hq; cases hq
  · cases hs
theorem Vl (he:Io P E) {ops:Array Oper} {draw:Bool} {st st':St} {o:Oper} (hs:Kj E ops draw st o=some (true,st')):∃ d,Pc P E ops draw st o st' d:=by
  cases hmut:Sd o.op with
  | false =>
    by_cases hsp:∀ g?,M7 ops st.tmps o=some g?→(bif draw then none else Jv E (Gc st.tmps) g? o.op)=none
    · exact Aay he hs hmut hsp
    · exact Aax he hs hsp
  | true =>
    obtain ⟨dst,op,ty,pos,after,guard⟩:=o
    dsimp only at hmut
    unfold Sd at hmut
    split at hmut
    · exact Aaw he hs
    · exact Y3 he hs
    · cases hmut
end
end Go.Den
namespace Go.Den
open Go.RowKit (Below)
structure Ia (S I0:Nat→Prop) (B:Nat) (w0:World) (A:Nat→Option Place) (f:Nat→Option (Bool × OB)) (g:Nat→DV) (len:Nat) (a:Act) (w:World):Prop where
  defers:a.defers=[]
  size:a.tmps.size=len
  below:Below B w0 w
  hB:B≤w.heap.size
  I0lt:∀ b,I0 b→b<B
  obj:∀ n p,A n=some p→∃ fo,f n=some fo∧Cr (Bi I0 B A w) w p fo
  blkB:∀ n p b,A n=some p→p.st≠.dead→p.F1=some b→B≤b∧b<w.heap.size
  inj:∀ n m p q b,A n=some p→A m=some q→p.st≠.dead→q.st≠.dead→p.F1=some b→q.F1=some b→n=m
  tmps:∀ t,Aj (Bi I0 B A w) w (g t) (a.tmps.getD t undef)
  kept:∀ b,S b→b<w.heap.size∧w.heap[b]?=w0.heap[b]?∧∀ n p,A n=some p→p.st=.live→p.F1≠some b
theorem Ya {S:Nat→Prop} {A A':Nat→Option Place} {w0 w w':World} (h:∀ b,S b→b<w.heap.size∧w.heap[b]?=w0.heap[b]?∧∀ n p,A n=some p→p.st=.live→p.F1≠some b) (hm:Ho A w A' w') :
    ∀ b,S b→b<w'.heap.size∧w'.heap[b]?=w0.heap[b]?∧∀ n p,A' n=some p→p.st=.live→p.F1≠some b:=fun b hb=>by
  obtain ⟨k1,k2,k3⟩:=h b hb
  refine ⟨Nat.lt_of_lt_of_le k1 hm.size,(hm.kept b k1 k3).trans k2,fun n p hp hl hbk=>?_⟩
  obtain ⟨m,q,hq,hql,hqb⟩:=hm.live n p b hp hl hbk k1
  exact k3 m q hq hql hqb
section
variable {P:Program} {E:Env} {S I0:Nat→Prop} {B:Nat} {w0:World} {A:Nat→Option Place} {f f':Nat→Option (Bool × OB)} {g g':Nat→DV} {len:Nat} {a:Act} {w:World}
theorem Ia.mem (h:Ia S I0 B w0 A f g len a w) {hp:Dh} (hf:∀ n p fo,A n=some p→look hp n=some fo→f n=some fo):Mem I0 B A hp w :=
  ⟨h.hB,h.I0lt,fun n p fo hn hl=>by
    obtain ⟨fo',h1,h2⟩:=h.obj n p hn
    rw [hf n p fo hn hl] at h1; cases h1; exact h2,h.blkB,h.inj⟩
theorem Acf {dst:Option Tmp} {v:Value} {t:Nat}:(a.put dst v).tmps.getD t undef=if dst=some t∧t<a.tmps.size then v else a.tmps.getD t undef:=by
  cases dst with
  | none=>simp [Act.put]
  | some d =>
    simp only [Act.put,Auw,Array.getD_eq_getD_getElem?]
    by_cases h:d=t
    · subst h
      by_cases h2:d<a.tmps.size
      · simp [h2]
      · simp [h2]
    · rw [Array.getElem?_setIfInBounds_ne h,if_neg (fun e=>h e.1)]
theorem Yd {l:List DV} {dst:Option Nat} {d:DV} {t:Nat}:(Rn l dst d).getD t .undef=if dst=some t∧t<l.length then d else l.getD t .undef:=by
  cases dst with
  | none=>simp [Rn]
  | some e =>
    simp only [Rn,Auw,Au3]
    by_cases h:e=t
    · subst h
      by_cases h2:e<l.length
      · simp [h2]
      · simp [h2]
    · rw [List.getElem?_set_ne h,if_neg (fun e=>h e.1)]
theorem Abf {dst:Option Tmp} {v:Value}:(a.put dst v).tmps.size=a.tmps.size:=by cases dst<;>simp [Act.put]
theorem put_defers {dst:Option Tmp} {v:Value}:(a.put dst v).defers=a.defers:=by cases dst<;>rfl
theorem T2 {l:List DV} {dst:Option Nat} {d:DV}:(Rn l dst d).length=l.length:=by cases dst<;>simp [Rn]
theorem Ia.step {ops:Array Oper} {st st':St} {o:Oper} {d:DV} (h:Ia S I0 B w0 A f g len a w) (hk:Pc P E ops true st o st' d)
    (h1:∀ n,A n≠none→look st.heap n≠none→look st.heap n=f n)
    (h2:∀ t∈o.looksAt ops,st.tmps.getD t .undef=g t) (h3:st.tmps.length=len)
    (h4:∀ n,look st.heap n=none→look st'.heap n≠none→f n=none)
    (h5:∀ n,look st'.heap n≠none→(n∈E5 E ops st o∨look st.heap n=none)→f' n=look st'.heap n)
    (h6:∀ n,n ∉ E5 E ops st o→¬(look st.heap n=none∧look st'.heap n≠none)→f' n=f n)
    (h7:∀ t,g' t=if o.dst=some t∧t<len then d else g t) {Q:Exit→Act→World→Prop} :
    H4 P ops o a w Q fun v w'=>∃ A',Ia S I0 B w0 A' f' g' len (a.put o.dst v) w':=by
  have hm:Mem I0 B A st.heap w:=h.mem fun n p fo hn hl=>by
    rw [← h1 n (by rw [hn]; simp) (by rw [hl]; simp)]; exact hl
  refine (hk.run hm (h.size.trans h3.symm) (fun t ht=>by rw [h2 t ht]; exact h.tmps t) (fun n hn hn'=>?_)).mono ?_
  · cases hA:A n with
    | none=>rfl
    | some p =>
      obtain ⟨fo,hfo,_⟩:=h.obj n p hA
      rw [h4 n hn hn'] at hfo; cases hfo
  · rintro v w' ⟨A',hm',hmv,hb,hv,hnew,hdr⟩
    obtain ⟨hkept,hsame⟩:=hdr rfl
    have hlater:=hmv.C4 (I0:=I0) (B:=B)
    refine ⟨A',put_defers.trans h.defers,Abf.trans h.size,h.below.trans hb,hm'.hB,hm'.I0lt,fun n p hp=>?_,hm'.blkB,hm'.inj,fun t=>?_,Ya h.kept hmv⟩
    · have Ks:look st'.heap n≠none→(n∈E5 E ops st o∨look st.heap n=none)→∃ fo,f' n=some fo∧Cr (Bi I0 B A' w') w' p fo:=by
        intro hl ht
        cases hq:look st'.heap n with
        | none=>exact absurd hq hl
        | some fo=>exact ⟨fo,by rw [h5 n hl ht,hq],hm'.obj n p fo hp hq⟩
      cases hA:A n with
      | none =>
        obtain ⟨e1,e2⟩:=hnew n p hp hA
        exact Ks e2 (.inr e1)
      | some q =>
        obtain ⟨fo,hfo,hr⟩:=h.obj n q hA
        by_cases hmu:n∈E5 E ops st o
        · exact Ks (hk.stays n (hk.there rfl n hmu)) (.inl hmu)
        · have hs:=hsame n q hmu hA
          rw [hp] at hs; cases hs
          refine ⟨fo,?_,Oo hlater (fun hd b hb=>hkept n _ b hmu hA hd hb) hr⟩
          rw [h6 n hmu (fun e=>by rw [h4 n e.1 e.2] at hfo; cases hfo)]; exact hfo
    · rw [Acf,h7,h.size]
      split
      · exact hv
      · exact Aj.C4 hlater _ _ (h.tmps t)
def E3 (S I0:Nat→Prop) (B:Nat) (w0:World) (st:St) (a:Act) (w:World):Prop:=∃ A,Ia S I0 B w0 A (look st.heap) (fun t=>st.tmps.getD t .undef) st.tmps.length a w
theorem E3.step {ops:Array Oper} {draw:Bool} {st st':St} {o:Oper} {d:DV} (h:E3 S I0 B w0 st a w) (hk:Pc P E ops draw st o st' d) {Q:Exit→Act→World→Prop} :
    H4 P ops o a w Q fun v w'=>E3 S I0 B w0 st' (a.put o.dst v) w':=by
  obtain ⟨A,h⟩:=h
  have hm:Mem I0 B A st.heap w:=h.mem fun n p fo hn hl=>hl
  refine (hk.run hm h.size (fun t _=>h.tmps t) (fun n hn _=>?_)).mono ?_
  · cases hA:A n with
    | none=>rfl
    | some p =>
      obtain ⟨fo,hfo,_⟩:=h.obj n p hA
      rw [hn] at hfo; cases hfo
  · rintro v w' ⟨A',hm',hmv,hb,hv,hnew,_⟩
    have hlater:=hmv.C4 (I0:=I0) (B:=B)
    refine ⟨A',put_defers.trans h.defers,Abf.trans (h.size.trans (by rw [hk.tmps,T2])),h.below.trans hb,hm'.hB,hm'.I0lt,fun n p hp=>?_,hm'.blkB,hm'.inj,fun t=>?_,Ya h.kept hmv⟩
    · have hl:look st'.heap n≠none:=by
        cases hA:A n with
        | none=>exact (hnew n p hp hA).2
        | some q =>
          obtain ⟨fo,hfo,_⟩:=h.obj n q hA
          exact hk.stays n (by rw [hfo]; simp)
      cases hq:look st'.heap n with
      | none=>exact absurd hq hl
      | some fo=>exact ⟨fo,rfl,hm'.obj n p fo hp hq⟩
    · rw [Acf,hk.tmps,Yd,h.size]
      split
      · exact hv
      · exact Aj.C4 hlater _ _ (h.tmps t)
end
end Go.Den
namespace Go.Den
open Go.RowKit (Below)
theorem J0 {n:Nat}:∀ {l:List Nat},K0 n l=true↔n∈l
  | []=>by simp [K0]
  | m::l=>by
    simp only [K0,List.mem_cons]
    by_cases h:n=m
    · subst h; simp
    · rw [show Nat.beq n m=false from by cases hb:Nat.beq n m with | false=>rfl | true=>exact absurd (Avb hb) h]
      simp only [Aux,J0,h,false_or]
theorem Qu {n:Nat} {l:List Nat}:K0 n l=false↔n ∉ l:=by rw [← J0]; simp
section
variable {α:Type} {val:Nat→α} {touch S S':Nat→Prop}
open Classical in
def after (val:Nat→α) (touch S:Nat→Prop):Nat→α
  | 0=>val 0
  | k+1=>if S k∧touch k then val (k+1) else after val touch S k
theorem Mb {N:Nat} (h:∀ j,j<N→touch j→(S j↔S' j)):after val touch S N=after val touch S' N:=by
  induction N with
  | zero=>rfl
  | succ k ih =>
    simp only [after]
    by_cases ht:touch k
    · rw [ih fun j hj=>h j (by omega)]
      by_cases hs:S k
      · rw [if_pos ⟨hs,ht⟩,if_pos ⟨(h k (by omega) ht).1 hs,ht⟩]
      · rw [if_neg (fun e=>hs e.1),if_neg (fun e=>hs ((h k (by omega) ht).2 e.1))]
    · rw [if_neg (fun e=>ht e.2),if_neg (fun e=>ht e.2)]
      exact ih fun j hj=>h j (by omega)
theorem Ys:∀ {k:Nat},(∀ j,j<k→¬ touch j→val (j+1)=val j)→(∀ j,j<k→touch j→S j)→after val touch S k=val k
  | 0,_,_=>rfl
  | k+1,hv,h=>by
    simp only [after]
    by_cases ht:touch k
    · rw [if_pos ⟨h k (by omega) ht,ht⟩]
    · rw [if_neg (fun e=>ht e.2),Ys (fun j hj=>hv j (by omega)) (fun j hj=>h j (by omega)),hv k (by omega) ht]
theorem Q6 {k:Nat}:∀ {N:Nat},k≤N→(∀ j,k≤j→j<N→touch j→¬ S j)→after val touch S N=after val touch S k
  | 0, hk, _ => by obtain rfl:k=0:=by omega
                   rfl
  | N+1,hk,h=>by
    by_cases e:k=N+1
    · rw [e]
    · simp only [after]
      rw [if_neg (fun e'=>h N (by omega) (by omega) e'.2 e'.1)]
      exact Q6 (by omega) fun j h1 h2=>h j h1 (by omega)
theorem J7 {k N:Nat} (hv:∀ j,j<N→¬ touch j→val (j+1)=val j) (hk:k≤N) (h:∀ j,j<N→touch j→(S j↔j<k)):after val touch S N=val k:=by
  rw [Q6 hk fun j h1 h2 h3 h4=>by have:=(h j h2 h3).1 h4; omega]
  exact Ys (fun j hj=>hv j (by omega)) fun j h1 h2=>(h j (by omega) h2).2 h1
theorem W1 {k N:Nat} (hk:k<N) (ht:touch k) (hs:S k) (h:∀ j,k<j→j<N→touch j→¬ S j):after val touch S N=val (k+1):=by
  rw [Q6 (k:=k+1) (by omega) fun j h1 h2=>h j (by omega) h2]
  simp only [after]
  rw [if_pos ⟨hs,ht⟩]
end
theorem J3 {p:Nat→Bool}:∀ {h:Dh} {n:Nat},look (h.filter fun x=>p x.1) n=bif p n then look h n else none
  | [],n=>by simp [look]
  | (m,x)::h,n=>by
    simp only [List.filter_cons,look]
    by_cases e:m=n
    · subst e
      cases hp:p m<;>simp [look,J3,hp]
    · rw [show (m==n)=false by simpa using e]
      cases hp:p m
      · simpa using J3
      · simp only [if_true,look,Aux,show (m==n)=false by simpa using e]
        exact J3
theorem Ah4 {ms:List Nat} {h:Dh} {n:Nat}:look (Abr ms h) n=if n∈ms then none else look h n:=by
  unfold Abr
  rw [J3 (p:=fun m=>!(K0 m ms))]
  by_cases hn:n∈ms
  · rw [J0.2 hn,if_pos hn]; rfl
  · rw [Qu.2 hn,if_neg hn]; rfl
theorem Ak1 {ms:List Nat} {h:Dh} {n:Nat}:look (Ao0 ms h) n=if n∈ms then look h n else none:=by
  unfold Ao0
  rw [J3 (p:=fun m=>K0 m ms)]
  by_cases hn:n∈ms
  · rw [J0.2 hn,if_pos hn]; rfl
  · rw [Qu.2 hn,if_neg hn]; rfl
theorem Ak0 {h:Dh} {n:Nat} {x:Bool × OB} (hl:look h n=some x):(n,x)∈h:=by
  induction h with
  | nil=>cases hl
  | cons y h ih =>
    obtain ⟨m,z⟩:=y
    simp only [look] at hl
    by_cases e:m=n
    · subst e; simp at hl; subst hl; exact List.mem_cons_self
    · rw [show (m==n)=false by simpa using e] at hl
      exact List.mem_cons_of_mem _ (ih hl)
structure Saw (P:Program) (E:Env) (ops:Array Oper) (ms:List Nat) (st:St) (o:Oper) (st':St) (mk mk':St) (d:DV):Prop where
  ok:Pc P E ops true mk o mk' d
  seen:mk=Mh ms st
  tmps:mk.tmps=st.tmps
  tmps':st'.tmps=mk'.tmps
  mask:∀ n,look mk.heap n=if n∈ms then none else look st.heap n
  out:∀ n,look mk'.heap n≠none→n ∉ ms
  heap:∀ n,look st'.heap n=if n∈ms then look st.heap n else look mk'.heap n
theorem Ajq {P:Program} {E:Env} (he:Io P E) {ops:Array Oper} {ms:List Nat} {st st':St} {o:Oper} (h:Aav E ops ms st o=some (true,st')):∃ mk mk' d,Saw P E ops ms st o st' mk mk' d:=by
  cases ms with
  | nil =>
    simp only [Aav] at h
    obtain ⟨d,hd⟩:=Vl he h
    exact ⟨st,st',d,hd,rfl,rfl,rfl,fun n=>by simp,fun n _=>by simp,fun n=>by simp⟩
  | cons m ms =>
    simp only [Aav] at h
    cases hs:Kj E ops true ⟨st.tmps,Abr (m::ms) st.heap⟩ o with
    | none=>rw [hs] at h; cases h
    | some r =>
      obtain ⟨r,mk'⟩:=r
      rw [hs] at h
      simp only at h
      cases hc:(mk'.heap.all fun x=>!(K0 x.1 (m::ms))) with
      | false=>rw [hc] at h; cases h
      | true =>
        rw [hc,Aut,Auw,Au2] at h
        obtain ⟨rfl,rfl⟩:=h
        obtain ⟨d,hd⟩:=Vl he hs
        have hout:∀ n,look mk'.heap n≠none→n ∉ m::ms:=by
          intro n hn
          cases hq:look mk'.heap n with
          | none=>exact absurd hq hn
          | some x =>
            have:=List.all_eq_true.1 hc _ (Ak0 hq)
            rw [Bool.not_eq_true'] at this
            exact Qu.1 this
        refine ⟨_,mk',d,hd,rfl,rfl,rfl,fun n=>Ah4,hout,fun n=>?_⟩
        show look (mk'.heap++Ao0 (m::ms) st.heap) n=_
        rw [L4,Ak1]
        by_cases hn:n∈m::ms
        · rw [if_pos hn]
          cases hq:look mk'.heap n with
          | none=>simp [hn]
          | some x=>exact absurd hn (hout n (by rw [hq]; simp))
        · rw [if_neg hn,if_neg hn]
          cases look mk'.heap n<;>rfl
section
variable {P:Program} {E:Env} {ops:Array Oper} {ms:List Nat} {st st' mk mk':St} {o:Oper} {d:DV} (h:Saw P E ops ms st o st' mk mk' d)
include h
theorem Saw.Arj {n:Nat} (hn:n∈E5 E ops (Mh ms st) o):look st.heap n≠none∧n ∉ ms:=by
  have h1:=h.ok.there rfl n (by rw [h.seen]; exact hn)
  rw [h.mask] at h1
  by_cases hm:n∈ms
  · rw [if_pos hm] at h1; exact absurd rfl h1
  · rw [if_neg hm] at h1; exact ⟨h1,hm⟩
theorem Saw.stays {n:Nat} (hn:look st.heap n≠none):look st'.heap n≠none:=by
  rw [h.heap]
  by_cases hm:n∈ms
  · rw [if_pos hm]; exact hn
  · rw [if_neg hm]
    exact h.ok.stays n (by rw [h.mask,if_neg hm]; exact hn)
theorem Saw.same {n:Nat} (hn:n ∉ E5 E ops (Mh ms st) o) (hc:¬(look st.heap n=none∧look st'.heap n≠none)):look st'.heap n=look st.heap n:=by
  cases hq:look st.heap n with
  | none =>
    cases hq':look st'.heap n with
    | none=>rfl
    | some x=>exact absurd ⟨hq,by rw [hq']; simp⟩ hc
  | some x =>
    rw [h.heap]
    by_cases hm:n∈ms
    · rw [if_pos hm,hq]
    · rw [if_neg hm]
      have h1:look mk.heap n=some x:=by rw [h.mask,if_neg hm,hq]
      rw [h.ok.same rfl n (by rw [h.seen]; exact hn) (by rw [h1]; simp),h1]
theorem Saw.made {n:Nat} (h1:look st.heap n=none) (h2:look st'.heap n≠none):n ∉ ms:=by
  intro hm
  rw [h.heap,if_pos hm] at h2
  exact h2 h1
theorem Saw.getD {t:Nat}:st'.tmps.getD t .undef=if o.dst=some t∧t<st.tmps.length then d else st.tmps.getD t .undef:=by
  rw [h.tmps',h.ok.tmps,h.tmps,Yd]
theorem Saw.length:st'.tmps.length=st.tmps.length:=by rw [h.tmps',h.ok.tmps,T2,h.tmps]
end
structure Trace (P:Program) (E:Env) (ops:Array Oper) (D:List (List Nat)) (M:List (Nat × List Nat)) (tr:Nat→St):Prop where
  saw:∀ k o,ops[k]?=some o→∃ mk mk' d,Saw P E ops (Gk D k M) (tr k) o (tr (k+1)) mk mk' d
  Arj:∀ k o,ops[k]?=some o→Ox D k=true→∀ n,n∈E5 E ops (Mh (Gk D k M) (tr k)) o→n∈Kz k M
theorem T6 {β:Type} {P:Program} {E:Env} (he:Io P E) {ops:Array Oper} {D:List (List Nat)} {M:List (Nat × List Nat)} {K:St→Option β} {b:β} :
    ∀ (l:List Oper) (k:Nat) (st:St),(∀ j,l[j]?=ops[k+j]?)→Afz E ops D M k l st K=some b →
    ∃ tr:Nat→St,tr 0=st∧K (tr l.length)=some b∧∀ j o,l[j]?=some o→(∃ mk mk' d,Saw P E ops (Gk D (k+j) M) (tr j) o (tr (j+1)) mk mk' d)∧(Ox D (k+j)=true→∀ n,n∈E5 E ops (Mh (Gk D (k+j) M) (tr j)) o→n∈Kz (k+j) M)
  | [],k,st,_,h=>⟨fun _=>st,rfl,h,fun j o hj=>(by cases hj)⟩
  | o::l,k,st,hl,h=>by
    simp only [Afz] at h
    cases hs:Aav E ops (Gk D k M) st o with
    | none=>rw [hs] at h; cases h
    | some r =>
      obtain ⟨r,st'⟩:=r
      rw [hs] at h
      simp only at h
      cases hc:(r&&(!(Ox D k)||(E5 E ops (Mh (Gk D k M) st) o).all fun n=>K0 n (Kz k M))) with
      | false=>rw [hc] at h; cases h
      | true =>
        rw [hc,Aut] at h
        simp only [Au4,Bool.or_eq_true,Bool.not_eq_true',List.all_eq_true] at hc
        obtain ⟨rfl,hc⟩:=hc
        obtain ⟨tr,h1,h2,h3⟩:=T6 he l (k+1) st' (fun j=>by have:=hl (j+1); simpa [Nat.add_assoc,Nat.add_comm 1 j] using this) h
        refine ⟨fun j=>match j with | 0=>st | j+1=>tr j,rfl,h2,fun j p hj=>?_⟩
        cases j with
        | zero =>
          simp only [List.getElem?_cons_zero,Auw] at hj
          subst hj
          refine ⟨by show ∃ mk mk' d,Saw P E ops (Gk D k M) st o (tr 0) mk mk' d; rw [h1]; exact Ajq he hs,fun hlo n hn=>?_⟩
          rcases hc with hc | hc
          · have hlo':Ox D k=true:=hlo
            rw [hc] at hlo'; cases hlo'
          · exact J0.1 (hc n hn)
        | succ j =>
          rw [List.getElem?_cons_succ] at hj
          have:=h3 j p hj
          rw [show k+(j+1)=k+1+j by omega]
          exact this
end Go.Den
namespace Go.Den
open Go.RowKit (Below)
theorem Qf {ops:Array Oper} {k:Nat} {o:Oper} (h:ops[k]?=some o):(ops.toList.map Hc).getD k []=Hc o:=by
  have:ops.toList[k]?=some o:=by simpa using h
  simp [Au3,this]
theorem Ez {ops:Array Oper} {k i:Nat} (h:i∈(ops.toList.map Hc).getD k []):∃ o,ops[k]?=some o∧i∈Hc o:=by
  cases hk:ops[k]? with
  | none =>
    have:ops.toList[k]?=none:=by simpa using hk
    simp [Au3,this] at h
  | some o=>rw [Qf hk] at h; exact ⟨o,rfl,h⟩
theorem Abp {o:Oper} {i:Nat}:i∈Hc o↔∃ e∈o.after,Region.binds .any e=true∧e.on=i:=by
  unfold Hc
  simp only [List.mem_filterMap,Array.mem_toList_iff]
  constructor
  · rintro ⟨e,he,h⟩
    cases hb:Region.binds .any e with
    | false=>rw [hb] at h; simp at h
    | true=>rw [hb] at h; simp at h; exact ⟨e,he,hb,h⟩
  · rintro ⟨e,he,hb,rfl⟩
    exact ⟨e,he,by rw [hb]; rfl⟩
structure Q8 (ops:Array Oper):Prop where
  lt:∀ (k:Nat) o,ops[k]?=some o→∀ i∈Hc o,i<k
  once:∀ (k j:Nat) o p t,ops[k]?=some o→ops[j]?=some p→p.dst=some t→o.dst=some t→j=k
  told:∀ (k j:Nat) o p t,ops[k]?=some o→ops[j]?=some p→p.dst=some t→t∈o.looksAt ops→Uo (ops.toList.map Hc) j k=true∨Uo (ops.toList.map Hc) k j=true
theorem lt_size {ops:Array Oper} {k:Nat} {o:Oper} (h:ops[k]?=some o):k<ops.size:=by
  rcases Nat.lt_or_ge k ops.size with h' | h'
  · exact h'
  · rw [Array.getElem?_eq_none h'] at h; cases h
theorem Acu {ops:Array Oper} (h:Z1 ops (ops.toList.map Hc)=true):Q8 ops:=by
  unfold Z1 at h
  simp only [List.all_eq_true,List.mem_range,List.length_map,Array.length_toList] at h
  refine ⟨fun k o hk i hi=>?_,fun k j o p t hk hj hp ho=>?_,fun k j o p t hk hj hp ht=>?_⟩
  · have h1:=h k (lt_size hk)
    rw [Au4,List.all_eq_true] at h1
    have:=h1.1 i (by rw [Qf hk]; exact hi)
    simpa [Nat.blt_eq] using this
  · have h1:=h k (lt_size hk)
    rw [Au4,hk] at h1
    have h2:=h1.2
    simp only [List.all_eq_true,List.mem_range] at h2
    have h3:=h2 j (lt_size hj)
    rw [hj] at h3
    simp only [hp,Au4,Bool.or_eq_true] at h3
    rcases h3.1 with h4 | h4
    · exact Avb h4
    · rw [ho] at h4; simp at h4
  · have h1:=h k (lt_size hk)
    rw [Au4,hk] at h1
    have h2:=h1.2
    simp only [List.all_eq_true,List.mem_range] at h2
    have h3:=h2 j (lt_size hj)
    rw [hj] at h3
    simp only [hp,Au4,Bool.or_eq_true] at h3
    rcases h3.2 with h4 | h4
    · rw [J0.2 ht] at h4; simp at h4
    · exact h4
theorem Yq {D:List (List Nat)} {i j:Nat} (h:Uo D i j=true):i∈D.getD j []∨∃ m∈D.getD j [],i∈D.getD m []:=by
  unfold Uo at h
  simp only [Bool.or_eq_true,List.any_eq_true] at h
  exact h.imp J0.1 fun ⟨m,h1,h2⟩=>⟨m,h1,J0.1 h2⟩
section
variable {ops:Array Oper} (hd:Q8 ops)
include hd
theorem Q8.W0 {i j:Nat} (h:Uo (ops.toList.map Hc) i j=true):i<j:=by
  rcases Yq h with h | ⟨m,h1,h2⟩
  · obtain ⟨o,ho,hi⟩:=Ez h
    exact hd.lt j o ho i hi
  · obtain ⟨o,ho,hi⟩:=Ez h1
    obtain ⟨p,hp,hj⟩:=Ez h2
    have:=hd.lt j o ho m hi
    have:=hd.lt m p hp i hj
    omega
end
def Ty (ops:Array Oper) (S:Nat→Prop):Prop:=∀ k o,ops[k]?=some o→S k→∀ i∈Hc o,S i
theorem Ty.bef {ops:Array Oper} {S:Nat→Prop} (hc:Ty ops S) {k:Nat} (hk:∀ o,ops[k]?=some o→∀ i∈Hc o,S i) {i:Nat} (h:Uo (ops.toList.map Hc) i k=true):S i:=by
  rcases Yq h with h | ⟨m,h1,h2⟩
  · obtain ⟨o,ho,hi⟩:=Ez h
    exact hk o ho i hi
  · obtain ⟨o,ho,hi⟩:=Ez h1
    obtain ⟨p,hp,hj⟩:=Ez h2
    exact hc m p hp (hk o ho m hi) i hj
theorem Tx {D:List (List Nat)} {i j:Nat} (h1:i≠j) (h2:Uo D i j≠true) (h3:Uo D j i≠true):Lr D i j=true:=by
  unfold Lr
  have e1:Nat.beq i j=false:=by
    cases hb:Nat.beq i j with
    | false=>rfl
    | true=>exact absurd (Avb hb) h1
  rw [e1,Bool.not_eq_true _ |>.mp h2,Bool.not_eq_true _ |>.mp h3]; rfl
theorem Qt {D:List (List Nat)} {s k n:Nat} (ha:Lr D s k=true):∀ {M:List (Nat × List Nat)},n∈Kz s M→n∈Gk D k M
  | [],h=>by simp [Kz] at h
  | (s',ns)::M,h=>by
    simp only [Kz] at h
    simp only [Gk]
    cases hb:Nat.beq s' s with
    | true =>
      have:=Avb hb
      subst this
      rw [hb] at h
      rw [ha]
      simp only [Aut,List.mem_append] at h ⊢
      exact h.imp id (Qt ha)
    | false =>
      rw [hb] at h
      simp only [Aux] at h
      have:=Qt ha h
      cases Lr D s' k
      · exact this
      · exact List.mem_append.2 (.inr this)
theorem Ah3 {D:List (List Nat)} {s k:Nat} (ha:Lr D s k=true) (hk:k<D.length):Ox D s=true:=by
  unfold Ox
  exact List.any_eq_true.2 ⟨k,List.mem_range.2 hk,ha⟩
def Y1 (E:Env) (ops:Array Oper) (M:List (Nat × List Nat)) (tr:Nat→St) (n:Nat) (k:Nat):Prop :=
  ∃ o,ops[k]?=some o∧(n∈E5 E ops (Mh (Gk (ops.toList.map Hc) k M) (tr k)) o∨(look (tr k).heap n=none∧look (tr (k+1)).heap n≠none))
def Ajn (ops:Array Oper) (len:Nat) (t:Nat) (k:Nat):Prop:=t<len∧∃ o,ops[k]?=some o∧o.dst=some t
def O3 (E:Env) (ops:Array Oper) (M:List (Nat × List Nat)) (tr:Nat→St) (S:Nat→Prop) (n:Nat):Option (Bool × OB):=after (fun k=>look (tr k).heap n) (Y1 E ops M tr n) S ops.size
def Xm (ops:Array Oper) (tr:Nat→St) (S:Nat→Prop) (t:Nat):DV:=after (fun k=>(tr k).tmps.getD t .undef) (Ajn ops (tr 0).tmps.length t) S ops.size
section
variable {P:Program} {E:Env} {ops:Array Oper} {M:List (Nat × List Nat)} {tr:Nat→St} (hd:Q8 ops) (T:Trace P E ops (ops.toList.map Hc) M tr)
include T
theorem Trace.len {k:Nat} (h:k≤ops.size):(tr k).tmps.length=(tr 0).tmps.length:=by
  induction k with
  | zero=>rfl
  | succ k ih =>
    obtain ⟨mk,mk',d,hs⟩:=T.saw k ops[k] (Avd (by omega))
    rw [hs.length,ih (by omega)]
theorem Trace.stays {n j k:Nat} (hj:look (tr j).heap n≠none) (hjk:j≤k) (hk:k≤ops.size):look (tr k).heap n≠none:=by
  induction k with
  | zero => obtain rfl:j=0:=by omega
            exact hj
  | succ k ih =>
    by_cases e:j=k+1
    · rw [← e]; exact hj
    · obtain ⟨mk,mk',d,hs⟩:=T.saw k ops[k] (Avd (by omega))
      exact hs.stays (ih (by omega) (by omega))
theorem Trace.Ai5 {n j:Nat} (hj:j<ops.size) (ht:¬ Y1 E ops M tr n j):look (tr (j+1)).heap n=look (tr j).heap n:=by
  obtain ⟨mk,mk',d,hs⟩:=T.saw j ops[j] (Avd hj)
  exact hs.same (fun h=>ht ⟨_,Avd hj,.inl h⟩) (fun h=>ht ⟨_,Avd hj,.inr h⟩)
theorem Trace.Aqk {t j:Nat} (hj:j<ops.size) (ht:¬ Ajn ops (tr 0).tmps.length t j):(tr (j+1)).tmps.getD t .undef=(tr j).tmps.getD t .undef:=by
  obtain ⟨mk,mk',d,hs⟩:=T.saw j ops[j] (Avd hj)
  rw [hs.getD,T.len (by omega),if_neg (fun e=>ht ⟨e.2,_,Avd hj,e.1⟩)]
theorem Trace.Ks {n j:Nat} {o:Oper} (ho:ops[j]?=some o) (ht:Y1 E ops M tr n j):(n∈E5 E ops (Mh (Gk (ops.toList.map Hc) j M) (tr j)) o∧look (tr j).heap n≠none)∨(look (tr j).heap n=none∧look (tr (j+1)).heap n≠none):=by
  obtain ⟨o',ho',h⟩:=ht
  rw [ho] at ho'; cases ho'
  rcases h with h | h
  · obtain ⟨mk,mk',d,hs⟩:=T.saw j o ho
    exact .inl ⟨h,(hs.Arj h).1⟩
  · exact .inr h
theorem Trace.All {s k n:Nat} {o:Oper} (hs:ops[s]?=some o) (hk:k<ops.size) (ha:Lr (ops.toList.map Hc) s k=true) (hn:n∈E5 E ops (Mh (Gk (ops.toList.map Hc) s M) (tr s)) o):n∈Gk (ops.toList.map Hc) k M :=
  Qt ha (T.Arj s o hs (Ah3 ha (by simpa using hk)) n hn)
omit T in
theorem O9 {S:Nat→Prop} (hd:Q8 ops) (hc:Ty ops S) {k:Nat} (hk:¬ S k) {j:Nat} (hj:S j) (hlt:k<j):Lr (ops.toList.map Hc) j k=true:=by
  refine Tx (by omega) (fun e=>?_) (fun e=>?_)
  · have:=hd.W0 e; omega
  · exact hk (hc.bef (fun p hp=>hc j p hp hj) e)
omit T in
theorem Aac {S:Nat→Prop} (hd:Q8 ops) (hc:Ty ops S) {k:Nat} {o:Oper} (ho:ops[k]?=some o) (hr:∀ i∈Hc o,S i) {j:Nat} (hj:¬ S j) (hlt:j<k):Lr (ops.toList.map Hc) j k=true:=by
  refine Tx (by omega) (fun e=>?_) (fun e=>?_)
  · exact hj (hc.bef (fun p hp=>by rw [ho] at hp; cases hp; exact hr) e)
  · have:=hd.W0 e; omega
include hd
variable {S:Nat→Prop} (hc:Ty ops S) {k:Nat} {o:Oper} (ho:ops[k]?=some o) (hk:¬ S k) (hr:∀ i∈Hc o,S i)
include hc ho hk hr
theorem Trace.Aoj {n:Nat} (hm:n ∉ Gk (ops.toList.map Hc) k M) (h1:look (tr k).heap n≠none) (h2:O3 E ops M tr S n≠none):O3 E ops M tr S n=look (tr k).heap n:=by
  have hkN:=lt_size ho
  refine J7 (val:=fun k=>look (tr k).heap n) (fun j hj ht=>T.Ai5 hj ht) (by omega) fun j hj ht=>?_
  have hoj:ops[j]?=some ops[j]:=Avd hj
  constructor
  · intro hS
    rcases Nat.lt_or_ge j k with h | h
    · exact h
    · have hne:j≠k:=fun e=>hk (e ▸ hS)
      have ha:=O9 hd hc hk hS (by omega)
      rcases T.Ks hoj ht with ⟨h3,_⟩ | ⟨h3,_⟩
      · exact absurd (T.All hoj hkN ha h3) hm
      · exact absurd h3 (T.stays h1 (by omega) (by omega))
  · intro hlt
    refine Classical.byContradiction fun hS=>?_
    have ha:=Aac hd hc ho hr hS hlt
    rcases T.Ks hoj ht with ⟨h3,_⟩ | ⟨h3,h4⟩
    · exact hm (T.All hoj hkN ha h3)
    ·
      refine h2 ?_
      have:O3 E ops M tr S n=look (tr 0).heap n:=by
        refine J7 (k:=0) (val:=fun k=>look (tr k).heap n) (fun j hj ht=>T.Ai5 hj ht) (by omega) fun i hi hti=>⟨fun hSi=>?_,fun h=>by omega⟩
        exfalso
        have hoi:ops[i]?=some ops[i]:=Avd hi
        have hij:i≠j:=fun e=>hS (e ▸ hSi)
        have hji:j<i:=by
          rcases T.Ks hoi hti with ⟨_,h5⟩ | ⟨h5,h6⟩
          · rcases Nat.lt_or_ge j i with h | h
            · exact h
            · exact absurd h3 (T.stays h5 h (by omega))
          · rcases Nat.lt_or_ge j i with h | h
            · exact h
            · exact absurd h3 (T.stays h6 (by omega) (by omega))
        have hap:Lr (ops.toList.map Hc) i j=true:=by
          refine Tx hij (fun e=>?_) (fun e=>?_)
          · have:=hd.W0 e; omega
          · exact hS (hc.bef (fun p hp=>hc i p hp hSi) e)
        rcases T.Ks hoi hti with ⟨h5,_⟩ | ⟨h5,_⟩
        · obtain ⟨mk,mk',d,hsj⟩:=T.saw j _ hoj
          exact hsj.made h3 h4 (T.All hoi hj hap h5)
        · exact absurd h5 (T.stays h4 (by omega) (by omega))
      rw [this]
      cases hq:look (tr 0).heap n with
      | none=>rfl
      | some x=>exact absurd h3 (T.stays (j:=0) (by rw [hq]; simp) (by omega) (by omega))
theorem Trace.Aqz {t:Nat} (ht:t∈o.looksAt ops):Xm ops tr S t=(tr k).tmps.getD t .undef:=by
  have hkN:=lt_size ho
  refine J7 (val:=fun k=>(tr k).tmps.getD t .undef) (fun j hj h=>T.Aqk hj h) (by omega) fun j hj hj'=>?_
  obtain ⟨_,p,hp,hdst⟩:=hj'
  rcases hd.told k j o p t ho hp hdst ht with h | h
  · have:=hd.W0 h
    exact ⟨fun _=>this,fun _=>hc.bef (fun p hp=>by rw [ho] at hp; cases hp; exact hr) h⟩
  · have:=hd.W0 h
    exact ⟨fun hS=>absurd (hc.bef (fun p hp=>hc j p hp hS) h) hk,fun h=>by omega⟩
theorem Trace.step {S0 I0:Nat→Prop} {B:Nat} {w0:World} {A:Nat→Option Place} {a:Act} {w:World} (h:Ia S0 I0 B w0 A (O3 E ops M tr S) (Xm ops tr S) (tr 0).tmps.length a w) {Q:Exit→Act→World→Prop} :
    H4 P ops o a w Q fun v w'=>∃ A',Ia S0 I0 B w0 A' (O3 E ops M tr fun j=>S j∨j=k) (Xm ops tr fun j=>S j∨j=k) (tr 0).tmps.length (a.put o.dst v) w':=by
  have hkN:=lt_size ho
  obtain ⟨mk,mk',d,hs⟩:=T.saw k o ho
  have hout:∀ {n},look mk'.heap n≠none→look mk'.heap n=look (tr (k+1)).heap n:=by
    intro n hn
    rw [hs.heap,if_neg (hs.out n hn)]
  refine h.step hs.ok (fun n hA hl=>?_) (fun t ht=>?_) (by rw [hs.tmps,T.len (by omega)]) (fun n h1 h2=>?_) (fun n h1 h2=>?_) (fun n h1 h2=>?_) (fun t=>?_)
  · have hm:n ∉ Gk (ops.toList.map Hc) k M:=fun e=>hl (by rw [hs.mask,if_pos e])
    rw [hs.mask,if_neg hm] at hl ⊢
    refine (T.Aoj hd hc ho hk hr hm hl ?_).symm
    cases hA':A n with
    | none=>exact absurd hA' hA
    | some p =>
      obtain ⟨fo,hfo,_⟩:=h.obj n p hA'
      rw [hfo]; simp
  · rw [hs.tmps]; exact (T.Aqz hd hc ho hk hr ht).symm
  ·
    have hm:=hs.out n h2
    rw [hs.mask,if_neg hm] at h1
    rw [hout h2] at h2
    have:O3 E ops M tr S n=look (tr 0).heap n:=by
      refine J7 (k:=0) (val:=fun k=>look (tr k).heap n) (fun j hj ht=>T.Ai5 hj ht) (by omega) fun i hi hti=>⟨fun hSi=>?_,fun h=>by omega⟩
      exfalso
      have hoi:ops[i]?=some ops[i]:=Avd hi
      have hik:i≠k:=fun e=>hk (e ▸ hSi)
      rcases T.Ks hoi hti with ⟨h5,h6⟩ | ⟨h5,h6⟩
      · rcases Nat.lt_or_ge i k with hlt | hge
        · exact absurd h1 (T.stays h6 (by omega) (by omega))
        · exact hm (T.All hoi hkN (O9 hd hc hk hSi (by omega)) h5)
      · rcases Nat.lt_or_ge i k with hlt | hge
        · exact absurd h1 (T.stays h6 (by omega) (by omega))
        · exact absurd h5 (T.stays h2 (by omega) (by omega))
    rw [this]
    cases hq:look (tr 0).heap n with
    | none=>rfl
    | some x=>exact absurd h1 (T.stays (j:=0) (by rw [hq]; simp) (by omega) (by omega))
  · have hm:=hs.out n h1
    rw [hs.mask,if_neg hm,hs.seen] at h2
    have e1:=hout h1
    rw [e1] at h1 ⊢
    have ht:Y1 E ops M tr n k:=⟨o,ho,h2.imp id fun e=>⟨e,h1⟩⟩
    refine W1 (val:=fun k=>look (tr k).heap n) hkN ht (.inr rfl) fun i hlt hi hti hSi=>?_
    have hSi:=hSi.resolve_right (by omega)
    have hoi:ops[i]?=some ops[i]:=Avd hi
    rcases T.Ks hoi hti with ⟨h5,_⟩ | ⟨h5,_⟩
    · exact hm (T.All hoi hkN (O9 hd hc hk hSi hlt) h5)
    · exact absurd h5 (T.stays h1 (by omega) (by omega))
  · rw [hs.seen] at h1
    refine Mb fun j hj ht=>⟨fun h=>h.resolve_right fun e=>?_,.inl⟩
    subst e
    obtain ⟨o',ho',h3⟩:=ht
    rw [ho] at ho'; cases ho'
    rcases h3 with h3 | ⟨h3,h4⟩
    · exact h1 h3
    · have hm:=hs.made h3 h4
      refine h2 ⟨by rw [hs.mask,if_neg hm]; exact h3,?_⟩
      rw [hs.heap,if_neg hm] at h4; exact h4
  · split
    · rename_i ht
      have h1:Xm ops tr (fun j=>S j∨j=k) t=(tr (k+1)).tmps.getD t .undef:=by
        refine W1 (val:=fun k=>(tr k).tmps.getD t .undef) hkN ⟨ht.2,o,ho,ht.1⟩ (.inr rfl) fun i hlt hi hti hSi=>?_
        obtain ⟨_,p,hp,hdst⟩:=hti
        have:=hd.once i k p o t hp ho ht.1 hdst
        omega
      rw [h1,hs.getD,if_pos ⟨ht.1,by rw [T.len (by omega)]; exact ht.2⟩]
    · rename_i ht
      refine Mb fun j hj hj'=>⟨fun h=>h.resolve_right fun e=>?_,.inl⟩
      subst e
      obtain ⟨h1,p,hp,hdst⟩:=hj'
      rw [ho] at hp; cases hp
      exact ht ⟨hdst,h1⟩
end
end Go.Den
namespace Go.Den
open Go.RowKit (Below)
section
variable {P:Program} {E:Env} {S I0:Nat→Prop} {B:Nat} {w0:World}
theorem Af1 {β:Type} (he:Io P E) {ops:Array Oper} {draw:Bool} {Q:Exit→Act→World→Prop} {K:St→Option β} {r:β} :
    ∀ (l:List Oper) (k:Nat) (st:St),(∀ j,l[j]?=ops[k+j]?)→An7 E ops draw l st K=some r→∀ a w,E3 S I0 B w0 st a w →
    (∀ st a w,K st=some r→E3 S I0 B w0 st a w→Q .normal a w)→wpOps P ops Q (List.range' k l.length) a w
  | [],k,st,_,h,a,w,hh,hQ=>hQ st a w h hh
  | o::l,k,st,hl,h,a,w,hh,hQ=>by
    simp only [An7] at h
    cases hs:Kj E ops draw st o with
    | none=>rw [hs] at h; cases h
    | some x =>
      obtain ⟨b,st'⟩:=x
      rw [hs] at h
      simp only at h
      cases b with
      | false=>cases h
      | true =>
        simp only [Aut] at h
        obtain ⟨d,hd⟩:=Vl he hs
        have ho:ops[k]?=some o:=by simpa using (hl 0).symm
        rw [List.length_cons,List.range'_succ]
        simp only [wpOps,ho]
        have:=hh.step hd (Q:=Q) (wpOps P ops Q (List.range' (k+1) l.length)) (fun v w' hv=>Af1 he l (k+1) st' (fun j=>by have:=hl (j+1); simpa [Nat.add_assoc,Nat.add_comm 1 j] using this) h _ _ hv hQ)
        split
        · rename_i hw; rw [if_pos hw] at this; exact .inl this
        · rename_i hw; rw [if_neg hw] at this; exact this
theorem Ia.congr {A:Nat→Option Place} {f f':Nat→Option (Bool × OB)} {g g':Nat→DV} {len len':Nat} {a:Act} {w:World} (h:Ia S I0 B w0 A f g len a w) (hf:∀ n,f n=f' n) (hg:∀ t,g t=g' t) (hl:len=len'):Ia S I0 B w0 A f' g' len' a w:=by
  obtain rfl:f=f':=funext hf
  obtain rfl:g=g':=funext hg
  subst hl; exact h
def Km (listed:Array Bool) (j:Nat):Prop:=listed.getD j false=true
theorem N8 {l:Array Bool} {j:Nat} (h:l.getD j true=false):j<l.size∧l.getD j false=false:=by
  rcases Nat.lt_or_ge j l.size with h' | h'
  · refine ⟨h',?_⟩
    simp only [Array.getD_eq_getD_getElem?,Avd h',Option.getD_some] at h ⊢; exact h
  · simp [Array.getD_eq_getD_getElem?,Array.getElem?_eq_none h'] at h
theorem Tr {listed:Array Bool} {k:Nat} (hk:k<listed.size) (j:Nat):Km (listed.setIfInBounds k true) j↔Km listed j∨j=k:=by
  unfold Km
  simp only [Array.getD_eq_getD_getElem?]
  by_cases e:k=j
  · subst e; simp [hk]
  · rw [Array.getElem?_setIfInBounds_ne e]
    exact ⟨.inl,fun h=>h.resolve_right (fun h=>e h.symm)⟩
theorem count_set {listed:Array Bool} {k:Nat} (h:listed.getD k true=false):(listed.setIfInBounds k true).toList.count false+1=listed.toList.count false:=by
  obtain ⟨hk,h2⟩:=N8 h
  have hk':k<listed.toList.length:=by simpa using hk
  have hv:listed.toList[k]=false:=by
    simpa [Array.getD_eq_getD_getElem?,Avd hk] using h2
  have hp:0<List.count false listed.toList:=List.count_pos_iff.2 (hv ▸ List.getElem_mem hk')
  rw [Array.toList_setIfInBounds,List.count_set hk',hv,if_pos (beq_self_eq_true _),if_neg (by simp)]
  omega
theorem Ar5 {ops:Array Oper} {M:List (Nat × List Nat)} {tr:Nat→St} (hd:Q8 ops) (T:Trace P E ops (ops.toList.map Hc) M tr) {Q:Exit→Act→World→Prop}
    (hQ:∀ a w,E3 S I0 B w0 (tr ops.size) a w→Q .normal a w):∀ (fuel:Nat) (listed:Array Bool) (a:Act) (w:World),listed.size=ops.size→Ty ops (Km listed)→listed.toList.count false=fuel →
    (∃ A,Ia S I0 B w0 A (O3 E ops M tr (Km listed)) (Xm ops tr (Km listed)) (tr 0).tmps.length a w)→wpAny P .any ops Q fuel listed a w:=by
  have last:∀ (listed:Array Bool) (a:Act) (w:World),listed.size=ops.size→Region.ready .any ops listed=[]→(∃ A,Ia S I0 B w0 A (O3 E ops M tr (Km listed)) (Xm ops tr (Km listed)) (tr 0).tmps.length a w)→Q .normal a w:=by
    rintro listed a w hsz hr ⟨A,h⟩
    have all:∀ k,k<ops.size→Km listed k:=by
      intro k
      induction k using Nat.strongRecOn with
      | _ k ih =>
        intro hk
        refine Classical.byContradiction fun hn=>?_
        have:k∈Region.ready .any ops listed:=mem_ready.2 ⟨?_,ops[k],Avd hk,fun e he hb=>?_⟩
        · rw [hr] at this; cases this
        · unfold Km at hn
          have hk':k<listed.size:=by omega
          simp only [Array.getD_eq_getD_getElem?,Avd hk',Option.getD_some,Bool.not_eq_true] at hn ⊢
          exact hn
        · have hlt:=hd.lt k ops[k] (Avd hk) e.on (Abp.2 ⟨e,he,hb,rfl⟩)
          exact ih e.on hlt (by omega)
    refine hQ a w ⟨A,h.congr (fun n=>?_) (fun t=>?_) (T.len (Nat.le_refl _)).symm⟩
    · exact J7 (val:=fun k=>look (tr k).heap n) (fun j hj ht=>T.Ai5 hj ht) (Nat.le_refl _) fun j hj _=>⟨fun _=>hj,fun _=>all j hj⟩
    · exact J7 (val:=fun k=>(tr k).tmps.getD t .undef) (fun j hj ht=>T.Aqk hj ht) (Nat.le_refl _) fun j hj _=>⟨fun _=>hj,fun _=>all j hj⟩
  intro fuel
  induction fuel with
  | zero =>
    intro listed a w hsz hc hf h
    have hr:Region.ready .any ops listed=[]:=by
      refine List.eq_nil_iff_forall_not_mem.2 fun k hk=>?_
      have h1:=count_set (mem_ready.1 hk).1
      omega
    exact ⟨hr,last listed a w hsz hr h⟩
  | succ fuel ih =>
    intro listed a w hsz hc hf h
    refine ⟨fun hr=>last listed a w hsz hr h,fun k hk=>?_⟩
    obtain ⟨hun,o,ho,hall⟩:=mem_ready.1 hk
    obtain ⟨hks,hkf⟩:=N8 hun
    have hkS:¬ Km listed k:=by unfold Km; rw [hkf]; simp
    have hrS:∀ i∈Hc o,Km listed i:=fun i hi=>by
      obtain ⟨e,he,hb,rfl⟩:=Abp.1 hi
      exact hall e he hb
    obtain ⟨A,h⟩:=h
    have hstep:=T.step hd hc ho hkS hrS h (Q:=Q) (wpAny P .any ops Q fuel (listed.setIfInBounds k true)) (fun v w' hv=>by
      obtain ⟨A',hv⟩:=hv
      refine ih _ _ _ (by simp [hsz]) ?_ ?_ ⟨A',hv.congr (fun n=>?_) (fun t=>?_) rfl⟩
      · intro j p hp hj i hi
        rw [Tr hks] at hj ⊢
        rcases hj with hj | rfl
        · exact .inl (hc j p hp hj i hi)
        · rw [ho] at hp; cases hp
          exact .inl (hrS i hi)
      · have:=count_set hun; omega
      · exact Mb fun j _ _=>(Tr hks j).symm
      · exact Mb fun j _ _=>(Tr hks j).symm)
    unfold wpOp
    rw [ho]
    simp only
    split
    · rename_i hw; rw [if_pos hw] at hstep; exact .inl hstep
    · rename_i hw; rw [if_neg hw] at hstep; exact hstep
theorem E3.drew {st:St} {a:Act} {w:World} (h:E3 S I0 B w0 st a w):E3 S I0 B w0 st a { w with drawn:=w.drawn+1 }:=by
  obtain ⟨A,h⟩:=h
  have hmv:Ho A w A { w with drawn:=w.drawn+1 }:=⟨Nat.le_refl _,(Ho.refl A w).names,(Ho.refl A w).live,fun _ _ _=>rfl⟩
  have hl:=hmv.C4 (I0:=I0) (B:=B)
  exact ⟨A,h.defers,h.size,h.below.trans ⟨rfl,rfl,rfl,Nat.le_refl _,fun _ _=>rfl⟩,h.hB,h.I0lt,fun n p hp=>by
    obtain ⟨fo,h1,h2⟩:=h.obj n p hp
    exact ⟨fo,h1,Oo hl (fun _ _ _=>rfl) h2⟩,h.blkB,h.inj,fun t=>Aj.C4 hl _ _ (h.tmps t),h.kept⟩
theorem Al6 {β:Type} (he:Io P E) {id:Nat} {ops:Array Oper} {Q:Exit→Act→World→Prop} {K:St→Option β} {r:β} {st:St} (h:Al7 E ops st K=some r) {a:Act} {w:World} (hh:E3 S I0 B w0 st a w)
    (hQ:∀ st a w,K st=some r→E3 S I0 B w0 st a w→Q .normal a w):(Code.region id ops true).wp P Q a w:=by
  unfold Al7 at h
  cases hc:Z1 ops (ops.toList.map Hc) with
  | false=>rw [hc] at h; cases h
  | true =>
    rw [hc,Aut] at h
    have hd:=Acu hc
    generalize (bif Aeg ops (ops.toList.map Hc) 0 ops.toList then Zw E ops 0 ops.toList st else [])=M at h
    obtain ⟨tr,h0,h1,h2⟩:=T6 he ops.toList 0 st (fun j=>by simp) h
    have T:Trace P E ops (ops.toList.map Hc) M tr:=⟨fun k o ho=>by
      have:=(h2 k o (by simpa using ho)).1
      rw [Nat.zero_add] at this; exact this,fun k o ho hlo=>by
      have:=(h2 k o (by simpa using ho)).2
      rw [Nat.zero_add] at this; exact this hlo⟩
    refine wp_region_any he.mixed (Ar5 hd T (fun a w hw=>hQ _ a w (by simpa using h1) hw) _ _ _ _ (by simp) ?_ (by simp) ?_)
    · intro k o _ hk
      unfold Km at hk
      simp only [Array.getD_eq_getD_getElem?,Array.getElem?_replicate] at hk
      split at hk<;>cases hk
    · obtain ⟨A,hA⟩:=hh.drew
      subst h0
      refine ⟨A,hA.congr (fun n=>?_) (fun t=>?_) rfl⟩
      · refine (J7 (k:=0) (val:=fun k=>look (tr k).heap n) (fun j hj ht=>T.Ai5 hj ht) (by omega) fun j hj _=>⟨fun hk=>?_,fun h=>by omega⟩).symm
        unfold Km at hk
        simp only [Array.getD_eq_getD_getElem?,Array.getElem?_replicate] at hk
        split at hk<;>cases hk
      · refine (J7 (k:=0) (val:=fun k=>(tr k).tmps.getD t .undef) (fun j hj ht=>T.Aqk hj ht) (by omega) fun j hj _=>⟨fun hk=>?_,fun h=>by omega⟩).symm
        unfold Km at hk
        simp only [Array.getD_eq_getD_getElem?,Array.getElem?_replicate] at hk
        split at hk<;>cases hk
end
end Go.Den
namespace Go.Den
open Go.RowKit (Below)
def Ctx.only (c:Ctx) (ns:List Nat):Ctx:={ c with at_:=fun n=>if n∈ns then c.at_ n else none }
theorem Nu {n:Nat} {l:List Nat} (h:l.contains n=true):n∈l:=by simpa using h
theorem Zc {c:Ctx} {w:World} (ns:List Nat):∀ (f:Nat) (d:DV) (v:Value),Ee f ns d=true→Aj c w d v→Aj (c.only ns) w d v:=by
  intro f
  induction f with
  | zero=>intro d v h; simp [Ee] at h
  | succ f ih =>
    have all:∀ (l:List DV) (vs:List Value),l.all (Ee f ns)=true→A4 c w l vs→A4 (c.only ns) w l vs:=by
      intro l
      induction l with
      | nil=>intro vs _ h; rw [A4.Fu] at h ⊢; exact h
      | cons d l ihl =>
        intro vs h hv
        simp only [List.all_cons,Au4] at h
        rw [A4.Ce] at hv ⊢
        obtain ⟨u,us,e,h1,h2⟩:=hv
        exact ⟨u,us,e,ih d u h.1 h1,ihl us h.2 h2⟩
    intro d v h hv
    cases d with
    | agg l =>
      simp only [Ee] at h
      simp only [Aj] at hv ⊢
      obtain ⟨vs,e,hl⟩:=hv
      exact ⟨vs,e,all l _ h hl⟩
    | tup l =>
      simp only [Ee] at h
      simp only [Aj] at hv ⊢
      obtain ⟨vs,e,hl⟩:=hv
      exact ⟨vs,e,all l _ h hl⟩
    | fn g a b =>
      simp only [Ee,Au4] at h
      simp only [Aj] at hv ⊢
      obtain ⟨fs,cs,e,h1,h2⟩:=hv
      exact ⟨fs,cs,e,all a _ h.1 h1,all b _ h.2 h2⟩
    | gd g d =>
      simp only [Ee] at h
      simp only [Aj] at hv ⊢
      exact ⟨fun e=>ih d v h (hv.1 e),hv.2⟩
    | oref n =>
      simp only [Ee] at h
      simp only [Aj] at hv ⊢
      obtain ⟨h1,p,hp,hd⟩:=hv
      exact ⟨h1,p,by simp only [Ctx.only,Nu h,if_true]; exact hp,hd⟩
    | sref n o m =>
      simp only [Ee] at h
      simp only [Aj] at hv ⊢
      obtain ⟨h1,p,hp,hd⟩:=hv
      exact ⟨h1,p,by simp only [Ctx.only,Nu h,if_true]; exact hp,hd⟩
    | ptr n i j =>
      simp only [Ee] at h
      simp only [Aj] at hv ⊢
      obtain ⟨h1,p,hp,hd⟩:=hv
      exact ⟨h1,p,by simp only [Ctx.only,Nu h,if_true]; exact hp,hd⟩
    | ints g k l=>cases g<;>(simp only [Aj] at hv ⊢; exact hv)
    | recs g k l=>cases g<;>(simp only [Aj] at hv ⊢; exact hv)
    | undef=>simp only [Aj]
    | _=>simp only [Aj] at hv ⊢; exact hv
def Wo (n:Nat):List (Nat × Nat × Nat × OB)→Option (Nat × Nat × Nat × OB)
  | []=>none
  | x::xs=>if x.2.2.1=n then some x else Wo n xs
theorem Tp {n:Nat}:∀ {l:List (Nat × Nat × Nat × OB)} {x},Wo n l=some x→x∈l∧x.2.2.1=n
  | [],x,h=>by cases h
  | y::l,x,h=>by
    simp only [Wo] at h
    split at h
    · cases h; exact ⟨List.mem_cons_self,‹_›⟩
    · exact ⟨List.mem_cons_of_mem _ (Tp h).1,(Tp h).2⟩
theorem Sh:∀ {l:List (Nat × Nat × Nat × OB)} {x},(l.map (·.2.2.1)).Nodup→x∈l→Wo x.2.2.1 l=some x
  | [],x,_,h=>by cases h
  | y::l,x,hn,h=>by
    simp only [List.map_cons,List.nodup_cons] at hn
    simp only [Wo]
    rcases List.mem_cons.1 h with rfl | h
    · rw [if_pos rfl]
    · rw [if_neg (fun e=>hn.1 (by rw [e]; exact List.mem_map.2 ⟨x,h,rfl⟩))]
      exact Sh hn.2 h
theorem Qr {b j nm:Nat}:∀ {l:List (Nat × Nat × Nat × OB)},Ji b j l=some nm→∃ ob,(b,j,nm,ob)∈l
  | [],h=>by cases h
  | (b',j',nm',ob)::l,h=>by
    simp only [Ji] at h
    cases hb:(Nat.beq b b'&&Nat.beq j j') with
    | true =>
      rw [hb] at h
      simp only [Aut,Auw] at h
      simp only [Au4] at hb
      have e1:=Avb hb.1
      have e2:=Avb hb.2
      subst e1 e2 h
      exact ⟨ob,List.mem_cons_self⟩
    | false =>
      rw [hb] at h
      obtain ⟨ob',h'⟩:=Qr h
      exact ⟨ob',List.mem_cons_of_mem _ h'⟩
theorem Vz {st:St}:∀ {l:List (Nat × Nat × Nat × OB)} {h:Dh} {ns:List Nat},V0 st l=some (h,ns)→(l.map (·.2.2.1)).Nodup→ns.Nodup →
    (∀ x∈l,∃ s ob,Zf st x=some (s,ob)∧look h x.2.2.1=some (false,ob)∧∀ n,s=some n→n∈ns) ∧
    (∀ n fo,look h n=some fo→∃ x∈l,x.2.2.1=n) ∧
    (∀ x∈l,∀ y∈l,∀ n ob ob',Zf st x=some (some n,ob)→Zf st y=some (some n,ob')→x=y)
  | [],h,ns,hs,_,_=>by
    simp only [V0,Auw,Au2] at hs
    obtain ⟨rfl,rfl⟩:=hs
    exact ⟨fun x hx=>(by cases hx),fun n fo hl=>(by cases hl),fun x hx=>(by cases hx)⟩
  | x::l,h,ns,hs,hn,hns=>by
    simp only [V0] at hs
    cases ho:Zf st x with
    | none=>simp [ho] at hs
    | some r =>
      obtain ⟨s,ob⟩:=r
      cases hl:V0 st l with
      | none=>simp [ho,hl] at hs
      | some r =>
        obtain ⟨h',ns'⟩:=r
        simp only [ho,hl,Auw,Au2] at hs
        obtain ⟨rfl,rfl⟩:=hs
        simp only [List.map_cons,List.nodup_cons] at hn
        rw [List.nodup_append] at hns
        obtain ⟨i1,i2,i3⟩:=Vz hl hn.2 hns.2.1
        have hx:∀ y∈l,x.2.2.1≠y.2.2.1:=fun y hy e=>hn.1 (by rw [e]; exact List.mem_map.2 ⟨y,hy,rfl⟩)
        have cross:∀ y∈l,∀ n ob ob',Zf st x=some (some n,ob)→Zf st y=some (some n,ob')→False:=by
          intro y hy n o1 o2 h1 h2
          rw [ho] at h1; cases h1
          obtain ⟨s',ob',h3,_,h4⟩:=i1 y hy
          rw [h2] at h3; cases h3
          exact hns.2.2 n (by simp) n (h4 n rfl) rfl
        refine ⟨fun y hy=>?_,fun n fo hl'=>?_,fun y hy z hz n o1 o2 h1 h2=>?_⟩
        · rcases List.mem_cons.1 hy with rfl | hy
          · exact ⟨s,ob,ho,by simp [look],fun n e=>by rw [e]; simp⟩
          · obtain ⟨s',ob',h1,h2,h3⟩:=i1 y hy
            refine ⟨s',ob',h1,?_,fun n e=>List.mem_append.2 (.inr (h3 n e))⟩
            simp only [look,show (x.2.2.1==y.2.2.1)=false by simpa using hx y hy,Aux]
            exact h2
        · simp only [look] at hl'
          by_cases e:x.2.2.1=n
          · exact ⟨x,List.mem_cons_self,e⟩
          · rw [show (x.2.2.1==n)=false by simpa using e] at hl'
            obtain ⟨y,hy,hyn⟩:=i2 n fo hl'
            exact ⟨y,List.mem_cons_of_mem _ hy,hyn⟩
        · rcases List.mem_cons.1 hy with e1 | hy2
          · rcases List.mem_cons.1 hz with e2 | hz2
            · rw [e1,e2]
            · exact (cross z hz2 n o1 o2 (e1 ▸ h1) h2).elim
          · rcases List.mem_cons.1 hz with e2 | hz2
            · exact (cross y hy2 n o2 o1 (e2 ▸ h2) h1).elim
            · exact i3 y hy2 z hz2 n o1 o2 h1 h2
theorem Uf {st:St} {H:A8}:∀ {bs:List Nat} {h:Dh},Q4 st H bs=some h→bs.Nodup →
    (∀ b∈bs,∃ f cs,look st.heap b=some (f,.box cs)∧Pr H.objs H.boxes (b+1) 0 cs=true∧look h b=some (f,.box (Q3 H.objs (b+1) 0 cs)))∧(∀ n fo,look h n=some fo→n∈bs)
  | [],h,hs,_=>by
    simp only [Q4,Auw] at hs
    subst hs
    exact ⟨fun x hx=>(by cases hx),fun n fo hl=>(by cases hl)⟩
  | b::bs,h,hs,hn=>by
    simp only [Q4] at hs
    split at hs
    · rename_i f cs hl
      cases hc:Pr H.objs H.boxes (b+1) 0 cs with
      | false=>rw [hc] at hs; cases hs
      | true =>
        rw [hc,Aut] at hs
        cases hb:Q4 st H bs with
        | none=>rw [hb] at hs; cases hs
        | some h' =>
          rw [hb] at hs
          simp only [Auw] at hs
          subst hs
          simp only [List.nodup_cons] at hn
          obtain ⟨i1,i2⟩:=Uf hb hn.2
          refine ⟨fun c hc'=>?_,fun n fo hl'=>?_⟩
          · rcases List.mem_cons.1 hc' with rfl | hc'
            · exact ⟨f,cs,hl,hc,by simp [look]⟩
            · obtain ⟨f',cs',h1,h2,h3⟩:=i1 c hc'
              refine ⟨f',cs',h1,h2,?_⟩
              have:b≠c:=fun e=>hn.1 (e ▸ hc')
              simp only [look,show (b==c)=false by simpa using this,Aux]
              exact h3
          · simp only [look] at hl'
            by_cases e:b=n
            · rw [e]; exact List.mem_cons_self
            · rw [show (b==n)=false by simpa using e] at hl'
              exact List.mem_cons_of_mem _ (i2 n fo hl')
    · cases hs
theorem Xl {H:A8}:∀ (l:List DV) (k i:Nat),i<l.length→(Vi H k l).getD i .undef=(match Ji 0 (k+i) H.objs with | some nm=>.oref nm | none=>bif K0 (k+i) H.keep then l.getD i .undef else .undef)
  | [],k,i,h=>by simp at h
  | d::l,k,i,h=>by
    cases i with
    | zero =>
      simp only [Vi,List.getD_cons_zero,Nat.add_zero]
      cases Ji 0 k H.objs<;>rfl
    | succ i =>
      have:=Xl (H:=H) l (k+1) i (by simpa using h)
      simp only [Vi,List.getD_cons_succ,this]
      rw [show k+1+i=k+(i+1) by omega]
theorem Nc {H:A8}:∀ (l:List DV) (k:Nat),(Vi H k l).length=l.length
  | [],k=>rfl
  | d::l,k=>by simp [Vi,Nc l]
theorem Vx {H:A8}:∀ {l:List DV} {k i:Nat},Vy H k l=true→i<l.length→Ji 0 (k+i) H.objs=none→K0 (k+i) H.keep=true→Ee 8 H.boxes (l.getD i .undef)=true
  | [],k,i,_,h,_,_=>by simp at h
  | d::l,k,i,h,hi,h1,h2=>by
    simp only [Vy,Au4,Bool.or_eq_true,Bool.not_eq_true'] at h
    cases i with
    | zero =>
      rcases h.1 with h | h | h
      · rw [Nat.add_zero] at h1; rw [h1] at h; cases h
      · rw [Nat.add_zero] at h2; rw [h2] at h; cases h
      · exact h
    | succ i =>
      rw [List.getD_cons_succ]
      exact Vx (k:=k+1) h.2 (by simpa using hi) (by rw [show k+1+i=k+(i+1) by omega]; exact h1) (by rw [show k+1+i=k+(i+1) by omega]; exact h2)
theorem Ww {c c':Ctx} {w:World} {objs:List (Nat × Nat × Nat × OB)} {boxes:List Nat} {b:Nat} :
    ∀ (l:List DV) (vs:List Value) (k:Nat),Pr objs boxes b k l=true→A4 c w l vs →
    (∀ d v,Ee 8 boxes d=true→Aj c w d v→Aj c' w d v)→(∀ i nm d v,l[i]?=some d→Ji b (k+i) objs=some nm→Aj c w d v→Aj c' w (.oref nm) v)→A4 c' w (Q3 objs b k l) vs
  | [],vs,k,_,h,_,_=>by rw [A4.Fu] at h; subst h; simp [Q3,A4]
  | d::l,vs,k,hok,h,h1,h2=>by
    simp only [Pr,Au4,Bool.or_eq_true] at hok
    rw [A4.Ce] at h
    obtain ⟨u,us,rfl,hu,hus⟩:=h
    simp only [Q3]
    rw [A4.Ce]
    refine ⟨u,us,rfl,?_,Ww l us (k+1) hok.2 hus h1 fun i nm e v hi hn=>h2 (i+1) nm e v hi (by rw [show k+(i+1)=k+1+i by omega]; exact hn)⟩
    cases hn:Ji b k objs with
    | some nm=>exact h2 0 nm d u rfl hn hu
    | none =>
      rw [hn] at hok
      exact h1 d u (hok.1.resolve_left (by simp)) hu
end Go.Den
namespace Go.Den
open Go.RowKit (Below)
def Ari:OB→Nat
  | .recs _ sz _=>sz
  | _=>1
def Ix (ob:OB):Place:=⟨.live,.row (.slice none 0 0) (Ari ob)⟩
open Classical in
def M4 (st:St) (H:A8) (A:Nat→Option Place) (n:Nat):Option Place :=
  if n∈H.boxes then A n else
  match Wo n H.objs with
  | some x=>match Rh st x with
    | .nil=>some (Ix x.2.2.2)
    | .oref m=>A m
    | _=>none
  | none=>none
theorem Jl {st:St} {H:A8} {A:Nat→Option Place} {n:Nat} {p:Place} (h:M4 st H A n=some p) :
    (n∈H.boxes∧A n=some p)∨(n ∉ H.boxes∧∃ x∈H.objs,x.2.2.1=n∧((Rh st x=.nil∧p=Ix x.2.2.2)∨∃ m,Rh st x=.oref m∧A m=some p)):=by
  unfold M4 at h
  by_cases hb:n∈H.boxes
  · rw [if_pos hb] at h; exact .inl ⟨hb,h⟩
  · rw [if_neg hb] at h
    refine .inr ⟨hb,?_⟩
    cases hf:Wo n H.objs with
    | none=>rw [hf] at h; cases h
    | some x =>
      rw [hf] at h
      obtain ⟨hx,hn⟩:=Tp hf
      refine ⟨x,hx,hn,?_⟩
      simp only at h
      split at h
      · rename_i e; cases h; exact .inl ⟨e,rfl⟩
      · rename_i m e; exact .inr ⟨m,e,h⟩
      · cases h
theorem Oq {st:St} {x:Nat × Nat × Nat × OB} {s:Option Nat} {ob:OB} (h:Zf st x=some (s,ob)) :
    (Rh st x=.nil∧s=none∧ob=x.2.2.2∧((∃ e k,ob=.ints e k [])∨∃ e sz,0<sz∧ob=.recs e sz [])) ∨
    (∃ m,Rh st x=.oref m∧s=some m∧look st.heap m=some (false,ob)∧((∃ e k l,ob=.ints e k l)∨∃ e sz l,ob=.recs e sz l)):=by
  unfold Zf at h
  split at h
  · rename_i hs
    left
    split at h
    · rename_i e k hx
      simp only [Auw,Au2] at h
      exact ⟨hs,h.1.symm,by rw [hx]; exact h.2.symm,.inl ⟨e,k,h.2.symm⟩⟩
    · rename_i e sz hx
      cases hb:Nat.blt 0 sz with
      | false=>rw [hb] at h; cases h
      | true =>
        rw [hb] at h
        simp only [Aut,Auw,Au2] at h
        exact ⟨hs,h.1.symm,by rw [hx]; exact h.2.symm,.inr ⟨e,sz,by simpa [Nat.blt_eq] using hb,h.2.symm⟩⟩
    · cases h
  · rename_i m hs
    right
    split at h
    · rename_i e k l hl
      simp only [Auw,Au2] at h
      exact ⟨m,hs,h.1.symm,by rw [hl,h.2],.inl ⟨e,k,l,h.2.symm⟩⟩
    · rename_i e sz l hl
      simp only [Auw,Au2] at h
      exact ⟨m,hs,h.1.symm,by rw [hl,h.2],.inr ⟨e,sz,l,h.2.symm⟩⟩
    · cases h
  · cases h
section
variable {S I0:Nat→Prop} {B:Nat} {w0:World}
theorem Air {H:A8} {st st1:St} (h:Ae7 (some H) st=some st1) {a:Act} {w:World} (hh:E3 S I0 B w0 st a w):E3 S I0 B w0 st1 a w:=by
  obtain ⟨A,hA⟩:=hh
  simp only [Ae7] at h
  cases hbd:Q4 st H H.boxes with
  | none=>rw [hbd] at h; cases h
  | some hb =>
  cases hod:V0 st H.objs with
  | none=>rw [hbd,hod] at h; cases h
  | some r =>
  obtain ⟨ho,ns⟩:=r
  rw [hbd,hod] at h
  simp only at h
  cases hc:(Kf (H.boxes++H.objs.map (·.2.2.1))&&Kf ns&&Vy H 0 st.tmps) with
  | false=>rw [hc] at h; cases h
  | true =>
  rw [hc,Aut,Auw] at h
  subst h
  simp only [Au4] at hc
  obtain ⟨⟨hn,hns⟩,hok⟩:=hc
  have hnd:=Ih hn
  rw [List.nodup_append] at hnd
  obtain ⟨hnb,hno,hdis⟩:=hnd
  obtain ⟨o1,o2,o3⟩:=Vz hod hno (Ih hns)
  obtain ⟨b1,b2⟩:=Uf hbd hnb
  have hnin:∀ x∈H.objs,x.2.2.1 ∉ H.boxes:=fun x hx e=>hdis _ e _ (List.mem_map.2 ⟨x,hx,rfl⟩) rfl
  have hat:∀ x∈H.objs,M4 st H A x.2.2.1=match Rh st x with | .nil=>some (Ix x.2.2.2) | .oref m=>A m | _=>none:=by
    intro x hx
    unfold M4
    rw [if_neg (hnin x hx),Sh hno hx]
  have hokc:∀ b,(Bi I0 B A w).ok b→(Bi I0 B (M4 st H A) w).ok b:=by
    rintro b ⟨h1,h2,h3⟩
    refine ⟨h1,h2,fun n p hp hl=>?_⟩
    rcases Jl hp with ⟨_,hp⟩ | ⟨_,x,_,_,⟨_,rfl⟩ | ⟨m,_,hp⟩⟩
    · exact h3 n p hp hl
    · simp [Ix,Place.F1,Value.ownBlock]
    · exact h3 m p hp hl
  have hrefs:∀ d v,Ee 8 H.boxes d=true→Aj (Bi I0 B A w) w d v→Aj (Bi I0 B (M4 st H A) w) w d v:=by
    intro d v hd hv
    have hl:J9 ((Bi I0 B A w).only H.boxes) w (Bi I0 B (M4 st H A) w) w:=by
     refine ⟨hokc,rfl,rfl,fun _ _ h=>(by cases h),fun n p hp=>?_,fun _ _ _=>rfl,fun _ _ h=>(by cases h)⟩
     simp only [Ctx.only] at hp
     split at hp
     · rename_i hnb'
       refine ⟨p,?_,?_⟩
       · show M4 st H A n=some p
         unfold M4
         rw [if_pos hnb']; exact hp
       · by_cases hpd:p.st=.dead
         · exact .inl hpd
         · exact .inr ⟨hpd,rfl⟩
     · cases hp
    exact Aj.C4 hl d v (Zc H.boxes 8 d v hd hv)
  have hbare:∀ l rows,Cq (Bi I0 B A w).bare w l rows→Cq (Bi I0 B (M4 st H A) w).bare w l rows:=fun l rows =>
    Cq.C4 (c:=(Bi I0 B A w).bare) (c':=(Bi I0 B (M4 st H A) w).bare) (w:=w) (w':=w) ⟨hokc,rfl,rfl,fun _ _ h=>(by cases h),fun _ _ h=>(by cases h),fun _ _ _=>rfl,fun _ _ h=>(by cases h)⟩ l rows
  have hnamed:∀ x∈H.objs,∀ v,Aj (Bi I0 B A w) w (Rh st x) v→Aj (Bi I0 B (M4 st H A) w) w (.oref x.2.2.1) v:=by
    intro x hx v hv
    obtain ⟨s,ob,h1,_,_⟩:=o1 x hx
    have hax:=hat x hx
    rcases Oq h1 with ⟨e,_⟩ | ⟨m,e,_⟩
    · rw [e] at hv hax
      simp only [Aj] at hv ⊢
      subst hv
      exact ⟨rfl,_,hax,.inr ⟨_,rfl⟩⟩
    · rw [e] at hv hax
      simp only [Aj] at hv ⊢
      obtain ⟨h1,p,hp,hd⟩:=hv
      exact ⟨h1,p,hax.trans hp,hd⟩
  refine ⟨M4 st H A,hA.defers,hA.size.trans (Nc _ _).symm,hA.below,hA.hB,hA.I0lt,fun n p hp=>?_,fun n p b hp hd hpb=>?_,fun n m p q b hp hq hpd hqd hpb hqb=>?_,fun t=>?_,fun b hb=>⟨(hA.kept b hb).1,(hA.kept b hb).2.1,fun n p hp hl hbk=>by
    rcases Jl hp with ⟨_,hp⟩ | ⟨_,x,_,_,⟨_,rfl⟩ | ⟨m,_,hp⟩⟩
    · exact (hA.kept b hb).2.2 n p hp hl hbk
    · simp [Ix,Place.F1,Value.ownBlock] at hbk
    · exact (hA.kept b hb).2.2 m p hp hl hbk⟩⟩
  · rcases Jl hp with ⟨hnb',hp⟩ | ⟨hnb',x,hx,rfl,hsrc⟩
    · obtain ⟨f,cs,h1,h2,h3⟩:=b1 n hnb'
      obtain ⟨fo,h4,h5⟩:=hA.obj n p hp
      rw [h1] at h4; cases h4
      refine ⟨(f,.box (Q3 H.objs (n+1) 0 cs)),by rw [L4,h3],?_⟩
      obtain ⟨hst,b,e,cells,hk,hh,hl⟩:=h5
      refine ⟨hst,b,e,cells,hk,hh,Ww cs _ 0 h2 hl hrefs fun i nm d v hi hnm hv=>?_⟩
      obtain ⟨ob,hx⟩:=Qr hnm
      refine hnamed _ hx v ?_
      have:Rh st (n+1,0+i,nm,ob)=d:=by
        simp [Rh,h1,Au3,hi]
      rw [this]; exact hv
    · obtain ⟨s,ob,h1,h2,_⟩:=o1 x hx
      have hl:look (hb++ho) x.2.2.1=some (false,ob):=by
        rw [L4]
        cases hq:look hb x.2.2.1 with
        | none=>exact h2
        | some fo=>exact absurd (b2 _ _ hq) hnb'
      refine ⟨_,hl,?_⟩
      rcases Oq h1 with ⟨e,_,e2,hob⟩ | ⟨m,e,_,hlm,hob⟩
      · rcases hsrc with ⟨_,rfl⟩ | ⟨m,e',_⟩
        · rw [← e2]
          rcases hob with ⟨e,k,rfl⟩ | ⟨e,sz,hsz,rfl⟩
          · exact ⟨rfl,_,rfl,World.ownsRow_nil w B e 1⟩
          · exact ⟨rfl,hsz,_,[],rfl,by simp [Cq],fun r hr=>(by cases hr),World.ownsRow_nil w B e sz⟩
        · rw [e] at e'; cases e'
      · rcases hsrc with ⟨e',_⟩ | ⟨m',e',hp'⟩
        · rw [e] at e'; cases e'
        · rw [e] at e'; cases e'
          obtain ⟨fo,h4,h5⟩:=hA.obj m p hp'
          rw [hlm] at h4; cases h4
          rcases hob with ⟨e,k,l,rfl⟩ | ⟨e,sz,l,rfl⟩
          · exact h5
          · obtain ⟨i1,i2,sv,rows,i3,i4,i5,i6⟩:=h5
            exact ⟨i1,i2,sv,rows,i3,hbare _ _ i4,i5,i6⟩
  · rcases Jl hp with ⟨_,hp⟩ | ⟨_,x,hx,rfl,⟨_,rfl⟩ | ⟨m,_,hp⟩⟩
    · exact hA.blkB n p b hp hd hpb
    · simp [Ix,Place.F1,Value.ownBlock] at hpb
    · exact hA.blkB m p b hp hd hpb
  · have isBox:∀ n p,n∈H.boxes→A n=some p→∃ b,p.kind=.box b:=by
      intro n p hnb' hp
      obtain ⟨f,cs,h1,_,_⟩:=b1 n hnb'
      obtain ⟨fo,h4,h5⟩:=hA.obj n p hp
      rw [h1] at h4; cases h4
      obtain ⟨_,b,_,_,hk,_⟩:=h5
      exact ⟨b,hk⟩
    have isRow:∀ x∈H.objs,∀ m p,Rh st x=.oref m→A m=some p→∃ sv sz,p.kind=.row sv sz:=by
      intro x hx m p e hp
      obtain ⟨s,ob,h1,_,_⟩:=o1 x hx
      rcases Oq h1 with ⟨e',_⟩ | ⟨m',e',_,hlm,hob⟩
      · rw [e] at e'; cases e'
      · rw [e] at e'; cases e'
        obtain ⟨fo,h4,h5⟩:=hA.obj m p hp
        rw [hlm] at h4; cases h4
        rcases hob with ⟨e,k,l,rfl⟩ | ⟨e,sz,l,rfl⟩
        · obtain ⟨_,sv,hk,_⟩:=h5; exact ⟨sv,1,hk⟩
        · obtain ⟨_,_,sv,_,hk,_⟩:=h5; exact ⟨sv,sz,hk⟩
    have same:∀ m m':Nat,∀ p q:Place,A m=some p→A m'=some q→p.st≠.dead→q.st≠.dead→p.F1=some b→q.F1=some b→m=m':=fun m m' p q h1 h2 h3 h4 h5 h6=>hA.inj m m' p q b h1 h2 h3 h4 h5 h6
    rcases Jl hp with ⟨hnb',hp⟩ | ⟨_,x,hx,rfl,⟨_,rfl⟩ | ⟨i,hi,hp⟩⟩
    · rcases Jl hq with ⟨_,hq⟩ | ⟨_,y,hy,rfl,⟨_,rfl⟩ | ⟨j,hj,hq⟩⟩
      · exact same n m p q hp hq hpd hqd hpb hqb
      · simp [Ix,Place.F1,Value.ownBlock] at hqb
      · have e:=same n j p q hp hq hpd hqd hpb hqb
        subst e
        rw [hp] at hq; cases hq
        obtain ⟨b',hk⟩:=isBox n p hnb' hp
        obtain ⟨sv,sz,hk'⟩:=isRow y hy n p hj hp
        rw [hk] at hk'; cases hk'
    · simp [Ix,Place.F1,Value.ownBlock] at hpb
    · rcases Jl hq with ⟨hmb,hq⟩ | ⟨_,y,hy,rfl,⟨_,rfl⟩ | ⟨j,hj,hq⟩⟩
      · have e:=same i m p q hp hq hpd hqd hpb hqb
        subst e
        rw [hp] at hq; cases hq
        obtain ⟨b',hk⟩:=isBox i p hmb hp
        obtain ⟨sv,sz,hk'⟩:=isRow x hx i p hi hp
        rw [hk] at hk'; cases hk'
      · simp [Ix,Place.F1,Value.ownBlock] at hqb
      · have e:=same i j p q hp hq hpd hqd hpb hqb
        subst e
        obtain ⟨s,ob,h1,_,_⟩:=o1 x hx
        obtain ⟨s',ob',h1',_,_⟩:=o1 y hy
        have hs:s=some i:=by
          rcases Oq h1 with ⟨e',_⟩ | ⟨m',e',e2,_⟩
          · rw [hi] at e'; cases e'
          · rw [hi] at e'; cases e'; exact e2
        have hs':s'=some i:=by
          rcases Oq h1' with ⟨e',_⟩ | ⟨m',e',e2,_⟩
          · rw [hj] at e'; cases e'
          · rw [hj] at e'; cases e'; exact e2
        subst hs hs'
        rw [o3 x hx y hy i ob ob' h1 h1']
  · rcases Nat.lt_or_ge t st.tmps.length with hlt | hge
    · rw [Xl st.tmps 0 t hlt]
      cases hnm:Ji 0 (0+t) H.objs with
      | some nm =>
        obtain ⟨ob,hx⟩:=Qr hnm
        refine hnamed _ hx _ ?_
        have:Rh st (0,0+t,nm,ob)=st.tmps.getD t .undef:=by simp [Rh]
        rw [this]; exact hA.tmps t
      | none =>
        simp only
        cases hk:K0 (0+t) H.keep with
        | true=>exact hrefs _ _ (Vx hok hlt hnm hk) (hA.tmps t)
        | false=>simp only [Aux,Aj]
    · rw [Au3,List.getElem?_eq_none (by rw [Nc]; exact hge)]
      simp only [Option.getD_none,Aj]
theorem Amj {H:A8} {st st1:St} (h:canon (some H) st=some st1) {a:Act} {w:World} (hh:E3 S I0 B w0 st a w):E3 S I0 B w0 st1 a w:=Air (H:=Ap2 st H) h hh
end
end Go.Den
namespace Go.Den
open Go.RowKit (Below)
section
variable {P:Program} {E:Env} {S I0:Nat→Prop} {B:Nat} {w0:World}
theorem Aer {keep:Option (List Nat)} {st:St} (t:Nat):(forget keep st).tmps.getD t .undef=st.tmps.getD t .undef∨(forget keep st).tmps.getD t .undef=.undef:=by
  cases keep with
  | none=>exact .inl rfl
  | some ks =>
    simp only [forget,Au3,List.getElem?_map,List.getElem?_zipIdx]
    cases st.tmps[t]? with
    | none=>exact .inl rfl
    | some d =>
      simp only [Option.map_some,Option.getD_some]
      cases ks.contains (0+t)
      · exact .inr rfl
      · exact .inl rfl
theorem Xd {keep:Option (List Nat)} {st:St}:(forget keep st).tmps.length=st.tmps.length:=by
  cases keep<;>simp [forget]
theorem Acg {keep:Option (List Nat)} {st:St}:(forget keep st).heap=st.heap:=by
  cases keep<;>rfl
theorem E3.forget {keep:Option (List Nat)} {st:St} {a:Act} {w:World} (h:E3 S I0 B w0 st a w):E3 S I0 B w0 (forget keep st) a w:=by
  obtain ⟨A,h⟩:=h
  refine ⟨A,h.defers,h.size.trans Xd.symm,h.below,h.hB,h.I0lt,by rw [Acg]; exact h.obj,h.blkB,h.inj,fun t=>?_,h.kept⟩
  rcases Aer (keep:=keep) (st:=st) t with e | e
  · rw [e]; exact h.tmps t
  · rw [e]; simp only [Aj]
def Amw {β:Type} (P:Program) (S I0:Nat→Prop) (B:Nat) (w0:World) (r:β) (c:Code) (body:St→(St→Option β)→(Nat→St→Option β)→(St→Option β)→Option β):Prop :=
  ∀ (st:St) (Kn:St→Option β) (Kx:Nat→St→Option β) (Kr:St→Option β),body st Kn Kx Kr=some r→∀ (a:Act) (w:World),E3 S I0 B w0 st a w→∀ Q:Exit→Act→World→Prop,
    (∀ st a w,Kn st=some r→E3 S I0 B w0 st a w→Q .normal a w)→(∀ id st a w,Kx id st=some r→E3 S I0 B w0 st a w→Q (.exit id) a w) →
    (∀ st a w,Kr st=some r→E3 S I0 B w0 st a w→Q .ret a w)→c.wp P Q a w
theorem Yn {H:Option A8} {st st1:St} (hc:canon H st=some st1) {a:Act} {w:World} (hh:E3 S I0 B w0 st a w):E3 S I0 B w0 st1 a w:=by
  cases H with
  | none=>simp only [canon,Auw] at hc; subst hc; exact hh
  | some H=>exact Amj hc hh
theorem Ab8 {β:Type} {r:β} {c:Code} {body:St→(St→Option β)→(Nat→St→Option β)→(St→Option β)→Option β} (hb:Amw P S I0 B w0 r c body) {H:Option A8} {Kx:Nat→St→Option β} {Kr:St→Option β}
    {Q:Exit→Act→World→Prop} (hx:∀ id st a w,Kx id st=some r→E3 S I0 B w0 st a w→Q (.exit id) a w) (hr:∀ st a w,Kr st=some r→E3 S I0 B w0 st a w→Q .ret a w) :
    ∀ (n:Nat) (st:St),Wi H body n st Kx Kr=some r→∀ a w,E3 S I0 B w0 st a w→Code.rounds P c Q n a w
  | 0,st,h,_,_,_=>by simp [Wi] at h
  | n+1,st,h,a,w,hh=>by
    simp only [Wi] at h
    rw [rounds_succ]
    refine hb st _ Kx Kr h a w hh _ (fun st2 a2 w2 hk hh2=>?_) (fun id st2 a2 w2 hk hh2=>hx id st2 a2 w2 hk hh2) (fun st2 a2 w2 hk hh2=>hr st2 a2 w2 hk hh2)
    cases hc:canon H st2 with
    | none=>rw [hc] at hk; cases hk
    | some st3 =>
      rw [hc] at hk
      exact Ab8 hb hx hr n st3 hk a2 w2 (Yn hc hh2)
theorem Aoz {β:Type} {r:β} {c:Code} {body:St→(St→Option β)→(Nat→St→Option β)→(St→Option β)→Option β} (hb:Amw P S I0 B w0 r c body) {H:Option A8} {Kx:Nat→St→Option β} {Kr:St→Option β}
    {Q:Exit→Act→World→Prop} (hx:∀ id st a w,Kx id st=some r→E3 S I0 B w0 st a w→Q (.exit id) a w) (hr:∀ st a w,Kr st=some r→E3 S I0 B w0 st a w→Q .ret a w)
    (n:Nat) (st:St) (h:iter H body n st Kx Kr=some r) (a:Act) (w:World) (hh:E3 S I0 B w0 st a w):Code.rounds P c Q n a w:=by
  unfold iter at h
  cases hc:canon H st with
  | none=>rw [hc] at h; cases h
  | some st1 =>
    rw [hc] at h
    exact Ab8 hb hx hr n st1 h a w (Yn hc hh)
theorem O6 {β:Type} (he:Io P E) (fuel:Nat) (r:β):∀ (c:Code) (b:Nat),Amw P S I0 B w0 r c (den E fuel b c)
  | .skip,b=>fun st Kn Kx Kr h a w hh Q hn hx hr=>by
    simp only [den] at h
    exact wp_skip (hn st a w h hh)
  | .label l,b=>fun st Kn Kx Kr h a w hh Q hn hx hr=>by
    simp only [den] at h
    exact wp_label (hn st a w h hh)
  | .region id ops draw,b=>fun st Kn Kx Kr h a w hh Q hn hx hr=>by
    simp only [den] at h
    have reg:∀ st,Abd E ops draw Kn st=some r→E3 S I0 B w0 st a w→(Code.region id ops draw).wp P Q a w:=by
      intro st h hh
      cases draw with
      | true=>exact Al6 he h hh hn
      | false =>
        simp only [Abd,Aux] at h
        have:=Af1 he ops.toList 0 _ (fun j=>by simp) h a w hh hn
        rw [Array.length_toList,← List.range_eq_range'] at this
        exact wp_region this
    cases hl:E.live id with
    | none=>rw [hl] at h; exact reg st h hh
    | some ks =>
      rw [hl] at h
      simp only [Xp] at h
      exact reg _ h hh.forget
  | .seq x y,b=>fun st Kn Kx Kr h a w hh Q hn hx hr=>by
    simp only [den] at h
    refine wp_seq (O6 he fuel r x b st _ Kx Kr h a w hh _ (fun st' a' w' hk hh'=>?_) (fun id st' a' w' hk hh'=>hx id st' a' w' hk hh') (fun st' a' w' hk hh'=>hr st' a' w' hk hh'))
    exact O6 he fuel r y b st' Kn Kx Kr hk a' w' hh' Q hn hx hr
  | .cond c x y,b=>fun st Kn Kx Kr h a w hh Q hn hx hr=>by
    simp only [den] at h
    cases hv:Gc st.tmps c with
    | bool t =>
      rw [hv] at h
      simp only at h
      have hev:a.eval c=.bool t:=by
        obtain ⟨A,hA⟩:=hh
        have:Aj (Bi I0 B A w) w (Gc st.tmps c) (a.eval c):=by
          cases c with
          | tmp t=>exact hA.tmps t
          | const v=>exact Yk v
          | global g=>simp only [Gc,Aj]
          | func f=>simp [Gc] at hv
        rw [hv] at this
        simpa only [Aj] using this
      refine wp_cond hev ?_
      cases t with
      | true=>exact O6 he fuel r x b st Kn Kx Kr h a w hh Q hn hx hr
      | false=>exact O6 he fuel r y b st Kn Kx Kr h a w hh Q hn hx hr
    | _=>rw [hv] at h; cases h
  | .block id c,b=>fun st Kn Kx Kr h a w hh Q hn hx hr=>by
    simp only [den] at h
    refine wp_block (O6 he fuel r c id st Kn _ Kr h a w hh _ (fun st' a' w' hk hh'=>hn st' a' w' hk hh') (fun id' st' a' w' hk hh'=>?_) (fun st' a' w' hk hh'=>hr st' a' w' hk hh'))
    simp only [Exit.inBlock]
    by_cases e:id'=id
    · rw [if_pos e]
      rw [show (id'==id)=true by simpa using e] at hk
      exact hn st' a' w' hk hh'
    · rw [if_neg e]
      rw [show (id'==id)=false by simpa using e] at hk
      exact hx id' st' a' w' hk hh'
  | .loop c,b=>fun st Kn Kx Kr h a w hh Q hn hx hr=>by
    simp only [den] at h
    exact wp_loop_rounds fuel (Aoz (O6 he fuel r c b) hx hr fuel st h a w hh)
  | .scope c,b=>fun st Kn Kx Kr h a w hh Q hn hx hr=>by
    simp only [den] at h
    exact wp_scope_straight (O6 he fuel r c b st Kn Kx Kr h a w hh _ (fun st' a' w' hk hh'=>hn st' a' w' hk hh') (fun id st' a' w' hk hh'=>hx id st' a' w' hk hh') (fun st' a' w' hk hh'=>hr st' a' w' hk hh'))
  | .exit id,b=>fun st Kn Kx Kr h a w hh Q hn hx hr=>by
    simp only [den] at h
    exact wp_exit (hx id st a w h hh)
  | .ret,b=>fun st Kn Kx Kr h a w hh Q hn hx hr=>by
    simp only [den] at h
    exact wp_ret (hr st a w h hh)
  | .rangeFunc ..,b=>fun st Kn Kx Kr h=>by simp [den] at h
  | .goto l,b=>fun st Kn Kx Kr h=>by simp [den] at h
  | .refuse s,b=>fun st Kn Kx Kr h=>by simp [den] at h
end
end Go.Den
namespace Go.Den
open Go.RowKit (Below)
def Ake:List Value→Value
  | [v]=>v
  | vs=>.tuple vs.toArray
def S7 (tmps:Array Value):ResultVar→Sem Value
  | .tmp t=>pure (tmps.getD t undef)
  | .cell a t=>do loadVar t (← asAddr (tmps.getD a undef))
section
variable {P:Program} {E:Env} {S I0:Nat→Prop} {B:Nat} {w0:World} {A:Nat→Option Place}
theorem Adt {t:TypeId} {va v:Value} {w:World} (h:(Instr.loadAt t va).run P w=.ok v w):(do loadVar t (← asAddr va):Sem Value).run P w=.ok v w:=by
  unfold Instr.loadAt at h
  cases va with
  | pointer a =>
    cases a with
    | none=>simp [Instr.sureAddr] at h
    | some a =>
      simp only [Instr.sureAddr,asAddr] at h ⊢
      exact h
  | _=>simp [Instr.sureAddr] at h
theorem Ahi (hty:∀ t ti,E.ty t=some ti→Bv P t ti) {st:St} {a:Act} {w:World} (hA:Ia S I0 B w0 A (look st.heap) (fun t=>st.tmps.getD t .undef) st.tmps.length a w)
    {r:ResultVar} {d:DV} (h1:Vt E st r=some d):∃ v,Aj (Bi I0 B A w) w d v∧(S7 a.tmps r).run P w=.ok v w:=by
  cases r with
  | tmp t =>
    simp only [Vt,Auw] at h1
    subst h1
    exact ⟨_,hA.tmps t,by simp [S7]⟩
  | cell x t =>
    simp only [Vt] at h1
    cases hT:E.ty t with
    | none=>simp [hT] at h1
    | some ti =>
      rw [hT,Au1] at h1
      cases hl:X6 st.heap ti (st.tmps.getD x .undef) with
      | none=>rw [hl] at h1; cases h1
      | some q =>
        rw [hl,Au1] at h1
        cases hq:q.req with
        | false=>rw [hq] at h1; cases h1
        | true =>
          rw [hq,Aut,Auw] at h1
          subst h1
          have hm:Mem I0 B A st.heap w:=hA.mem fun n p fo _ hl=>hl
          obtain ⟨v,hr,hv⟩:=Abx hm (hty _ _ hT) (hA.tmps x) hl hq
          exact ⟨v,hv,Adt hr⟩
theorem Xu (hty:∀ t ti,E.ty t=some ti→Bv P t ti) {st:St} {a:Act} {w:World} (hA:Ia S I0 B w0 A (look st.heap) (fun t=>st.tmps.getD t .undef) st.tmps.length a w) :
    ∀ (rs:List ResultVar) (ds:List DV),Qn E st rs=some ds→∃ vs:List Value,A4 (Bi I0 B A w) w ds vs∧(rs.mapM (S7 a.tmps)).run P w=.ok vs w
  | [],ds,h=>by
    simp only [Qn,Auw] at h; subst h
    exact ⟨[],by simp [A4],rfl⟩
  | r::rs,ds,h=>by
    simp only [Qn] at h
    cases h1:Vt E st r with
    | none=>simp [h1] at h
    | some d =>
      cases h2:Qn E st rs with
      | none=>simp [h1,h2] at h
      | some ds' =>
        simp only [h1,h2,Au1,Auw] at h
        subst h
        obtain ⟨vs,i1,i2⟩:=Xu hty hA rs ds' h2
        obtain ⟨v,hv,hr⟩:=Ahi hty hA h1
        refine ⟨v::vs,by rw [A4.Ce]; exact ⟨v,vs,rfl,hv,i1⟩,?_⟩
        simp only [List.mapM_cons,Sem.run_bind,hr,Result.andThen_ok,i2,Sem.run_pure]
theorem Aa8 {fn:Func} {tmps:Array Value} {w:World} {vs:List Value} (h:(fn.results.toList.mapM (S7 tmps)).run P w=.ok vs w) :
    (results fn tmps).run P w=.ok (Ake vs) w:=by
  have h':(fn.results.mapM (S7 tmps)).run P w=.ok vs.toArray w:=by
    rw [Array.mapM_eq_mapM_toList]
    simp only [Sem.run_map,h,Result.andThen_ok]
  have e:results fn tmps=(do let vs←fn.results.mapM (S7 tmps); pure (if h:vs.size=1 then vs[0] else .tuple vs)):=by
    unfold results
    congr 2
  rw [e]
  simp only [Sem.run_bind,h',Result.andThen_ok,Sem.run_pure]
  congr 1
  match vs with
  | []=>rfl
  | [v]=>rfl
  | v::u::us=>simp [Ake]
def Lh (h:Dh) (f:Nat) (l:List DV):Option (List DV × List Nat × List Nat) :=
  l.foldr (fun d acc=>(Fm h f d).bind fun (x,ns,os)=>acc.bind fun (xs,ms,ps)=>some (x::xs,ns++ms,os++ps)) (some ([],[],[]))
theorem S9 {h:Dh} {f:Nat} {d:DV} {l:List DV} {r:List DV × List Nat × List Nat} (hh:Lh h f (d::l)=some r) :
    ∃ x ns os xs ms ps,Fm h f d=some (x,ns,os)∧Lh h f l=some (xs,ms,ps)∧r=(x::xs,ns++ms,os++ps):=by
  have e:Lh h f (d::l)=(Fm h f d).bind fun (x,ns,os)=>(Lh h f l).bind fun (xs,ms,ps)=>some (x::xs,ns++ms,os++ps):=rfl
  rw [e] at hh
  cases h1:Fm h f d with
  | none=>simp [h1] at hh
  | some a =>
    obtain ⟨x,ns,os⟩:=a
    cases h2:Lh h f l with
    | none=>simp [h1,h2] at hh
    | some b =>
      obtain ⟨xs,ms,ps⟩:=b
      simp only [h1,h2,Au1,Auw] at hh
      exact ⟨x,ns,os,xs,ms,ps,rfl,rfl,hh.symm⟩
def Jy (A:Nat→Option Place) (OS:List Nat) (i:Nat):Option Nat :=
  if i∈OS then match A i with
    | some p=>if p.st=.live then p.F1 else none
    | none=>none
  else none
theorem Mv {OS:List Nat} {i b:Nat} (h:Jy A OS i=some b):i∈OS∧∃ p,A i=some p∧p.st=.live∧p.F1=some b:=by
  unfold Jy at h
  split at h
  · cases hA:A i with
    | none=>rw [hA] at h; cases h
    | some p =>
      rw [hA] at h
      simp only at h
      split at h
      · exact ⟨‹_›,p,rfl,‹_›,h⟩
      · cases h
  · cases h
theorem Abh {OS:List Nat} {i b:Nat} {p:Place} (h:i∈OS) (hp:A i=some p) (hl:p.st=.live) (hb:p.F1=some b):Jy A OS i=some b:=by
  unfold Jy
  rw [if_pos h,hp]
  simp only [hl,if_true,hb]
theorem Aj6 {h:Dh} {w w':World} (hm:Mem I0 w.heap.size A h w') {NS OS:List Nat} (hdis:∀ n∈NS,n ∉ OS) :
    ∀ (f:Nat) (d:DV) (v:Value) d' ns os,Fm h f d=some (d',ns,os)→(∀ n∈ns,n∈NS)→(∀ n∈os,n∈OS)→Aj (Bi I0 w.heap.size A w') w' d v→Aj (Dj I0 (Jy A OS) w w') w' d' v:=by
  have hok:∀ b,(Bi I0 w.heap.size A w').ok b→(Dj I0 (Jy A OS) w w').ok b:=by
    rintro b ⟨h1,h2,h3⟩
    refine ⟨h1,h2,fun i hi=>?_⟩
    obtain ⟨_,p,hp,hl,hb⟩:=Mv hi
    exact h3 i p hp hl hb
  have hbare:∀ l rows,Cq (Bi I0 w.heap.size A w').bare w' l rows→Cq (Dj I0 (Jy A OS) w w').bare w' l rows:=fun l rows =>
    Cq.C4 (c:=(Bi I0 w.heap.size A w').bare) (c':=(Dj I0 (Jy A OS) w w').bare) (w:=w') (w':=w') ⟨hok,rfl,rfl,fun _ _ h=>(by cases h),fun _ _ h=>(by cases h),fun _ _ _=>rfl,fun _ _ h=>(by cases h)⟩ l rows
  have hleaf:∀ d v,Ee 1 [] d=true→Aj (Bi I0 w.heap.size A w') w' d v→Aj (Dj I0 (Jy A OS) w w') w' d v:=by
    intro d v hd hv
    have hl:J9 ((Bi I0 w.heap.size A w').only []) w' (Dj I0 (Jy A OS) w w') w' :=
      ⟨hok,rfl,rfl,fun _ _ h=>(by cases h),fun n p hp=>(by simp [Ctx.only] at hp),fun _ _ _=>rfl,fun _ _ h=>(by cases h)⟩
    exact Aj.C4 hl d v (Zc [] 1 d v hd hv)
  have frozenBlk:∀ n p,A n=some p→p.st≠.dead→(p.st≠.live∨n ∉ OS)→∀ b,p.F1=some b→(Dj I0 (Jy A OS) w w').F1 .fresh b:=by
    intro n p hp hd hc b hb
    obtain ⟨h1,h2⟩:=hm.blkB n p b hp hd hb
    refine ⟨⟨h2,.inr h1,fun i hi=>?_⟩,rfl,h1⟩
    obtain ⟨hio,q,hq,hl,hqb⟩:=Mv hi
    have e:=hm.inj n i p q b hp hq hd (by rw [hl]; simp) hb hqb
    subst e
    rw [hp] at hq; cases hq
    rcases hc with hc | hc
    · exact hc hl
    · exact hc hio
  intro f
  induction f with
  | zero=>intro d v d' ns os h; simp [Fm] at h
  | succ f ih =>
    have all:∀ (l:List DV) (vs:List Value) l' ns os,Lh h f l=some (l',ns,os)→(∀ n∈ns,n∈NS)→(∀ n∈os,n∈OS)→A4 (Bi I0 w.heap.size A w') w' l vs→A4 (Dj I0 (Jy A OS) w w') w' l' vs:=by
      intro l
      induction l with
      | nil =>
        intro vs l' ns os hr _ _ hv
        simp only [Lh,List.foldr_nil,Auw,Au2] at hr
        obtain ⟨rfl,_,_⟩:=hr
        rw [A4.Fu] at hv ⊢; exact hv
      | cons d l ihl =>
        intro vs l' ns os hr h1 h2 hv
        obtain ⟨x,n1,o1,xs,ms,ps,e1,e2,e⟩:=S9 hr
        cases e
        rw [A4.Ce] at hv ⊢
        obtain ⟨u,us,e,hu,hus⟩:=hv
        exact ⟨u,us,e,ih d u x n1 o1 e1 (fun n hn=>h1 n (List.mem_append.2 (.inl hn))) (fun n hn=>h2 n (List.mem_append.2 (.inl hn))) hu,
          ihl us xs ms ps e2 (fun n hn=>h1 n (List.mem_append.2 (.inr hn))) (fun n hn=>h2 n (List.mem_append.2 (.inr hn))) hus⟩
    intro d v d' ns os hr hns hos hv
    cases d with
    | agg l =>
      have hr:(Lh h f l).bind (fun (l,ns,os)=>some (DV.agg l,ns,os))=some (d',ns,os):=hr
      cases hl:Lh h f l with
      | none=>rw [hl] at hr; cases hr
      | some r =>
        obtain ⟨l',ns',os'⟩:=r
        rw [hl] at hr
        simp only [Au1,Auw,Au2] at hr
        obtain ⟨rfl,rfl,rfl⟩:=hr
        simp only [Aj] at hv ⊢
        obtain ⟨vs,e,h1⟩:=hv
        exact ⟨vs,e,all l _ l' _ _ hl hns hos h1⟩
    | tup l =>
      have hr:(Lh h f l).bind (fun (l,ns,os)=>some (DV.tup l,ns,os))=some (d',ns,os):=hr
      cases hl:Lh h f l with
      | none=>rw [hl] at hr; cases hr
      | some r =>
        obtain ⟨l',ns',os'⟩:=r
        rw [hl] at hr
        simp only [Au1,Auw,Au2] at hr
        obtain ⟨rfl,rfl,rfl⟩:=hr
        simp only [Aj] at hv ⊢
        obtain ⟨vs,e,h1⟩:=hv
        exact ⟨vs,e,all l _ l' _ _ hl hns hos h1⟩
    | oref n =>
      simp only [Aj] at hv
      obtain ⟨hone,p,hp,hd⟩:=hv
      simp only [Fm] at hr
      split at hr
      · rename_i e k l hl
        simp only [Auw,Au2] at hr
        obtain ⟨rfl,rfl,rfl⟩:=hr
        obtain ⟨hst,sv,hk,ho⟩:=D6 hm hp hl
        obtain ⟨size,hk'⟩:=hd.resolve_left (Bm hst)
        rw [hk] at hk'; cases hk'
        simp only [Aj]
        exact ⟨ho,fun b hb=>Abh (hos n (by simp)) hp hst (by unfold Place.F1; rw [hk]; exact hb)⟩
      · rename_i e sz l hl
        simp only [Auw,Au2] at hr
        obtain ⟨rfl,rfl,rfl⟩:=hr
        obtain ⟨hst,hsz,sv,rows,hk,hrr,hlen,ho⟩:=Ef hm hp hl
        obtain ⟨size,hk'⟩:=hd.resolve_left (Bm hst)
        rw [hk] at hk'; cases hk'
        simp only [Aj]
        exact ⟨rows,hbare _ _ hrr,hlen,ho,fun b hb=>Abh (hos n (by simp)) hp hst (by unfold Place.F1; rw [hk]; exact hb)⟩
      · rename_i e k l hl
        simp only [Auw,Au2] at hr
        obtain ⟨rfl,rfl,rfl⟩:=hr
        obtain ⟨hst,sv,hk,ho⟩:=D6 hm hp hl
        obtain ⟨size,hk'⟩:=hd.resolve_left (Bm hst)
        rw [hk] at hk'; cases hk'
        have hst':p.st=.frozen:=hst
        have:=Je hk ho (Ff ho) (ok:=(Dj I0 (Jy A OS) w w').F1 .fresh) (frozenBlk n p hp (Bm hst) (.inl (by rw [hst']; simp)))
        simp only [List.drop_zero,List.take_length] at this
        simp only [Aj]
        exact this
      · rename_i e sz l hl
        simp only [Auw,Au2] at hr
        obtain ⟨rfl,rfl,rfl⟩:=hr
        obtain ⟨hst,hsz,sv,rows,hk,hrr,hlen,ho⟩:=Ef hm hp hl
        obtain ⟨size,hk'⟩:=hd.resolve_left (Bm hst)
        rw [hk] at hk'; cases hk'
        have hst':p.st=.frozen:=hst
        have:=Jd hk (hbare _ _ hrr) hlen ho (Ff ho) (ok:=(Dj I0 (Jy A OS) w w').F1 .fresh) (frozenBlk n p hp (Bm hst) (.inl (by rw [hst']; simp)))
        simp only [List.drop_zero,List.take_length] at this
        simp only [Aj]
        exact this
      · cases hr
    | sref n off len =>
      simp only [Aj] at hv
      obtain ⟨hone,p,hp,hd⟩:=hv
      simp only [Fm] at hr
      split at hr
      · rename_i fz e k l hl
        simp only [Auw,Au2] at hr
        obtain ⟨rfl,rfl,rfl⟩:=hr
        obtain ⟨hst,sv,hk,ho⟩:=D6 hm hp hl
        obtain ⟨sv',size,hk',hs⟩:=hd.resolve_left (Bm hst)
        rw [hk] at hk'; cases hk'
        have:=Je hk ho hs (ok:=(Dj I0 (Jy A OS) w w').F1 .fresh) (frozenBlk n p hp (Bm hst) (.inr (hdis n (hns n (by simp)))))
        simp only [Aj]
        exact this
      · rename_i fz e sz l hl
        simp only [Auw,Au2] at hr
        obtain ⟨rfl,rfl,rfl⟩:=hr
        obtain ⟨hst,hsz,sv,rows,hk,hrr,hlen,ho⟩:=Ef hm hp hl
        obtain ⟨sv',size,hk',hs⟩:=hd.resolve_left (Bm hst)
        rw [hk] at hk'; cases hk'
        have:=Jd hk (hbare _ _ hrr) hlen ho hs (ok:=(Dj I0 (Jy A OS) w w').F1 .fresh) (frozenBlk n p hp (Bm hst) (.inr (hdis n (hns n (by simp)))))
        simp only [Aj]
        exact this
      · cases hr
    | ptr n i j=>simp [Fm] at hr
    | fn g a b=>simp [Fm] at hr
    | gd g d=>simp [Fm] at hr
    | undef=>simp [Fm] at hr
    | cellp cs=>simp [Fm] at hr
    | nil=>simp only [Fm,Auw,Au2] at hr; obtain ⟨rfl,_,_⟩:=hr; exact hleaf _ _ rfl hv
    | bool b=>simp only [Fm,Auw,Au2] at hr; obtain ⟨rfl,_,_⟩:=hr; exact hleaf _ _ rfl hv
    | int k n=>simp only [Fm,Auw,Au2] at hr; obtain ⟨rfl,_,_⟩:=hr; exact hleaf _ _ rfl hv
    | fl n=>simp only [Fm,Auw,Au2] at hr; obtain ⟨rfl,_,_⟩:=hr; exact hleaf _ _ rfl hv
    | nb n=>simp only [Fm,Auw,Au2] at hr; obtain ⟨rfl,_,_⟩:=hr; exact hleaf _ _ rfl hv
    | ints g k l=>simp only [Fm,Auw,Au2] at hr; obtain ⟨rfl,_,_⟩:=hr; exact hleaf _ _ rfl hv
    | recs g k l=>simp only [Fm,Auw,Au2] at hr; obtain ⟨rfl,_,_⟩:=hr; exact hleaf _ _ rfl hv
end
end Go.Den
end
