/- A verified evaluator of the program's form and its use for this seat: S1PSubSt, S1PLseA, S1PRefL, S1PRef20, S1PMx, S1EqGg, S1PGg, S1EqRidge, S1PRidge, S1EqRef22, S1PRef22, S1EqLaw17, S1PLaw17, S1EqLaw22, S1PLaw22, S1PLaw22E. -/
import Derived.Test.YtjbokjpbiobjpaaGreatTL
import Derived.Test.YtjbokjpbiobjpaaGreatTK
import Derived.Test.YtjbokjpbiobjpaaGreatTF
import Derived.Test.YtjbokjpbiobjpaaGreatTE
set_option linter.unusedVariables false
set_option linter.unusedSimpArgs false
noncomputable section
namespace Go.Proofs.S1
open Go Go.Den Go.Rnd Go.Proofs
open EqOf EqRef20
theorem Aj.Stack.known:Aj.Stack.Kn:=Aj.Stack.Ac .nil fun r c l p q m hp=>by
  obtain ⟨h1,h2⟩:=Ad.1 (show ((A0 r c l&&A0 p q m)&&decide (q=c))=true from hp)
  obtain ⟨hr,hm⟩:=Ad.1 h1
  obtain ⟨R,C,rfl,rfl,r6,c6,hl⟩:=Ce hr
  obtain ⟨P,Q,rfl,rfl,p6,q6,hl2⟩:=Ce hm
  have h36:=Nat.mul_le_mul r6 c6
  have h36':=Nat.mul_le_mul p6 q6
  refine ⟨0,.agg [.int .i64 ((R:Int)+(P:Int)),.int .i64 (C:Int),.ints (.own 20 tB) .u64 (l++m)],[20],?_,Xq (List.mem_singleton.2 rfl)⟩
  rw [Aj.Stack.ev,List.nil_append,Ayt (show 0+l.length≤Gt by unfold Gt; omega),Ays,Ayt (show l.length+m.length≤Gt by unfold Gt; omega),Ays,Al (by omega) (by omega)]
theorem Xz {R P C:Nat} {l m:List Int} (hl:l.length=R*C) (hm:m.length=P*C) :
    (B7 (R+P) C fun (i k:Nat)=>Ja (R:Int) (C:Int) l (C:Int) m (i:Int) (k:Int))=l++m:=by
  have h:(l++m).length=(R+P)*C:=by rw [List.length_append,hl,hm,Nat.add_mul]
  conv=>rhs; rw [← Vy h]
  refine D7 fun i k hi hk=>?_
  unfold Ja
  by_cases hlt:(i:Int)<(R:Int)
  · have:=Ku (r:=R) (c:=C) (i:=i) (k:=k) (by omega) hk
    rw [if_pos hlt,Rz,Rz,Ay2,Ay2,List.getElem?_append_left (by omega)]
  · have es:(i:Int)-(R:Int)=((i-R:Nat):Int):=by omega
    have e2:i*C=R*C+(i-R)*C:=by rw [← Nat.add_mul]; congr 1; omega
    rw [if_neg hlt,es,Rz,Rz,Ay2,Ay2,List.getElem?_append_right (by omega),hl,e2]
    congr 2; omega
open EqLse
def Out (o:Option DV) (x:MX):Prop:=∃ dv drops,o=some dv∧Wk drops dv (Ae3 x)
theorem Atj {o:Option DV} {e:Int} (h:o=some (Akx e)):Out o (Kl e):=⟨_,[],h,Qd⟩
theorem Ati {o:Option DV} {x:MX} (h:o=some (Ae3 x)):Out o x:=⟨_,[],h,W3⟩
section
variable {N:Nat} {r c p q a b u v:Int} {l m g h:List Int} {w one two done f y Q z:MX}
end
open EqRef14 EqLow
theorem Aou {c:Int} {l:List Int} {i k:Int} (h:Df l=true):Cv (D9 c l i k)=true:=by
  unfold D9
  rw [Ay2]
  cases hx:l[(i*c+k).toNat]? with
  | none=>exact (by decide:Cv 0=true)
  | some x =>
    unfold Df at h
    exact List.all_eq_true.1 h x (List.mem_of_getElem? hx)
theorem Afw {r c:Nat} {f:Nat→Nat→Int} (h:∀ i k,Cv (f i k)=true):Df (B7 r c f)=true:=by
  unfold Df
  rw [List.all_eq_true]
  intro x hx
  obtain ⟨j,_,rfl⟩:=List.mem_map.1 hx
  exact h _ _
theorem Aip {r c:Int} {l:List Int} (al:Ah l=true) (h:E8 r c l=0):∃ R C:Nat,r=R∧c=C∧R≤6∧C≤6∧l.length=R*C ∧
    Ea r c l=((R:Int),((min R C:Nat):Int),B7 R (min R C) (fun i k=>D9 (R:Int) (Mi R C l) (0+(i:Int)) (0+(k:Int))),0) ∧
    Ij r c l=(((min R C:Nat):Int),(C:Int),B7 (min R C) C (fun i k=>D9 (C:Int) (Kc R C l) (0+(i:Int)) (0+(k:Int))),0) ∧
    Ah (Mi R C l)=true∧Ah (Kc R C l)=true∧Df (Mi R C l)=true∧Df (Kc R C l)=true∧(Mi R C l).length=R*R∧(Kc R C l).length=R*C:=by
  have ht:=Vd al h
  obtain ⟨R,C,rfl,rfl,r6,c6,hl,q1,q2,g1,g2,f1,f2⟩:=Zn al h
  have p1:Hv (R:Int) (R:Int) 0 0 (R:Int) (min (R:Int) (C:Int))=true:=Ayt (by omega)
  have p2:Hv (R:Int) (C:Int) 0 0 (min (R:Int) (C:Int)) (C:Int)=true:=Ayt (by omega)
  rw [Ayu,Ayu,Xb r6 r6 q2 p1,Xb r6 c6 g2 p2] at ht
  have em:min (R:Int) (C:Int)=((min R C:Nat):Int):=by omega
  rw [em,Ayu,Ayu,Ayu] at ht
  exact ⟨R,C,rfl,rfl,r6,c6,hl,ht.1.symm,ht.2.symm,q1,g1,f1,f2,q2,g2⟩
theorem B6.Gb.known:B6.Gb.Kn:=B6.Gb.Ac (.cons Aj.Part.known (.cons B6.B2.known .nil)) fun r c l hp=>by
  have h1:((A0 r c l&&Df l)&&Ah l)=true:=hp
  obtain ⟨_,al⟩:=Ad.1 h1
  show ∃ N dv drops,_=some dv∧Wk drops dv (DV.agg [.int .i64 (Ea r c l).1,.int .i64 (Ea r c l).2.1,.ints .arg .u64 (Ea r c l).2.2.1,.int .i64 (Ij r c l).1,.int .i64 (Ij r c l).2.1,.ints .arg .u64 (Ij r c l).2.2.1,.bool (decide (E8 r c l=0))])
  have hrun:=B6.Gb.ev 0 r c l
  rw [h1,Ays] at hrun
  by_cases h:E8 r c l=0
  · obtain ⟨e1,e2⟩:=W9 h
    obtain ⟨R,C,rfl,rfl,r6,c6,hl,t1,t2,q1,g1,f1,f2,q2,g2⟩:=Aip al h
    have p1:Hv (R:Int) (R:Int) 0 0 (R:Int) (min (R:Int) (C:Int))=true:=Ayt (by omega)
    have p2:Hv (R:Int) (C:Int) 0 0 (min (R:Int) (C:Int)) (C:Int)=true:=Ayt (by omega)
    have em:min (R:Int) (C:Int)=((min R C:Nat):Int):=by omega
    rw [Ayt h,Bool.not_true,Ayw,e1,e2,Ayu,Ayu,Fg r6 r6 q2,Fg r6 c6 g2,p1,p2,Ayy,Ays,Ays,em,Ayu] at hrun
    rw [t1,t2,h]
    exact ⟨0,_,[],hrun,Wk.G8 (.cons .int (.cons .int (.cons (.fresh _ _) (.cons .int (.cons .int (.cons (.fresh _ _) (.cons .bool .nil)))))))⟩
  · obtain ⟨e1,e2⟩:=Yh (e:=E8 r c l) rfl h
    have e3:Ea r c l=Kl (E8 r c l):=by unfold Ea; rw [if_pos h]
    have e4:Ij r c l=Kl (E8 r c l):=by unfold Ij; rw [if_pos h]
    rw [Ayx h,Bool.not_false,Ays,e1,e2] at hrun
    rw [e3,e4,Ayx h]
    exact ⟨0,_,[],hrun,Wk.G8 (.cons .int (.cons .int (.cons .W2 (.cons .int (.cons .int (.cons .W2 (.cons .bool .nil)))))))⟩
section
variable {n Q:Nat} {l m:List Int}
end
theorem Abo:∀ (d:List Int) (m:Int),(∀ x∈d,∃ n:Nat,x=((G9 n:Nat):Int))→d.foldl (fun m x=>Ow m x) m=d.foldl (fun m x=>Ow m (Je x)) m
  | [],_,_=>rfl
  | x::d,m,h=>by
    obtain ⟨n,rfl⟩:=h x List.mem_cons_self
    have e:Je ((G9 n:Nat):Int)=((G9 n:Nat):Int):=by
      unfold Je
      rw [Ayu]
      congr 1
      unfold G9
      omega
    rw [List.foldl_cons,List.foldl_cons,e]
    exact Abo d _ fun y hy=>h y (List.mem_cons_of_mem _ hy)
theorem Abp {c:Int} {l:List Int} {n i:Nat} (h:i<n):(Km c l n).drop i=Je (D9 c l (i:Int) (i:Int))::(Km c l n).drop (i+1):=by
  have hl:(Km c l n).length=n:=Iw c l n
  rw [List.drop_eq_getElem_cons (by rw [hl]; exact h)]
  congr 1
  simp [Km]
theorem Acn (N:Nat) {R C:Nat} {l:List Int} (r6:R≤6) (c6:C≤6) (hl:l.length=R*C) (al:Ah l=true):∀ (cnt i F:Nat) (g:Int),i+cnt=min R C→cnt<F→Af g=true →
    A7.Flat.L0 N F (R:Int) (C:Int) l g (i:Int)=A7.Flat.L1 N N (R:Int) (C:Int) l 0 (((Km (C:Int) l (min R C)).drop i).foldl (fun m x=>Ow m x) g):=by
  intro cnt
  induction cnt with
  | zero =>
    intro i F g hi hF hg
    obtain ⟨F,rfl⟩:∃ G,F=G+1:=⟨F-1,by omega⟩
    have hlt:(A4 (i:Int) (R:Int)&&A4 (i:Int) (C:Int))=false:=by
      rw [As,As,Bool.and_eq_false_iff,Azb,Azb]; omega
    rw [A7.Flat.Ar,hlt,Ayw,Ay6 (by rw [Iw]; omega)]
    rfl
  | succ cnt ih =>
    intro i F g hi hF hg
    obtain ⟨F,rfl⟩:∃ G,F=G+1:=⟨F-1,by omega⟩
    have hlt:(A4 (i:Int) (R:Int)&&A4 (i:Int) (C:Int))=true:=by
      rw [As,As,Ayt (by omega),Ayt (by omega)]; rfl
    rw [A7.Flat.Ar,hlt,Ays,Du r6 c6 hl (by omega) (by omega),Ays,G7 al,Ays,hg,S7,Ayy,Ays,Al (by omega) (by omega),Abp (by omega),List.foldl_cons]
    exact ih (i+1) F _ (by omega) (by omega) (An0 hg (S7 _))
theorem Aco (N:Nat) {R C:Nat} {l:List Int} {g:Int} (r6:R≤6) (c6:C≤6) (hl:l.length=R*C) (al:Ah l=true) (hg:Af g=true):∀ (cnt i F:Nat),i+cnt=min R C→cnt<F →
    A7.Flat.L1 N F (R:Int) (C:Int) l (i:Int) g=some (.bool (((Km (C:Int) l (min R C)).drop i).any fun x=>!(decide (Sy (By g (-40)) x<0)))):=by
  intro cnt
  induction cnt with
  | zero =>
    intro i F hi hF
    obtain ⟨F,rfl⟩:∃ G,F=G+1:=⟨F-1,by omega⟩
    have hlt:(A4 (i:Int) (R:Int)&&A4 (i:Int) (C:Int))=false:=by
      rw [As,As,Bool.and_eq_false_iff,Azb,Azb]; omega
    rw [A7.Flat.B9,hlt,Ayw,Ay6 (by rw [Iw]; omega)]
    rfl
  | succ cnt ih =>
    intro i F hi hF
    obtain ⟨F,rfl⟩:∃ G,F=G+1:=⟨F-1,by omega⟩
    have hlt:(A4 (i:Int) (R:Int)&&A4 (i:Int) (C:Int))=true:=by
      rw [As,As,Ayt (by omega),Ayt (by omega)]; rfl
    have sp:Dh g (-40:Int)=true:=Ad.2 ⟨hg,Aq.2 (by omega)⟩
    rw [A7.Flat.B9,hlt,Ays,sp,Ays,Du r6 c6 hl (by omega) (by omega),Ays,G7 al,Ays,Hu hg,S7,Ayy,Ays,Ef,Abp (by omega),List.any_cons,Al (by omega) (by omega)]
    by_cases h:Sy (By g (-40)) (Je (D9 (C:Int) l (i:Int) (i:Int)))<0
    · rw [Ayx (by omega),Ayw,Ayt h,Bool.not_true,Bool.false_or]
      exact ih (i+1) F (by omega) (by omega)
    · rw [Ayt (by omega),Ays,Ayx h]; rfl
theorem A7.Flat.known:A7.Flat.Kn:=A7.Flat.Ac (.cons Bp.Hr.known (.cons Bp.Max.known (.cons Bp.Order.known (.cons Ag.Bs.known (.cons Aj.At.known .nil))))) fun r c l hp=>by
  obtain ⟨h1,hf⟩:=Ad.1 (show ((A0 r c l&&Ah l)&&Df l)=true from hp)
  obtain ⟨hr,al⟩:=Ad.1 h1
  obtain ⟨R,C,rfl,rfl,r6,c6,hl⟩:=Ce hr
  refine ⟨8,.bool (Qx (R:Int) (C:Int) l),[],?_,.bool⟩
  rw [A7.Flat.ev]
  have h1:=Acn 8 r6 c6 hl al (min R C) 0 8 0 (by omega) (by omega) H4
  rw [List.drop_zero,Abo _ _ (fun x hx=>by obtain ⟨j,_,rfl⟩:=List.mem_map.1 hx; exact ⟨_,rfl⟩)] at h1
  have h2:=Zg (Km (C:Int) l (min R C)) 0 (by decide) (by decide +kernel)
  have h2:(Km (C:Int) l (min R C)).foldl (fun m x=>Ow m (Je x)) 0=Be (Km (C:Int) l (min R C)):=h2
  rw [h2] at h1
  have h3:=Aco 8 (g:=Be (Km (C:Int) l (min R C))) r6 c6 hl al (Oa _) (min R C) 0 8 (by omega) (by omega)
  rw [List.drop_zero] at h3
  unfold Qx Aor
  rw [Ayu,Ayu]
  exact h1.trans h3
theorem A7.D4.known:A7.D4.Kn:=A7.D4.Ac (.cons Aj.Mul.known (.cons Aj.Cs.known (.cons Gw.Check.known (.cons B6.Gb.known (.cons A7.Flat.known (.cons A7.Cq.known .nil)))))) fun r c l p q m hp=>by
  obtain ⟨al,am⟩:=Ad.1 (show (Ah l&&Ah m)=true from hp)
  show ∃ N dv drops,_=some dv∧Wk drops dv (DV.tup [.agg [.int .i64 (Fo r c l p q m).1,.int .i64 (Fo r c l p q m).2.1,.ints .arg .u64 (Fo r c l p q m).2.2.1],.int .i64 (Fo r c l p q m).2.2.2])
  have hrun:=A7.D4.ev 0 r c l p q m
  rw [al,Ays] at hrun
  unfold Fo
  by_cases c1:Cg r c l=0
  · obtain ⟨hr,hf⟩:=D8 c1
    rw [Gc c1,Ayw,am,Ays] at hrun
    rw [if_neg (by rw [c1]; decide)]
    by_cases c2:Cg p q m=0
    · rw [Gc c2,Ayw,Asl] at hrun
      rw [if_neg (by rw [c2]; decide)]
      by_cases c3:r<c∨r≠p
      · rw [Ayt c3,Ays] at hrun
        rw [if_pos c3]
        exact ⟨0,_,[],hrun,Qd⟩
      · rw [Ayx c3,Ayw,hr,hf,Ayy,Bool.true_and,Ays] at hrun
        rw [if_neg c3]
        by_cases c4:E8 r c l=0
        · rw [Ayt c4,Bool.not_true,Ayw] at hrun
          rw [if_neg (by rw [c4]; decide)]
          obtain ⟨R,C,rfl,rfl,r6,c6,hl,t1,t2,q1,g1,f1,f2,q2,g2⟩:=Aip al c4
          obtain ⟨hm1,_⟩:=D8 c2
          have hcr:C≤R:=by omega
          obtain rfl:p=(R:Int):=by omega
          have m6:min R C≤6:=by omega
          have aq:Ah (B7 R (min R C) (fun i k=>D9 (R:Int) (Mi R C l) (0+(i:Int)) (0+(k:Int))))=true:=Gh fun _ _=>G7 q1
          have ar:Ah (B7 (min R C) C (fun i k=>D9 (C:Int) (Kc R C l) (0+(i:Int)) (0+(k:Int))))=true:=Gh fun _ _=>G7 g1
          have fr:Df (B7 (min R C) C (fun i k=>D9 (C:Int) (Kc R C l) (0+(i:Int)) (0+(k:Int))))=true:=Afw fun _ _=>Aou f2
          have rr:=Pr (fun i k=>D9 (C:Int) (Kc R C l) (0+(i:Int)) (0+(k:Int))) m6 c6
          have rq:=Pr (fun i k=>D9 (R:Int) (Mi R C l) (0+(i:Int)) (0+(k:Int))) r6 m6
          rw [t1,t2]
          rw [t1,t2] at hrun
          generalize B7 R (min R C) (fun i k=>D9 (R:Int) (Mi R C l) (0+(i:Int)) (0+(k:Int)))=gq at *
          generalize B7 (min R C) C (fun i k=>D9 (C:Int) (Kc R C l) (0+(i:Int)) (0+(k:Int)))=gr at *
          dsimp only at hrun ⊢
          have efl:(O2 ((min R C:Nat):Int) (C:Int) gr).1=Qx ((min R C:Nat):Int) (C:Int) gr:=by
            unfold O2
            rw [if_neg (by rw [Ape rr fr]; decide)]
          rw [efl]
          rw [rr,ar,fr,Ayy,Ayy,Ays] at hrun
          cases c5:Qx ((min R C:Nat):Int) (C:Int) gr with
          | true =>
            rw [c5,Ays] at hrun
            rw [if_pos rfl]
            exact ⟨0,_,[],hrun,Qd⟩
          | false =>
            rw [if_neg (by decide)]
            have rt:=Pr (fun i k=>D9 ((min R C:Nat):Int) gq (k:Int) (i:Int)) m6 r6
            have at':Ah (B7 (min R C) R (fun i k=>D9 ((min R C:Nat):Int) gq (k:Int) (i:Int)))=true:=Gh fun _ _=>G7 aq
            rw [c5,Ayw,rq,Ays,Ayu,Ayu,rt,hm1,at',Ayt rfl,Ayy,Ayy,Ayy,Ays,show Ah (B7 (min R C) q.toNat fun (i j:Nat)=>Jg (Ha (R:Int) (B7 (min R C) R fun (i k:Nat)=>D9 ((min R C:Nat):Int) gq (k:Int) (i:Int)) (i:Int)) (Kk (R:Int) q m (j:Int)))=true from Gh fun _ _=>Rx _ _,Ayy,Ays] at hrun
            have e1:Fq (R:Int) ((min R C:Nat):Int) gq=(((min R C:Nat):Int),(R:Int),B7 (min R C) R (fun (i k:Nat)=>D9 ((min R C:Nat):Int) gq (k:Int) (i:Int)),0):=by
              unfold Fq
              rw [if_pos rq,Ayu,Ayu]
            have e2:Dv (R:Int) ((min R C:Nat):Int) gq (R:Int) q m=(((min R C:Nat):Int),q,B7 (min R C) q.toNat (fun (i j:Nat)=>Jg (Ha (R:Int) (B7 (min R C) R fun (i k:Nat)=>D9 ((min R C:Nat):Int) gq (k:Int) (i:Int)) (i:Int)) (Kk (R:Int) q m (j:Int))),0):=by
              unfold Dv
              rw [e1,if_neg (fun h=>h rfl)]
              unfold Sa
              dsimp only
              rw [rt,hm1,Ayy,if_pos rfl,if_pos rfl,Ayu]
            unfold Ap3
            dsimp only
            rw [e2,if_neg (fun h=>h rfl)]
            exact ⟨0,_,[],hrun,W3⟩
        · have e2:E8 r c l=2:=by
            rw [Rw c1] at c4 ⊢
            by_cases hk:L5 r.toNat c.toNat l=true
            · rw [if_pos hk] at c4; exact absurd rfl c4
            · rw [if_neg hk]
          rw [Ayx c4,Bool.not_false,Ays] at hrun
          rw [if_pos c4,e2]
          exact ⟨0,_,[],hrun,Qd⟩
    · rw [To c2,Ays,Ays] at hrun
      rw [if_pos c2]
      exact ⟨0,_,[],hrun,Qd⟩
  · rw [To c1,Ays,Ays] at hrun
    rw [if_pos c1]
    exact ⟨0,_,[],hrun,Qd⟩
open EqRef20
theorem An8 {r c:Int} {l:List Int} {p q:Int} {m:List Int} (h:(loX r c l p q m).2.2.2=0) :
    ∃ (R Q:Nat) (Y:List Int),r=R∧q=Q∧R≤6∧Q≤6∧loX r c l p q m=((R:Int),(Q:Int),Y,0)∧Y.length=R*Q∧Df Y=true∧Ah Y=true:=by
  have hin:=Atu r c l p q m
  unfold loX at h hin ⊢
  by_cases k:N9 r c l p q m=0
  · rw [if_neg (fun h=>h k)] at h hin ⊢
    obtain ⟨h1,h2,rfl,rfl⟩:=O7 k
    obtain ⟨R,C,rfl,hC,r6,c6,hl⟩:=Ce h1
    obtain ⟨P,Q,hP,rfl,p6,q6,hl2⟩:=Ce h2
    unfold Kj at h hin ⊢
    by_cases kf:Df (loG (R:Int) l (Q:Int) m (R:Int).toNat (Q:Int).toNat)=true
    · rw [if_pos kf] at hin ⊢
      exact ⟨R,Q,_,rfl,rfl,r6,q6,rfl,by unfold loG; rw [Ca,Ayu,Ayu],kf,hin⟩
    · rw [if_neg kf] at h; exact absurd h (by decide)
  · rw [if_pos k] at h; exact absurd h k
theorem Amf {r c:Int} {l:List Int} {p q:Int} {m:List Int} (h:(Tq r c l p q m).2.2.2=0) :
    ∃ (R Q:Nat) (Y:List Int),r=R∧q=Q∧R≤6∧Q≤6∧Tq r c l p q m=((R:Int),(Q:Int),Y,0)∧Y.length=R*Q∧Df Y=true∧Ah Y=true:=by
  have hin:=Asv r c l p q m
  unfold Tq at h hin ⊢
  by_cases k:N9 r c l p q m=0
  · rw [if_neg (fun h=>h k)] at h hin ⊢
    obtain ⟨h1,h2,rfl,rfl⟩:=O7 k
    obtain ⟨R,C,rfl,hC,r6,c6,hl⟩:=Ce h1
    obtain ⟨P,Q,hP,rfl,p6,q6,hl2⟩:=Ce h2
    unfold Kj at h hin ⊢
    by_cases kf:Df (upG (R:Int) l (Q:Int) m (R:Int).toNat (Q:Int).toNat)=true
    · rw [if_pos kf] at hin ⊢
      exact ⟨R,Q,_,rfl,rfl,r6,q6,rfl,by unfold upG; rw [Ca,Ayu,Ayu],kf,hin⟩
    · rw [if_neg kf] at h; exact absurd h (by decide)
  · rw [if_pos k] at h; exact absurd h k
def Qb (R C:Nat) (x:MX):Prop:=∃ l,x=((R:Int),(C:Int),l,0)∧R≤6∧C≤6∧l.length=R*C∧Ah l=true
def FM (x:MX):Prop:=Df x.2.2.1=true
theorem FM.of {r c e:Int} {l:List Int} (h:Df l=true):FM (r,c,l,e):=h
theorem Qb.mk {R C:Nat} {l:List Int} (r6:R≤6) (c6:C≤6) (hl:l.length=R*C) (al:Ah l=true):Qb R C ((R:Int),(C:Int),l,0):=⟨l,rfl,r6,c6,hl,al⟩
theorem Qb.Ato {r c:Int} {l:List Int} (h:Cg r c l=0) (al:Ah l=true):∃ R C:Nat,r=R∧c=C∧Qb R C (r,c,l,0)∧FM (r,c,l,0):=by
  obtain ⟨R,C,rfl,rfl,r6,c6,hl⟩:=Ce (D8 h).1
  exact ⟨R,C,rfl,rfl,.mk r6 c6 hl al,(D8 h).2⟩
section
variable {R C K:Nat} {x y:MX}
theorem Qb.right (h:Qb R C x):A0 x.1 x.2.1 x.2.2.1=true:=by
  obtain ⟨l,rfl,r6,c6,hl,al⟩:=h
  exact Fg r6 c6 hl
theorem Qb.rows (h:Qb R C x):x.1=R:=by obtain ⟨l,rfl,_⟩:=h; rfl
theorem Qb.r6 (h:Qb R C x):R≤6:=by obtain ⟨l,rfl,r6,_⟩:=h; exact r6
theorem Qb.c6 (h:Qb R C x):C≤6:=by obtain ⟨l,rfl,_,c6,_⟩:=h; exact c6
theorem Qb.len (h:Qb R C x):x.2.2.1.length≤36:=by
  obtain ⟨l,rfl,r6,c6,hl,_⟩:=h
  have:=Nat.mul_le_mul r6 c6
  show l.length≤36
  omega
theorem Qb.fin (h:Ayj x=0):FM x:=(D8 h).2
theorem Ae1 {i k a b:Nat} (ha:i+a≤R) (hb:k+b≤C):Hv (R:Int) (C:Int) (i:Int) (k:Int) (a:Int) (b:Int)=true:=Ayt (by omega)
theorem Qb.part {i k a b:Nat} (h:Qb R C x) (ha:i+a≤R) (hb:k+b≤C):Qb a b (Yk x i k a b):=by
  have hr:=h.right
  obtain ⟨l,rfl,r6,c6,hl,al⟩:=h
  refine ⟨_,by unfold Yk Iq; dsimp only; rw [if_pos hr,if_pos (Ae1 ha hb)],by omega,by omega,by rw [Ca,Ayu,Ayu],Gh fun _ _=>G7 al⟩
theorem FM.part {i k a b:Nat} (h:Qb R C x) (f:FM x) (ha:i+a≤R) (hb:k+b≤C):FM (Yk x i k a b):=by
  have hr:=h.right
  obtain ⟨l,rfl,r6,c6,hl,al⟩:=h
  unfold Yk Iq
  dsimp only
  rw [if_pos hr,if_pos (Ae1 ha hb)]
  exact .of (Afw fun _ _=>Aou (show Df _=true from f))
theorem Qb.mul (h:Qb R K x) (g:Qb K C y):Qb R C (mulM x y):=by
  have hr:=h.right
  have hg:=g.right
  obtain ⟨l,rfl,r6,c6,hl,al⟩:=h
  obtain ⟨m,rfl,p6,q6,hm,am⟩:=g
  refine ⟨_,by unfold mulM Sa; rw [hr,hg,Ayy,if_pos rfl,if_pos rfl],r6,q6,by rw [Ca,Ayu,Ayu],Gh fun _ _=>Rx _ _⟩
theorem Qb.sub (h:Qb R C x) (g:Qb R C y):Qb R C (Av9 x y):=by
  have hr:=h.right
  have hg:=g.right
  obtain ⟨l,rfl,r6,c6,hl,al⟩:=h
  obtain ⟨m,rfl,p6,q6,hm,am⟩:=g
  refine ⟨_,by unfold Av9 Av8; rw [hr,hg,Ayy,if_pos rfl,if_pos ⟨rfl,rfl⟩],r6,c6,by rw [Ca,Ayu,Ayu],Gh fun _ _=>N3 (G7 al) (G7 am)⟩
theorem Qb.lo (h:Qb R R x) (g:Qb R C y) (e:(loM x y).2.2.2=0):Qb R C (loM x y)∧FM (loM x y):=by
  obtain ⟨l,rfl,r6,c6,hl,al⟩:=h
  obtain ⟨m,rfl,p6,q6,hm,am⟩:=g
  obtain ⟨P,Q,Y,e1,e2,a6,b6,e3,e4,e5,e6⟩:=An8 e
  dsimp only at e1 e2
  obtain rfl:P=R:=by omega
  obtain rfl:Q=C:=by omega
  have e7:loM ((P:Int),(P:Int),l,0) ((P:Int),(Q:Int),m,0)=((P:Int),(Q:Int),Y,0):=e3
  rw [e7]
  exact ⟨.mk a6 b6 e4 e6,e5⟩
theorem Qb.up (h:Qb R R x) (g:Qb R C y) (e:(upM x y).2.2.2=0):Qb R C (upM x y)∧FM (upM x y):=by
  obtain ⟨l,rfl,r6,c6,hl,al⟩:=h
  obtain ⟨m,rfl,p6,q6,hm,am⟩:=g
  obtain ⟨P,Q,Y,e1,e2,a6,b6,e3,e4,e5,e6⟩:=Amf e
  dsimp only at e1 e2
  obtain rfl:P=R:=by omega
  obtain rfl:Q=C:=by omega
  have e7:upM ((P:Int),(P:Int),l,0) ((P:Int),(Q:Int),m,0)=((P:Int),(Q:Int),Y,0):=e3
  rw [e7]
  exact ⟨.mk a6 b6 e4 e6,e5⟩
end
set_option maxRecDepth 100000
namespace EqGg
end EqGg
open EqGg
def Awq (o:Option DV) (d:DV):Prop:=∃ dv drops,o=some dv∧Wk drops dv d
theorem Ue {E:Env} {fn:Func} {ds:List DV} {d:DV} (h:Awq (Bq E 0 fn (An fn) ds) d):A8 E fn ds d:=by
  obtain ⟨dv,drops,e1,e2⟩:=h
  exact ⟨0,dv,drops,e1,e2⟩
theorem Ar9 {drops:List Nat} {r c:Int} {l:List Int}:Wk drops (.agg [.int .i64 r,.int .i64 c,.ints .fresh .u64 l]) (.agg [.int .i64 r,.int .i64 c,.ints .fresh .u64 l]):=Wk.G8 (.cons .int (.cons .int (.cons .N6 .nil)))
section
variable {N:Nat} {r c p q u v:Int} {l m h:List Int} {R Q T C W:MX}
end
def Aub (o:Option DV) (x:MX):Prop:=Awq o (Sx x)
theorem Aqu {o:Option DV} {x:MX} (h:o=some (Sx x)):Aub o x:=⟨_,[],h,N0⟩
theorem Xc {o:Option DV} {e:Int} (h:o=some (Akx e)):Aub o (Kl e):=⟨_,[],h,J0⟩
section
variable {N:Nat} {r c p q:Int} {l m:List Int} {Q L S w o y:MX}
end
namespace EqRidge
def Ae.Et.A6:List (Nat × Entry):=[(157,Ae.Mul.spec)]
def Ae.Et.E:Env:=A9 (A5 Ae.Et.A6) (fun _=>false) (fun _=>none) (fun _=>none)
theorem Ae.Et.ev (N:Nat) (i x:Int) (l:List Int):Bq Ae.Et.E N Tryz.f203 (An Tryz.f203) [.int .i64 i,.cellp [.int .u64 x],.cellp [.ints .arg .u64 l]]=bif ((decide (0≤i))&&(decide (i<(List.length l:Int)))) then bif (Af x&&Af (List.getD l (Int.toNat i) 0)) then some (.int .u64 (D3 x (List.getD l (Int.toNat i) 0))) else none else none :=
  Eq.trans (by kernel_rfl)
  (C0 (Ko (decide (0≤i)) (decide (i<(List.length l:Int)))) (C0 (Cx (Af x&&Af (List.getD l (Int.toNat i) 0))) rfl rfl) rfl)
abbrev _root_.Go.Proofs.S1.Ae.Et.Kn:=A3 Tryz.prog 203 Ae.Et.spec
theorem Ae.Et.Ac (hk:Ax Tryz.prog Ae.Et.A6) (h:∀ (i x:Int) (l:List Int),Ae.Et.pre [.i i,.i x,.l l]=true→A8 Ae.Et.E Tryz.f203 [.int .i64 i,.cellp [.int .u64 x],.cellp [.ints .arg .u64 l]] (Ae.Et.out [.i i,.i x,.l l])):Ae.Et.Kn :=
  Ak (Az hk _ _ _) Tryz.func203 (by kernel_rfl) (by kernel_rfl) h
def Ae.each.Cc.hint:Nat→Option Ba
  | 0=>some { keep:=[1,5,7,8],objs:=[(0,5,100005,.ints 37 .u64 [])],boxes:=[] }
  | _=>none
def Ae.each.Cc.A6:List (Nat × Entry):=[(203,Ae.Et.spec)]
def Ae.each.Cc.E:Env:=A9 (A5 Ae.each.Cc.A6) (fun _=>false) Ae.each.Cc.hint (fun _=>none)
def Ae.each.Cc.L0 (N M:Nat) (n x:Int) (l:List Int) (p8:Int) (p5:List Int):Option DV:=B0 Ae.each.Cc.E N Tryz.f202 (An Tryz.f202) [1,1,0,1,0] [] M ⟨Gj 19 [(1,.fn 203 [] [.cellp [.int .u64 x],.cellp [.ints .arg .u64 l]]),(5,.oref 100005),(7,.int .i64 n),(8,.int .i64 p8)],[(100005,false,.ints 37 .u64 p5)]⟩
theorem Ae.each.Cc.Ar (N M:Nat) (n x:Int) (l:List Int) (p8:Int) (p5:List Int):Ae.each.Cc.L0 N (M+1) n x l p8 p5=bif (A4 p8 n) then bif ((Cz (0≤p8∧p8<List.length l)&&Ah l)&&Af x) then bif (decide ((List.length p5)+1≤Gt)) then Ae.each.Cc.L0 N M n x l (Ab (p8+1)) (p5++[(D3 x (List.getD l (Int.toNat p8) 0))]) else none else none else some (.ints (.own 100005 37) .u64 p5):=by kernel_rfl
theorem Ae.each.Cc.ev (N:Nat) (n x:Int) (l:List Int):Bq Ae.each.Cc.E N Tryz.f202 (An Tryz.f202) [.int .i64 n,.fn 203 [] [.cellp [.int .u64 x],.cellp [.ints .arg .u64 l]]] =
  Ae.each.Cc.L0 N N n x l 0 []:=by kernel_rfl
abbrev _root_.Go.Proofs.S1.Ae.each.Cc.Kn:=A3 Tryz.prog 202 Ae.each.Cc.spec
theorem Ae.each.Cc.Ac (hk:Ax Tryz.prog Ae.each.Cc.A6) (h:∀ (n x:Int) (l:List Int),Ae.each.Cc.pre [.i n,.i x,.l l]=true→A8 Ae.each.Cc.E Tryz.f202 [.int .i64 n,.fn 203 [] [.cellp [.int .u64 x],.cellp [.ints .arg .u64 l]]] (Ae.each.Cc.out [.i n,.i x,.l l])):Ae.each.Cc.Kn :=
  Ak (Az hk _ _ _) Tryz.func202 (by kernel_rfl) (by kernel_rfl) h
def Ae.Cc.A6:List (Nat × Entry):=[(202,Ae.each.Cc.spec)]
def Ae.Cc.E:Env:=A9 (A5 Ae.Cc.A6) (fun _=>false) (fun _=>none) (fun _=>none)
theorem Ae.Cc.ev (N:Nat) (x:Int) (l:List Int):Bq Ae.Cc.E N Tryz.f149 (An Tryz.f149) [.int .u64 x,.ints .arg .u64 l]=bif (A4 64 (List.length l:Int)) then some (.tup [.nil,.int .i64 3]) else bif (((Cz (0≤(List.length l:Int)∧(List.length l:Int)≤64∧(List.length l:Int)=List.length l))&&Ah l)&&Af x) then some (.tup [.ints .fresh .u64 (C4 x l),.int .i64 0]) else none:=by kernel_rfl
abbrev _root_.Go.Proofs.S1.Ae.Cc.Kn:=A3 Tryz.prog 149 Ae.Cc.spec
theorem Ae.Cc.Ac (hk:Ax Tryz.prog Ae.Cc.A6) (h:∀ (x:Int) (l:List Int),Ae.Cc.pre [.i x,.l l]=true→A8 Ae.Cc.E Tryz.f149 [.int .u64 x,.ints .arg .u64 l] (Ae.Cc.out [.i x,.l l])):Ae.Cc.Kn :=
  Ak (Az hk _ _ _) Tryz.func149 (by kernel_rfl) (by kernel_rfl) h
def Ck.Dc.hint:Nat→Option Ba
  | 0=>some { keep:=[6,7,8],objs:=[],boxes:=[] }
  | _=>none
def Ck.Dc.A6:List (Nat × Entry):=[(86,Cy.Check.spec)]
def Ck.Dc.E:Env:=A9 (A5 Ck.Dc.A6) (fun _=>false) Ck.Dc.hint (fun _=>none)
theorem Ck.Dc.ev (N:Nat) (r c:Int) (l:List Int) (p q:Int) (m:List Int) (u v:Int) (h:List Int):Bq Ck.Dc.E (N+5) Tryz.f147 (An Tryz.f147) [.recs .arg 3 [[.int .i64 r,.int .i64 c,.ints .arg .u64 l],[.int .i64 p,.int .i64 q,.ints .arg .u64 m],[.int .i64 u,.int .i64 v,.ints .arg .u64 h]]]=bif (Ah l) then bif ((Cg r c l) !=(0:Int)) then some (.int .i64 (Cg r c l)) else bif (Ah m) then bif ((Cg p q m) !=(0:Int)) then some (.int .i64 (Cg p q m)) else bif (Ah h) then bif ((Cg u v h) !=(0:Int)) then some (.int .i64 (Cg u v h)) else some (.int .i64 0) else none else none else none:=by kernel_rfl
abbrev _root_.Go.Proofs.S1.Ck.Dc.Kn:=A3 Tryz.prog 147 Ck.Dc.spec
theorem Ck.Dc.Ac (hk:Ax Tryz.prog Ck.Dc.A6) (h:∀ (r c:Int) (l:List Int) (p q:Int) (m:List Int) (u v:Int) (h:List Int),Ck.Dc.pre [.i r,.i c,.l l,.i p,.i q,.l m,.i u,.i v,.l h]=true→A8 Ck.Dc.E Tryz.f147 [.recs .arg 3 [[.int .i64 r,.int .i64 c,.ints .arg .u64 l],[.int .i64 p,.int .i64 q,.ints .arg .u64 m],[.int .i64 u,.int .i64 v,.ints .arg .u64 h]]] (Ck.Dc.out [.i r,.i c,.l l,.i p,.i q,.l m,.i u,.i v,.l h])):Ck.Dc.Kn :=
  Ak (Az hk _ _ _) Tryz.func147 (by kernel_rfl) (by kernel_rfl) h
def Ck.Fp.A6:List (Nat × Entry):=[(126,Aa.Stack.spec),(151,Aa.Bf.spec),(147,Ck.Dc.spec),(148,soft.Finite.spec),(30,solve.D4.spec),(150,Ae.Finite.spec),(149,Ae.Cc.spec)]
def Ck.Fp.E:Env:=A9 (A5 Ck.Fp.A6) (fun _=>false) (fun _=>none) (fun _=>none)
theorem Ck.Fp.ev (N:Nat) (r c:Int) (l:List Int) (p q:Int) (m:List Int) (u v:Int) (h:List Int) (x:Int):Bq Ck.Fp.E N Tryz.f66 (An Tryz.f66) [.agg [.int .i64 r,.int .i64 c,.ints .arg .u64 l],.agg [.int .i64 p,.int .i64 q,.ints .arg .u64 m],.agg [.int .i64 u,.int .i64 v,.ints .arg .u64 h],.int .u64 x]=bif (I7 l m h) then bif ((Nb r c l p q m u v h) !=(0:Int)) then some (.tup [.agg [.int .i64 0,.int .i64 0,.nil],.int .i64 (Nb r c l p q m u v h)]) else bif (Af x) then bif (!(Cv x)) then some (.tup [.agg [.int .i64 0,.int .i64 0,.nil],.int .i64 4]) else bif ((((p !=r)||(q !=(1:Int)))||(v !=c))||(A4 6 (Ab (r+u)))) then some (.tup [.agg [.int .i64 0,.int .i64 0,.nil],.int .i64 3]) else bif ((Cl h&&Af x)&&Cz (List.length h≤64)) then bif (Cl (C4 x h)) then bif (!(Df (C4 x h))) then some (.tup [.agg [.int .i64 0,.int .i64 0,.nil],.int .i64 2]) else bif (Ah ((D0 r c l u v (C4 x h)).2.2.1)&&Ah ((D0 p q m ((C3 u 1).1) ((C3 u 1).2.1) ((C3 u 1).2.2.1)).2.2.1)) then some (.tup [.agg [.int .i64 ((Fo ((D0 r c l u v (C4 x h)).1) ((D0 r c l u v (C4 x h)).2.1) ((D0 r c l u v (C4 x h)).2.2.1) ((D0 p q m ((C3 u 1).1) ((C3 u 1).2.1) ((C3 u 1).2.2.1)).1) ((D0 p q m ((C3 u 1).1) ((C3 u 1).2.1) ((C3 u 1).2.2.1)).2.1) ((D0 p q m ((C3 u 1).1) ((C3 u 1).2.1) ((C3 u 1).2.2.1)).2.2.1)).1),.int .i64 ((Fo ((D0 r c l u v (C4 x h)).1) ((D0 r c l u v (C4 x h)).2.1) ((D0 r c l u v (C4 x h)).2.2.1) ((D0 p q m ((C3 u 1).1) ((C3 u 1).2.1) ((C3 u 1).2.2.1)).1) ((D0 p q m ((C3 u 1).1) ((C3 u 1).2.1) ((C3 u 1).2.2.1)).2.1) ((D0 p q m ((C3 u 1).1) ((C3 u 1).2.1) ((C3 u 1).2.2.1)).2.2.1)).2.1),.ints .fresh .u64 ((Fo ((D0 r c l u v (C4 x h)).1) ((D0 r c l u v (C4 x h)).2.1) ((D0 r c l u v (C4 x h)).2.2.1) ((D0 p q m ((C3 u 1).1) ((C3 u 1).2.1) ((C3 u 1).2.2.1)).1) ((D0 p q m ((C3 u 1).1) ((C3 u 1).2.1) ((C3 u 1).2.2.1)).2.1) ((D0 p q m ((C3 u 1).1) ((C3 u 1).2.1) ((C3 u 1).2.2.1)).2.2.1)).2.2.1)],.int .i64 ((Fo ((D0 r c l u v (C4 x h)).1) ((D0 r c l u v (C4 x h)).2.1) ((D0 r c l u v (C4 x h)).2.2.1) ((D0 p q m ((C3 u 1).1) ((C3 u 1).2.1) ((C3 u 1).2.2.1)).1) ((D0 p q m ((C3 u 1).1) ((C3 u 1).2.1) ((C3 u 1).2.2.1)).2.1) ((D0 p q m ((C3 u 1).1) ((C3 u 1).2.1) ((C3 u 1).2.2.1)).2.2.1)).2.2.2)]) else none else none else none else none else none :=
  Eq.trans (by kernel_rfl)
  (Eh (Eh rfl (Eh (Eh rfl (Av (Se (p !=r)) (Av (Qa (p !=r)) (Av (Qa (p !=r)) (Av (W4 (p !=r)) (Av (Ad5 (p !=r) (q !=(1:Int))) (Av (Agt (p !=r) (q !=(1:Int))) (Av (Ad5 (p !=r) (q !=(1:Int))) (Av (Agt (p !=r) (q !=(1:Int))) (Av (Ap5 (p !=r) (q !=(1:Int))) (Av (Ap8 (p !=r) (q !=(1:Int))) (Av (Aj1 (p !=r) (q !=(1:Int)) (v !=c)) (Av (Ad6 (p !=r) (q !=(1:Int)) (v !=c)) (Av (Aj1 (p !=r) (q !=(1:Int)) (v !=c)) (Av (Ad6 (p !=r) (q !=(1:Int)) (v !=c)) (Av (Asg (p !=r) (q !=(1:Int)) (v !=c)) (Av (Ad6 (p !=r) (q !=(1:Int)) (v !=c)) (Av (Ap9 (p !=r) (q !=(1:Int)) (v !=c)) (C0 (Asf (p !=r) (q !=(1:Int)) (v !=c) (A4 6 (Ab (r+u)))) rfl rfl))))))))))))))))))) rfl)) rfl)
abbrev _root_.Go.Proofs.S1.Ck.Fp.Kn:=A3 Tryz.prog 66 Ck.Fp.spec
theorem Ck.Fp.Ac (hk:Ax Tryz.prog Ck.Fp.A6) (h:∀ (r c:Int) (l:List Int) (p q:Int) (m:List Int) (u v:Int) (h:List Int) (x:Int),Ck.Fp.pre [.i r,.i c,.l l,.i p,.i q,.l m,.i u,.i v,.l h,.i x]=true→A8 Ck.Fp.E Tryz.f66 [.agg [.int .i64 r,.int .i64 c,.ints .arg .u64 l],.agg [.int .i64 p,.int .i64 q,.ints .arg .u64 m],.agg [.int .i64 u,.int .i64 v,.ints .arg .u64 h],.int .u64 x] (Ck.Fp.out [.i r,.i c,.l l,.i p,.i q,.l m,.i u,.i v,.l h,.i x])):Ck.Fp.Kn :=
  Ak (Az hk _ _ _) Tryz.func66 (by kernel_rfl) (by kernel_rfl) h
def Ck.I8.hint:Nat→Option Ba
  | 0=>some { keep:=[4,5,6,10,18,19,20],objs:=[(0,10,100010,.recs 24 3 [])],boxes:=[4,5,6] }
  | _=>none
def Ck.I8.A6:List (Nat × Entry):=[(66,Ck.Fp.spec)]
def Ck.I8.E:Env:=A9 (A5 Ck.I8.A6) (fun _=>false) Ck.I8.hint (fun _=>none)
def Ck.I8.L0 (N M:Nat) (r c:Int) (l:List Int) (p q:Int) (m:List Int) (u v:Int) (h y:List Int) (p20:Int) (p10:List (List DV)):Option DV:=B0 Ck.I8.E N Tryz.f69 (An Tryz.f69) [1,0,1,1,1,0,1,0] [] M ⟨Gj 41 [(4,.ptr 4 0 0),(5,.ptr 5 0 0),(6,.ptr 6 0 0),(10,.oref 100010),(18,.ints .arg .u64 y),(19,.int .i64 (List.length y:Int)),(20,.int .i64 p20)],[(4,false,.box [.int .i64 r,.int .i64 c,.ints .arg .u64 l]),(5,false,.box [.int .i64 p,.int .i64 q,.ints .arg .u64 m]),(6,false,.box [.int .i64 u,.int .i64 v,.ints .arg .u64 h]),(100010,false,.recs 24 3 p10)]⟩
theorem Ck.I8.Ar (N M:Nat) (r c:Int) (l:List Int) (p q:Int) (m:List Int) (u v:Int) (h y:List Int) (p20:Int) (p10:List (List DV)):Ck.I8.L0 N (M+1) r c l p q m u v h y p20 p10=bif (A4 p20 (List.length y:Int)) then bif ((decide (0≤p20))&&(decide (p20<(List.length y:Int)))) then bif (I7 l m h&&Af (List.getD y (Int.toNat p20) 0)) then bif (((Bi r c l p q m u v h (List.getD y (Int.toNat p20) 0)).2.2.2) !=(0:Int)) then some (.tup [.nil,.int .i64 ((Bi r c l p q m u v h (List.getD y (Int.toNat p20) 0)).2.2.2)]) else bif (decide ((List.length p10)+1≤Aaf)) then Ck.I8.L0 N M r c l p q m u v h y (Ab (p20+1)) (p10++[[.int .i64 ((Bi r c l p q m u v h (List.getD y (Int.toNat p20) 0)).1),.int .i64 ((Bi r c l p q m u v h (List.getD y (Int.toNat p20) 0)).2.1),.ints .arg .u64 ((Bi r c l p q m u v h (List.getD y (Int.toNat p20) 0)).2.2.1)]]) else none else none else none else some (.tup [.recs (.own 100010 24) 3 p10,.int .i64 0]):=by kernel_rfl
theorem Ck.I8.ev (N:Nat) (r c:Int) (l:List Int) (p q:Int) (m:List Int) (u v:Int) (h y:List Int):Bq Ck.I8.E N Tryz.f69 (An Tryz.f69) [.agg [.int .i64 r,.int .i64 c,.ints .arg .u64 l],.agg [.int .i64 p,.int .i64 q,.ints .arg .u64 m],.agg [.int .i64 u,.int .i64 v,.ints .arg .u64 h],.ints .arg .u64 y]=bif (A4 8 (List.length y:Int)) then some (.tup [.nil,.int .i64 1]) else Ck.I8.L0 N N r c l p q m u v h y 0 []:=by kernel_rfl
abbrev _root_.Go.Proofs.S1.Ck.I8.Kn:=A3 Tryz.prog 69 Ck.I8.spec
theorem Ck.I8.Ac (hk:Ax Tryz.prog Ck.I8.A6) (h:∀ (r c:Int) (l:List Int) (p q:Int) (m:List Int) (u v:Int) (h y:List Int),Ck.I8.pre [.i r,.i c,.l l,.i p,.i q,.l m,.i u,.i v,.l h,.l y]=true→A8 Ck.I8.E Tryz.f69 [.agg [.int .i64 r,.int .i64 c,.ints .arg .u64 l],.agg [.int .i64 p,.int .i64 q,.ints .arg .u64 m],.agg [.int .i64 u,.int .i64 v,.ints .arg .u64 h],.ints .arg .u64 y] (Ck.I8.out [.i r,.i c,.l l,.i p,.i q,.l m,.i u,.i v,.l h,.l y])):Ck.I8.Kn :=
  Ak (Az hk _ _ _) Tryz.func69 (by kernel_rfl) (by kernel_rfl) h
end EqRidge
open EqRidge
theorem Kp (x:Int) (l:List Int):(C4 x l).length=l.length:=by unfold C4; rw [List.length_map]
theorem Rf (x:Int) (l:List Int):Ah (C4 x l)=true:=Aq.2 fun y hy=>by
  obtain ⟨b,_,rfl⟩:=List.mem_map.1 hy
  exact Jn _ _
theorem Wa (x:Int) (l:List Int):(List.range l.length).map (fun j=>D3 x (l.getD j 0))=C4 x l:=by
  refine Ut (by rw [List.length_map,List.length_range,Kp]) fun j hj=>?_
  rw [List.length_map,List.length_range] at hj
  unfold C4
  rw [List.getElem?_map,List.getElem?_map,List.getElem?_range hj,Ay9 hj]
  simp only [Option.map_some,Ay2,Ay9 hj,Option.getD_some]
theorem Ae.Et.known:Ae.Et.Kn:=Ae.Et.Ac (.cons Ae.Mul.known .nil) fun i x l hp=>by
  obtain ⟨h1,hx⟩:=Ad.1 (show ((Cz (0≤i∧i<List.length l)&&Ah l)&&Af x)=true from hp)
  obtain ⟨h2,al⟩:=Ad.1 h1
  have h3:=Aq.1 h2
  refine ⟨0,Ae.Et.out [.i i,.i x,.l l],[],?_,.int⟩
  rw [Ae.Et.ev,Ayt h3.1,Ayt h3.2,Ayy,Ays,hx,La al (by omega),Ayy,Ays]
  rfl
theorem Wy (N:Nat) {x:Int} {l:List Int} (al:Ah l=true) (hx:Af x=true) (h64:l.length≤64):∀ (k i F:Nat),i+k=l.length→k<F →
    Ae.each.Cc.L0 N F (l.length:Int) x l (i:Int) ((List.range i).map fun j=>D3 x (l.getD j 0))=some (.ints (.own 100005 tB) .u64 (C4 x l)):=by
  intro k
  induction k with
  | zero =>
    intro i F hi hF
    obtain ⟨F,rfl⟩:∃ G,F=G+1:=⟨F-1,by omega⟩
    obtain rfl:i=l.length:=by omega
    rw [Ae.each.Cc.Ar,As,Ayx (by omega),Ayw,Wa]
  | succ k ih =>
    intro i F hi hF
    obtain ⟨F,rfl⟩:∃ G,F=G+1:=⟨F-1,by omega⟩
    have:=ih (i+1) F (by omega) (by omega)
    rw [G1] at this
    rw [Ae.each.Cc.Ar,As,Ayt (by omega),Ays,Aq.2 (show 0≤(i:Int)∧(i:Int)<(l.length:Int) by omega),al,hx,Ayy,Ayy,Ays,
      Ayt (by rw [List.length_map,List.length_range]; unfold Gt; omega),Ays,Al (by omega) (by omega),Ayu]
    exact this
theorem Ae.each.Cc.known:Ae.each.Cc.Kn:=Ae.each.Cc.Ac (.cons Ae.Et.known .nil) fun n x l hp=>by
  obtain ⟨h1,hx⟩:=Ad.1 (show ((Cz (0≤n∧n≤64∧n=List.length l)&&Ah l)&&Af x)=true from hp)
  obtain ⟨h2,al⟩:=Ad.1 h1
  obtain ⟨h3,h4,rfl⟩:=Aq.1 h2
  refine ⟨65,.ints (.own 100005 tB) .u64 (C4 x l),[100005],?_,.drop _ _ _ _ (List.mem_singleton.2 rfl)⟩
  rw [Ae.each.Cc.ev]
  exact Wy 65 al hx (by omega) l.length 0 65 (by omega) (by omega)
theorem Ae.Cc.known:Ae.Cc.Kn:=Ae.Cc.Ac (.cons Ae.each.Cc.known .nil) fun x l hp=>by
  obtain ⟨h1,h2⟩:=Ad.1 (show ((Cl l&&Af x)&&Cz (List.length l≤64))=true from hp)
  obtain ⟨ol,hx⟩:=Ad.1 h1
  have h2:=Aq.1 h2
  refine ⟨0,Ae.Cc.out [.i x,.l l],[],?_,Wk.Gp (.cons .N6 (.cons .int .nil))⟩
  rw [Ae.Cc.ev,As,Ayx (by omega),Ayw,Aq.2 (show 0≤(l.length:Int)∧(l.length:Int)≤64∧(l.length:Int)=l.length by omega),O8 ol,hx,Ayy,Ayy,Ays]
  rfl
theorem Ck.Dc.known:Ck.Dc.Kn:=Ck.Dc.Ac (.cons Cy.Check.known .nil) fun r c l p q m u v h hp=>by
  obtain ⟨h1,ah⟩:=Ad.1 (show ((Ah l&&Ah m)&&Ah h)=true from hp)
  obtain ⟨al,am⟩:=Ad.1 h1
  refine ⟨0+5,.int .i64 (Nb r c l p q m u v h),[],?_,.int⟩
  rw [Ck.Dc.ev,al,am,ah,Ays,Ays,Ays]
  unfold Nb
  by_cases k1:Cg r c l=0
  · rw [Gc k1,Ayw,if_neg (fun h=>h k1)]
    by_cases k2:Cg p q m=0
    · rw [Gc k2,Ayw,if_neg (fun h=>h k2)]
      by_cases k4:Cg u v h=0
      · rw [Gc k4,Ayw,k4]
      · rw [To k4,Ays]
    · rw [To k2,Ays,if_pos k2]
  · rw [To k1,Ays,if_pos k1]
theorem V5 {r c:Int} {l:List Int} {p q:Int} {m:List Int} {u v:Int} {h:List Int} (e:Nb r c l p q m u v h=0):Cg r c l=0∧Cg p q m=0∧Cg u v h=0:=by
  unfold Nb at e
  by_cases k1:Cg r c l=0
  · rw [if_neg (fun h=>h k1)] at e
    by_cases k2:Cg p q m=0
    · rw [if_neg (fun h=>h k2)] at e; exact ⟨k1,k2,e⟩
    · rw [if_pos k2] at e; exact absurd e k2
  · rw [if_pos k1] at e; exact absurd e k1
theorem Aay {r c p q u v:Int} (h:0≤r∧r≤6) (h':0≤u∧u≤6) :
    ((((p !=r)||(q !=(1:Int)))||(v !=c))||(A4 (6:Int) (Ab (r+u))))=decide (p≠r∨q≠1∨v≠c∨6<r+u):=by
  rw [Al (by omega) (by omega),As,Ay8]
  simp [or_assoc]
theorem Ae5 {l:List Int} (h:l.length≤36) (al:Ah l=true):Cl l=true:=Aq.2 ⟨by omega,Aq.1 al⟩
section
variable {r c p q u v x:Int} {l m h:List Int}
theorem T7 {e:Int} (k:Oi r c l p q m u v h x=e) (he:e≠0):Bi r c l p q m u v h x=Kl e:=by
  unfold Bi; rw [k,if_pos he]
theorem Aiw (k:Oi r c l p q m u v h x=0):Bi r c l p q m u v h x=Ahr (Ar4 r c l u v h x) (Aej p q m u):=by
  unfold Bi; rw [if_neg (fun h=>h k)]
theorem Ag9 (k:Nb r c l p q m u v h≠0):Oi r c l p q m u v h x=Nb r c l p q m u v h:=by unfold Oi; rw [if_pos k]
theorem Ag8 (k:Nb r c l p q m u v h=0) (k2:Cv x=false):Oi r c l p q m u v h x=4:=by
  unfold Oi; rw [if_neg (fun h=>h k),if_pos k2]
theorem Ag7 (k:Nb r c l p q m u v h=0) (k2:Cv x=true) (k3:p≠r∨q≠1∨v≠c∨6<r+u):Oi r c l p q m u v h x=3:=by
  unfold Oi; rw [if_neg (fun h=>h k),k2,if_neg (by decide),if_pos k3]
theorem Ag6 (k:Nb r c l p q m u v h=0) (k2:Cv x=true) (k3:¬ (p≠r∨q≠1∨v≠c∨6<r+u)) (k4:Df (C4 x h)=false):Oi r c l p q m u v h x=2:=by
  unfold Oi; rw [if_neg (fun h=>h k),k2,if_neg (by decide),if_neg k3,if_pos k4]
theorem Am6 (k:Nb r c l p q m u v h=0) (k2:Cv x=true) (k3:¬ (p≠r∨q≠1∨v≠c∨6<r+u)) (k4:Df (C4 x h)=true):Oi r c l p q m u v h x=0:=by
  unfold Oi; rw [if_neg (fun h=>h k),k2,if_neg (by decide),if_neg k3,k4,if_neg (by decide)]
end
theorem Ck.Fp.known:Ck.Fp.Kn:=Ck.Fp.Ac (.cons Aa.Stack.known (.cons Aa.Bf.known (.cons Ck.Dc.known (.cons soft.Finite.known (.cons solve.D4.known (.cons Ae.Finite.known (.cons Ae.Cc.known .nil))))))) fun r c l p q m u v h x hp=>Ue (by
  obtain ⟨h0,hx⟩:=Ad.1 (show (I7 l m h&&Af x)=true from hp)
  obtain ⟨h1,ah⟩:=Ad.1 (show ((Ah l&&Ah m)&&Ah h)=true from h0)
  obtain ⟨al,am⟩:=Ad.1 h1
  show Aub _ (Bi r c l p q m u v h x)
  rw [Ck.Fp.ev,h0,Ays]
  by_cases k:Nb r c l p q m u v h=0
  · obtain ⟨k1,k2,k3⟩:=V5 k
    rw [Gc k,Ayw,hx,Ays]
    cases hf:Cv x with
    | false =>
      rw [Bool.not_false,Ays,T7 (Ag8 k hf) (by decide)]
      exact Xc rfl
    | true =>
      have s1:=T6 (D8 k1).1
      have s3:=T6 (D8 k3).1
      rw [Bool.not_true,Ayw,Aay ⟨s1.1,s1.2.1⟩ ⟨s3.1,s3.2.1⟩]
      by_cases ks:p≠r∨q≠1∨v≠c∨6<r+u
      · rw [Ayt ks,Ays,T7 (Ag7 k hf ks) (by decide)]
        exact Xc rfl
      · obtain ⟨R,C,_,_,hm,_⟩:=Qb.Ato k3 ah
        have hl:h.length≤36:=hm.len
        rw [Ayx ks,Ayw,Ae5 hl ah,Ayy,Aq.2 (show h.length≤64 by omega),Ayy,Ays,Ae5 (by rw [Kp]; exact hl) (Rf x h),Ays]
        cases hg:Df (C4 x h) with
        | false =>
          rw [Bool.not_false,Ays,T7 (Ag6 k hf ks hg) (by decide)]
          exact Xc rfl
        | true =>
          have az:Ah (C3 u 1).2.2.1=true:=by
            unfold C3
            split
            · exact (show Ah (B7 _ _ fun _ _=>0)=true from Gh fun _ _=>H4)
            · exact Lo
          rw [Bool.not_true,Ayw,Aiw (Am6 k hf ks hg),Aat al (Rf x h),Aat am az,Ayy,Ays]
          exact Aqu rfl
  · rw [To k,Ays,T7 (Ag9 k) k]
    exact Xc rfl)
namespace EqRef22
def Ag.Cc.hint:Nat→Option Ba
  | 0=>some { keep:=[0,1,5,6],objs:=[(0,5,100005,.ints 37 .u64 [])],boxes:=[] }
  | _=>none
def Ag.Cc.A6:List (Nat × Entry):=[(82,Ag.Mul.spec)]
def Ag.Cc.E:Env:=A9 (A5 Ag.Cc.A6) (fun _=>false) Ag.Cc.hint (fun _=>none)
def Ag.Cc.L0 (N M:Nat) (x:Int) (l:List Int) (p6:Int) (p5:List Int):Option DV:=B0 Ag.Cc.E N Tryz.f154 (An Tryz.f154) [1,1,0,1,0] [] M ⟨Gj 24 [(0,.int .u64 x),(1,.ints .arg .u64 l),(5,.oref 100005),(6,.int .i64 p6)],[(100005,false,.ints 37 .u64 p5)]⟩
theorem Ag.Cc.Ar (N M:Nat) (x:Int) (l:List Int) (p6:Int) (p5:List Int):Ag.Cc.L0 N (M+1) x l p6 p5=bif (A4 p6 (List.length l:Int)) then bif ((decide (0≤p6))&&(decide (p6<(List.length l:Int)))) then bif (Af x&&Af (List.getD l (Int.toNat p6) 0)) then bif (decide ((List.length p5)+1≤Gt)) then Ag.Cc.L0 N M x l (Ab (p6+1)) (p5++[(D3 x (List.getD l (Int.toNat p6) 0))]) else none else none else none else some (.ints (.own 100005 37) .u64 p5):=by kernel_rfl
theorem Ag.Cc.ev (N:Nat) (x:Int) (l:List Int):Bq Ag.Cc.E N Tryz.f154 (An Tryz.f154) [.int .u64 x,.ints .arg .u64 l] =
  Ag.Cc.L0 N N x l 0 []:=by kernel_rfl
abbrev _root_.Go.Proofs.S1.Ag.Cc.Kn:=A3 Tryz.prog 154 Ag.Cc.spec
theorem Ag.Cc.Ac (hk:Ax Tryz.prog Ag.Cc.A6) (h:∀ (x:Int) (l:List Int),Ag.Cc.pre [.i x,.l l]=true→A8 Ag.Cc.E Tryz.f154 [.int .u64 x,.ints .arg .u64 l] (Ag.Cc.out [.i x,.l l])):Ag.Cc.Kn :=
  Ak (Az hk _ _ _) Tryz.func154 (by kernel_rfl) (by kernel_rfl) h
def Bu.Dc.A6:List (Nat × Entry):=[(25,Gw.Check.spec)]
def Bu.Dc.E:Env:=A9 (A5 Bu.Dc.A6) (fun _=>false) (fun _=>none) (fun _=>none)
theorem Bu.Dc.ev (N:Nat) (r c:Int) (l:List Int) (p q:Int) (m:List Int) (u v:Int) (h:List Int):Bq Bu.Dc.E N Tryz.f153 (An Tryz.f153) [.agg [.int .i64 r,.int .i64 c,.ints .arg .u64 l],.agg [.int .i64 p,.int .i64 q,.ints .arg .u64 m],.agg [.int .i64 u,.int .i64 v,.ints .arg .u64 h]]=bif (Ah l) then bif ((Cg r c l) !=(0:Int)) then bif (Ah l) then some (.int .i64 (Cg r c l)) else none else bif (Ah m) then bif ((Cg p q m) !=(0:Int)) then bif (Ah m) then some (.int .i64 (Cg p q m)) else none else bif (Ah h) then some (.int .i64 (Cg u v h)) else none else none else none:=by kernel_rfl
abbrev _root_.Go.Proofs.S1.Bu.Dc.Kn:=A3 Tryz.prog 153 Bu.Dc.spec
theorem Bu.Dc.Ac (hk:Ax Tryz.prog Bu.Dc.A6) (h:∀ (r c:Int) (l:List Int) (p q:Int) (m:List Int) (u v:Int) (h:List Int),Bu.Dc.pre [.i r,.i c,.l l,.i p,.i q,.l m,.i u,.i v,.l h]=true→A8 Bu.Dc.E Tryz.f153 [.agg [.int .i64 r,.int .i64 c,.ints .arg .u64 l],.agg [.int .i64 p,.int .i64 q,.ints .arg .u64 m],.agg [.int .i64 u,.int .i64 v,.ints .arg .u64 h]] (Bu.Dc.out [.i r,.i c,.l l,.i p,.i q,.l m,.i u,.i v,.l h])):Bu.Dc.Kn :=
  Ak (Az hk _ _ _) Tryz.func153 (by kernel_rfl) (by kernel_rfl) h
def Bu.Z4.A6:List (Nat × Entry):=[(154,Ag.Cc.spec),(72,Aj.Stack.spec)]
def Bu.Z4.E:Env:=A9 (A5 Bu.Z4.A6) (fun _=>false) (fun _=>none) (fun _=>none)
theorem Bu.Z4.ev (N:Nat) (r c:Int) (l:List Int) (u v:Int) (h:List Int) (x:Int):Bq Bu.Z4.E N Tryz.f74 (An Tryz.f74) [.agg [.int .i64 r,.int .i64 c,.ints .arg .u64 l],.agg [.int .i64 u,.int .i64 v,.ints .arg .u64 h],.int .u64 x]=bif ((Cl h&&Af x)&&Cz (List.length h≤64)) then bif ((A0 r c l&&A0 u v (C4 x h))&&decide (v=c)) then some (.agg [.int .i64 (r+u),.int .i64 c,.ints .fresh .u64 (l++(C4 x h))]) else none else none :=
  Eq.trans (by kernel_rfl)
  (C0 (Cx ((Cl h&&Af x)&&Cz (List.length h≤64))) (C0 (Cx ((A0 r c l&&A0 u v (C4 x h))&&decide (v=c))) rfl rfl) rfl)
abbrev _root_.Go.Proofs.S1.Bu.Z4.Kn:=A3 Tryz.prog 74 Bu.Z4.spec
theorem Bu.Z4.Ac (hk:Ax Tryz.prog Bu.Z4.A6) (h:∀ (r c:Int) (l:List Int) (u v:Int) (h:List Int) (x:Int),Bu.Z4.pre [.i r,.i c,.l l,.i u,.i v,.l h,.i x]=true→A8 Bu.Z4.E Tryz.f74 [.agg [.int .i64 r,.int .i64 c,.ints .arg .u64 l],.agg [.int .i64 u,.int .i64 v,.ints .arg .u64 h],.int .u64 x] (Bu.Z4.out [.i r,.i c,.l l,.i u,.i v,.l h,.i x])):Bu.Z4.Kn :=
  Ak (Az hk _ _ _) Tryz.func74 (by kernel_rfl) (by kernel_rfl) h
def Bu.Nh.A6:List (Nat × Entry):=[(72,Aj.Stack.spec),(35,Aj.Bf.spec)]
def Bu.Nh.E:Env:=A9 (A5 Bu.Nh.A6) (fun _=>false) (fun _=>none) (fun _=>none)
theorem Bu.Nh.ev (N:Nat) (p q:Int) (m:List Int) (u v:Int) (h:List Int):Bq Bu.Nh.E N Tryz.f73 (An Tryz.f73) [.agg [.int .i64 p,.int .i64 q,.ints .arg .u64 m],.agg [.int .i64 u,.int .i64 v,.ints .arg .u64 h]]=bif (Bg u&&Bg 1) then bif ((A0 p q m&&A0 u 1 (B7 (Int.toNat u) (Int.toNat 1) (fun _ _=>0)))&&decide ((1:Int)=q)) then some (.agg [.int .i64 (p+u),.int .i64 q,.ints .fresh .u64 (m++(B7 (Int.toNat u) (Int.toNat 1) (fun _ _=>0)))]) else none else none :=
  Eq.trans (by kernel_rfl)
  (C0 (Cx (Bg u&&Bg 1)) (C0 (Cx ((A0 p q m&&A0 u 1 (B7 (Int.toNat u) (Int.toNat 1) (fun _ _=>0)))&&decide ((1:Int)=q))) rfl rfl) rfl)
abbrev _root_.Go.Proofs.S1.Bu.Nh.Kn:=A3 Tryz.prog 73 Bu.Nh.spec
theorem Bu.Nh.Ac (hk:Ax Tryz.prog Bu.Nh.A6) (h:∀ (p q:Int) (m:List Int) (u v:Int) (h:List Int),Bu.Nh.pre [.i p,.i q,.l m,.i u,.i v,.l h]=true→A8 Bu.Nh.E Tryz.f73 [.agg [.int .i64 p,.int .i64 q,.ints .arg .u64 m],.agg [.int .i64 u,.int .i64 v,.ints .arg .u64 h]] (Bu.Nh.out [.i p,.i q,.l m,.i u,.i v,.l h])):Bu.Nh.Kn :=
  Ak (Az hk _ _ _) Tryz.func73 (by kernel_rfl) (by kernel_rfl) h
def Bu.Dr.A6:List (Nat × Entry):=[(131,A1.Finite.spec),(92,Ag.Finite.spec),(154,Ag.Cc.spec),(153,Bu.Dc.spec)]
def Bu.Dr.E:Env:=A9 (A5 Bu.Dr.A6) (fun _=>false) (fun _=>none) (fun _=>none)
theorem Bu.Dr.ev (N:Nat) (r c:Int) (l:List Int) (p q:Int) (m:List Int) (u v:Int) (h:List Int) (x:Int):Bq Bu.Dr.E N Tryz.f71 (An Tryz.f71) [.agg [.int .i64 r,.int .i64 c,.ints .arg .u64 l],.agg [.int .i64 p,.int .i64 q,.ints .arg .u64 m],.agg [.int .i64 u,.int .i64 v,.ints .arg .u64 h],.int .u64 x]=bif (I7 l m h) then bif ((Nb r c l p q m u v h) !=(0:Int)) then bif (I7 l m h) then some (.int .i64 (Nb r c l p q m u v h)) else none else bif (Af x) then bif (!(Cv x)) then some (.int .i64 4) else bif ((((p !=r)||(q !=(1:Int)))||(v !=c))||(A4 6 (Ab (r+u)))) then some (.int .i64 3) else bif ((Cl h&&Af x)&&Cz (List.length h≤64)) then bif (Cl (C4 x h)) then bif (!(Df (C4 x h))) then some (.int .i64 2) else some (.int .i64 0) else none else none else none else none :=
  Eq.trans (by kernel_rfl)
  (Eh (Eh rfl (Eh (Eh rfl (Av (Se (p !=r)) (Av (Qa (p !=r)) (Av (Qa (p !=r)) (Av (W4 (p !=r)) (Av (Ad5 (p !=r) (q !=(1:Int))) (Av (Agt (p !=r) (q !=(1:Int))) (Av (Ad5 (p !=r) (q !=(1:Int))) (Av (Agt (p !=r) (q !=(1:Int))) (Av (Ap5 (p !=r) (q !=(1:Int))) (Av (Ap8 (p !=r) (q !=(1:Int))) (Av (Aj1 (p !=r) (q !=(1:Int)) (v !=c)) (Av (Ad6 (p !=r) (q !=(1:Int)) (v !=c)) (Av (Aj1 (p !=r) (q !=(1:Int)) (v !=c)) (Av (Ad6 (p !=r) (q !=(1:Int)) (v !=c)) (Av (Asg (p !=r) (q !=(1:Int)) (v !=c)) (Av (Ad6 (p !=r) (q !=(1:Int)) (v !=c)) (Av (Ap9 (p !=r) (q !=(1:Int)) (v !=c)) (C0 (Asf (p !=r) (q !=(1:Int)) (v !=c) (A4 6 (Ab (r+u)))) rfl rfl))))))))))))))))))) rfl)) rfl)
abbrev _root_.Go.Proofs.S1.Bu.Dr.Kn:=A3 Tryz.prog 71 Bu.Dr.spec
theorem Bu.Dr.Ac (hk:Ax Tryz.prog Bu.Dr.A6) (h:∀ (r c:Int) (l:List Int) (p q:Int) (m:List Int) (u v:Int) (h:List Int) (x:Int),Bu.Dr.pre [.i r,.i c,.l l,.i p,.i q,.l m,.i u,.i v,.l h,.i x]=true→A8 Bu.Dr.E Tryz.f71 [.agg [.int .i64 r,.int .i64 c,.ints .arg .u64 l],.agg [.int .i64 p,.int .i64 q,.ints .arg .u64 m],.agg [.int .i64 u,.int .i64 v,.ints .arg .u64 h],.int .u64 x] (Bu.Dr.out [.i r,.i c,.l l,.i p,.i q,.l m,.i u,.i v,.l h,.i x])):Bu.Dr.Kn :=
  Ak (Az hk _ _ _) Tryz.func71 (by kernel_rfl) (by kernel_rfl) h
def Bu.Fp.A6:List (Nat × Entry):=[(32,A7.D4.spec),(74,Bu.Z4.spec),(71,Bu.Dr.spec),(73,Bu.Nh.spec)]
def Bu.Fp.E:Env:=A9 (A5 Bu.Fp.A6) (fun _=>false) (fun _=>none) (fun _=>none)
theorem Bu.Fp.ev (N:Nat) (r c:Int) (l:List Int) (p q:Int) (m:List Int) (u v:Int) (h:List Int) (x:Int):Bq Bu.Fp.E N Tryz.f67 (An Tryz.f67) [.agg [.int .i64 r,.int .i64 c,.ints .arg .u64 l],.agg [.int .i64 p,.int .i64 q,.ints .arg .u64 m],.agg [.int .i64 u,.int .i64 v,.ints .arg .u64 h],.int .u64 x]=bif (I7 l m h&&Af x) then bif ((Oi r c l p q m u v h x) !=(0:Int)) then bif (I7 l m h&&Af x) then some (.tup [.agg [.int .i64 0,.int .i64 0,.nil],.int .i64 (Oi r c l p q m u v h x)]) else none else bif (((A0 r c l&&A0 u v h)&&(Ah h&&Af x))&&decide (v=c)) then bif ((A0 p q m&&Bg u)&&decide (q=1)) then bif (Ah (l++C4 x h)&&Ah (m++List.replicate (Int.toNat u) 0)) then some (.tup [.agg [.int .i64 ((Fo (r+u) c (l++C4 x h) (p+u) 1 (m++List.replicate (Int.toNat u) 0)).1),.int .i64 ((Fo (r+u) c (l++C4 x h) (p+u) 1 (m++List.replicate (Int.toNat u) 0)).2.1),.ints .arg .u64 ((Fo (r+u) c (l++C4 x h) (p+u) 1 (m++List.replicate (Int.toNat u) 0)).2.2.1)],.int .i64 ((Fo (r+u) c (l++C4 x h) (p+u) 1 (m++List.replicate (Int.toNat u) 0)).2.2.2)]) else none else none else none else none :=
  Eq.trans (by kernel_rfl)
  (Eh (Eh rfl (C0 (Cx (((A0 r c l&&A0 u v h)&&(Ah h&&Af x))&&decide (v=c))) (C0 (Cx ((A0 p q m&&Bg u)&&decide (q=1))) (C0 (Cx (Ah (l++C4 x h)&&Ah (m++List.replicate (Int.toNat u) 0))) rfl rfl) rfl) rfl)) rfl)
abbrev _root_.Go.Proofs.S1.Bu.Fp.Kn:=A3 Tryz.prog 67 Bu.Fp.spec
theorem Bu.Fp.Ac (hk:Ax Tryz.prog Bu.Fp.A6) (h:∀ (r c:Int) (l:List Int) (p q:Int) (m:List Int) (u v:Int) (h:List Int) (x:Int),Bu.Fp.pre [.i r,.i c,.l l,.i p,.i q,.l m,.i u,.i v,.l h,.i x]=true→A8 Bu.Fp.E Tryz.f67 [.agg [.int .i64 r,.int .i64 c,.ints .arg .u64 l],.agg [.int .i64 p,.int .i64 q,.ints .arg .u64 m],.agg [.int .i64 u,.int .i64 v,.ints .arg .u64 h],.int .u64 x] (Bu.Fp.out [.i r,.i c,.l l,.i p,.i q,.l m,.i u,.i v,.l h,.i x])):Bu.Fp.Kn :=
  Ak (Az hk _ _ _) Tryz.func67 (by kernel_rfl) (by kernel_rfl) h
end EqRef22
open EqRef22
theorem Yb (N:Nat) {x:Int} {l:List Int} (al:Ah l=true) (hx:Af x=true) (h64:l.length≤64):∀ (k i F:Nat),i+k=l.length→k<F →
    Ag.Cc.L0 N F x l (i:Int) ((List.range i).map fun j=>D3 x (l.getD j 0))=some (.ints (.own 100005 tB) .u64 (C4 x l)):=by
  intro k
  induction k with
  | zero =>
    intro i F hi hF
    obtain ⟨F,rfl⟩:∃ G,F=G+1:=⟨F-1,by omega⟩
    obtain rfl:i=l.length:=by omega
    rw [Ag.Cc.Ar,As,Ayx (by omega),Ayw,Wa]
  | succ k ih =>
    intro i F hi hF
    obtain ⟨F,rfl⟩:∃ G,F=G+1:=⟨F-1,by omega⟩
    have:=ih (i+1) F (by omega) (by omega)
    rw [G1] at this
    rw [Ag.Cc.Ar,As,Ayt (by omega),Ays,Ayt (show (0:Int)≤(i:Int) by omega),Ayy,Ays,Ayu,hx,La al (by omega),Ayy,Ays,
      Ayt (by rw [List.length_map,List.length_range]; unfold Gt; omega),Ays,Al (by omega) (by omega)]
    exact this
theorem Ag.Cc.known:Ag.Cc.Kn:=Ag.Cc.Ac (.cons Ag.Mul.known .nil) fun x l hp=>by
  obtain ⟨h1,h2⟩:=Ad.1 (show ((Cl l&&Af x)&&Cz (List.length l≤64))=true from hp)
  obtain ⟨ol,hx⟩:=Ad.1 h1
  have h2:=Aq.1 h2
  refine ⟨65,.ints (.own 100005 tB) .u64 (C4 x l),[100005],?_,.drop _ _ _ _ (List.mem_singleton.2 rfl)⟩
  rw [Ag.Cc.ev]
  exact Yb 65 (O8 ol) hx h2 l.length 0 65 (by omega) (by omega)
theorem Bu.Dc.known:Bu.Dc.Kn:=Bu.Dc.Ac (.cons Gw.Check.known .nil) fun r c l p q m u v h hp=>by
  obtain ⟨h1,ah⟩:=Ad.1 (show ((Ah l&&Ah m)&&Ah h)=true from hp)
  obtain ⟨al,am⟩:=Ad.1 h1
  refine ⟨0,.int .i64 (Nb r c l p q m u v h),[],?_,.int⟩
  rw [Bu.Dc.ev,al,am,ah]
  simp only [Ays]
  unfold Nb
  by_cases k1:Cg r c l=0
  · rw [Gc k1,Ayw,if_neg (fun h=>h k1)]
    by_cases k2:Cg p q m=0
    · rw [Gc k2,Ayw,if_neg (fun h=>h k2)]
    · rw [To k2,Ays,if_pos k2]
  · rw [To k1,Ays,if_pos k1]
theorem Aes {u v x:Int} {h:List Int} (hr:A0 u v h=true):A0 u v (C4 x h)=true:=by
  obtain ⟨U,V,rfl,rfl,u6,v6,hl⟩:=Ce hr
  exact Fg u6 v6 (by rw [Kp]; exact hl)
theorem Bu.Z4.known:Bu.Z4.Kn:=Bu.Z4.Ac (.cons Ag.Cc.known (.cons Aj.Stack.known .nil)) fun r c l u v h x hp=>Ue (by
  obtain ⟨h1,hv⟩:=Ad.1 (show (((A0 r c l&&A0 u v h)&&(Ah h&&Af x))&&decide (v=c))=true from hp)
  obtain ⟨h2,h3⟩:=Ad.1 h1
  obtain ⟨hr,hu⟩:=Ad.1 h2
  obtain ⟨ah,hx⟩:=Ad.1 h3
  have hl:=Kq hu
  rw [Bu.Z4.ev,Ae5 hl ah,hx,Aq.2 (show h.length≤64 by omega),hr,Aes hu,hv]
  exact ⟨_,[],rfl,Ar9⟩)
theorem Bu.Nh.known:Bu.Nh.Kn:=Bu.Nh.Ac (.cons Aj.Stack.known (.cons Aj.Bf.known .nil)) fun p q m u v h hp=>Ue (by
  obtain ⟨h1,hq⟩:=Ad.1 (show ((A0 p q m&&Bg u)&&decide (q=1))=true from hp)
  obtain ⟨hr,hu⟩:=Ad.1 h1
  obtain rfl:=of_decide_eq_true hq
  obtain ⟨U,rfl,hU⟩:=Em hu
  have e1:B7 (Int.toNat (U:Int)) (Int.toNat (1:Int)) (fun _ _=>0)=List.replicate (Int.toNat (U:Int)) 0:=by
    rw [S9,Ayu]
    show List.replicate (U*1) (0:Int)=_
    rw [Nat.mul_one]
  have e2:A0 (U:Int) 1 (List.replicate (Int.toNat (U:Int)) 0)=true:=Fg (r:=U) (c:=1) hU (by decide) (by rw [List.length_replicate,Ayu,Nat.mul_one])
  rw [Bu.Nh.ev,e1,e2,hr,hu,show Bg 1=true from rfl,Ayt rfl]
  exact ⟨_,[],rfl,Ar9⟩)
theorem Bu.Dr.known:Bu.Dr.Kn:=Bu.Dr.Ac (.cons A1.Finite.known (.cons Ag.Finite.known (.cons Ag.Cc.known (.cons Bu.Dc.known .nil)))) fun r c l p q m u v h x hp=>by
  obtain ⟨h0,hx⟩:=Ad.1 (show (I7 l m h&&Af x)=true from hp)
  obtain ⟨h1,ah⟩:=Ad.1 (show ((Ah l&&Ah m)&&Ah h)=true from h0)
  refine ⟨0,.int .i64 (Oi r c l p q m u v h x),[],?_,.int⟩
  rw [Bu.Dr.ev,h0,Ays]
  by_cases k:Nb r c l p q m u v h=0
  · obtain ⟨k1,k2,k3⟩:=V5 k
    rw [Gc k,Ayw,hx,Ays]
    cases hf:Cv x with
    | false=>rw [Bool.not_false,Ays,Ag8 k hf]
    | true =>
      have s1:=T6 (D8 k1).1
      have s3:=T6 (D8 k3).1
      rw [Bool.not_true,Ayw,Aay ⟨s1.1,s1.2.1⟩ ⟨s3.1,s3.2.1⟩]
      by_cases ks:p≠r∨q≠1∨v≠c∨6<r+u
      · rw [Ayt ks,Ays,Ag7 k hf ks]
      · have hl:=Kq (D8 k3).1
        rw [Ayx ks,Ayw,Ae5 hl ah,Ayy,Aq.2 (show h.length≤64 by omega),Ayy,Ays,Ae5 (by rw [Kp]; exact hl) (Rf x h),Ays]
        cases hg:Df (C4 x h) with
        | false=>rw [Bool.not_false,Ays,Ag6 k hf ks hg]
        | true=>rw [Bool.not_true,Ayw,Am6 k hf ks hg]
  · rw [To k,Ays,Ays,Ag9 k]
theorem Akj {r c:Int} {l:List Int} {p q:Int} {m:List Int} {u v:Int} {h:List Int} {x:Int} (e:Oi r c l p q m u v h x=0) :
    Cg r c l=0∧Cg p q m=0∧Cg u v h=0∧Cv x=true∧p=r∧q=1∧v=c∧r+u≤6∧Df (C4 x h)=true:=by
  by_cases k:Nb r c l p q m u v h=0
  · obtain ⟨k1,k2,k3⟩:=V5 k
    cases hf:Cv x with
    | false=>rw [Ag8 k hf] at e; exact absurd e (by decide)
    | true =>
      by_cases ks:p≠r∨q≠1∨v≠c∨6<r+u
      · rw [Ag7 k hf ks] at e; exact absurd e (by decide)
      · cases hg:Df (C4 x h) with
        | false=>rw [Ag6 k hf ks hg] at e; exact absurd e (by decide)
        | true=>exact ⟨k1,k2,k3,rfl,by omega,by omega,by omega,by omega,rfl⟩
  · rw [Ag9 k] at e; exact absurd e k
theorem Apl {R U C:Nat} {l h:List Int} {x:Int} (hR:R+U≤6) (c6:C≤6) (hl:l.length=R*C) (hh:h.length=U*C) :
    Ar4 (R:Int) (C:Int) l (U:Int) (C:Int) h x=((R:Int)+(U:Int),(C:Int),l++C4 x h,0):=by
  unfold Ar4 D0
  rw [Fg (by omega) c6 hl,Fg (by omega) c6 (show (C4 x h).length=U*C by rw [Kp]; exact hh),Ayy,if_pos rfl,if_pos ⟨rfl,by omega⟩,
    show ((R:Int)+(U:Int)).toNat=R+U by omega,Ayu,Xz hl (by rw [Kp]; exact hh)]
theorem Aj7 {R U:Nat} {m:List Int} (hR:R+U≤6) (hm:m.length=R*1) :
    Aej (R:Int) 1 m (U:Int)=((R:Int)+(U:Int),1,m++List.replicate (Int.toNat (U:Int)) 0,0):=by
  have ez:C3 (U:Int) 1=((U:Int),1,List.replicate U 0,0):=by
    unfold C3
    rw [show (Bg (U:Int)&&Bg 1)=true by rw [No (show U≤6 by omega)]; rfl,if_pos rfl,S9]
    show ((U:Int),(1:Int),List.replicate ((U:Int).toNat*1) (0:Int),(0:Int))=_
    rw [Nat.mul_one,Ayu]
  have hz:(List.replicate U (0:Int)).length=U*1:=by rw [List.length_replicate,Nat.mul_one]
  unfold Aej
  rw [ez]
  unfold D0
  dsimp only
  rw [show A0 (R:Int) 1 m=true from Fg (c:=1) (by omega) (by decide) hm,show A0 (U:Int) 1 (List.replicate U (0:Int))=true from Fg (c:=1) (by omega) (by decide) hz,Ayy,if_pos rfl,if_pos ⟨rfl,by omega⟩,
    show ((R:Int)+(U:Int)).toNat=R+U by omega,show (1:Int).toNat=1 from rfl,Ayu]
  have:=Xz (R:=R) (P:=U) (C:=1) hm hz
  rw [show ((1:Nat):Int)=1 from rfl] at this
  rw [this]
theorem Bu.Fp.known:Bu.Fp.Kn:=Bu.Fp.Ac (.cons A7.D4.known (.cons Bu.Z4.known (.cons Bu.Dr.known (.cons Bu.Nh.known .nil)))) fun r c l p q m u v h x hp=>Ue (by
  obtain ⟨h0,hx⟩:=Ad.1 (show (I7 l m h&&Af x)=true from hp)
  obtain ⟨h1,ah⟩:=Ad.1 (show ((Ah l&&Ah m)&&Ah h)=true from h0)
  obtain ⟨al,am⟩:=Ad.1 h1
  show Out _ (Bi r c l p q m u v h x)
  rw [Bu.Fp.ev,h0,hx,Ayy,Ays]
  by_cases k:Oi r c l p q m u v h x=0
  · obtain ⟨k1,k2,k3,k4,k5,k6,k7,k8,k9⟩:=Akj k
    obtain ⟨R,C,rfl,rfl,r6,c6,hl⟩:=Ce (D8 k1).1
    obtain ⟨R',o,rfl,rfl,_,o6,hm⟩:=Ce (D8 k2).1
    obtain ⟨U,C',rfl,rfl,u6,_,hh⟩:=Ce (D8 k3).1
    obtain rfl:R'=R:=by omega
    obtain rfl:C'=C:=by omega
    obtain rfl:o=1:=by omega
    have a1:Ah (l++C4 x h)=true:=Aq.2 fun y hy=>(List.mem_append.1 hy).elim (Aq.1 al y) (Aq.1 (Rf x h) y)
    have a2:Ah (m++List.replicate (Int.toNat (U:Int)) 0)=true:=Aq.2 fun y hy=>(List.mem_append.1 hy).elim (Aq.1 am y) (fun hy=>by rw [(List.mem_replicate.1 hy).2]; exact H4)
    rw [Gc k,Ayw,(D8 k1).1,(D8 k3).1,(D8 k2).1,ah,No (show U≤6 by omega),Ayt rfl,Ayt (show ((1:Nat):Int)=1 from rfl),a1,a2,Aiw k,Apl (by omega) c6 hl hh,show Aej (R':Int) ((1:Nat):Int) m (U:Int)=_ from Aj7 (by omega) hm]
    exact Ati rfl
  · rw [To k,Ays,Ays,T7 rfl k]
    exact Atj rfl)
namespace EqLaw17
end EqLaw17
open EqLaw17
theorem Aka (r c:Int) (l:List Int):X5 r c l r c l=true:=by unfold X5; simp
namespace EqLaw22
def B1.one.A6:List (Nat × Entry):=[]
def B1.one.E:Env:=A9 (A5 B1.one.A6) (fun _=>false) (fun _=>none) (fun _=>none)
theorem B1.one.ev (N:Nat) (b:Int):Bq B1.one.E N Tryz.f152 (An Tryz.f152) [.int .u64 b]=some (.agg [.int .i64 1,.int .i64 1,.ints (.own 4 37) .u64 [b]]):=by kernel_rfl
abbrev _root_.Go.Proofs.S1.B1.one.Kn:=A3 Tryz.prog 152 B1.one.spec
theorem B1.one.Ac (hk:Ax Tryz.prog B1.one.A6) (h:∀ (b:Int),B1.one.pre [.i b]=true→A8 B1.one.E Tryz.f152 [.int .u64 b] (B1.one.out [.i b])):B1.one.Kn :=
  Ak (Az hk _ _ _) Tryz.func152 (by kernel_rfl) (by kernel_rfl) h
def B1.Hx.A6:List (Nat × Entry):=[(152,B1.one.spec),(66,Ck.Fp.spec)]
def B1.Hx.E:Env:=A9 (A5 B1.Hx.A6) (fun _=>false) (fun _=>none) (fun _=>none)
theorem B1.Hx.ev (N:Nat):Bq B1.Hx.E N Tryz.f68 (An Tryz.f68) []=bif (I7 ([(4607182418800017408:Int)]) ([(4611686018427387904:Int)]) []&&Af 4607182418800017408) then bif ((!((((Bi 1 1 ([(4607182418800017408:Int)]) 1 1 ([(4611686018427387904:Int)]) 0 1 [] 4607182418800017408).2.2.2)==(0:Int))&&((List.length ((Bi 1 1 ([(4607182418800017408:Int)]) 1 1 ([(4611686018427387904:Int)]) 0 1 [] 4607182418800017408).2.2.1):Int)==(1:Int))))||(decide ((0:Int)<(List.length ((Bi 1 1 ([(4607182418800017408:Int)]) 1 1 ([(4611686018427387904:Int)]) 0 1 [] 4607182418800017408).2.2.1):Int)))) then some (.bool (bif (bif (((Bi 1 1 ([(4607182418800017408:Int)]) 1 1 ([(4611686018427387904:Int)]) 0 1 [] 4607182418800017408).2.2.2)==(0:Int)) then ((List.length ((Bi 1 1 ([(4607182418800017408:Int)]) 1 1 ([(4611686018427387904:Int)]) 0 1 [] 4607182418800017408).2.2.1):Int)==(1:Int)) else false) then ((List.getD ((Bi 1 1 ([(4607182418800017408:Int)]) 1 1 ([(4611686018427387904:Int)]) 0 1 [] 4607182418800017408).2.2.1) 0 0)==(4611686018427387904:Int)) else false)) else none else none :=
  Eq.trans (by kernel_rfl)
  (Eh (Av (N2 (((Bi 1 1 ([(4607182418800017408:Int)]) 1 1 ([(4611686018427387904:Int)]) 0 1 [] 4607182418800017408).2.2.2)==(0:Int))) (Av (Lt (((Bi 1 1 ([(4607182418800017408:Int)]) 1 1 ([(4611686018427387904:Int)]) 0 1 [] 4607182418800017408).2.2.2)==(0:Int))) (Av (Lt (((Bi 1 1 ([(4607182418800017408:Int)]) 1 1 ([(4611686018427387904:Int)]) 0 1 [] 4607182418800017408).2.2.2)==(0:Int))) (Av (Lt (((Bi 1 1 ([(4607182418800017408:Int)]) 1 1 ([(4611686018427387904:Int)]) 0 1 [] 4607182418800017408).2.2.2)==(0:Int))) (Av (Sr (((Bi 1 1 ([(4607182418800017408:Int)]) 1 1 ([(4611686018427387904:Int)]) 0 1 [] 4607182418800017408).2.2.2)==(0:Int))) (Av (Agr (((Bi 1 1 ([(4607182418800017408:Int)]) 1 1 ([(4611686018427387904:Int)]) 0 1 [] 4607182418800017408).2.2.2)==(0:Int)) ((List.length ((Bi 1 1 ([(4607182418800017408:Int)]) 1 1 ([(4611686018427387904:Int)]) 0 1 [] 4607182418800017408).2.2.1):Int)==(1:Int))) (Av (Ags (((Bi 1 1 ([(4607182418800017408:Int)]) 1 1 ([(4611686018427387904:Int)]) 0 1 [] 4607182418800017408).2.2.2)==(0:Int)) ((List.length ((Bi 1 1 ([(4607182418800017408:Int)]) 1 1 ([(4611686018427387904:Int)]) 0 1 [] 4607182418800017408).2.2.1):Int)==(1:Int))) (C0 (Axj (((Bi 1 1 ([(4607182418800017408:Int)]) 1 1 ([(4611686018427387904:Int)]) 0 1 [] 4607182418800017408).2.2.2)==(0:Int)) ((List.length ((Bi 1 1 ([(4607182418800017408:Int)]) 1 1 ([(4611686018427387904:Int)]) 0 1 [] 4607182418800017408).2.2.1):Int)==(1:Int)) (decide ((0:Int)<(List.length ((Bi 1 1 ([(4607182418800017408:Int)]) 1 1 ([(4611686018427387904:Int)]) 0 1 [] 4607182418800017408).2.2.1):Int)))) (Av (Ags (((Bi 1 1 ([(4607182418800017408:Int)]) 1 1 ([(4611686018427387904:Int)]) 0 1 [] 4607182418800017408).2.2.2)==(0:Int)) ((List.length ((Bi 1 1 ([(4607182418800017408:Int)]) 1 1 ([(4611686018427387904:Int)]) 0 1 [] 4607182418800017408).2.2.1):Int)==(1:Int))) (Av (Ags (((Bi 1 1 ([(4607182418800017408:Int)]) 1 1 ([(4611686018427387904:Int)]) 0 1 [] 4607182418800017408).2.2.2)==(0:Int)) ((List.length ((Bi 1 1 ([(4607182418800017408:Int)]) 1 1 ([(4611686018427387904:Int)]) 0 1 [] 4607182418800017408).2.2.1):Int)==(1:Int))) (Av (Aj0 (((Bi 1 1 ([(4607182418800017408:Int)]) 1 1 ([(4611686018427387904:Int)]) 0 1 [] 4607182418800017408).2.2.2)==(0:Int)) ((List.length ((Bi 1 1 ([(4607182418800017408:Int)]) 1 1 ([(4611686018427387904:Int)]) 0 1 [] 4607182418800017408).2.2.1):Int)==(1:Int))) rfl))) rfl)))))))) rfl)
abbrev _root_.Go.Proofs.S1.B1.Hx.Kn:=A3 Tryz.prog 68 B1.Hx.spec
theorem B1.Hx.Ac (hk:Ax Tryz.prog B1.Hx.A6) (h:∀ (_:Unit),B1.Hx.pre []=true→A8 B1.Hx.E Tryz.f68 [] (B1.Hx.out [])):B1.Hx.Kn :=
  Ak (Az hk _ _ _) Tryz.func68 (by kernel_rfl) (by kernel_rfl) (h ())
def B1.Cf.hint:Nat→Option Ba
  | 0=>some { keep:=[1,2,3,7],objs:=[],boxes:=[3] }
  | _=>none
def B1.Cf.A6:List (Nat × Entry):=[(67,Bu.Fp.spec)]
def B1.Cf.E:Env:=A9 (A5 B1.Cf.A6) (fun _=>false) B1.Cf.hint (fun _=>none)
def B1.Cf.L0 (N M:Nat) (r c:Int) (l:List Int) (p q:Int) (m:List Int) (u v:Int) (h y:List Int) (e p7:Int):Option DV:=B0 B1.Cf.E N Tryz.f70 (An Tryz.f70) [1,0,1,0] [] M ⟨Gj 35 [(1,.ints .arg .u64 y),(2,.int .i64 e),(3,.ptr 3 0 0),(7,.int .i64 p7)],[(3,false,.box [.int .i64 r,.int .i64 c,.ints .arg .u64 l,.int .i64 p,.int .i64 q,.ints .arg .u64 m,.int .i64 u,.int .i64 v,.ints .arg .u64 h])]⟩
theorem B1.Cf.Ar (N M:Nat) (r c:Int) (l:List Int) (p q:Int) (m:List Int) (u v:Int) (h y:List Int) (e p7:Int):B1.Cf.L0 N (M+1) r c l p q m u v h y e p7=bif (A4 p7 (List.length y:Int)) then bif ((decide (0≤p7))&&(decide (p7<(List.length y:Int)))) then bif (I7 l m h&&Af (List.getD y (Int.toNat p7) 0)) then bif (((Bi r c l p q m u v h (List.getD y (Int.toNat p7) 0)).2.2.2) !=(0:Int)) then some (.bool (e==((Bi r c l p q m u v h (List.getD y (Int.toNat p7) 0)).2.2.2))) else B1.Cf.L0 N M r c l p q m u v h y e (Ab (p7+1)) else none else none else some (.bool false) :=
  Eq.trans (by kernel_rfl)
  (Eh (C0 (Ko (decide (0≤p7)) (decide (p7<(List.length y:Int)))) (C0 (Cx (I7 l m h&&Af (List.getD y (Int.toNat p7) 0))) rfl rfl) rfl) rfl)
theorem B1.Cf.ev (N:Nat) (r c:Int) (l:List Int) (p q:Int) (m:List Int) (u v:Int) (h y:List Int) (e:Int):Bq B1.Cf.E N Tryz.f70 (An Tryz.f70) [.agg [.int .i64 r,.int .i64 c,.ints .arg .u64 l,.int .i64 p,.int .i64 q,.ints .arg .u64 m,.int .i64 u,.int .i64 v,.ints .arg .u64 h],.ints .arg .u64 y,.int .i64 e] =
  B1.Cf.L0 N N r c l p q m u v h y e 0:=by kernel_rfl
abbrev _root_.Go.Proofs.S1.B1.Cf.Kn:=A3 Tryz.prog 70 B1.Cf.spec
theorem B1.Cf.Ac (hk:Ax Tryz.prog B1.Cf.A6) (h:∀ (r c:Int) (l:List Int) (p q:Int) (m:List Int) (u v:Int) (h y:List Int) (e:Int),B1.Cf.pre [.i r,.i c,.l l,.i p,.i q,.l m,.i u,.i v,.l h,.l y,.i e]=true→A8 B1.Cf.E Tryz.f70 [.agg [.int .i64 r,.int .i64 c,.ints .arg .u64 l,.int .i64 p,.int .i64 q,.ints .arg .u64 m,.int .i64 u,.int .i64 v,.ints .arg .u64 h],.ints .arg .u64 y,.int .i64 e] (B1.Cf.out [.i r,.i c,.l l,.i p,.i q,.l m,.i u,.i v,.l h,.l y,.i e])):B1.Cf.Kn :=
  Ak (Az hk _ _ _) Tryz.func70 (by kernel_rfl) (by kernel_rfl) h
def B1.Cj.hint:Nat→Option Ba
  | 0=>some { keep:=[1,2,5,6,7],objs:=[],boxes:=[2] }
  | _=>none
def B1.Cj.A6:List (Nat × Entry):=[(68,B1.Hx.spec),(70,B1.Cf.spec),(31,Aj.Ex.spec),(67,Bu.Fp.spec),(69,Ck.I8.spec)]
def B1.Cj.E:Env:=Tc (A5 B1.Cj.A6) (fun _=>false) B1.Cj.hint (fun _=>none) (Ab1 [(24,[.i .i64,.i .i64,.s .u64])])
def B1.Cj.L0 (N M:Nat) (r c:Int) (l:List Int) (p q:Int) (m:List Int) (u v:Int) (h y:List Int) (p7:Int):Option DV:=B0 B1.Cj.E N Tryz.f19 (An Tryz.f19) [1,1,1,0,1,0] [] M ⟨Gj 115 [(1,.ints .arg .u64 y),(2,.ptr 2 0 0),(5,.recs .fresh 3 (Dg (Bi r c l p q m u v h) y)),(6,.int .i64 (C1 (Bi r c l p q m u v h) y)),(7,.int .i64 p7)],[(2,false,.box [.int .i64 r,.int .i64 c,.ints .arg .u64 l,.int .i64 p,.int .i64 q,.ints .arg .u64 m,.int .i64 u,.int .i64 v,.ints .arg .u64 h])]⟩
theorem B1.Cj.Ar (N M:Nat) (r c:Int) (l:List Int) (p q:Int) (m:List Int) (u v:Int) (h y:List Int) (p7:Int):B1.Cj.L0 N (M+1) r c l p q m u v h y p7=bif (A4 p7 (List.length y:Int)) then bif ((decide (0≤p7))&&(decide (p7<(List.length y:Int)))) then bif (I7 l m h&&Af (List.getD y (Int.toNat p7) 0)) then bif (((Bi r c l p q m u v h (List.getD y (Int.toNat p7) 0)).2.2.2) !=(0:Int)) then some (.bool (bif (bif ((List.length (Dg (Bi r c l p q m u v h) y):Int)==(0:Int)) then ((C1 (Bi r c l p q m u v h) y)==((Bi r c l p q m u v h (List.getD y (Int.toNat p7) 0)).2.2.2)) else false) then true else false)) else bif ((((C1 (Bi r c l p q m u v h) y) !=(0:Int))||(D6 (List.length (Dg (Bi r c l p q m u v h) y):Int) p7))||((decide (0≤p7))&&(decide (p7<(List.length (Dg (Bi r c l p q m u v h) y):Int))))) then bif ((((C1 (Bi r c l p q m u v h) y) !=(0:Int))||(D6 (List.length (Dg (Bi r c l p q m u v h) y):Int) p7))||((isC (.i .i64) (List.getD (List.getD (Dg (Bi r c l p q m u v h) y) (Int.toNat p7) []) 0 .undef))&&((isC (.i .i64) (List.getD (List.getD (Dg (Bi r c l p q m u v h) y) (Int.toNat p7) []) 1 .undef))&&(isC (.s .u64) (List.getD (List.getD (Dg (Bi r c l p q m u v h) y) (Int.toNat p7) []) 2 .undef))))) then bif ((((C1 (Bi r c l p q m u v h) y) !=(0:Int))||(D6 (List.length (Dg (Bi r c l p q m u v h) y):Int) p7))||(Lg (Iu (List.getD (List.getD (Dg (Bi r c l p q m u v h) y) (Int.toNat p7) []) 2 .undef)))) then bif ((((C1 (Bi r c l p q m u v h) y) !=(0:Int))||(D6 (List.length (Dg (Bi r c l p q m u v h) y):Int) p7))||(!(X5 (O4 (List.getD (List.getD (Dg (Bi r c l p q m u v h) y) (Int.toNat p7) []) 0 .undef)) (O4 (List.getD (List.getD (Dg (Bi r c l p q m u v h) y) (Int.toNat p7) []) 1 .undef)) (Iu (List.getD (List.getD (Dg (Bi r c l p q m u v h) y) (Int.toNat p7) []) 2 .undef)) ((Bi r c l p q m u v h (List.getD y (Int.toNat p7) 0)).1) ((Bi r c l p q m u v h (List.getD y (Int.toNat p7) 0)).2.1) ((Bi r c l p q m u v h (List.getD y (Int.toNat p7) 0)).2.2.1)))) then bif ((!((C1 (Bi r c l p q m u v h) y) !=(0:Int)))||((decide ((0:Int)≤(Ab (p7+1))))&&(decide ((Ab (p7+1))≤(List.length y:Int))))) then bif ((!((C1 (Bi r c l p q m u v h) y) !=(0:Int)))||(I7 l m h&&Cl (List.drop (Int.toNat (Ab (p7+1))) y))) then some (.bool (bif (bif (bif ((C1 (Bi r c l p q m u v h) y) !=(0:Int)) then (Jc (Bi r c l p q m u v h) (List.drop (Int.toNat (Ab (p7+1))) y) (C1 (Bi r c l p q m u v h) y)) else false) then ((List.length (Dg (Bi r c l p q m u v h) y):Int)==(0:Int)) else false) then true else false)) else none else none else B1.Cj.L0 N M r c l p q m u v h y (Ab (p7+1)) else none else none else none else none else none else some (.bool (bif (bif ((C1 (Bi r c l p q m u v h) y)==(0:Int)) then ((List.length (Dg (Bi r c l p q m u v h) y):Int)==(List.length y:Int)) else false) then true else false)) :=
  Eq.trans (by kernel_rfl)
  (Eh (C0 (Ko (decide (0≤p7)) (decide (p7<(List.length y:Int)))) (C0 (Cx (I7 l m h&&Af (List.getD y (Int.toNat p7) 0))) (Eh (Av (N2 ((List.length (Dg (Bi r c l p q m u v h) y):Int)==(0:Int))) (Av (N2 ((List.length (Dg (Bi r c l p q m u v h) y):Int)==(0:Int))) (Av (Xs ((List.length (Dg (Bi r c l p q m u v h) y):Int)==(0:Int))) (Av (Sr ((List.length (Dg (Bi r c l p q m u v h) y):Int)==(0:Int))) (Av (Agr ((List.length (Dg (Bi r c l p q m u v h) y):Int)==(0:Int)) ((C1 (Bi r c l p q m u v h) y)==((Bi r c l p q m u v h (List.getD y (Int.toNat p7) 0)).2.2.2))) (Av (Aj0 ((List.length (Dg (Bi r c l p q m u v h) y):Int)==(0:Int)) ((C1 (Bi r c l p q m u v h) y)==((Bi r c l p q m u v h (List.getD y (Int.toNat p7) 0)).2.2.2))) rfl)))))) (Av (Asd ((C1 (Bi r c l p q m u v h) y) !=(0:Int))) (Av (Asd ((C1 (Bi r c l p q m u v h) y) !=(0:Int))) (Av (Avq ((C1 (Bi r c l p q m u v h) y) !=(0:Int))) (Av (Avr ((C1 (Bi r c l p q m u v h) y) !=(0:Int))) (Av (Avs ((C1 (Bi r c l p q m u v h) y) !=(0:Int))) (Av (Amq ((C1 (Bi r c l p q m u v h) y) !=(0:Int)) (D6 (List.length (Dg (Bi r c l p q m u v h) y):Int) p7)) (Av (Amq ((C1 (Bi r c l p q m u v h) y) !=(0:Int)) (D6 (List.length (Dg (Bi r c l p q m u v h) y):Int) p7)) (C0 (Avt ((C1 (Bi r c l p q m u v h) y) !=(0:Int)) (D6 (List.length (Dg (Bi r c l p q m u v h) y):Int) p7) (decide (0≤p7)) (decide (p7<(List.length (Dg (Bi r c l p q m u v h) y):Int)))) (C0 (Avu ((C1 (Bi r c l p q m u v h) y) !=(0:Int)) (D6 (List.length (Dg (Bi r c l p q m u v h) y):Int) p7) (isC (.i .i64) (List.getD (List.getD (Dg (Bi r c l p q m u v h) y) (Int.toNat p7) []) 0 .undef)) (isC (.i .i64) (List.getD (List.getD (Dg (Bi r c l p q m u v h) y) (Int.toNat p7) []) 1 .undef)) (isC (.s .u64) (List.getD (List.getD (Dg (Bi r c l p q m u v h) y) (Int.toNat p7) []) 2 .undef))) (Av (Amq ((C1 (Bi r c l p q m u v h) y) !=(0:Int)) (D6 (List.length (Dg (Bi r c l p q m u v h) y):Int) p7)) (C0 (Avv ((C1 (Bi r c l p q m u v h) y) !=(0:Int)) (D6 (List.length (Dg (Bi r c l p q m u v h) y):Int) p7) (Lg (Iu (List.getD (List.getD (Dg (Bi r c l p q m u v h) y) (Int.toNat p7) []) 2 .undef)))) (Av (Avw ((C1 (Bi r c l p q m u v h) y) !=(0:Int)) (D6 (List.length (Dg (Bi r c l p q m u v h) y):Int) p7)) (Av (Avx ((C1 (Bi r c l p q m u v h) y) !=(0:Int)) (D6 (List.length (Dg (Bi r c l p q m u v h) y):Int) p7)) (C0 (Avy ((C1 (Bi r c l p q m u v h) y) !=(0:Int)) (D6 (List.length (Dg (Bi r c l p q m u v h) y):Int) p7) (X5 (O4 (List.getD (List.getD (Dg (Bi r c l p q m u v h) y) (Int.toNat p7) []) 0 .undef)) (O4 (List.getD (List.getD (Dg (Bi r c l p q m u v h) y) (Int.toNat p7) []) 1 .undef)) (Iu (List.getD (List.getD (Dg (Bi r c l p q m u v h) y) (Int.toNat p7) []) 2 .undef)) ((Bi r c l p q m u v h (List.getD y (Int.toNat p7) 0)).1) ((Bi r c l p q m u v h (List.getD y (Int.toNat p7) 0)).2.1) ((Bi r c l p q m u v h (List.getD y (Int.toNat p7) 0)).2.2.1))) (Av (Aio ((C1 (Bi r c l p q m u v h) y) !=(0:Int))) (Av (Aio ((C1 (Bi r c l p q m u v h) y) !=(0:Int))) (Av (Aio ((C1 (Bi r c l p q m u v h) y) !=(0:Int))) (Av (Avz ((C1 (Bi r c l p q m u v h) y) !=(0:Int))) (C0 (Av0 ((C1 (Bi r c l p q m u v h) y) !=(0:Int)) (decide ((0:Int)≤(Ab (p7+1)))) (decide ((Ab (p7+1))≤(List.length y:Int)))) (Av (Aio ((C1 (Bi r c l p q m u v h) y) !=(0:Int))) (C0 (Av1 ((C1 (Bi r c l p q m u v h) y) !=(0:Int)) (I7 l m h&&Cl (List.drop (Int.toNat (Ab (p7+1))) y))) (Av (Av6 ((C1 (Bi r c l p q m u v h) y) !=(0:Int))) (Av (Av2 ((C1 (Bi r c l p q m u v h) y) !=(0:Int)) (Jc (Bi r c l p q m u v h) (List.drop (Int.toNat (Ab (p7+1))) y) (C1 (Bi r c l p q m u v h) y))) (Av (Ase ((C1 (Bi r c l p q m u v h) y) !=(0:Int)) (Jc (Bi r c l p q m u v h) (List.drop (Int.toNat (Ab (p7+1))) y) (C1 (Bi r c l p q m u v h) y))) (Av (Ase ((C1 (Bi r c l p q m u v h) y) !=(0:Int)) (Jc (Bi r c l p q m u v h) (List.drop (Int.toNat (Ab (p7+1))) y) (C1 (Bi r c l p q m u v h) y))) (Av (Av3 ((C1 (Bi r c l p q m u v h) y) !=(0:Int)) (Jc (Bi r c l p q m u v h) (List.drop (Int.toNat (Ab (p7+1))) y) (C1 (Bi r c l p q m u v h) y))) (Av (Av4 ((C1 (Bi r c l p q m u v h) y) !=(0:Int)) (Jc (Bi r c l p q m u v h) (List.drop (Int.toNat (Ab (p7+1))) y) (C1 (Bi r c l p q m u v h) y)) ((List.length (Dg (Bi r c l p q m u v h) y):Int)==(0:Int))) (Av (Av5 ((C1 (Bi r c l p q m u v h) y) !=(0:Int)) (Jc (Bi r c l p q m u v h) (List.drop (Int.toNat (Ab (p7+1))) y) (C1 (Bi r c l p q m u v h) y)) ((List.length (Dg (Bi r c l p q m u v h) y):Int)==(0:Int))) rfl))))))) rfl)) rfl))))) rfl))) rfl)) rfl) rfl))))))))) rfl) rfl) (Av (N2 ((C1 (Bi r c l p q m u v h) y)==(0:Int))) (Av (Lt ((C1 (Bi r c l p q m u v h) y)==(0:Int))) (Av (N2 ((C1 (Bi r c l p q m u v h) y)==(0:Int))) (Av (Lt ((C1 (Bi r c l p q m u v h) y)==(0:Int))) (Av (Xs ((C1 (Bi r c l p q m u v h) y)==(0:Int))) (Av (Sr ((C1 (Bi r c l p q m u v h) y)==(0:Int))) (Av (Agr ((C1 (Bi r c l p q m u v h) y)==(0:Int)) ((List.length (Dg (Bi r c l p q m u v h) y):Int)==(List.length y:Int))) (Av (Aj0 ((C1 (Bi r c l p q m u v h) y)==(0:Int)) ((List.length (Dg (Bi r c l p q m u v h) y):Int)==(List.length y:Int))) rfl)))))))))
theorem B1.Cj.ev (N:Nat) (r c:Int) (l:List Int) (p q:Int) (m:List Int) (u v:Int) (h y:List Int):Bq B1.Cj.E N Tryz.f19 (An Tryz.f19) [.agg [.int .i64 r,.int .i64 c,.ints .arg .u64 l,.int .i64 p,.int .i64 q,.ints .arg .u64 m,.int .i64 u,.int .i64 v,.ints .arg .u64 h],.ints .arg .u64 y]=bif (I7 l m h&&Ah y) then bif (A4 8 (List.length y:Int)) then some (.bool (bif (bif ((List.length (Dg (Bi r c l p q m u v h) y):Int)==(0:Int)) then ((C1 (Bi r c l p q m u v h) y)==(1:Int)) else false) then true else false)) else B1.Cj.L0 N N r c l p q m u v h y (0:Int) else none :=
  Eq.trans (by kernel_rfl)
  (Eh (Eh (Av (N2 ((List.length (Dg (Bi r c l p q m u v h) y):Int)==(0:Int))) (Av (Lt ((List.length (Dg (Bi r c l p q m u v h) y):Int)==(0:Int))) (Av (Sr ((List.length (Dg (Bi r c l p q m u v h) y):Int)==(0:Int))) (Av (Agr ((List.length (Dg (Bi r c l p q m u v h) y):Int)==(0:Int)) ((C1 (Bi r c l p q m u v h) y)==(1:Int))) (Av (Aj0 ((List.length (Dg (Bi r c l p q m u v h) y):Int)==(0:Int)) ((C1 (Bi r c l p q m u v h) y)==(1:Int))) rfl))))) rfl) rfl)
abbrev _root_.Go.Proofs.S1.B1.Cj.Kn:=A3 Tryz.prog 19 B1.Cj.spec
theorem B1.Cj.Ac (hk:Ax Tryz.prog B1.Cj.A6) (h:∀ (r c:Int) (l:List Int) (p q:Int) (m:List Int) (u v:Int) (h y:List Int),B1.Cj.pre [.i r,.i c,.l l,.i p,.i q,.l m,.i u,.i v,.l h,.l y]=true→A8 B1.Cj.E Tryz.f19 [.agg [.int .i64 r,.int .i64 c,.ints .arg .u64 l,.int .i64 p,.int .i64 q,.ints .arg .u64 m,.int .i64 u,.int .i64 v,.ints .arg .u64 h],.ints .arg .u64 y] (B1.Cj.out [.i r,.i c,.l l,.i p,.i q,.l m,.i u,.i v,.l h,.l y])):B1.Cj.Kn :=
  Ak (U4 hk _ _ _ _) Tryz.func19 (by kernel_rfl) (by kernel_rfl) h
end EqLaw22
open EqLaw22
theorem B1.one.known:B1.one.Kn:=B1.one.Ac .nil fun b _ =>
  ⟨0,_,[4],B1.one.ev 0 b,Xq (List.mem_singleton.2 rfl)⟩
theorem Aqm:Bi 1 1 [4607182418800017408] 1 1 [4611686018427387904] 0 1 [] 4607182418800017408=(1,1,[4611686018427387904],0):=by decide +kernel
theorem Ajd {x:Int} (h:decide (0≤x∧x<18446744073709551616)=true):Ah [x]=true:=Aq.2 fun y hy=>by
  rw [List.mem_singleton.1 hy]; exact Aq.2 (of_decide_eq_true h)
theorem B1.Hx.known:B1.Hx.Kn:=B1.Hx.Ac (.cons B1.one.known (.cons Ck.Fp.known .nil)) fun _ _=>by
  have a1:I7 [4607182418800017408] [4611686018427387904] []=true:=by
    unfold I7
    rw [Ajd (by decide),Ajd (x:=4611686018427387904) (by decide),Lo]; rfl
  have a2:Af 4607182418800017408=true:=Aq.2 (by decide)
  refine ⟨0,B1.Hx.out [],[],?_,.bool⟩
  rw [B1.Hx.ev,a1,a2,Aqm]
  rfl
theorem Nu {P:Prop} [Decidable P] {x y:MX} (h1:x.2.2.1.length≤36) (h2:y.2.2.1.length≤36):(if P then x else y).2.2.1.length≤36:=by
  by_cases k:P
  · rw [if_pos k]; exact h1
  · rw [if_neg k]; exact h2
theorem Asu (r c:Int) (l:List Int) (p q:Int) (m:List Int):(Tq r c l p q m).2.2.1.length≤36:=by
  unfold Tq Kj
  by_cases k:N9 r c l p q m≠0
  · rw [if_pos k]; exact Nat.zero_le _
  · rw [if_neg k]
    obtain ⟨h1,h2,_,_⟩:=O7 (Decidable.byContradiction k)
    obtain ⟨R,C,rfl,_,r6,c6,_⟩:=Ce h1
    obtain ⟨P,Q,_,rfl,p6,q6,_⟩:=Ce h2
    refine Nu ?_ (Nat.zero_le _)
    unfold upG
    dsimp only
    rw [Ca,Ayu,Ayu]
    exact Nat.mul_le_mul r6 q6
theorem Atg (r c:Int) (l:List Int) (p q:Int) (m:List Int) (u v:Int) (h:List Int) (x:Int):Lg (Bi r c l p q m u v h x).2.2.1=true:=by
  refine Aq.2 (Nat.le_trans (m:=36) ?_ (by decide))
  unfold Bi Ahr Fo Ap3
  exact Nu (Nat.zero_le _) (Nu (Nat.zero_le _) (Nu (Nat.zero_le _) (Nu (Nat.zero_le _) (Nu (Nat.zero_le _) (Nu (Nat.zero_le _) (Nu (Nat.zero_le _) (Asu _ _ _ _ _ _)))))))
open EqRidge EqLaw22
theorem V0 {f:Int→MX}:∀ {d t:List Int},(∀ x∈d,(f x).2.2.2=0)→Hf f (d++t)=Hf f t
  | [],_,_=>rfl
  | x::d,t,h=>by
    have:Hf f ((x::d)++t)=Hf f (d++t):=by
      show (if (f x).2.2.2≠0 then (f x).2.2.2 else Hf f (d++t))=_
      rw [if_neg (fun k=>k (h x List.mem_cons_self))]
    rw [this,V0 (fun y hy=>h y (List.mem_cons_of_mem _ hy))]
theorem Td {f:Int→MX} {x:Int} {t:List Int} (h:(f x).2.2.2=0):Hf f (x::t)=Hf f t:=by
  show (if (f x).2.2.2≠0 then (f x).2.2.2 else Hf f t)=_
  rw [if_neg (fun k=>k h)]
theorem Pw {f:Int→MX} {x:Int} {t:List Int} (h:(f x).2.2.2≠0):Hf f (x::t)=(f x).2.2.2:=by
  show (if (f x).2.2.2≠0 then (f x).2.2.2 else Hf f t)=_
  rw [if_pos h]
theorem Y5 {f:Int→MX}:∀ {t:List Int},Hf f t≠0→Jc f t (Hf f t)=true
  | [],h=>absurd rfl h
  | x::t,h=>by
    by_cases k:(f x).2.2.2=0
    · rw [Td k] at h ⊢
      show (if (f x).2.2.2≠0 then decide (Hf f t=(f x).2.2.2) else Jc f t (Hf f t))=true
      rw [if_neg (fun h=>h k)]
      exact Y5 h
    · rw [Pw k]
      show (if (f x).2.2.2≠0 then decide ((f x).2.2.2=(f x).2.2.2) else _)=true
      rw [if_pos k,Ayt rfl]
theorem Ze (d t:List Int) (x:Int):(d++x::t).getD d.length 0=x:=by
  rw [Ay2,List.getElem?_append_right (Nat.le_refl _),Nat.sub_self]; rfl
section
variable {r c:Int} {l:List Int} {p q:Int} {m:List Int} {u v:Int} {h:List Int}
theorem Wv (N:Nat) (h0:I7 l m h=true) {y:List Int} (ay:Ah y=true) (h8:y.length≤8):∀ (t d:List Int) (F:Nat),y=d++t→(∀ x∈d,(Bi r c l p q m u v h x).2.2.2=0)→t.length<F →
    Ck.I8.L0 N F r c l p q m u v h y (d.length:Int) (d.map fun x=>Vi (Bi r c l p q m u v h x)) =
      if Hf (Bi r c l p q m u v h) t≠0 then some (.tup [.nil,.int .i64 (Hf (Bi r c l p q m u v h) t)]) else some (.tup [.recs (.own 100010 tM) 3 (y.map fun x=>Vi (Bi r c l p q m u v h x)),.int .i64 0]):=by
  intro t
  induction t with
  | nil =>
    intro d F hy hd hF
    obtain ⟨F,rfl⟩:∃ G,F=G+1:=⟨F-1,by omega⟩
    rw [List.append_nil] at hy
    subst hy
    rw [Ck.I8.Ar,As,Ayx (by omega),Ayw,if_neg (fun h=>h rfl)]
  | cons x t ih =>
    intro d F hy hd hF
    obtain ⟨F,rfl⟩:∃ G,F=G+1:=⟨F-1,by omega⟩
    have hl:d.length<y.length:=by rw [hy,List.length_append,List.length_cons]; omega
    have hx:List.getD y d.length 0=x:=by rw [hy]; exact Ze d t x
    have ix:Af x=true:=by rw [← hx]; exact La ay hl
    rw [Ck.I8.Ar,As,Ayt (show (d.length:Int)<(y.length:Int) by omega),Ays,Ayt (show (0:Int)≤(d.length:Int) by omega),Ayy,Ays,Ayu,hx,h0,ix,Ayy,Ays]
    by_cases k:(Bi r c l p q m u v h x).2.2.2=0
    · have:=ih (d++[x]) F (by rw [hy,List.append_assoc]; rfl) (fun z hz=>(List.mem_append.1 hz).elim (hd z) (fun hz=>by rw [List.mem_singleton.1 hz]; exact k)) (by simp only [List.length_cons] at hF; omega)
      rw [List.map_append,List.length_append] at this
      rw [Gc k,Ayw,Ayt (by rw [List.length_map]; unfold Aaf; omega),Ays,Al (by omega) (by omega),Td k]
      exact this
    · have k':Hf (Bi r c l p q m u v h) (x::t)≠0:=by rw [Pw k]; exact k
      rw [To k,Ays,if_pos k',Pw k]
theorem Ck.I8.known:Ck.I8.Kn:=Ck.I8.Ac (.cons Ck.Fp.known .nil) fun r c l p q m u v h y hp=>by
  obtain ⟨h0,ay⟩:=Ad.1 (show (I7 l m h&&Ah y)=true from hp)
  show ∃ N dv drops,_=some dv∧Wk drops dv (DV.tup [.recs .fresh 3 (Dg (Bi r c l p q m u v h) y),.int .i64 (C1 (Bi r c l p q m u v h) y)])
  have hrun:=Ck.I8.ev 9 r c l p q m u v h y
  unfold Dg C1
  by_cases h8:8<y.length
  · rw [As,Ayt (by omega),Ays] at hrun
    rw [if_pos h8,if_pos (by decide)]
    exact ⟨9,_,[],hrun,Wk.Gp (.cons (.nilR _ _) (.cons .int .nil))⟩
  · rw [As,Ayx (by omega),Ayw] at hrun
    rw [if_neg h8]
    have key:=Wv (r:=r) (c:=c) (p:=p) (q:=q) (u:=u) (v:=v) 9 h0 ay (by omega) y [] 9 rfl (fun x h=>by cases h) (by omega)
    by_cases k:Hf (Bi r c l p q m u v h) y≠0
    · rw [if_pos k] at key ⊢
      exact ⟨9,_,[],hrun.trans key,Wk.Gp (.cons (.nilR _ _) (.cons .int .nil))⟩
    · have k0:Hf (Bi r c l p q m u v h) y=0:=Decidable.byContradiction k
      rw [if_neg k] at key ⊢
      rw [k0]
      exact ⟨9,_,[100010],hrun.trans key,Wk.Gp (.cons (.dropR _ _ _ _ (List.mem_singleton.2 rfl)) (.cons .int .nil))⟩
theorem Ahs (N:Nat) (h0:I7 l m h=true) {y:List Int} (ay:Ah y=true) (e:Int) (hl62:y.length≤4611686018427387904):∀ (t d:List Int) (F:Nat),y=d++t→t.length<F →
    B1.Cf.L0 N F r c l p q m u v h y e (d.length:Int)=some (.bool (Jc (Bi r c l p q m u v h) t e)):=by
  intro t
  induction t with
  | nil =>
    intro d F hy hF
    obtain ⟨F,rfl⟩:∃ G,F=G+1:=⟨F-1,by omega⟩
    rw [List.append_nil] at hy
    subst hy
    rw [B1.Cf.Ar,As,Ayx (by omega),Ayw]
    rfl
  | cons x t ih =>
    intro d F hy hF
    obtain ⟨F,rfl⟩:∃ G,F=G+1:=⟨F-1,by omega⟩
    have hl:d.length<y.length:=by rw [hy,List.length_append,List.length_cons]; omega
    have hx:List.getD y d.length 0=x:=by rw [hy]; exact Ze d t x
    have ix:Af x=true:=by rw [← hx]; exact La ay hl
    rw [B1.Cf.Ar,As,Ayt (show (d.length:Int)<(y.length:Int) by omega),Ays,Ayt (show (0:Int)≤(d.length:Int) by omega),Ayy,Ays,Ayu,hx,h0,ix,Ayy,Ays]
    by_cases k:(Bi r c l p q m u v h x).2.2.2=0
    · have:=ih (d++[x]) F (by rw [hy,List.append_assoc]; rfl) (by simp only [List.length_cons] at hF; omega)
      rw [List.length_append] at this
      have e1:Jc (Bi r c l p q m u v h) (x::t) e=Jc (Bi r c l p q m u v h) t e:=by
        show (if (Bi r c l p q m u v h x).2.2.2≠0 then _ else _)=_
        rw [if_neg (fun h=>h k)]
      rw [Gc k,Ayw,Al (by omega) (by omega),e1]
      exact this
    · have e1:Jc (Bi r c l p q m u v h) (x::t) e=decide (e=(Bi r c l p q m u v h x).2.2.2):=by
        show (if (Bi r c l p q m u v h x).2.2.2≠0 then _ else _)=_
        rw [if_pos k]
      rw [To k,Ays,e1]
      rfl
end
theorem B1.Cf.known:B1.Cf.Kn:=B1.Cf.Ac (.cons Bu.Fp.known .nil) fun r c l p q m u v h y e hp=>by
  obtain ⟨h0,oy⟩:=Ad.1 (show (I7 l m h&&Cl y)=true from hp)
  have hl:=(Aq.1 oy).1
  refine ⟨y.length+1,.bool (Jc (Bi r c l p q m u v h) y e),[],?_,.bool⟩
  rw [B1.Cf.ev]
  exact Ahs (y.length+1) h0 (O8 oy) e (by omega) y [] (y.length+1) rfl (by omega)
section
variable {r c:Int} {l:List Int} {p q:Int} {m:List Int} {u v:Int} {h:List Int}
theorem Ao0 (x:MX):isC (.i .i64) (List.getD (Vi x) 0 .undef)=true∧isC (.i .i64) (List.getD (Vi x) 1 .undef)=true∧isC (.s .u64) (List.getD (Vi x) 2 .undef)=true:=⟨rfl,rfl,rfl⟩
theorem Ahz (N:Nat) (h0:I7 l m h=true) {y:List Int} (ay:Ah y=true) (h8:y.length≤8):∀ (t d:List Int) (F:Nat),y=d++t→(∀ x∈d,(Bi r c l p q m u v h x).2.2.2=0)→t.length<F →
    B1.Cj.L0 N F r c l p q m u v h y (d.length:Int)=some (.bool true):=by
  intro t
  have en:C1 (Bi r c l p q m u v h) y=Hf (Bi r c l p q m u v h) y:=by unfold C1; rw [if_neg (by omega)]
  induction t with
  | nil =>
    intro d F hy hd hF
    obtain ⟨F,rfl⟩:∃ G,F=G+1:=⟨F-1,by omega⟩
    have e0:C1 (Bi r c l p q m u v h) y=0:=by rw [en,hy,V0 hd]; rfl
    have el:(Dg (Bi r c l p q m u v h) y).length=y.length:=by unfold Dg; rw [if_neg (fun h=>h e0),List.length_map]
    rw [List.append_nil] at hy
    subst hy
    rw [B1.Cj.Ar,As,Ayx (by omega),Ayw,e0,el,beq_self_eq_true,beq_self_eq_true]
    rfl
  | cons x t ih =>
    intro d F hy hd hF
    obtain ⟨F,rfl⟩:∃ G,F=G+1:=⟨F-1,by omega⟩
    have hl:d.length<y.length:=by rw [hy,List.length_append,List.length_cons]; omega
    have hx:List.getD y d.length 0=x:=by rw [hy]; exact Ze d t x
    have ix:Af x=true:=by rw [← hx]; exact La ay hl
    have ey:Hf (Bi r c l p q m u v h) y=Hf (Bi r c l p q m u v h) (x::t):=by rw [hy]; exact V0 hd
    rw [B1.Cj.Ar,As,Ayt (show (d.length:Int)<(y.length:Int) by omega),Ays,Ayt (show (0:Int)≤(d.length:Int) by omega),Ayy,Ays,Ayu,hx,h0,ix,Ayy,Ays]
    by_cases k:(Bi r c l p q m u v h x).2.2.2=0
    · rw [Gc k,Ayw]
      by_cases ke:C1 (Bi r c l p q m u v h) y=0
      · have er:Dg (Bi r c l p q m u v h) y=y.map fun x=>Vi (Bi r c l p q m u v h x):=by unfold Dg; rw [if_neg (fun h=>h ke)]
        have eg:List.getD (y.map fun x=>Vi (Bi r c l p q m u v h x)) d.length []=Vi (Bi r c l p q m u v h x):=by
          rw [Ay2,List.getElem?_map,Ay9 hl]
          rw [Ay2,Ay9 hl] at hx
          show Vi (Bi r c l p q m u v h y[d.length])=_
          rw [show y[d.length]=x from hx]
        obtain ⟨c1,c2,c3⟩:=Ao0 (Bi r c l p q m u v h x)
        have:=ih (d++[x]) F (by rw [hy,List.append_assoc]; rfl) (fun z hz=>(List.mem_append.1 hz).elim (hd z) (fun hz=>by rw [List.mem_singleton.1 hz]; exact k)) (by simp only [List.length_cons] at hF; omega)
        rw [List.length_append] at this
        rw [Gc ke,er,List.length_map,Ef,Ayx (show ¬ ((y.length:Int)≤(d.length:Int)) by omega),Ayt (show (d.length:Int)<(y.length:Int) by omega),eg,c1,c2,c3,
          show Iu (List.getD (Vi (Bi r c l p q m u v h x)) 2 .undef)=(Bi r c l p q m u v h x).2.2.1 from rfl,show O4 (List.getD (Vi (Bi r c l p q m u v h x)) 0 .undef)=(Bi r c l p q m u v h x).1 from rfl,
          show O4 (List.getD (Vi (Bi r c l p q m u v h x)) 1 .undef)=(Bi r c l p q m u v h x).2.1 from rfl,Atg,Aka,Al (by omega) (by omega)]
        exact this
      · have er:Dg (Bi r c l p q m u v h) y=[]:=by unfold Dg; rw [if_pos ke]
        have et:C1 (Bi r c l p q m u v h) y=Hf (Bi r c l p q m u v h) t:=by rw [en,ey,Td k]
        have ed:List.drop (d.length+1) y=t:=by
          rw [hy,List.drop_append,Ay6 (by omega),show d.length+1-d.length=1 by omega]; rfl
        have ot:Cl t=true:=Aq.2 ⟨by have:t.length≤8:=(by rw [hy,List.length_append,List.length_cons] at h8; omega); omega,fun z hz=>Aq.1 ay z (by rw [hy]; exact List.mem_append_right _ (List.mem_cons_of_mem _ hz))⟩
        have ek:Hf (Bi r c l p q m u v h) t≠0:=by rw [← et]; exact ke
        rw [To ke,er,Al (by omega) (by omega),show Int.toNat ((d.length:Int)+1)=d.length+1 by omega,ed,ot,et,Y5 ek,Ayt (show (0:Int)≤(d.length:Int)+1 by omega),Ayt (show (d.length:Int)+1≤(y.length:Int) by omega)]
        simp only [Bool.true_or,Ays,Bool.not_true,Bool.false_or,Ayy]
        rfl
    · have e1:C1 (Bi r c l p q m u v h) y=(Bi r c l p q m u v h x).2.2.2:=by rw [en,ey,Pw k]
      have er:Dg (Bi r c l p q m u v h) y=[]:=by unfold Dg; rw [if_pos (by rw [e1]; exact k)]
      rw [To k,Ays,er,e1,beq_self_eq_true]
      rfl
end
theorem B1.Cj.known:B1.Cj.Kn:=B1.Cj.Ac (.cons B1.Hx.known (.cons B1.Cf.known (.cons Aj.Ex.known (.cons Bu.Fp.known (.cons Ck.I8.known .nil))))) fun r c l p q m u v h y hp=>by
  obtain ⟨h1,_⟩:=Ad.1 (show ((I7 l m h&&Ah y)&&((Lg l&&Lg m)&&(Lg h&&Lg y)))=true from hp)
  obtain ⟨h0,ay⟩:=Ad.1 h1
  refine ⟨9,.bool true,[],?_,.bool⟩
  rw [B1.Cj.ev,h0,ay,Ayy,Ays]
  by_cases h8:8<y.length
  · have e1:C1 (Bi r c l p q m u v h) y=1:=by unfold C1; rw [if_pos h8]
    have er:Dg (Bi r c l p q m u v h) y=[]:=by unfold Dg; rw [if_pos (by rw [e1]; decide)]
    rw [As,Ayt (by omega),Ays,e1,er]
    rfl
  · rw [As,Ayx (by omega),Ayw]
    exact Ahz 9 h0 ay (by omega) y [] 9 rfl (fun x h=>by cases h) (by omega)
end Go.Proofs.S1
end
