/- A verified evaluator of the program's form and its use for this seat: S1PSubSt, S1PLseA, S1PRefL, S1PRef20, S1PMx, S1EqGg, S1PGg, S1EqRidge, S1PRidge, S1EqRef22, S1PRef22, S1EqLaw17, S1PLaw17, S1EqLaw22, S1PLaw22. -/
import Derived.Test.YtjbokjpbiobjpaaGreatTL
import Derived.Test.YtjbokjpbiobjpaaGreatTK
import Derived.Test.YtjbokjpbiobjpaaGreatTF
import Derived.Test.YtjbokjpbiobjpaaGreatTE
set_option linter.unusedVariables false
set_option linter.unusedSimpArgs false
noncomputable section
namespace Go.Proofs.S1
open Go Go.Den Go.Rnd Go.Proofs
open EqOf EqRef20
theorem Aj.Stack.known:Aj.Stack.Kn:=Aj.Stack.Ac .nil fun r c l p q m hp=>by
  obtain ⟨h1,h2⟩:=Ad.1 (show ((A0 r c l&&A0 p q m)&&decide (q=c))=true from hp)
  obtain ⟨hr,hm⟩:=Ad.1 h1
  obtain ⟨R,C,rfl,rfl,r6,c6,hl⟩:=Cc hr
  obtain ⟨P,Q,rfl,rfl,p6,q6,hl2⟩:=Cc hm
  have h36:=Nat.mul_le_mul r6 c6
  have h36':=Nat.mul_le_mul p6 q6
  refine ⟨0,.agg [.int .i64 ((R:Int)+(P:Int)),.int .i64 (C:Int),.ints (.own 20 tB) .u64 (l++m)],[20],?_,Xg (List.mem_singleton.2 rfl)⟩
  rw [Aj.Stack.ev,List.nil_append,Axu (show 0+l.length≤Gp by unfold Gp; omega),Axt,Axu (show l.length+m.length≤Gp by unfold Gp; omega),Axt,Am (by omega) (by omega)]
theorem Xo {R P C:Nat} {l m:List Int} (hl:l.length=R*C) (hm:m.length=P*C) :
    (B5 (R+P) C fun (i k:Nat)=>I4 (R:Int) (C:Int) l (C:Int) m (i:Int) (k:Int))=l++m:=by
  have h:(l++m).length=(R+P)*C:=by rw [List.length_append,hl,hm,Nat.add_mul]
  conv=>rhs; rw [← Vm h]
  refine D4 fun i k hi hk=>?_
  unfold I4
  by_cases hlt:(i:Int)<(R:Int)
  · have:=Kk (r:=R) (c:=C) (i:=i) (k:=k) (by omega) hk
    rw [if_pos hlt,Rr,Rr,Ax3,Ax3,List.getElem?_append_left (by omega)]
  · have es:(i:Int)-(R:Int)=((i-R:Nat):Int):=by omega
    have e2:i*C=R*C+(i-R)*C:=by rw [← Nat.add_mul]; congr 1; omega
    rw [if_neg hlt,es,Rr,Rr,Ax3,Ax3,List.getElem?_append_right (by omega),hl,e2]
    congr 2; omega
open EqLse
def Out (o:Option DV) (x:MX):Prop:=∃ dv drops,o=some dv∧Wk drops dv (Aeo x)
theorem As0 {o:Option DV} {e:Int} (h:o=some (Akf e)):Out o (Ke e):=⟨_,[],h,P5⟩
theorem Asz {o:Option DV} {x:MX} (h:o=some (Aeo x)):Out o x:=⟨_,[],h,Ws⟩
section
variable {N:Nat} {r c p q a b u v:Int} {l m g h:List Int} {w one two done f y Q z:MX}
end
open EqRef14 EqLow
theorem Aod {c:Int} {l:List Int} {i k:Int} (h:Da l=true):Cq (D6 c l i k)=true:=by
  unfold D6
  rw [Ax3]
  cases hx:l[(i*c+k).toNat]? with
  | none=>exact (by decide:Cq 0=true)
  | some x =>
    unfold Da at h
    exact List.all_eq_true.1 h x (List.mem_of_getElem? hx)
theorem Afi {r c:Nat} {f:Nat→Nat→Int} (h:∀ i k,Cq (f i k)=true):Da (B5 r c f)=true:=by
  unfold Da
  rw [List.all_eq_true]
  intro x hx
  obtain ⟨j,_,rfl⟩:=List.mem_map.1 hx
  exact h _ _
theorem Ah8 {r c:Int} {l:List Int} (al:Ai l=true) (h:E6 r c l=0):∃ R C:Nat,r=R∧c=C∧R≤6∧C≤6∧l.length=R*C ∧
    D7 r c l=((R:Int),((min R C:Nat):Int),B5 R (min R C) (fun i k=>D6 (R:Int) (Ma R C l) (0+(i:Int)) (0+(k:Int))),0) ∧
    Ig r c l=(((min R C:Nat):Int),(C:Int),B5 (min R C) C (fun i k=>D6 (C:Int) (J5 R C l) (0+(i:Int)) (0+(k:Int))),0) ∧
    Ai (Ma R C l)=true∧Ai (J5 R C l)=true∧Da (Ma R C l)=true∧Da (J5 R C l)=true∧(Ma R C l).length=R*R∧(J5 R C l).length=R*C:=by
  have ht:=U2 al h
  obtain ⟨R,C,rfl,rfl,r6,c6,hl,q1,q2,g1,g2,f1,f2⟩:=Y9 al h
  have p1:Hs (R:Int) (R:Int) 0 0 (R:Int) (min (R:Int) (C:Int))=true:=Axu (by omega)
  have p2:Hs (R:Int) (C:Int) 0 0 (min (R:Int) (C:Int)) (C:Int)=true:=Axu (by omega)
  rw [Axv,Axv,W0 r6 r6 q2 p1,W0 r6 c6 g2 p2] at ht
  have em:min (R:Int) (C:Int)=((min R C:Nat):Int):=by omega
  rw [em,Axv,Axv,Axv] at ht
  exact ⟨R,C,rfl,rfl,r6,c6,hl,ht.1.symm,ht.2.symm,q1,g1,f1,f2,q2,g2⟩
theorem B4.F9.known:B4.F9.Kn:=B4.F9.Ac (.cons Aj.Part.known (.cons B4.B0.known .nil)) fun r c l hp=>by
  have h1:((A0 r c l&&Da l)&&Ai l)=true:=hp
  obtain ⟨_,al⟩:=Ad.1 h1
  show ∃ N dv drops,_=some dv∧Wk drops dv (DV.agg [.int .i64 (D7 r c l).1,.int .i64 (D7 r c l).2.1,.ints .arg .u64 (D7 r c l).2.2.1,.int .i64 (Ig r c l).1,.int .i64 (Ig r c l).2.1,.ints .arg .u64 (Ig r c l).2.2.1,.bool (decide (E6 r c l=0))])
  have hrun:=B4.F9.ev 0 r c l
  rw [h1,Axt] at hrun
  by_cases h:E6 r c l=0
  · obtain ⟨e1,e2⟩:=Wy h
    obtain ⟨R,C,rfl,rfl,r6,c6,hl,t1,t2,q1,g1,f1,f2,q2,g2⟩:=Ah8 al h
    have p1:Hs (R:Int) (R:Int) 0 0 (R:Int) (min (R:Int) (C:Int))=true:=Axu (by omega)
    have p2:Hs (R:Int) (C:Int) 0 0 (min (R:Int) (C:Int)) (C:Int)=true:=Axu (by omega)
    have em:min (R:Int) (C:Int)=((min R C:Nat):Int):=by omega
    rw [Axu h,Bool.not_true,Axx,e1,e2,Axv,Axv,Fe r6 r6 q2,Fe r6 c6 g2,p1,p2,Axz,Axt,Axt,em,Axv] at hrun
    rw [t1,t2,h]
    exact ⟨0,_,[],hrun,Wk.G6 (.cons .int (.cons .int (.cons (.fresh _ _) (.cons .int (.cons .int (.cons (.fresh _ _) (.cons .bool .nil)))))))⟩
  · obtain ⟨e1,e2⟩:=X5 (e:=E6 r c l) rfl h
    have e3:D7 r c l=Ke (E6 r c l):=by unfold D7; rw [if_pos h]
    have e4:Ig r c l=Ke (E6 r c l):=by unfold Ig; rw [if_pos h]
    rw [Axy h,Bool.not_false,Axt,e1,e2] at hrun
    rw [e3,e4,Axy h]
    exact ⟨0,_,[],hrun,Wk.G6 (.cons .int (.cons .int (.cons .Wr (.cons .int (.cons .int (.cons .Wr (.cons .bool .nil)))))))⟩
section
variable {n Q:Nat} {l m:List Int}
end
theorem Aa9:∀ (d:List Int) (m:Int),(∀ x∈d,∃ n:Nat,x=((G7 n:Nat):Int))→d.foldl (fun m x=>Om m x) m=d.foldl (fun m x=>Om m (I7 x)) m
  | [],_,_=>rfl
  | x::d,m,h=>by
    obtain ⟨n,rfl⟩:=h x List.mem_cons_self
    have e:I7 ((G7 n:Nat):Int)=((G7 n:Nat):Int):=by
      unfold I7
      rw [Axv]
      congr 1
      unfold G7
      omega
    rw [List.foldl_cons,List.foldl_cons,e]
    exact Aa9 d _ fun y hy=>h y (List.mem_cons_of_mem _ hy)
theorem Aba {c:Int} {l:List Int} {n i:Nat} (h:i<n):(Kf c l n).drop i=I7 (D6 c l (i:Int) (i:Int))::(Kf c l n).drop (i+1):=by
  have hl:(Kf c l n).length=n:=Is c l n
  rw [List.drop_eq_getElem_cons (by rw [hl]; exact h)]
  congr 1
  simp [Kf]
theorem Ab7 (N:Nat) {R C:Nat} {l:List Int} (r6:R≤6) (c6:C≤6) (hl:l.length=R*C) (al:Ai l=true):∀ (cnt i F:Nat) (g:Int),i+cnt=min R C→cnt<F→Af g=true →
    A7.Flat.L0 N F (R:Int) (C:Int) l g (i:Int)=A7.Flat.L1 N N (R:Int) (C:Int) l 0 (((Kf (C:Int) l (min R C)).drop i).foldl (fun m x=>Om m x) g):=by
  intro cnt
  induction cnt with
  | zero =>
    intro i F g hi hF hg
    obtain ⟨F,rfl⟩:∃ G,F=G+1:=⟨F-1,by omega⟩
    have hlt:(A4 (i:Int) (R:Int)&&A4 (i:Int) (C:Int))=false:=by
      rw [As,As,Bool.and_eq_false_iff,Ayc,Ayc]; omega
    rw [A7.Flat.Au,hlt,Axx,Ax7 (by rw [Is]; omega)]
    rfl
  | succ cnt ih =>
    intro i F g hi hF hg
    obtain ⟨F,rfl⟩:∃ G,F=G+1:=⟨F-1,by omega⟩
    have hlt:(A4 (i:Int) (R:Int)&&A4 (i:Int) (C:Int))=true:=by
      rw [As,As,Axu (by omega),Axu (by omega)]; rfl
    rw [A7.Flat.Au,hlt,Axt,Dq r6 c6 hl (by omega) (by omega),Axt,G5 al,Axt,hg,Sx,Axz,Axt,Am (by omega) (by omega),Aba (by omega),List.foldl_cons]
    exact ih (i+1) F _ (by omega) (by omega) (Ani hg (Sx _))
theorem Ab8 (N:Nat) {R C:Nat} {l:List Int} {g:Int} (r6:R≤6) (c6:C≤6) (hl:l.length=R*C) (al:Ai l=true) (hg:Af g=true):∀ (cnt i F:Nat),i+cnt=min R C→cnt<F →
    A7.Flat.L1 N F (R:Int) (C:Int) l (i:Int) g=some (.bool (((Kf (C:Int) l (min R C)).drop i).any fun x=>!(decide (Sp (Bw g (-40)) x<0)))):=by
  intro cnt
  induction cnt with
  | zero =>
    intro i F hi hF
    obtain ⟨F,rfl⟩:∃ G,F=G+1:=⟨F-1,by omega⟩
    have hlt:(A4 (i:Int) (R:Int)&&A4 (i:Int) (C:Int))=false:=by
      rw [As,As,Bool.and_eq_false_iff,Ayc,Ayc]; omega
    rw [A7.Flat.B7,hlt,Axx,Ax7 (by rw [Is]; omega)]
    rfl
  | succ cnt ih =>
    intro i F hi hF
    obtain ⟨F,rfl⟩:∃ G,F=G+1:=⟨F-1,by omega⟩
    have hlt:(A4 (i:Int) (R:Int)&&A4 (i:Int) (C:Int))=true:=by
      rw [As,As,Axu (by omega),Axu (by omega)]; rfl
    have sp:Db g (-40:Int)=true:=Ad.2 ⟨hg,Ar.2 (by omega)⟩
    rw [A7.Flat.B7,hlt,Axt,sp,Axt,Dq r6 c6 hl (by omega) (by omega),Axt,G5 al,Axt,Hr hg,Sx,Axz,Axt,Ei,Aba (by omega),List.any_cons,Am (by omega) (by omega)]
    by_cases h:Sp (Bw g (-40)) (I7 (D6 (C:Int) l (i:Int) (i:Int)))<0
    · rw [Axy (by omega),Axx,Axu h,Bool.not_true,Bool.false_or]
      exact ih (i+1) F (by omega) (by omega)
    · rw [Axu (by omega),Axt,Axy h]; rfl
theorem A7.Flat.known:A7.Flat.Kn:=A7.Flat.Ac (.cons Bo.Ho.known (.cons Bo.Max.known (.cons Bo.Order.known (.cons Ag.Br.known (.cons Aj.At.known .nil))))) fun r c l hp=>by
  obtain ⟨h1,hf⟩:=Ad.1 (show ((A0 r c l&&Ai l)&&Da l)=true from hp)
  obtain ⟨hr,al⟩:=Ad.1 h1
  obtain ⟨R,C,rfl,rfl,r6,c6,hl⟩:=Cc hr
  refine ⟨8,.bool (Qp (R:Int) (C:Int) l),[],?_,.bool⟩
  rw [A7.Flat.ev]
  have h1:=Ab7 8 r6 c6 hl al (min R C) 0 8 0 (by omega) (by omega) H0
  rw [List.drop_zero,Aa9 _ _ (fun x hx=>by obtain ⟨j,_,rfl⟩:=List.mem_map.1 hx; exact ⟨_,rfl⟩)] at h1
  have h2:=Y2 (Kf (C:Int) l (min R C)) 0 (by decide) (by decide +kernel)
  have h2:(Kf (C:Int) l (min R C)).foldl (fun m x=>Om m (I7 x)) 0=Be (Kf (C:Int) l (min R C)):=h2
  rw [h2] at h1
  have h3:=Ab8 8 (g:=Be (Kf (C:Int) l (min R C))) r6 c6 hl al (N2 _) (min R C) 0 8 (by omega) (by omega)
  rw [List.drop_zero] at h3
  unfold Qp Aoa
  rw [Axv,Axv]
  exact h1.trans h3
theorem A7.D2.known:A7.D2.Kn:=A7.D2.Ac (.cons Aj.Mul.known (.cons Aj.Cn.known (.cons Gs.Check.known (.cons B4.F9.known (.cons A7.Flat.known (.cons A7.Cl.known .nil)))))) fun r c l p q m hp=>by
  obtain ⟨al,am⟩:=Ad.1 (show (Ai l&&Ai m)=true from hp)
  show ∃ N dv drops,_=some dv∧Wk drops dv (DV.tup [.agg [.int .i64 (Fl r c l p q m).1,.int .i64 (Fl r c l p q m).2.1,.ints .arg .u64 (Fl r c l p q m).2.2.1],.int .i64 (Fl r c l p q m).2.2.2])
  have hrun:=A7.D2.ev 0 r c l p q m
  rw [al,Axt] at hrun
  unfold Fl
  by_cases c1:Cd r c l=0
  · obtain ⟨hr,hf⟩:=D5 c1
    rw [Gv c1,Axx,am,Axt] at hrun
    rw [if_neg (by rw [c1]; decide)]
    by_cases c2:Cd p q m=0
    · rw [Gv c2,Axx,Ar1] at hrun
      rw [if_neg (by rw [c2]; decide)]
      by_cases c3:r<c∨r≠p
      · rw [Axu c3,Axt] at hrun
        rw [if_pos c3]
        exact ⟨0,_,[],hrun,P5⟩
      · rw [Axy c3,Axx,hr,hf,Axz,Bool.true_and,Axt] at hrun
        rw [if_neg c3]
        by_cases c4:E6 r c l=0
        · rw [Axu c4,Bool.not_true,Axx] at hrun
          rw [if_neg (by rw [c4]; decide)]
          obtain ⟨R,C,rfl,rfl,r6,c6,hl,t1,t2,q1,g1,f1,f2,q2,g2⟩:=Ah8 al c4
          obtain ⟨hm1,_⟩:=D5 c2
          have hcr:C≤R:=by omega
          obtain rfl:p=(R:Int):=by omega
          have m6:min R C≤6:=by omega
          have aq:Ai (B5 R (min R C) (fun i k=>D6 (R:Int) (Ma R C l) (0+(i:Int)) (0+(k:Int))))=true:=Ge fun _ _=>G5 q1
          have ar:Ai (B5 (min R C) C (fun i k=>D6 (C:Int) (J5 R C l) (0+(i:Int)) (0+(k:Int))))=true:=Ge fun _ _=>G5 g1
          have fr:Da (B5 (min R C) C (fun i k=>D6 (C:Int) (J5 R C l) (0+(i:Int)) (0+(k:Int))))=true:=Afi fun _ _=>Aod f2
          have rr:=Pj (fun i k=>D6 (C:Int) (J5 R C l) (0+(i:Int)) (0+(k:Int))) m6 c6
          have rq:=Pj (fun i k=>D6 (R:Int) (Ma R C l) (0+(i:Int)) (0+(k:Int))) r6 m6
          rw [t1,t2]
          rw [t1,t2] at hrun
          generalize B5 R (min R C) (fun i k=>D6 (R:Int) (Ma R C l) (0+(i:Int)) (0+(k:Int)))=gq at *
          generalize B5 (min R C) C (fun i k=>D6 (C:Int) (J5 R C l) (0+(i:Int)) (0+(k:Int)))=gr at *
          dsimp only at hrun ⊢
          have efl:(Ov ((min R C:Nat):Int) (C:Int) gr).1=Qp ((min R C:Nat):Int) (C:Int) gr:=by
            unfold Ov
            rw [if_neg (by rw [Aow rr fr]; decide)]
          rw [efl]
          rw [rr,ar,fr,Axz,Axz,Axt] at hrun
          cases c5:Qp ((min R C:Nat):Int) (C:Int) gr with
          | true =>
            rw [c5,Axt] at hrun
            rw [if_pos rfl]
            exact ⟨0,_,[],hrun,P5⟩
          | false =>
            rw [if_neg (by decide)]
            have rt:=Pj (fun i k=>D6 ((min R C:Nat):Int) gq (k:Int) (i:Int)) m6 r6
            have at':Ai (B5 (min R C) R (fun i k=>D6 ((min R C:Nat):Int) gq (k:Int) (i:Int)))=true:=Ge fun _ _=>G5 aq
            rw [c5,Axx,rq,Axt,Axv,Axv,rt,hm1,at',Axu rfl,Axz,Axz,Axz,Axt,show Ai (B5 (min R C) q.toNat fun (i j:Nat)=>I9 (G8 (R:Int) (B5 (min R C) R fun (i k:Nat)=>D6 ((min R C:Nat):Int) gq (k:Int) (i:Int)) (i:Int)) (Kd (R:Int) q m (j:Int)))=true from Ge fun _ _=>Rp _ _,Axz,Axt] at hrun
            have e1:Fm (R:Int) ((min R C:Nat):Int) gq=(((min R C:Nat):Int),(R:Int),B5 (min R C) R (fun (i k:Nat)=>D6 ((min R C:Nat):Int) gq (k:Int) (i:Int)),0):=by
              unfold Fm
              rw [if_pos rq,Axv,Axv]
            have e2:Dr (R:Int) ((min R C:Nat):Int) gq (R:Int) q m=(((min R C:Nat):Int),q,B5 (min R C) q.toNat (fun (i j:Nat)=>I9 (G8 (R:Int) (B5 (min R C) R fun (i k:Nat)=>D6 ((min R C:Nat):Int) gq (k:Int) (i:Int)) (i:Int)) (Kd (R:Int) q m (j:Int))),0):=by
              unfold Dr
              rw [e1,if_neg (fun h=>h rfl)]
              unfold R3
              dsimp only
              rw [rt,hm1,Axz,if_pos rfl,if_pos rfl,Axv]
            unfold Apk
            dsimp only
            rw [e2,if_neg (fun h=>h rfl)]
            exact ⟨0,_,[],hrun,Ws⟩
        · have e2:E6 r c l=2:=by
            rw [Ro c1] at c4 ⊢
            by_cases hk:Ls r.toNat c.toNat l=true
            · rw [if_pos hk] at c4; exact absurd rfl c4
            · rw [if_neg hk]
          rw [Axy c4,Bool.not_false,Axt] at hrun
          rw [if_pos c4,e2]
          exact ⟨0,_,[],hrun,P5⟩
    · rw [V7 c2,Axt,Axt] at hrun
      rw [if_pos c2]
      exact ⟨0,_,[],hrun,P5⟩
  · rw [V7 c1,Axt,Axt] at hrun
    rw [if_pos c1]
    exact ⟨0,_,[],hrun,P5⟩
open EqRef20
theorem Anq {r c:Int} {l:List Int} {p q:Int} {m:List Int} (h:(loX r c l p q m).2.2.2=0) :
    ∃ (R Q:Nat) (Y:List Int),r=R∧q=Q∧R≤6∧Q≤6∧loX r c l p q m=((R:Int),(Q:Int),Y,0)∧Y.length=R*Q∧Da Y=true∧Ai Y=true:=by
  have hin:=Atb r c l p q m
  unfold loX at h hin ⊢
  by_cases k:N1 r c l p q m=0
  · rw [if_neg (fun h=>h k)] at h hin ⊢
    obtain ⟨h1,h2,rfl,rfl⟩:=Oz k
    obtain ⟨R,C,rfl,hC,r6,c6,hl⟩:=Cc h1
    obtain ⟨P,Q,hP,rfl,p6,q6,hl2⟩:=Cc h2
    unfold Kc at h hin ⊢
    by_cases kf:Da (loG (R:Int) l (Q:Int) m (R:Int).toNat (Q:Int).toNat)=true
    · rw [if_pos kf] at hin ⊢
      exact ⟨R,Q,_,rfl,rfl,r6,q6,rfl,by unfold loG; rw [B8,Axv,Axv],kf,hin⟩
    · rw [if_neg kf] at h; exact absurd h (by decide)
  · rw [if_pos k] at h; exact absurd h k
theorem Aly {r c:Int} {l:List Int} {p q:Int} {m:List Int} (h:(Tf r c l p q m).2.2.2=0) :
    ∃ (R Q:Nat) (Y:List Int),r=R∧q=Q∧R≤6∧Q≤6∧Tf r c l p q m=((R:Int),(Q:Int),Y,0)∧Y.length=R*Q∧Da Y=true∧Ai Y=true:=by
  have hin:=Asb r c l p q m
  unfold Tf at h hin ⊢
  by_cases k:N1 r c l p q m=0
  · rw [if_neg (fun h=>h k)] at h hin ⊢
    obtain ⟨h1,h2,rfl,rfl⟩:=Oz k
    obtain ⟨R,C,rfl,hC,r6,c6,hl⟩:=Cc h1
    obtain ⟨P,Q,hP,rfl,p6,q6,hl2⟩:=Cc h2
    unfold Kc at h hin ⊢
    by_cases kf:Da (upG (R:Int) l (Q:Int) m (R:Int).toNat (Q:Int).toNat)=true
    · rw [if_pos kf] at hin ⊢
      exact ⟨R,Q,_,rfl,rfl,r6,q6,rfl,by unfold upG; rw [B8,Axv,Axv],kf,hin⟩
    · rw [if_neg kf] at h; exact absurd h (by decide)
  · rw [if_pos k] at h; exact absurd h k
def P3 (R C:Nat) (x:MX):Prop:=∃ l,x=((R:Int),(C:Int),l,0)∧R≤6∧C≤6∧l.length=R*C∧Ai l=true
def FM (x:MX):Prop:=Da x.2.2.1=true
theorem FM.of {r c e:Int} {l:List Int} (h:Da l=true):FM (r,c,l,e):=h
theorem P3.mk {R C:Nat} {l:List Int} (r6:R≤6) (c6:C≤6) (hl:l.length=R*C) (al:Ai l=true):P3 R C ((R:Int),(C:Int),l,0):=⟨l,rfl,r6,c6,hl,al⟩
theorem P3.As5 {r c:Int} {l:List Int} (h:Cd r c l=0) (al:Ai l=true):∃ R C:Nat,r=R∧c=C∧P3 R C (r,c,l,0)∧FM (r,c,l,0):=by
  obtain ⟨R,C,rfl,rfl,r6,c6,hl⟩:=Cc (D5 h).1
  exact ⟨R,C,rfl,rfl,.mk r6 c6 hl al,(D5 h).2⟩
section
variable {R C K:Nat} {x y:MX}
theorem P3.right (h:P3 R C x):A0 x.1 x.2.1 x.2.2.1=true:=by
  obtain ⟨l,rfl,r6,c6,hl,al⟩:=h
  exact Fe r6 c6 hl
theorem P3.rows (h:P3 R C x):x.1=R:=by obtain ⟨l,rfl,_⟩:=h; rfl
theorem P3.r6 (h:P3 R C x):R≤6:=by obtain ⟨l,rfl,r6,_⟩:=h; exact r6
theorem P3.c6 (h:P3 R C x):C≤6:=by obtain ⟨l,rfl,_,c6,_⟩:=h; exact c6
theorem P3.len (h:P3 R C x):x.2.2.1.length≤36:=by
  obtain ⟨l,rfl,r6,c6,hl,_⟩:=h
  have:=Nat.mul_le_mul r6 c6
  show l.length≤36
  omega
theorem P3.fin (h:Axk x=0):FM x:=(D5 h).2
theorem Aem {i k a b:Nat} (ha:i+a≤R) (hb:k+b≤C):Hs (R:Int) (C:Int) (i:Int) (k:Int) (a:Int) (b:Int)=true:=Axu (by omega)
theorem P3.part {i k a b:Nat} (h:P3 R C x) (ha:i+a≤R) (hb:k+b≤C):P3 a b (X8 x i k a b):=by
  have hr:=h.right
  obtain ⟨l,rfl,r6,c6,hl,al⟩:=h
  refine ⟨_,by unfold X8 Im; dsimp only; rw [if_pos hr,if_pos (Aem ha hb)],by omega,by omega,by rw [B8,Axv,Axv],Ge fun _ _=>G5 al⟩
theorem FM.part {i k a b:Nat} (h:P3 R C x) (f:FM x) (ha:i+a≤R) (hb:k+b≤C):FM (X8 x i k a b):=by
  have hr:=h.right
  obtain ⟨l,rfl,r6,c6,hl,al⟩:=h
  unfold X8 Im
  dsimp only
  rw [if_pos hr,if_pos (Aem ha hb)]
  exact .of (Afi fun _ _=>Aod (show Da _=true from f))
theorem P3.mul (h:P3 R K x) (g:P3 K C y):P3 R C (mulM x y):=by
  have hr:=h.right
  have hg:=g.right
  obtain ⟨l,rfl,r6,c6,hl,al⟩:=h
  obtain ⟨m,rfl,p6,q6,hm,am⟩:=g
  refine ⟨_,by unfold mulM R3; rw [hr,hg,Axz,if_pos rfl,if_pos rfl],r6,q6,by rw [B8,Axv,Axv],Ge fun _ _=>Rp _ _⟩
theorem P3.sub (h:P3 R C x) (g:P3 R C y):P3 R C (Au9 x y):=by
  have hr:=h.right
  have hg:=g.right
  obtain ⟨l,rfl,r6,c6,hl,al⟩:=h
  obtain ⟨m,rfl,p6,q6,hm,am⟩:=g
  refine ⟨_,by unfold Au9 Au8; rw [hr,hg,Axz,if_pos rfl,if_pos ⟨rfl,rfl⟩],r6,c6,by rw [B8,Axv,Axv],Ge fun _ _=>Nv (G5 al) (G5 am)⟩
theorem P3.lo (h:P3 R R x) (g:P3 R C y) (e:(loM x y).2.2.2=0):P3 R C (loM x y)∧FM (loM x y):=by
  obtain ⟨l,rfl,r6,c6,hl,al⟩:=h
  obtain ⟨m,rfl,p6,q6,hm,am⟩:=g
  obtain ⟨P,Q,Y,e1,e2,a6,b6,e3,e4,e5,e6⟩:=Anq e
  dsimp only at e1 e2
  obtain rfl:P=R:=by omega
  obtain rfl:Q=C:=by omega
  have e7:loM ((P:Int),(P:Int),l,0) ((P:Int),(Q:Int),m,0)=((P:Int),(Q:Int),Y,0):=e3
  rw [e7]
  exact ⟨.mk a6 b6 e4 e6,e5⟩
theorem P3.up (h:P3 R R x) (g:P3 R C y) (e:(upM x y).2.2.2=0):P3 R C (upM x y)∧FM (upM x y):=by
  obtain ⟨l,rfl,r6,c6,hl,al⟩:=h
  obtain ⟨m,rfl,p6,q6,hm,am⟩:=g
  obtain ⟨P,Q,Y,e1,e2,a6,b6,e3,e4,e5,e6⟩:=Aly e
  dsimp only at e1 e2
  obtain rfl:P=R:=by omega
  obtain rfl:Q=C:=by omega
  have e7:upM ((P:Int),(P:Int),l,0) ((P:Int),(Q:Int),m,0)=((P:Int),(Q:Int),Y,0):=e3
  rw [e7]
  exact ⟨.mk a6 b6 e4 e6,e5⟩
end
set_option maxRecDepth 100000
namespace EqGg
end EqGg
open EqGg
def Avq (o:Option DV) (d:DV):Prop:=∃ dv drops,o=some dv∧Wk drops dv d
theorem T4 {E:Env} {fn:Func} {ds:List DV} {d:DV} (h:Avq (Bp E 0 fn (An fn) ds) d):A8 E fn ds d:=by
  obtain ⟨dv,drops,e1,e2⟩:=h
  exact ⟨0,dv,drops,e1,e2⟩
theorem Ars {drops:List Nat} {r c:Int} {l:List Int}:Wk drops (.agg [.int .i64 r,.int .i64 c,.ints .fresh .u64 l]) (.agg [.int .i64 r,.int .i64 c,.ints .fresh .u64 l]):=Wk.G6 (.cons .int (.cons .int (.cons .Ny .nil)))
section
variable {N:Nat} {r c p q u v:Int} {l m h:List Int} {R Q T C W:MX}
end
def Ats (o:Option DV) (x:MX):Prop:=Avq o (So x)
theorem Aqd {o:Option DV} {x:MX} (h:o=some (So x)):Ats o x:=⟨_,[],h,Nt⟩
theorem W1 {o:Option DV} {e:Int} (h:o=some (Akf e)):Ats o (Ke e):=⟨_,[],h,Jt⟩
section
variable {N:Nat} {r c p q:Int} {l m:List Int} {Q L S w o y:MX}
end
namespace EqRidge
def Ae.Er.A6:List (Nat × Entry):=[(157,Ae.Mul.spec)]
def Ae.Er.E:Env:=A9 (A5 Ae.Er.A6) (fun _=>false) (fun _=>none) (fun _=>none)
theorem Ae.Er.ev (N:Nat) (i x:Int) (l:List Int):Bp Ae.Er.E N Tryz.f203 (An Tryz.f203) [.int .i64 i,.cellp [.int .u64 x],.cellp [.ints .arg .u64 l]]=bif ((decide (0≤i))&&(decide (i<(List.length l:Int)))) then bif (Af x&&Af (List.getD l (Int.toNat i) 0)) then some (.int .u64 (D1 x (List.getD l (Int.toNat i) 0))) else none else none :=
  Eq.trans (by kernel_rfl)
  (C2 (Lk (decide (0≤i)) (decide (i<(List.length l:Int)))) (C2 (Cs (Af x&&Af (List.getD l (Int.toNat i) 0))) rfl rfl) rfl)
abbrev _root_.Go.Proofs.S1.Ae.Er.Kn:=A3 Tryz.prog 203 Ae.Er.spec
theorem Ae.Er.Ac (hk:Ax Tryz.prog Ae.Er.A6) (h:∀ (i x:Int) (l:List Int),Ae.Er.pre [.i i,.i x,.l l]=true→A8 Ae.Er.E Tryz.f203 [.int .i64 i,.cellp [.int .u64 x],.cellp [.ints .arg .u64 l]] (Ae.Er.out [.i i,.i x,.l l])):Ae.Er.Kn :=
  Ak (Az hk _ _ _) Tryz.func203 (by kernel_rfl) (by kernel_rfl) h
def Ae.each.Ca.hint:Nat→Option Ba
  | 0=>some { keep:=[1,5,7,8],objs:=[(0,5,100005,.ints 37 .u64 [])],boxes:=[] }
  | _=>none
def Ae.each.Ca.A6:List (Nat × Entry):=[(203,Ae.Er.spec)]
def Ae.each.Ca.E:Env:=A9 (A5 Ae.each.Ca.A6) (fun _=>false) Ae.each.Ca.hint (fun _=>none)
def Ae.each.Ca.L0 (N M:Nat) (n x:Int) (l:List Int) (p8:Int) (p5:List Int):Option DV:=Bz Ae.each.Ca.E N Tryz.f202 (An Tryz.f202) [1,1,0,1,0] [] M ⟨Gl 19 [(1,.fn 203 [] [.cellp [.int .u64 x],.cellp [.ints .arg .u64 l]]),(5,.oref 100005),(7,.int .i64 n),(8,.int .i64 p8)],[(100005,false,.ints 37 .u64 p5)]⟩
theorem Ae.each.Ca.Au (N M:Nat) (n x:Int) (l:List Int) (p8:Int) (p5:List Int):Ae.each.Ca.L0 N (M+1) n x l p8 p5=bif (A4 p8 n) then bif ((Cu (0≤p8∧p8<List.length l)&&Ai l)&&Af x) then bif (decide ((List.length p5)+1≤Gp)) then Ae.each.Ca.L0 N M n x l (Ab (p8+1)) (p5++[(D1 x (List.getD l (Int.toNat p8) 0))]) else none else none else some (.ints (.own 100005 37) .u64 p5):=by kernel_rfl
theorem Ae.each.Ca.ev (N:Nat) (n x:Int) (l:List Int):Bp Ae.each.Ca.E N Tryz.f202 (An Tryz.f202) [.int .i64 n,.fn 203 [] [.cellp [.int .u64 x],.cellp [.ints .arg .u64 l]]] =
  Ae.each.Ca.L0 N N n x l 0 []:=by kernel_rfl
abbrev _root_.Go.Proofs.S1.Ae.each.Ca.Kn:=A3 Tryz.prog 202 Ae.each.Ca.spec
theorem Ae.each.Ca.Ac (hk:Ax Tryz.prog Ae.each.Ca.A6) (h:∀ (n x:Int) (l:List Int),Ae.each.Ca.pre [.i n,.i x,.l l]=true→A8 Ae.each.Ca.E Tryz.f202 [.int .i64 n,.fn 203 [] [.cellp [.int .u64 x],.cellp [.ints .arg .u64 l]]] (Ae.each.Ca.out [.i n,.i x,.l l])):Ae.each.Ca.Kn :=
  Ak (Az hk _ _ _) Tryz.func202 (by kernel_rfl) (by kernel_rfl) h
def Ae.Ca.A6:List (Nat × Entry):=[(202,Ae.each.Ca.spec)]
def Ae.Ca.E:Env:=A9 (A5 Ae.Ca.A6) (fun _=>false) (fun _=>none) (fun _=>none)
theorem Ae.Ca.ev (N:Nat) (x:Int) (l:List Int):Bp Ae.Ca.E N Tryz.f149 (An Tryz.f149) [.int .u64 x,.ints .arg .u64 l]=bif (A4 64 (List.length l:Int)) then some (.tup [.nil,.int .i64 3]) else bif (((Cu (0≤(List.length l:Int)∧(List.length l:Int)≤64∧(List.length l:Int)=List.length l))&&Ai l)&&Af x) then some (.tup [.ints .fresh .u64 (Cy x l),.int .i64 0]) else none:=by kernel_rfl
abbrev _root_.Go.Proofs.S1.Ae.Ca.Kn:=A3 Tryz.prog 149 Ae.Ca.spec
theorem Ae.Ca.Ac (hk:Ax Tryz.prog Ae.Ca.A6) (h:∀ (x:Int) (l:List Int),Ae.Ca.pre [.i x,.l l]=true→A8 Ae.Ca.E Tryz.f149 [.int .u64 x,.ints .arg .u64 l] (Ae.Ca.out [.i x,.l l])):Ae.Ca.Kn :=
  Ak (Az hk _ _ _) Tryz.func149 (by kernel_rfl) (by kernel_rfl) h
def Dx.C6.hint:Nat→Option Ba
  | 0=>some { keep:=[6,7,8],objs:=[],boxes:=[] }
  | _=>none
def Dx.C6.A6:List (Nat × Entry):=[(86,Ct.Check.spec)]
def Dx.C6.E:Env:=A9 (A5 Dx.C6.A6) (fun _=>false) Dx.C6.hint (fun _=>none)
theorem Dx.C6.ev (N:Nat) (r c:Int) (l:List Int) (p q:Int) (m:List Int) (u v:Int) (h:List Int):Bp Dx.C6.E (N+5) Tryz.f147 (An Tryz.f147) [.recs .arg 3 [[.int .i64 r,.int .i64 c,.ints .arg .u64 l],[.int .i64 p,.int .i64 q,.ints .arg .u64 m],[.int .i64 u,.int .i64 v,.ints .arg .u64 h]]]=bif (Ai l) then bif ((Cd r c l) !=(0:Int)) then some (.int .i64 (Cd r c l)) else bif (Ai m) then bif ((Cd p q m) !=(0:Int)) then some (.int .i64 (Cd p q m)) else bif (Ai h) then bif ((Cd u v h) !=(0:Int)) then some (.int .i64 (Cd u v h)) else some (.int .i64 0) else none else none else none:=by kernel_rfl
abbrev _root_.Go.Proofs.S1.Dx.C6.Kn:=A3 Tryz.prog 147 Dx.C6.spec
theorem Dx.C6.Ac (hk:Ax Tryz.prog Dx.C6.A6) (h:∀ (r c:Int) (l:List Int) (p q:Int) (m:List Int) (u v:Int) (h:List Int),Dx.C6.pre [.i r,.i c,.l l,.i p,.i q,.l m,.i u,.i v,.l h]=true→A8 Dx.C6.E Tryz.f147 [.recs .arg 3 [[.int .i64 r,.int .i64 c,.ints .arg .u64 l],[.int .i64 p,.int .i64 q,.ints .arg .u64 m],[.int .i64 u,.int .i64 v,.ints .arg .u64 h]]] (Dx.C6.out [.i r,.i c,.l l,.i p,.i q,.l m,.i u,.i v,.l h])):Dx.C6.Kn :=
  Ak (Az hk _ _ _) Tryz.func147 (by kernel_rfl) (by kernel_rfl) h
def Dx.F0.A6:List (Nat × Entry):=[(126,Aa.Stack.spec),(151,Aa.Bf.spec),(147,Dx.C6.spec),(148,soft.Finite.spec),(30,solve.D2.spec),(150,Ae.Finite.spec),(149,Ae.Ca.spec)]
def Dx.F0.E:Env:=A9 (A5 Dx.F0.A6) (fun _=>false) (fun _=>none) (fun _=>none)
theorem Dx.F0.ev (N:Nat) (r c:Int) (l:List Int) (p q:Int) (m:List Int) (u v:Int) (h:List Int) (x:Int):Bp Dx.F0.E N Tryz.f66 (An Tryz.f66) [.agg [.int .i64 r,.int .i64 c,.ints .arg .u64 l],.agg [.int .i64 p,.int .i64 q,.ints .arg .u64 m],.agg [.int .i64 u,.int .i64 v,.ints .arg .u64 h],.int .u64 x]=bif (N3 l m h) then bif ((M4 r c l p q m u v h) !=(0:Int)) then some (.tup [.agg [.int .i64 0,.int .i64 0,.nil],.int .i64 (M4 r c l p q m u v h)]) else bif (Af x) then bif (!(Cq x)) then some (.tup [.agg [.int .i64 0,.int .i64 0,.nil],.int .i64 4]) else bif ((((p !=r)||(q !=(1:Int)))||(v !=c))||(A4 6 (Ab (r+u)))) then some (.tup [.agg [.int .i64 0,.int .i64 0,.nil],.int .i64 3]) else bif ((Ck h&&Af x)&&Cu (List.length h≤64)) then bif (Ck (Cy x h)) then bif (!(Da (Cy x h))) then some (.tup [.agg [.int .i64 0,.int .i64 0,.nil],.int .i64 2]) else bif (Ai ((Dw r c l u v (Cy x h)).2.2.1)&&Ai ((Dw p q m ((Cx u 1).1) ((Cx u 1).2.1) ((Cx u 1).2.2.1)).2.2.1)) then some (.tup [.agg [.int .i64 ((Fl ((Dw r c l u v (Cy x h)).1) ((Dw r c l u v (Cy x h)).2.1) ((Dw r c l u v (Cy x h)).2.2.1) ((Dw p q m ((Cx u 1).1) ((Cx u 1).2.1) ((Cx u 1).2.2.1)).1) ((Dw p q m ((Cx u 1).1) ((Cx u 1).2.1) ((Cx u 1).2.2.1)).2.1) ((Dw p q m ((Cx u 1).1) ((Cx u 1).2.1) ((Cx u 1).2.2.1)).2.2.1)).1),.int .i64 ((Fl ((Dw r c l u v (Cy x h)).1) ((Dw r c l u v (Cy x h)).2.1) ((Dw r c l u v (Cy x h)).2.2.1) ((Dw p q m ((Cx u 1).1) ((Cx u 1).2.1) ((Cx u 1).2.2.1)).1) ((Dw p q m ((Cx u 1).1) ((Cx u 1).2.1) ((Cx u 1).2.2.1)).2.1) ((Dw p q m ((Cx u 1).1) ((Cx u 1).2.1) ((Cx u 1).2.2.1)).2.2.1)).2.1),.ints .fresh .u64 ((Fl ((Dw r c l u v (Cy x h)).1) ((Dw r c l u v (Cy x h)).2.1) ((Dw r c l u v (Cy x h)).2.2.1) ((Dw p q m ((Cx u 1).1) ((Cx u 1).2.1) ((Cx u 1).2.2.1)).1) ((Dw p q m ((Cx u 1).1) ((Cx u 1).2.1) ((Cx u 1).2.2.1)).2.1) ((Dw p q m ((Cx u 1).1) ((Cx u 1).2.1) ((Cx u 1).2.2.1)).2.2.1)).2.2.1)],.int .i64 ((Fl ((Dw r c l u v (Cy x h)).1) ((Dw r c l u v (Cy x h)).2.1) ((Dw r c l u v (Cy x h)).2.2.1) ((Dw p q m ((Cx u 1).1) ((Cx u 1).2.1) ((Cx u 1).2.2.1)).1) ((Dw p q m ((Cx u 1).1) ((Cx u 1).2.1) ((Cx u 1).2.2.1)).2.1) ((Dw p q m ((Cx u 1).1) ((Cx u 1).2.1) ((Cx u 1).2.2.1)).2.2.1)).2.2.2)]) else none else none else none else none else none :=
  Eq.trans (by kernel_rfl)
  (Ej (Ej rfl (Ej (Ej rfl (Aw (R7 (p !=r)) (Aw (P2 (p !=r)) (Aw (P2 (p !=r)) (Aw (Wt (p !=r)) (Aw (Adq (p !=r) (q !=(1:Int))) (Aw (Agf (p !=r) (q !=(1:Int))) (Aw (Adq (p !=r) (q !=(1:Int))) (Aw (Agf (p !=r) (q !=(1:Int))) (Aw (Apm (p !=r) (q !=(1:Int))) (Aw (Apr (p !=r) (q !=(1:Int))) (Aw (Ajj (p !=r) (q !=(1:Int)) (v !=c)) (Aw (Adr (p !=r) (q !=(1:Int)) (v !=c)) (Aw (Ajj (p !=r) (q !=(1:Int)) (v !=c)) (Aw (Adr (p !=r) (q !=(1:Int)) (v !=c)) (Aw (Arx (p !=r) (q !=(1:Int)) (v !=c)) (Aw (Adr (p !=r) (q !=(1:Int)) (v !=c)) (Aw (Aps (p !=r) (q !=(1:Int)) (v !=c)) (C2 (Arw (p !=r) (q !=(1:Int)) (v !=c) (A4 6 (Ab (r+u)))) rfl rfl))))))))))))))))))) rfl)) rfl)
abbrev _root_.Go.Proofs.S1.Dx.F0.Kn:=A3 Tryz.prog 66 Dx.F0.spec
theorem Dx.F0.Ac (hk:Ax Tryz.prog Dx.F0.A6) (h:∀ (r c:Int) (l:List Int) (p q:Int) (m:List Int) (u v:Int) (h:List Int) (x:Int),Dx.F0.pre [.i r,.i c,.l l,.i p,.i q,.l m,.i u,.i v,.l h,.i x]=true→A8 Dx.F0.E Tryz.f66 [.agg [.int .i64 r,.int .i64 c,.ints .arg .u64 l],.agg [.int .i64 p,.int .i64 q,.ints .arg .u64 m],.agg [.int .i64 u,.int .i64 v,.ints .arg .u64 h],.int .u64 x] (Dx.F0.out [.i r,.i c,.l l,.i p,.i q,.l m,.i u,.i v,.l h,.i x])):Dx.F0.Kn :=
  Ak (Az hk _ _ _) Tryz.func66 (by kernel_rfl) (by kernel_rfl) h
end EqRidge
open EqRidge
theorem Kg (x:Int) (l:List Int):(Cy x l).length=l.length:=by unfold Cy; rw [List.length_map]
theorem Q7 (x:Int) (l:List Int):Ai (Cy x l)=true:=Ar.2 fun y hy=>by
  obtain ⟨b,_,rfl⟩:=List.mem_map.1 hy
  exact Jg _ _
theorem Vy (x:Int) (l:List Int):(List.range l.length).map (fun j=>D1 x (l.getD j 0))=Cy x l:=by
  refine Ui (by rw [List.length_map,List.length_range,Kg]) fun j hj=>?_
  rw [List.length_map,List.length_range] at hj
  unfold Cy
  rw [List.getElem?_map,List.getElem?_map,List.getElem?_range hj,Aya hj]
  simp only [Option.map_some,Ax3,Aya hj,Option.getD_some]
theorem Ae.Er.known:Ae.Er.Kn:=Ae.Er.Ac (.cons Ae.Mul.known .nil) fun i x l hp=>by
  obtain ⟨h1,hx⟩:=Ad.1 (show ((Cu (0≤i∧i<List.length l)&&Ai l)&&Af x)=true from hp)
  obtain ⟨h2,al⟩:=Ad.1 h1
  have h3:=Ar.1 h2
  refine ⟨0,Ae.Er.out [.i i,.i x,.l l],[],?_,.int⟩
  rw [Ae.Er.ev,Axu h3.1,Axu h3.2,Axz,Axt,hx,Pv al (by omega),Axz,Axt]
  rfl
theorem Wn (N:Nat) {x:Int} {l:List Int} (al:Ai l=true) (hx:Af x=true) (h64:l.length≤64):∀ (k i F:Nat),i+k=l.length→k<F →
    Ae.each.Ca.L0 N F (l.length:Int) x l (i:Int) ((List.range i).map fun j=>D1 x (l.getD j 0))=some (.ints (.own 100005 tB) .u64 (Cy x l)):=by
  intro k
  induction k with
  | zero =>
    intro i F hi hF
    obtain ⟨F,rfl⟩:∃ G,F=G+1:=⟨F-1,by omega⟩
    obtain rfl:i=l.length:=by omega
    rw [Ae.each.Ca.Au,As,Axy (by omega),Axx,Vy]
  | succ k ih =>
    intro i F hi hF
    obtain ⟨F,rfl⟩:∃ G,F=G+1:=⟨F-1,by omega⟩
    have:=ih (i+1) F (by omega) (by omega)
    rw [Gz] at this
    rw [Ae.each.Ca.Au,As,Axu (by omega),Axt,Ar.2 (show 0≤(i:Int)∧(i:Int)<(l.length:Int) by omega),al,hx,Axz,Axz,Axt,
      Axu (by rw [List.length_map,List.length_range]; unfold Gp; omega),Axt,Am (by omega) (by omega),Axv]
    exact this
theorem Ae.each.Ca.known:Ae.each.Ca.Kn:=Ae.each.Ca.Ac (.cons Ae.Er.known .nil) fun n x l hp=>by
  obtain ⟨h1,hx⟩:=Ad.1 (show ((Cu (0≤n∧n≤64∧n=List.length l)&&Ai l)&&Af x)=true from hp)
  obtain ⟨h2,al⟩:=Ad.1 h1
  obtain ⟨h3,h4,rfl⟩:=Ar.1 h2
  refine ⟨65,.ints (.own 100005 tB) .u64 (Cy x l),[100005],?_,.drop _ _ _ _ (List.mem_singleton.2 rfl)⟩
  rw [Ae.each.Ca.ev]
  exact Wn 65 al hx (by omega) l.length 0 65 (by omega) (by omega)
theorem Ae.Ca.known:Ae.Ca.Kn:=Ae.Ca.Ac (.cons Ae.each.Ca.known .nil) fun x l hp=>by
  obtain ⟨h1,h2⟩:=Ad.1 (show ((Ck l&&Af x)&&Cu (List.length l≤64))=true from hp)
  obtain ⟨ol,hx⟩:=Ad.1 h1
  have h2:=Ar.1 h2
  refine ⟨0,Ae.Ca.out [.i x,.l l],[],?_,Wk.Gw (.cons .Ny (.cons .int .nil))⟩
  rw [Ae.Ca.ev,As,Axy (by omega),Axx,Ar.2 (show 0≤(l.length:Int)∧(l.length:Int)≤64∧(l.length:Int)=l.length by omega),Rs ol,hx,Axz,Axz,Axt]
  rfl
theorem Dx.C6.known:Dx.C6.Kn:=Dx.C6.Ac (.cons Ct.Check.known .nil) fun r c l p q m u v h hp=>by
  obtain ⟨h1,ah⟩:=Ad.1 (show ((Ai l&&Ai m)&&Ai h)=true from hp)
  obtain ⟨al,am⟩:=Ad.1 h1
  refine ⟨0+5,.int .i64 (M4 r c l p q m u v h),[],?_,.int⟩
  rw [Dx.C6.ev,al,am,ah,Axt,Axt,Axt]
  unfold M4
  by_cases k1:Cd r c l=0
  · rw [Gv k1,Axx,if_neg (fun h=>h k1)]
    by_cases k2:Cd p q m=0
    · rw [Gv k2,Axx,if_neg (fun h=>h k2)]
      by_cases k4:Cd u v h=0
      · rw [Gv k4,Axx,k4]
      · rw [V7 k4,Axt]
    · rw [V7 k2,Axt,if_pos k2]
  · rw [V7 k1,Axt,if_pos k1]
theorem Vt {r c:Int} {l:List Int} {p q:Int} {m:List Int} {u v:Int} {h:List Int} (e:M4 r c l p q m u v h=0):Cd r c l=0∧Cd p q m=0∧Cd u v h=0:=by
  unfold M4 at e
  by_cases k1:Cd r c l=0
  · rw [if_neg (fun h=>h k1)] at e
    by_cases k2:Cd p q m=0
    · rw [if_neg (fun h=>h k2)] at e; exact ⟨k1,k2,e⟩
    · rw [if_pos k2] at e; exact absurd e k2
  · rw [if_pos k1] at e; exact absurd e k1
theorem Aaj {r c p q u v:Int} (h:0≤r∧r≤6) (h':0≤u∧u≤6) :
    ((((p !=r)||(q !=(1:Int)))||(v !=c))||(A4 (6:Int) (Ab (r+u))))=decide (p≠r∨q≠1∨v≠c∨6<r+u):=by
  rw [Am (by omega) (by omega),As,Ax9]
  simp [or_assoc]
theorem Aeq {l:List Int} (h:l.length≤36) (al:Ai l=true):Ck l=true:=Ar.2 ⟨by omega,Ar.1 al⟩
section
variable {r c p q u v x:Int} {l m h:List Int}
theorem Tx {e:Int} (k:Oa r c l p q m u v h x=e) (he:e≠0):Dy r c l p q m u v h x=Ke e:=by
  unfold Dy; rw [k,if_pos he]
theorem Aif (k:Oa r c l p q m u v h x=0):Dy r c l p q m u v h x=Ahd (Arn r c l u v h x) (Ad4 p q m u):=by
  unfold Dy; rw [if_neg (fun h=>h k)]
theorem Agv (k:M4 r c l p q m u v h≠0):Oa r c l p q m u v h x=M4 r c l p q m u v h:=by unfold Oa; rw [if_pos k]
theorem Agu (k:M4 r c l p q m u v h=0) (k2:Cq x=false):Oa r c l p q m u v h x=4:=by
  unfold Oa; rw [if_neg (fun h=>h k),if_pos k2]
theorem Agt (k:M4 r c l p q m u v h=0) (k2:Cq x=true) (k3:p≠r∨q≠1∨v≠c∨6<r+u):Oa r c l p q m u v h x=3:=by
  unfold Oa; rw [if_neg (fun h=>h k),k2,if_neg (by decide),if_pos k3]
theorem Ags (k:M4 r c l p q m u v h=0) (k2:Cq x=true) (k3:¬ (p≠r∨q≠1∨v≠c∨6<r+u)) (k4:Da (Cy x h)=false):Oa r c l p q m u v h x=2:=by
  unfold Oa; rw [if_neg (fun h=>h k),k2,if_neg (by decide),if_neg k3,if_pos k4]
theorem Amp (k:M4 r c l p q m u v h=0) (k2:Cq x=true) (k3:¬ (p≠r∨q≠1∨v≠c∨6<r+u)) (k4:Da (Cy x h)=true):Oa r c l p q m u v h x=0:=by
  unfold Oa; rw [if_neg (fun h=>h k),k2,if_neg (by decide),if_neg k3,k4,if_neg (by decide)]
end
theorem Dx.F0.known:Dx.F0.Kn:=Dx.F0.Ac (.cons Aa.Stack.known (.cons Aa.Bf.known (.cons Dx.C6.known (.cons soft.Finite.known (.cons solve.D2.known (.cons Ae.Finite.known (.cons Ae.Ca.known .nil))))))) fun r c l p q m u v h x hp=>T4 (by
  obtain ⟨h0,hx⟩:=Ad.1 (show (N3 l m h&&Af x)=true from hp)
  obtain ⟨h1,ah⟩:=Ad.1 (show ((Ai l&&Ai m)&&Ai h)=true from h0)
  obtain ⟨al,am⟩:=Ad.1 h1
  show Ats _ (Dy r c l p q m u v h x)
  rw [Dx.F0.ev,h0,Axt]
  by_cases k:M4 r c l p q m u v h=0
  · obtain ⟨k1,k2,k3⟩:=Vt k
    rw [Gv k,Axx,hx,Axt]
    cases hf:Cq x with
    | false =>
      rw [Bool.not_false,Axt,Tx (Agu k hf) (by decide)]
      exact W1 rfl
    | true =>
      have s1:=Tw (D5 k1).1
      have s3:=Tw (D5 k3).1
      rw [Bool.not_true,Axx,Aaj ⟨s1.1,s1.2.1⟩ ⟨s3.1,s3.2.1⟩]
      by_cases ks:p≠r∨q≠1∨v≠c∨6<r+u
      · rw [Axu ks,Axt,Tx (Agt k hf ks) (by decide)]
        exact W1 rfl
      · obtain ⟨R,C,_,_,hm,_⟩:=P3.As5 k3 ah
        have hl:h.length≤36:=hm.len
        rw [Axy ks,Axx,Aeq hl ah,Axz,Ar.2 (show h.length≤64 by omega),Axz,Axt,Aeq (by rw [Kg]; exact hl) (Q7 x h),Axt]
        cases hg:Da (Cy x h) with
        | false =>
          rw [Bool.not_false,Axt,Tx (Ags k hf ks hg) (by decide)]
          exact W1 rfl
        | true =>
          have az:Ai (Cx u 1).2.2.1=true:=by
            unfold Cx
            split
            · exact (show Ai (B5 _ _ fun _ _=>0)=true from Ge fun _ _=>H0)
            · exact Le
          rw [Bool.not_true,Axx,Aif (Amp k hf ks hg),Aae al (Q7 x h),Aae am az,Axz,Axt]
          exact Aqd rfl
  · rw [V7 k,Axt,Tx (Agv k) k]
    exact W1 rfl)
namespace EqRef22
def Ag.Ca.hint:Nat→Option Ba
  | 0=>some { keep:=[0,1,5,6],objs:=[(0,5,100005,.ints 37 .u64 [])],boxes:=[] }
  | _=>none
def Ag.Ca.A6:List (Nat × Entry):=[(82,Ag.Mul.spec)]
def Ag.Ca.E:Env:=A9 (A5 Ag.Ca.A6) (fun _=>false) Ag.Ca.hint (fun _=>none)
def Ag.Ca.L0 (N M:Nat) (x:Int) (l:List Int) (p6:Int) (p5:List Int):Option DV:=Bz Ag.Ca.E N Tryz.f154 (An Tryz.f154) [1,1,0,1,0] [] M ⟨Gl 24 [(0,.int .u64 x),(1,.ints .arg .u64 l),(5,.oref 100005),(6,.int .i64 p6)],[(100005,false,.ints 37 .u64 p5)]⟩
theorem Ag.Ca.Au (N M:Nat) (x:Int) (l:List Int) (p6:Int) (p5:List Int):Ag.Ca.L0 N (M+1) x l p6 p5=bif (A4 p6 (List.length l:Int)) then bif ((decide (0≤p6))&&(decide (p6<(List.length l:Int)))) then bif (Af x&&Af (List.getD l (Int.toNat p6) 0)) then bif (decide ((List.length p5)+1≤Gp)) then Ag.Ca.L0 N M x l (Ab (p6+1)) (p5++[(D1 x (List.getD l (Int.toNat p6) 0))]) else none else none else none else some (.ints (.own 100005 37) .u64 p5):=by kernel_rfl
theorem Ag.Ca.ev (N:Nat) (x:Int) (l:List Int):Bp Ag.Ca.E N Tryz.f154 (An Tryz.f154) [.int .u64 x,.ints .arg .u64 l] =
  Ag.Ca.L0 N N x l 0 []:=by kernel_rfl
abbrev _root_.Go.Proofs.S1.Ag.Ca.Kn:=A3 Tryz.prog 154 Ag.Ca.spec
theorem Ag.Ca.Ac (hk:Ax Tryz.prog Ag.Ca.A6) (h:∀ (x:Int) (l:List Int),Ag.Ca.pre [.i x,.l l]=true→A8 Ag.Ca.E Tryz.f154 [.int .u64 x,.ints .arg .u64 l] (Ag.Ca.out [.i x,.l l])):Ag.Ca.Kn :=
  Ak (Az hk _ _ _) Tryz.func154 (by kernel_rfl) (by kernel_rfl) h
def Bx.C6.A6:List (Nat × Entry):=[(25,Gs.Check.spec)]
def Bx.C6.E:Env:=A9 (A5 Bx.C6.A6) (fun _=>false) (fun _=>none) (fun _=>none)
theorem Bx.C6.ev (N:Nat) (r c:Int) (l:List Int) (p q:Int) (m:List Int) (u v:Int) (h:List Int):Bp Bx.C6.E N Tryz.f153 (An Tryz.f153) [.agg [.int .i64 r,.int .i64 c,.ints .arg .u64 l],.agg [.int .i64 p,.int .i64 q,.ints .arg .u64 m],.agg [.int .i64 u,.int .i64 v,.ints .arg .u64 h]]=bif (Ai l) then bif ((Cd r c l) !=(0:Int)) then bif (Ai l) then some (.int .i64 (Cd r c l)) else none else bif (Ai m) then bif ((Cd p q m) !=(0:Int)) then bif (Ai m) then some (.int .i64 (Cd p q m)) else none else bif (Ai h) then some (.int .i64 (Cd u v h)) else none else none else none:=by kernel_rfl
abbrev _root_.Go.Proofs.S1.Bx.C6.Kn:=A3 Tryz.prog 153 Bx.C6.spec
theorem Bx.C6.Ac (hk:Ax Tryz.prog Bx.C6.A6) (h:∀ (r c:Int) (l:List Int) (p q:Int) (m:List Int) (u v:Int) (h:List Int),Bx.C6.pre [.i r,.i c,.l l,.i p,.i q,.l m,.i u,.i v,.l h]=true→A8 Bx.C6.E Tryz.f153 [.agg [.int .i64 r,.int .i64 c,.ints .arg .u64 l],.agg [.int .i64 p,.int .i64 q,.ints .arg .u64 m],.agg [.int .i64 u,.int .i64 v,.ints .arg .u64 h]] (Bx.C6.out [.i r,.i c,.l l,.i p,.i q,.l m,.i u,.i v,.l h])):Bx.C6.Kn :=
  Ak (Az hk _ _ _) Tryz.func153 (by kernel_rfl) (by kernel_rfl) h
def Bx.Zr.A6:List (Nat × Entry):=[(154,Ag.Ca.spec),(72,Aj.Stack.spec)]
def Bx.Zr.E:Env:=A9 (A5 Bx.Zr.A6) (fun _=>false) (fun _=>none) (fun _=>none)
theorem Bx.Zr.ev (N:Nat) (r c:Int) (l:List Int) (u v:Int) (h:List Int) (x:Int):Bp Bx.Zr.E N Tryz.f74 (An Tryz.f74) [.agg [.int .i64 r,.int .i64 c,.ints .arg .u64 l],.agg [.int .i64 u,.int .i64 v,.ints .arg .u64 h],.int .u64 x]=bif ((Ck h&&Af x)&&Cu (List.length h≤64)) then bif ((A0 r c l&&A0 u v (Cy x h))&&decide (v=c)) then some (.agg [.int .i64 (r+u),.int .i64 c,.ints .fresh .u64 (l++(Cy x h))]) else none else none :=
  Eq.trans (by kernel_rfl)
  (C2 (Cs ((Ck h&&Af x)&&Cu (List.length h≤64))) (C2 (Cs ((A0 r c l&&A0 u v (Cy x h))&&decide (v=c))) rfl rfl) rfl)
abbrev _root_.Go.Proofs.S1.Bx.Zr.Kn:=A3 Tryz.prog 74 Bx.Zr.spec
theorem Bx.Zr.Ac (hk:Ax Tryz.prog Bx.Zr.A6) (h:∀ (r c:Int) (l:List Int) (u v:Int) (h:List Int) (x:Int),Bx.Zr.pre [.i r,.i c,.l l,.i u,.i v,.l h,.i x]=true→A8 Bx.Zr.E Tryz.f74 [.agg [.int .i64 r,.int .i64 c,.ints .arg .u64 l],.agg [.int .i64 u,.int .i64 v,.ints .arg .u64 h],.int .u64 x] (Bx.Zr.out [.i r,.i c,.l l,.i u,.i v,.l h,.i x])):Bx.Zr.Kn :=
  Ak (Az hk _ _ _) Tryz.func74 (by kernel_rfl) (by kernel_rfl) h
def Bx.M9.A6:List (Nat × Entry):=[(72,Aj.Stack.spec),(35,Aj.Bf.spec)]
def Bx.M9.E:Env:=A9 (A5 Bx.M9.A6) (fun _=>false) (fun _=>none) (fun _=>none)
theorem Bx.M9.ev (N:Nat) (p q:Int) (m:List Int) (u v:Int) (h:List Int):Bp Bx.M9.E N Tryz.f73 (An Tryz.f73) [.agg [.int .i64 p,.int .i64 q,.ints .arg .u64 m],.agg [.int .i64 u,.int .i64 v,.ints .arg .u64 h]]=bif (Bg u&&Bg 1) then bif ((A0 p q m&&A0 u 1 (B5 (Int.toNat u) (Int.toNat 1) (fun _ _=>0)))&&decide ((1:Int)=q)) then some (.agg [.int .i64 (p+u),.int .i64 q,.ints .fresh .u64 (m++(B5 (Int.toNat u) (Int.toNat 1) (fun _ _=>0)))]) else none else none :=
  Eq.trans (by kernel_rfl)
  (C2 (Cs (Bg u&&Bg 1)) (C2 (Cs ((A0 p q m&&A0 u 1 (B5 (Int.toNat u) (Int.toNat 1) (fun _ _=>0)))&&decide ((1:Int)=q))) rfl rfl) rfl)
abbrev _root_.Go.Proofs.S1.Bx.M9.Kn:=A3 Tryz.prog 73 Bx.M9.spec
theorem Bx.M9.Ac (hk:Ax Tryz.prog Bx.M9.A6) (h:∀ (p q:Int) (m:List Int) (u v:Int) (h:List Int),Bx.M9.pre [.i p,.i q,.l m,.i u,.i v,.l h]=true→A8 Bx.M9.E Tryz.f73 [.agg [.int .i64 p,.int .i64 q,.ints .arg .u64 m],.agg [.int .i64 u,.int .i64 v,.ints .arg .u64 h]] (Bx.M9.out [.i p,.i q,.l m,.i u,.i v,.l h])):Bx.M9.Kn :=
  Ak (Az hk _ _ _) Tryz.func73 (by kernel_rfl) (by kernel_rfl) h
def Bx.Dm.A6:List (Nat × Entry):=[(131,A1.Finite.spec),(92,Ag.Finite.spec),(154,Ag.Ca.spec),(153,Bx.C6.spec)]
def Bx.Dm.E:Env:=A9 (A5 Bx.Dm.A6) (fun _=>false) (fun _=>none) (fun _=>none)
theorem Bx.Dm.ev (N:Nat) (r c:Int) (l:List Int) (p q:Int) (m:List Int) (u v:Int) (h:List Int) (x:Int):Bp Bx.Dm.E N Tryz.f71 (An Tryz.f71) [.agg [.int .i64 r,.int .i64 c,.ints .arg .u64 l],.agg [.int .i64 p,.int .i64 q,.ints .arg .u64 m],.agg [.int .i64 u,.int .i64 v,.ints .arg .u64 h],.int .u64 x]=bif (N3 l m h) then bif ((M4 r c l p q m u v h) !=(0:Int)) then bif (N3 l m h) then some (.int .i64 (M4 r c l p q m u v h)) else none else bif (Af x) then bif (!(Cq x)) then some (.int .i64 4) else bif ((((p !=r)||(q !=(1:Int)))||(v !=c))||(A4 6 (Ab (r+u)))) then some (.int .i64 3) else bif ((Ck h&&Af x)&&Cu (List.length h≤64)) then bif (Ck (Cy x h)) then bif (!(Da (Cy x h))) then some (.int .i64 2) else some (.int .i64 0) else none else none else none else none :=
  Eq.trans (by kernel_rfl)
  (Ej (Ej rfl (Ej (Ej rfl (Aw (R7 (p !=r)) (Aw (P2 (p !=r)) (Aw (P2 (p !=r)) (Aw (Wt (p !=r)) (Aw (Adq (p !=r) (q !=(1:Int))) (Aw (Agf (p !=r) (q !=(1:Int))) (Aw (Adq (p !=r) (q !=(1:Int))) (Aw (Agf (p !=r) (q !=(1:Int))) (Aw (Apm (p !=r) (q !=(1:Int))) (Aw (Apr (p !=r) (q !=(1:Int))) (Aw (Ajj (p !=r) (q !=(1:Int)) (v !=c)) (Aw (Adr (p !=r) (q !=(1:Int)) (v !=c)) (Aw (Ajj (p !=r) (q !=(1:Int)) (v !=c)) (Aw (Adr (p !=r) (q !=(1:Int)) (v !=c)) (Aw (Arx (p !=r) (q !=(1:Int)) (v !=c)) (Aw (Adr (p !=r) (q !=(1:Int)) (v !=c)) (Aw (Aps (p !=r) (q !=(1:Int)) (v !=c)) (C2 (Arw (p !=r) (q !=(1:Int)) (v !=c) (A4 6 (Ab (r+u)))) rfl rfl))))))))))))))))))) rfl)) rfl)
abbrev _root_.Go.Proofs.S1.Bx.Dm.Kn:=A3 Tryz.prog 71 Bx.Dm.spec
theorem Bx.Dm.Ac (hk:Ax Tryz.prog Bx.Dm.A6) (h:∀ (r c:Int) (l:List Int) (p q:Int) (m:List Int) (u v:Int) (h:List Int) (x:Int),Bx.Dm.pre [.i r,.i c,.l l,.i p,.i q,.l m,.i u,.i v,.l h,.i x]=true→A8 Bx.Dm.E Tryz.f71 [.agg [.int .i64 r,.int .i64 c,.ints .arg .u64 l],.agg [.int .i64 p,.int .i64 q,.ints .arg .u64 m],.agg [.int .i64 u,.int .i64 v,.ints .arg .u64 h],.int .u64 x] (Bx.Dm.out [.i r,.i c,.l l,.i p,.i q,.l m,.i u,.i v,.l h,.i x])):Bx.Dm.Kn :=
  Ak (Az hk _ _ _) Tryz.func71 (by kernel_rfl) (by kernel_rfl) h
def Bx.F0.A6:List (Nat × Entry):=[(32,A7.D2.spec),(74,Bx.Zr.spec),(71,Bx.Dm.spec),(73,Bx.M9.spec)]
def Bx.F0.E:Env:=A9 (A5 Bx.F0.A6) (fun _=>false) (fun _=>none) (fun _=>none)
theorem Bx.F0.ev (N:Nat) (r c:Int) (l:List Int) (p q:Int) (m:List Int) (u v:Int) (h:List Int) (x:Int):Bp Bx.F0.E N Tryz.f67 (An Tryz.f67) [.agg [.int .i64 r,.int .i64 c,.ints .arg .u64 l],.agg [.int .i64 p,.int .i64 q,.ints .arg .u64 m],.agg [.int .i64 u,.int .i64 v,.ints .arg .u64 h],.int .u64 x]=bif (N3 l m h&&Af x) then bif ((Oa r c l p q m u v h x) !=(0:Int)) then bif (N3 l m h&&Af x) then some (.tup [.agg [.int .i64 0,.int .i64 0,.nil],.int .i64 (Oa r c l p q m u v h x)]) else none else bif (((A0 r c l&&A0 u v h)&&(Ai h&&Af x))&&decide (v=c)) then bif ((A0 p q m&&Bg u)&&decide (q=1)) then bif (Ai (l++Cy x h)&&Ai (m++List.replicate (Int.toNat u) 0)) then some (.tup [.agg [.int .i64 ((Fl (r+u) c (l++Cy x h) (p+u) 1 (m++List.replicate (Int.toNat u) 0)).1),.int .i64 ((Fl (r+u) c (l++Cy x h) (p+u) 1 (m++List.replicate (Int.toNat u) 0)).2.1),.ints .arg .u64 ((Fl (r+u) c (l++Cy x h) (p+u) 1 (m++List.replicate (Int.toNat u) 0)).2.2.1)],.int .i64 ((Fl (r+u) c (l++Cy x h) (p+u) 1 (m++List.replicate (Int.toNat u) 0)).2.2.2)]) else none else none else none else none :=
  Eq.trans (by kernel_rfl)
  (Ej (Ej rfl (C2 (Cs (((A0 r c l&&A0 u v h)&&(Ai h&&Af x))&&decide (v=c))) (C2 (Cs ((A0 p q m&&Bg u)&&decide (q=1))) (C2 (Cs (Ai (l++Cy x h)&&Ai (m++List.replicate (Int.toNat u) 0))) rfl rfl) rfl) rfl)) rfl)
abbrev _root_.Go.Proofs.S1.Bx.F0.Kn:=A3 Tryz.prog 67 Bx.F0.spec
theorem Bx.F0.Ac (hk:Ax Tryz.prog Bx.F0.A6) (h:∀ (r c:Int) (l:List Int) (p q:Int) (m:List Int) (u v:Int) (h:List Int) (x:Int),Bx.F0.pre [.i r,.i c,.l l,.i p,.i q,.l m,.i u,.i v,.l h,.i x]=true→A8 Bx.F0.E Tryz.f67 [.agg [.int .i64 r,.int .i64 c,.ints .arg .u64 l],.agg [.int .i64 p,.int .i64 q,.ints .arg .u64 m],.agg [.int .i64 u,.int .i64 v,.ints .arg .u64 h],.int .u64 x] (Bx.F0.out [.i r,.i c,.l l,.i p,.i q,.l m,.i u,.i v,.l h,.i x])):Bx.F0.Kn :=
  Ak (Az hk _ _ _) Tryz.func67 (by kernel_rfl) (by kernel_rfl) h
end EqRef22
open EqRef22
theorem Xz (N:Nat) {x:Int} {l:List Int} (al:Ai l=true) (hx:Af x=true) (h64:l.length≤64):∀ (k i F:Nat),i+k=l.length→k<F →
    Ag.Ca.L0 N F x l (i:Int) ((List.range i).map fun j=>D1 x (l.getD j 0))=some (.ints (.own 100005 tB) .u64 (Cy x l)):=by
  intro k
  induction k with
  | zero =>
    intro i F hi hF
    obtain ⟨F,rfl⟩:∃ G,F=G+1:=⟨F-1,by omega⟩
    obtain rfl:i=l.length:=by omega
    rw [Ag.Ca.Au,As,Axy (by omega),Axx,Vy]
  | succ k ih =>
    intro i F hi hF
    obtain ⟨F,rfl⟩:∃ G,F=G+1:=⟨F-1,by omega⟩
    have:=ih (i+1) F (by omega) (by omega)
    rw [Gz] at this
    rw [Ag.Ca.Au,As,Axu (by omega),Axt,Axu (show (0:Int)≤(i:Int) by omega),Axz,Axt,Axv,hx,Pv al (by omega),Axz,Axt,
      Axu (by rw [List.length_map,List.length_range]; unfold Gp; omega),Axt,Am (by omega) (by omega)]
    exact this
theorem Ag.Ca.known:Ag.Ca.Kn:=Ag.Ca.Ac (.cons Ag.Mul.known .nil) fun x l hp=>by
  obtain ⟨h1,h2⟩:=Ad.1 (show ((Ck l&&Af x)&&Cu (List.length l≤64))=true from hp)
  obtain ⟨ol,hx⟩:=Ad.1 h1
  have h2:=Ar.1 h2
  refine ⟨65,.ints (.own 100005 tB) .u64 (Cy x l),[100005],?_,.drop _ _ _ _ (List.mem_singleton.2 rfl)⟩
  rw [Ag.Ca.ev]
  exact Xz 65 (Rs ol) hx h2 l.length 0 65 (by omega) (by omega)
theorem Bx.C6.known:Bx.C6.Kn:=Bx.C6.Ac (.cons Gs.Check.known .nil) fun r c l p q m u v h hp=>by
  obtain ⟨h1,ah⟩:=Ad.1 (show ((Ai l&&Ai m)&&Ai h)=true from hp)
  obtain ⟨al,am⟩:=Ad.1 h1
  refine ⟨0,.int .i64 (M4 r c l p q m u v h),[],?_,.int⟩
  rw [Bx.C6.ev,al,am,ah]
  simp only [Axt]
  unfold M4
  by_cases k1:Cd r c l=0
  · rw [Gv k1,Axx,if_neg (fun h=>h k1)]
    by_cases k2:Cd p q m=0
    · rw [Gv k2,Axx,if_neg (fun h=>h k2)]
    · rw [V7 k2,Axt,if_pos k2]
  · rw [V7 k1,Axt,if_pos k1]
theorem Aed {u v x:Int} {h:List Int} (hr:A0 u v h=true):A0 u v (Cy x h)=true:=by
  obtain ⟨U,V,rfl,rfl,u6,v6,hl⟩:=Cc hr
  exact Fe u6 v6 (by rw [Kg]; exact hl)
theorem Bx.Zr.known:Bx.Zr.Kn:=Bx.Zr.Ac (.cons Ag.Ca.known (.cons Aj.Stack.known .nil)) fun r c l u v h x hp=>T4 (by
  obtain ⟨h1,hv⟩:=Ad.1 (show (((A0 r c l&&A0 u v h)&&(Ai h&&Af x))&&decide (v=c))=true from hp)
  obtain ⟨h2,h3⟩:=Ad.1 h1
  obtain ⟨hr,hu⟩:=Ad.1 h2
  obtain ⟨ah,hx⟩:=Ad.1 h3
  have hl:=Kh hu
  rw [Bx.Zr.ev,Aeq hl ah,hx,Ar.2 (show h.length≤64 by omega),hr,Aed hu,hv]
  exact ⟨_,[],rfl,Ars⟩)
theorem Bx.M9.known:Bx.M9.Kn:=Bx.M9.Ac (.cons Aj.Stack.known (.cons Aj.Bf.known .nil)) fun p q m u v h hp=>T4 (by
  obtain ⟨h1,hq⟩:=Ad.1 (show ((A0 p q m&&Bg u)&&decide (q=1))=true from hp)
  obtain ⟨hr,hu⟩:=Ad.1 h1
  obtain rfl:=of_decide_eq_true hq
  obtain ⟨U,rfl,hU⟩:=Ek hu
  have e1:B5 (Int.toNat (U:Int)) (Int.toNat (1:Int)) (fun _ _=>0)=List.replicate (Int.toNat (U:Int)) 0:=by
    rw [Sz,Axv]
    show List.replicate (U*1) (0:Int)=_
    rw [Nat.mul_one]
  have e2:A0 (U:Int) 1 (List.replicate (Int.toNat (U:Int)) 0)=true:=Fe (r:=U) (c:=1) hU (by decide) (by rw [List.length_replicate,Axv,Nat.mul_one])
  rw [Bx.M9.ev,e1,e2,hr,hu,show Bg 1=true from rfl,Axu rfl]
  exact ⟨_,[],rfl,Ars⟩)
theorem Bx.Dm.known:Bx.Dm.Kn:=Bx.Dm.Ac (.cons A1.Finite.known (.cons Ag.Finite.known (.cons Ag.Ca.known (.cons Bx.C6.known .nil)))) fun r c l p q m u v h x hp=>by
  obtain ⟨h0,hx⟩:=Ad.1 (show (N3 l m h&&Af x)=true from hp)
  obtain ⟨h1,ah⟩:=Ad.1 (show ((Ai l&&Ai m)&&Ai h)=true from h0)
  refine ⟨0,.int .i64 (Oa r c l p q m u v h x),[],?_,.int⟩
  rw [Bx.Dm.ev,h0,Axt]
  by_cases k:M4 r c l p q m u v h=0
  · obtain ⟨k1,k2,k3⟩:=Vt k
    rw [Gv k,Axx,hx,Axt]
    cases hf:Cq x with
    | false=>rw [Bool.not_false,Axt,Agu k hf]
    | true =>
      have s1:=Tw (D5 k1).1
      have s3:=Tw (D5 k3).1
      rw [Bool.not_true,Axx,Aaj ⟨s1.1,s1.2.1⟩ ⟨s3.1,s3.2.1⟩]
      by_cases ks:p≠r∨q≠1∨v≠c∨6<r+u
      · rw [Axu ks,Axt,Agt k hf ks]
      · have hl:=Kh (D5 k3).1
        rw [Axy ks,Axx,Aeq hl ah,Axz,Ar.2 (show h.length≤64 by omega),Axz,Axt,Aeq (by rw [Kg]; exact hl) (Q7 x h),Axt]
        cases hg:Da (Cy x h) with
        | false=>rw [Bool.not_false,Axt,Ags k hf ks hg]
        | true=>rw [Bool.not_true,Axx,Amp k hf ks hg]
  · rw [V7 k,Axt,Axt,Agv k]
theorem Aj1 {r c:Int} {l:List Int} {p q:Int} {m:List Int} {u v:Int} {h:List Int} {x:Int} (e:Oa r c l p q m u v h x=0) :
    Cd r c l=0∧Cd p q m=0∧Cd u v h=0∧Cq x=true∧p=r∧q=1∧v=c∧r+u≤6∧Da (Cy x h)=true:=by
  by_cases k:M4 r c l p q m u v h=0
  · obtain ⟨k1,k2,k3⟩:=Vt k
    cases hf:Cq x with
    | false=>rw [Agu k hf] at e; exact absurd e (by decide)
    | true =>
      by_cases ks:p≠r∨q≠1∨v≠c∨6<r+u
      · rw [Agt k hf ks] at e; exact absurd e (by decide)
      · cases hg:Da (Cy x h) with
        | false=>rw [Ags k hf ks hg] at e; exact absurd e (by decide)
        | true=>exact ⟨k1,k2,k3,rfl,by omega,by omega,by omega,by omega,rfl⟩
  · rw [Agv k] at e; exact absurd e k
theorem Ao3 {R U C:Nat} {l h:List Int} {x:Int} (hR:R+U≤6) (c6:C≤6) (hl:l.length=R*C) (hh:h.length=U*C) :
    Arn (R:Int) (C:Int) l (U:Int) (C:Int) h x=((R:Int)+(U:Int),(C:Int),l++Cy x h,0):=by
  unfold Arn Dw
  rw [Fe (by omega) c6 hl,Fe (by omega) c6 (show (Cy x h).length=U*C by rw [Kg]; exact hh),Axz,if_pos rfl,if_pos ⟨rfl,by omega⟩,
    show ((R:Int)+(U:Int)).toNat=R+U by omega,Axv,Xo hl (by rw [Kg]; exact hh)]
theorem Ajp {R U:Nat} {m:List Int} (hR:R+U≤6) (hm:m.length=R*1) :
    Ad4 (R:Int) 1 m (U:Int)=((R:Int)+(U:Int),1,m++List.replicate (Int.toNat (U:Int)) 0,0):=by
  have ez:Cx (U:Int) 1=((U:Int),1,List.replicate U 0,0):=by
    unfold Cx
    rw [show (Bg (U:Int)&&Bg 1)=true by rw [Nh (show U≤6 by omega)]; rfl,if_pos rfl,Sz]
    show ((U:Int),(1:Int),List.replicate ((U:Int).toNat*1) (0:Int),(0:Int))=_
    rw [Nat.mul_one,Axv]
  have hz:(List.replicate U (0:Int)).length=U*1:=by rw [List.length_replicate,Nat.mul_one]
  unfold Ad4
  rw [ez]
  unfold Dw
  dsimp only
  rw [show A0 (R:Int) 1 m=true from Fe (c:=1) (by omega) (by decide) hm,show A0 (U:Int) 1 (List.replicate U (0:Int))=true from Fe (c:=1) (by omega) (by decide) hz,Axz,if_pos rfl,if_pos ⟨rfl,by omega⟩,
    show ((R:Int)+(U:Int)).toNat=R+U by omega,show (1:Int).toNat=1 from rfl,Axv]
  have:=Xo (R:=R) (P:=U) (C:=1) hm hz
  rw [show ((1:Nat):Int)=1 from rfl] at this
  rw [this]
theorem Bx.F0.known:Bx.F0.Kn:=Bx.F0.Ac (.cons A7.D2.known (.cons Bx.Zr.known (.cons Bx.Dm.known (.cons Bx.M9.known .nil)))) fun r c l p q m u v h x hp=>T4 (by
  obtain ⟨h0,hx⟩:=Ad.1 (show (N3 l m h&&Af x)=true from hp)
  obtain ⟨h1,ah⟩:=Ad.1 (show ((Ai l&&Ai m)&&Ai h)=true from h0)
  obtain ⟨al,am⟩:=Ad.1 h1
  show Out _ (Dy r c l p q m u v h x)
  rw [Bx.F0.ev,h0,hx,Axz,Axt]
  by_cases k:Oa r c l p q m u v h x=0
  · obtain ⟨k1,k2,k3,k4,k5,k6,k7,k8,k9⟩:=Aj1 k
    obtain ⟨R,C,rfl,rfl,r6,c6,hl⟩:=Cc (D5 k1).1
    obtain ⟨R',o,rfl,rfl,_,o6,hm⟩:=Cc (D5 k2).1
    obtain ⟨U,C',rfl,rfl,u6,_,hh⟩:=Cc (D5 k3).1
    obtain rfl:R'=R:=by omega
    obtain rfl:C'=C:=by omega
    obtain rfl:o=1:=by omega
    have a1:Ai (l++Cy x h)=true:=Ar.2 fun y hy=>(List.mem_append.1 hy).elim (Ar.1 al y) (Ar.1 (Q7 x h) y)
    have a2:Ai (m++List.replicate (Int.toNat (U:Int)) 0)=true:=Ar.2 fun y hy=>(List.mem_append.1 hy).elim (Ar.1 am y) (fun hy=>by rw [(List.mem_replicate.1 hy).2]; exact H0)
    rw [Gv k,Axx,(D5 k1).1,(D5 k3).1,(D5 k2).1,ah,Nh (show U≤6 by omega),Axu rfl,Axu (show ((1:Nat):Int)=1 from rfl),a1,a2,Aif k,Ao3 (by omega) c6 hl hh,show Ad4 (R':Int) ((1:Nat):Int) m (U:Int)=_ from Ajp (by omega) hm]
    exact Asz rfl
  · rw [V7 k,Axt,Axt,Tx rfl k]
    exact As0 rfl)
namespace EqLaw17
end EqLaw17
open EqLaw17
theorem Ajs (r c:Int) (l:List Int):V3 r c l r c l=true:=by unfold V3; simp
namespace EqLaw22
def Cv.one.A6:List (Nat × Entry):=[]
def Cv.one.E:Env:=A9 (A5 Cv.one.A6) (fun _=>false) (fun _=>none) (fun _=>none)
theorem Cv.one.ev (N:Nat) (b:Int):Bp Cv.one.E N Tryz.f152 (An Tryz.f152) [.int .u64 b]=some (.agg [.int .i64 1,.int .i64 1,.ints (.own 4 37) .u64 [b]]):=by kernel_rfl
abbrev _root_.Go.Proofs.S1.Cv.one.Kn:=A3 Tryz.prog 152 Cv.one.spec
theorem Cv.one.Ac (hk:Ax Tryz.prog Cv.one.A6) (h:∀ (b:Int),Cv.one.pre [.i b]=true→A8 Cv.one.E Tryz.f152 [.int .u64 b] (Cv.one.out [.i b])):Cv.one.Kn :=
  Ak (Az hk _ _ _) Tryz.func152 (by kernel_rfl) (by kernel_rfl) h
def Cv.Hu.A6:List (Nat × Entry):=[(152,Cv.one.spec),(66,Dx.F0.spec)]
def Cv.Hu.E:Env:=A9 (A5 Cv.Hu.A6) (fun _=>false) (fun _=>none) (fun _=>none)
theorem Cv.Hu.ev (N:Nat):Bp Cv.Hu.E N Tryz.f68 (An Tryz.f68) []=bif (N3 ([(4607182418800017408:Int)]) ([(4611686018427387904:Int)]) []&&Af 4607182418800017408) then bif ((!((((Dy 1 1 ([(4607182418800017408:Int)]) 1 1 ([(4611686018427387904:Int)]) 0 1 [] 4607182418800017408).2.2.2)==(0:Int))&&((List.length ((Dy 1 1 ([(4607182418800017408:Int)]) 1 1 ([(4611686018427387904:Int)]) 0 1 [] 4607182418800017408).2.2.1):Int)==(1:Int))))||(decide ((0:Int)<(List.length ((Dy 1 1 ([(4607182418800017408:Int)]) 1 1 ([(4611686018427387904:Int)]) 0 1 [] 4607182418800017408).2.2.1):Int)))) then some (.bool (bif (bif (((Dy 1 1 ([(4607182418800017408:Int)]) 1 1 ([(4611686018427387904:Int)]) 0 1 [] 4607182418800017408).2.2.2)==(0:Int)) then ((List.length ((Dy 1 1 ([(4607182418800017408:Int)]) 1 1 ([(4611686018427387904:Int)]) 0 1 [] 4607182418800017408).2.2.1):Int)==(1:Int)) else false) then ((List.getD ((Dy 1 1 ([(4607182418800017408:Int)]) 1 1 ([(4611686018427387904:Int)]) 0 1 [] 4607182418800017408).2.2.1) 0 0)==(4611686018427387904:Int)) else false)) else none else none :=
  Eq.trans (by kernel_rfl)
  (Ej (Aw (O1 (((Dy 1 1 ([(4607182418800017408:Int)]) 1 1 ([(4611686018427387904:Int)]) 0 1 [] 4607182418800017408).2.2.2)==(0:Int))) (Aw (Lv (((Dy 1 1 ([(4607182418800017408:Int)]) 1 1 ([(4611686018427387904:Int)]) 0 1 [] 4607182418800017408).2.2.2)==(0:Int))) (Aw (Lv (((Dy 1 1 ([(4607182418800017408:Int)]) 1 1 ([(4611686018427387904:Int)]) 0 1 [] 4607182418800017408).2.2.2)==(0:Int))) (Aw (Lv (((Dy 1 1 ([(4607182418800017408:Int)]) 1 1 ([(4611686018427387904:Int)]) 0 1 [] 4607182418800017408).2.2.2)==(0:Int))) (Aw (Ti (((Dy 1 1 ([(4607182418800017408:Int)]) 1 1 ([(4611686018427387904:Int)]) 0 1 [] 4607182418800017408).2.2.2)==(0:Int))) (Aw (Al7 (((Dy 1 1 ([(4607182418800017408:Int)]) 1 1 ([(4611686018427387904:Int)]) 0 1 [] 4607182418800017408).2.2.2)==(0:Int)) ((List.length ((Dy 1 1 ([(4607182418800017408:Int)]) 1 1 ([(4611686018427387904:Int)]) 0 1 [] 4607182418800017408).2.2.1):Int)==(1:Int))) (Aw (Age (((Dy 1 1 ([(4607182418800017408:Int)]) 1 1 ([(4611686018427387904:Int)]) 0 1 [] 4607182418800017408).2.2.2)==(0:Int)) ((List.length ((Dy 1 1 ([(4607182418800017408:Int)]) 1 1 ([(4611686018427387904:Int)]) 0 1 [] 4607182418800017408).2.2.1):Int)==(1:Int))) (C2 (Awj (((Dy 1 1 ([(4607182418800017408:Int)]) 1 1 ([(4611686018427387904:Int)]) 0 1 [] 4607182418800017408).2.2.2)==(0:Int)) ((List.length ((Dy 1 1 ([(4607182418800017408:Int)]) 1 1 ([(4611686018427387904:Int)]) 0 1 [] 4607182418800017408).2.2.1):Int)==(1:Int)) (decide ((0:Int)<(List.length ((Dy 1 1 ([(4607182418800017408:Int)]) 1 1 ([(4611686018427387904:Int)]) 0 1 [] 4607182418800017408).2.2.1):Int)))) (Aw (Age (((Dy 1 1 ([(4607182418800017408:Int)]) 1 1 ([(4611686018427387904:Int)]) 0 1 [] 4607182418800017408).2.2.2)==(0:Int)) ((List.length ((Dy 1 1 ([(4607182418800017408:Int)]) 1 1 ([(4611686018427387904:Int)]) 0 1 [] 4607182418800017408).2.2.1):Int)==(1:Int))) (Aw (Age (((Dy 1 1 ([(4607182418800017408:Int)]) 1 1 ([(4611686018427387904:Int)]) 0 1 [] 4607182418800017408).2.2.2)==(0:Int)) ((List.length ((Dy 1 1 ([(4607182418800017408:Int)]) 1 1 ([(4611686018427387904:Int)]) 0 1 [] 4607182418800017408).2.2.1):Int)==(1:Int))) (Aw (Apo (((Dy 1 1 ([(4607182418800017408:Int)]) 1 1 ([(4611686018427387904:Int)]) 0 1 [] 4607182418800017408).2.2.2)==(0:Int)) ((List.length ((Dy 1 1 ([(4607182418800017408:Int)]) 1 1 ([(4611686018427387904:Int)]) 0 1 [] 4607182418800017408).2.2.1):Int)==(1:Int))) rfl))) rfl)))))))) rfl)
abbrev _root_.Go.Proofs.S1.Cv.Hu.Kn:=A3 Tryz.prog 68 Cv.Hu.spec
theorem Cv.Hu.Ac (hk:Ax Tryz.prog Cv.Hu.A6) (h:∀ (_:Unit),Cv.Hu.pre []=true→A8 Cv.Hu.E Tryz.f68 [] (Cv.Hu.out [])):Cv.Hu.Kn :=
  Ak (Az hk _ _ _) Tryz.func68 (by kernel_rfl) (by kernel_rfl) (h ())
def Cv.Dc.A6:List (Nat × Entry):=[(68,Cv.Hu.spec),(31,Aj.Ev.spec),(67,Bx.F0.spec),(66,Dx.F0.spec)]
def Cv.Dc.E:Env:=A9 (A5 Cv.Dc.A6) (fun _=>false) (fun _=>none) (fun _=>none)
theorem Cv.Dc.ev (N:Nat) (r c:Int) (l:List Int) (p q:Int) (m:List Int) (u v:Int) (h:List Int) (x:Int):Bp Cv.Dc.E N Tryz.f18 (An Tryz.f18) [.agg [.int .i64 r,.int .i64 c,.ints .arg .u64 l,.int .i64 p,.int .i64 q,.ints .arg .u64 m,.int .i64 u,.int .i64 v,.ints .arg .u64 h],.int .u64 x]=bif (N3 l m h&&Af x) then bif (N3 l m h&&Af x) then bif ((!(((Dy r c l p q m u v h x).2.2.2)==((Dy r c l p q m u v h x).2.2.2)))||(Mt ((Dy r c l p q m u v h x).2.2.1))) then some (.bool (bif (bif (((Dy r c l p q m u v h x).2.2.2)==((Dy r c l p q m u v h x).2.2.2)) then (V3 ((Dy r c l p q m u v h x).1) ((Dy r c l p q m u v h x).2.1) ((Dy r c l p q m u v h x).2.2.1) ((Dy r c l p q m u v h x).1) ((Dy r c l p q m u v h x).2.1) ((Dy r c l p q m u v h x).2.2.1)) else false) then true else false)) else none else none else none :=
  Eq.trans (by kernel_rfl)
  (Ej (Ej (Aw (O1 (((Dy r c l p q m u v h x).2.2.2)==((Dy r c l p q m u v h x).2.2.2))) (Aw (O1 (((Dy r c l p q m u v h x).2.2.2)==((Dy r c l p q m u v h x).2.2.2))) (C2 (Awm (((Dy r c l p q m u v h x).2.2.2)==((Dy r c l p q m u v h x).2.2.2)) (Mt ((Dy r c l p q m u v h x).2.2.1))) (Aw (Ti (((Dy r c l p q m u v h x).2.2.2)==((Dy r c l p q m u v h x).2.2.2))) (Aw (Al7 (((Dy r c l p q m u v h x).2.2.2)==((Dy r c l p q m u v h x).2.2.2)) (V3 ((Dy r c l p q m u v h x).1) ((Dy r c l p q m u v h x).2.1) ((Dy r c l p q m u v h x).2.2.1) ((Dy r c l p q m u v h x).1) ((Dy r c l p q m u v h x).2.1) ((Dy r c l p q m u v h x).2.2.1))) (Aw (Apo (((Dy r c l p q m u v h x).2.2.2)==((Dy r c l p q m u v h x).2.2.2)) (V3 ((Dy r c l p q m u v h x).1) ((Dy r c l p q m u v h x).2.1) ((Dy r c l p q m u v h x).2.2.1) ((Dy r c l p q m u v h x).1) ((Dy r c l p q m u v h x).2.1) ((Dy r c l p q m u v h x).2.2.1))) rfl))) rfl))) rfl) rfl)
abbrev _root_.Go.Proofs.S1.Cv.Dc.Kn:=A3 Tryz.prog 18 Cv.Dc.spec
theorem Cv.Dc.Ac (hk:Ax Tryz.prog Cv.Dc.A6) (h:∀ (r c:Int) (l:List Int) (p q:Int) (m:List Int) (u v:Int) (h:List Int) (x:Int),Cv.Dc.pre [.i r,.i c,.l l,.i p,.i q,.l m,.i u,.i v,.l h,.i x]=true→A8 Cv.Dc.E Tryz.f18 [.agg [.int .i64 r,.int .i64 c,.ints .arg .u64 l,.int .i64 p,.int .i64 q,.ints .arg .u64 m,.int .i64 u,.int .i64 v,.ints .arg .u64 h],.int .u64 x] (Cv.Dc.out [.i r,.i c,.l l,.i p,.i q,.l m,.i u,.i v,.l h,.i x])):Cv.Dc.Kn :=
  Ak (Az hk _ _ _) Tryz.func18 (by kernel_rfl) (by kernel_rfl) h
end EqLaw22
open EqLaw22
theorem Cv.one.known:Cv.one.Kn:=Cv.one.Ac .nil fun b _ =>
  ⟨0,_,[4],Cv.one.ev 0 b,Xg (List.mem_singleton.2 rfl)⟩
theorem Ap5:Dy 1 1 [4607182418800017408] 1 1 [4611686018427387904] 0 1 [] 4607182418800017408=(1,1,[4611686018427387904],0):=by decide +kernel
theorem Aiw {x:Int} (h:decide (0≤x∧x<18446744073709551616)=true):Ai [x]=true:=Ar.2 fun y hy=>by
  rw [List.mem_singleton.1 hy]; exact Ar.2 (of_decide_eq_true h)
theorem Cv.Hu.known:Cv.Hu.Kn:=Cv.Hu.Ac (.cons Cv.one.known (.cons Dx.F0.known .nil)) fun _ _=>by
  have a1:N3 [4607182418800017408] [4611686018427387904] []=true:=by
    unfold N3
    rw [Aiw (by decide),Aiw (x:=4611686018427387904) (by decide),Le]; rfl
  have a2:Af 4607182418800017408=true:=Ar.2 (by decide)
  refine ⟨0,Cv.Hu.out [],[],?_,.bool⟩
  rw [Cv.Hu.ev,a1,a2,Ap5]
  rfl
theorem Nn {P:Prop} [Decidable P] {x y:MX} (h1:x.2.2.1.length≤36) (h2:y.2.2.1.length≤36):(if P then x else y).2.2.1.length≤36:=by
  by_cases k:P
  · rw [if_pos k]; exact h1
  · rw [if_neg k]; exact h2
theorem Asa (r c:Int) (l:List Int) (p q:Int) (m:List Int):(Tf r c l p q m).2.2.1.length≤36:=by
  unfold Tf Kc
  by_cases k:N1 r c l p q m≠0
  · rw [if_pos k]; exact Nat.zero_le _
  · rw [if_neg k]
    obtain ⟨h1,h2,_,_⟩:=Oz (Decidable.byContradiction k)
    obtain ⟨R,C,rfl,_,r6,c6,_⟩:=Cc h1
    obtain ⟨P,Q,_,rfl,p6,q6,_⟩:=Cc h2
    refine Nn ?_ (Nat.zero_le _)
    unfold upG
    dsimp only
    rw [B8,Axv,Axv]
    exact Nat.mul_le_mul r6 q6
theorem Asx (r c:Int) (l:List Int) (p q:Int) (m:List Int) (u v:Int) (h:List Int) (x:Int):Mt (Dy r c l p q m u v h x).2.2.1=true:=by
  refine Ar.2 (Nat.le_trans (m:=36) ?_ (by decide))
  unfold Dy Ahd Fl Apk
  exact Nn (Nat.zero_le _) (Nn (Nat.zero_le _) (Nn (Nat.zero_le _) (Nn (Nat.zero_le _) (Nn (Nat.zero_le _) (Nn (Nat.zero_le _) (Nn (Nat.zero_le _) (Asa _ _ _ _ _ _)))))))
theorem Cv.Dc.known:Cv.Dc.Kn:=Cv.Dc.Ac (.cons Cv.Hu.known (.cons Aj.Ev.known (.cons Bx.F0.known (.cons Dx.F0.known .nil)))) fun r c l p q m u v h x hp=>by
  obtain ⟨h0,_⟩:=Ad.1 (show ((N3 l m h&&Af x)&&((Mt l&&Mt m)&&Mt h))=true from hp)
  refine ⟨0,Cv.Dc.out [.i r,.i c,.l l,.i p,.i q,.l m,.i u,.i v,.l h,.i x],[],?_,.bool⟩
  show _=some (DV.bool true)
  rw [Cv.Dc.ev,h0,Asx,Ajs,beq_self_eq_true]
  rfl
end Go.Proofs.S1
end
