/- A verified evaluator of the program's form and its use for this seat: S1PRef20A, S1PRef20B, S1EqLaw17, S1PLaw17, S1EqLaw20, S1PLaw20. -/
import Derived.Test.YtjbokjpbiobjpaaGreatTM
import Derived.Test.YtjbokjpbiobjpaaGreatTL
import Derived.Test.YtjbokjpbiobjpaaGreatTE
import Derived.Test.YtjbokjpbiobjpaaGreatTF
set_option linter.unusedVariables false
set_option linter.unusedSimpArgs false
noncomputable section
namespace Go.Proofs.S1
open Go Go.Den Go.Rnd Go.Proofs
open EqRef20
section
variable {N:Nat} {r c p q a b u v:Int} {l m g h:List Int} {p6_3 p6_4:Int} {p6_5 p7 p10 p11:List Int} {p6_6:Bool}
theorem Arl {p6 p6_1 p8 p8_1 p12 p12_1:Int} {p6_2 p8_2 p12_2 X:List Int} (aX:Ae X=true) :
    Out (B7.Solve.C24 N r c l p q m a b g u v h p6 p6_1 p6_2 p6_3 p6_4 p6_5 p6_6 p7 p8 p8_1 p8_2 p10 p11 p12 p12_1 p12_2 X) (Ic p6 p8_1 X 0):=by
  rw [B7.Solve.Avc,aX,Ay6]
  unfold Ic
  rw [if_neg (fun h=>h rfl)]
  by_cases k:B1 p6 p8_1 X=0
  · rw [En k,Aza,if_neg (fun h=>h k)]
    exact ⟨_,[],rfl,Wk.G6 (.cons (Wk.G2 (.cons .int (.cons .int (.cons (.fresh _ _) .nil)))) (.cons .int .nil))⟩
  · rw [Od k,Ay6,if_pos k]; exact Kj rfl
theorem Arm {n P C K:Nat} {qq Y:List Int} {z:MX} (hn:n=P+C) (n6:n≤6) (k6:K≤6) (hq:qq.length=n*n) (aq:Ae qq=true) (hY:Y.length=P*K) (aY:Ae Y=true)
    (hz:z.2.2.2=0→∃ Z,z=((C:Int),(K:Int),Z,0)∧Z.length=C*K∧Ae Z=true) :
    Out (B7.Solve.C21 N r c l p q m a b g u v h (n:Int) (n:Int) qq p6_3 p6_4 p6_5 p6_6 p7 (P:Int) (K:Int) Y p10 p11 z.2.2.2 z.1 z.2.1 z.2.2.1) (Yv ((n:Int),(n:Int),qq,0) ((P:Int),(K:Int),Y,0) z):=by
  rw [B7.Solve.Avd]
  unfold Yv
  by_cases k:z.2.2.2=0
  · rw [En k,Aza,if_neg (fun h=>h k)]
    obtain ⟨Z,rfl,hZ,aZ⟩:=hz k
    subst hn
    have r1:Av (P:Int) (K:Int) Y=true:=Ef (by omega) k6 hY
    have r2:Av (C:Int) (K:Int) Z=true:=Ef (by omega) k6 hZ
    have r3:Av ((P+C:Nat):Int) ((P+C:Nat):Int) qq=true:=Ef n6 n6 hq
    have hYZ:(Y++Z).length=(P+C)*K:=by rw [List.length_append,hY,hZ,Nat.add_mul]
    have es:((P:Int)+(C:Int))=((P+C:Nat):Int):=(Int.natCast_add P C).symm
    have r4:Av ((P:Int)+(C:Int)) (K:Int) (Y++Z)=true:=by rw [es]; exact Ef n6 k6 hYZ
    have aYZ:Ae (Y++Z)=true:=Aw.2 fun x hx=>(List.mem_append.1 hx).elim (Aw.1 aY x) (Aw.1 aZ x)
    have e1:Vq ((P:Int),(K:Int),Y,0) ((C:Int),(K:Int),Z,0)=((P:Int)+(C:Int),(K:Int),Y++Z,0):=by
      unfold Vq Ch
      dsimp only
      rw [r1,r2,Azc,if_pos rfl,if_pos ⟨rfl,by omega⟩,es,Ay8,Ay8,Ahf hY hZ]
    rw [e1,if_neg (fun h=>h rfl)]
    dsimp only
    rw [r1,r2,Ay7 rfl,Azc,Azc,Ay6,r3,r4,aq,aYZ,Ay7 es.symm,Azc,Azc,Azc,Ay6]
    have e2:mulM (((P+C:Nat):Int),((P+C:Nat):Int),qq,0) ((P:Int)+(C:Int),(K:Int),Y++Z,0)=(((P+C:Nat):Int),(K:Int),Bg (Int.toNat ((P+C:Nat):Int)) (Int.toNat (K:Int)) (fun (j1 j2:Nat)=>G1 (Fw ((P+C:Nat):Int) qq (j1:Int)) (Hk ((P:Int)+(C:Int)) (K:Int) (Y++Z) (j2:Int))),0):=by
      unfold mulM Fa
      dsimp only
      rw [r3,r4,Azc,if_pos rfl,if_pos es.symm]
    rw [e2]
    exact Arl (Ez fun _ _=>N4 _ _)
  · rw [Od k,Ay6,if_pos k]; exact Kj rfl
theorem Arn {R n P C K:Nat} {qq Y W F:List Int} (hn:n=P+C) (n6:n≤6) (r6:R≤6) (k6:K≤6) (hq:qq.length=n*n) (aq:Ae qq=true) (hY:Y.length=P*K) (aY:Ae Y=true)
    (hW:W.length=R*n) (aW:Ae W=true) (aF:Ae F=true) :
    Out (B7.Solve.C18 N (R:Int) (n:Int) l (P:Int) q m (R:Int) (K:Int) g u v h (n:Int) (n:Int) qq p6_3 p6_4 p6_5 p6_6 p7 (P:Int) (K:Int) Y W F)
      (Afi ((n:Int),(n:Int),qq,0) ((P:Int),(K:Int),Y,0) ((R:Int),(n:Int),W,0) (Ic (R:Int) (K:Int) F 0) (R:Int) (n:Int) (P:Int)):=by
  have ew:Ab ((n:Int)-(P:Int))=(C:Int):=by rw [Am (by omega) (by omega)]; omega
  have ew2:(n:Int)-(P:Int)=(C:Int):=by omega
  have rw1:Av (R:Int) (n:Int) W=true:=Ef r6 n6 hW
  have pb:Gk (R:Int) (n:Int) 0 (P:Int) (R:Int) (C:Int)=true:=Ay7 (by omega)
  rw [B7.Solve.Z4,aF,Ay6,ew]
  unfold Afi
  rw [ew2]
  have e1:Jn ((R:Int),(n:Int),W,0) 0 (P:Int) (R:Int) (C:Int)=((R:Int),(C:Int),Bg (Int.toNat (R:Int)) (Int.toNat (C:Int)) (fun (j1 j2:Nat)=>Cj (n:Int) W ((0:Int)+(j1:Int)) ((P:Int)+(j2:Int))),0):=by
    unfold Jn F4
    dsimp only
    rw [rw1,if_pos rfl,pb,if_pos rfl]
  have aG:Ae (Bg (Int.toNat (R:Int)) (Int.toNat (C:Int)) (fun (j1 j2:Nat)=>Cj (n:Int) W ((0:Int)+(j1:Int)) ((P:Int)+(j2:Int))))=true:=Ez fun _ _=>Ey aW
  by_cases k:B1 (R:Int) (K:Int) F=0
  · have ef:Ic (R:Int) (K:Int) F 0=((R:Int),(K:Int),F,0):=by unfold Ic; rw [if_neg (fun h=>h rfl),if_neg (fun h=>h k)]
    rw [En k,Aza,ef,if_neg (fun h=>h rfl),rw1,pb,Azc,Ay6,aG,Azc,Ay6,e1]
    generalize Bg (Int.toNat (R:Int)) (Int.toNat (C:Int)) (fun (j1 j2:Nat)=>Cj (n:Int) W ((0:Int)+(j1:Int)) ((P:Int)+(j2:Int)))=G at aG ⊢
    rw [show Ac9 ((R:Int),(C:Int),G,0) ((R:Int),(K:Int),F,0)=Em (R:Int) (C:Int) G (R:Int) (K:Int) F from rfl]
    have hz:(Em (R:Int) (C:Int) G (R:Int) (K:Int) F).2.2.2=0→∃ Z,Em (R:Int) (C:Int) G (R:Int) (K:Int) F=((C:Int),(K:Int),Z,0)∧Z.length=C*K∧Ae Z=true:=fun hz=>by
      obtain ⟨C',Q',Z,e2,e3,_,_,e4,e5,_,e6⟩:=Afx aG hz
      obtain rfl:C=C':=by omega
      obtain rfl:K=Q':=by omega
      exact ⟨Z,e4,e5,e6⟩
    generalize Em (R:Int) (C:Int) G (R:Int) (K:Int) F=z at hz ⊢
    exact Arm hn n6 k6 hq aq hY aY hz
  · have ef:Ic (R:Int) (K:Int) F 0=Ij 2:=by unfold Ic; rw [if_neg (fun h=>h rfl),if_pos k]
    rw [Od k,Ay6,ef]
    exact Kj rfl
theorem Aro {R n P C K:Nat} {qq Y W:List Int} (hn:n=P+C) (n6:n≤6) (r6:R≤6) (k6:K≤6) (hq:qq.length=n*n) (aq:Ae qq=true) (hY:Y.length=P*K) (aY:Ae Y=true)
    (hW:W.length=R*n) (aW:Ae W=true) (hg:g.length=R*K) (ag:Ae g=true) :
    Out (B7.Solve.C15 N (R:Int) (n:Int) l (P:Int) q m (R:Int) (K:Int) g u v h (n:Int) (n:Int) qq p6_3 p6_4 p6_5 p6_6 p7 (P:Int) (K:Int) Y W)
      (Yw ((n:Int),(n:Int),qq,0) ((P:Int),(K:Int),Y,0) (Ic (R:Int) (n:Int) W 0) (R:Int) (n:Int) (P:Int) (R:Int) (K:Int) g):=by
  have rw1:Av (R:Int) (n:Int) W=true:=Ef r6 n6 hW
  have pb:Gk (R:Int) (n:Int) 0 0 (R:Int) (P:Int)=true:=Ay7 (by omega)
  have p6':P≤6:=by omega
  rw [B7.Solve.Aiy,aW,Ay6]
  unfold Yw
  by_cases k:B1 (R:Int) (n:Int) W=0
  · have ef:Ic (R:Int) (n:Int) W 0=((R:Int),(n:Int),W,0):=by unfold Ic; rw [if_neg (fun h=>h rfl),if_neg (fun h=>h k)]
    have e1:Jn ((R:Int),(n:Int),W,0) 0 0 (R:Int) (P:Int)=((R:Int),(P:Int),Bg (Int.toNat (R:Int)) (Int.toNat (P:Int)) (fun (j1 j2:Nat)=>Cj (n:Int) W ((0:Int)+(j1:Int)) ((0:Int)+(j2:Int))),0):=by
      unfold Jn F4
      dsimp only
      rw [rw1,if_pos rfl,pb,if_pos rfl]
    have rG:Av (R:Int) (P:Int) (Bg (Int.toNat (R:Int)) (Int.toNat (P:Int)) (fun (j1 j2:Nat)=>Cj (n:Int) W ((0:Int)+(j1:Int)) ((0:Int)+(j2:Int))))=true:=by rw [Ay8,Ay8]; exact Hy _ r6 p6'
    have aG:Ae (Bg (Int.toNat (R:Int)) (Int.toNat (P:Int)) (fun (j1 j2:Nat)=>Cj (n:Int) W ((0:Int)+(j1:Int)) ((0:Int)+(j2:Int))))=true:=Ez fun _ _=>Ey aW
    have rY:Av (P:Int) (K:Int) Y=true:=Ef p6' k6 hY
    have rg:Av (R:Int) (K:Int) g=true:=Ef r6 k6 hg
    rw [En k,Aza,ef,if_neg (fun h=>h rfl),rw1,pb,Azc,Ay6,rG,rY,aG,aY,Ay7 rfl,Azc,Azc,Azc,Ay6]
    unfold Alx
    rw [e1]
    generalize Bg (Int.toNat (R:Int)) (Int.toNat (P:Int)) (fun (j1 j2:Nat)=>Cj (n:Int) W ((0:Int)+(j1:Int)) ((0:Int)+(j2:Int)))=G at rG aG ⊢
    have e2:mulM ((R:Int),(P:Int),G,0) ((P:Int),(K:Int),Y,0)=((R:Int),(K:Int),Bg (Int.toNat (R:Int)) (Int.toNat (K:Int)) (fun (j1 j2:Nat)=>G1 (Fw (P:Int) G (j1:Int)) (Hk (P:Int) (K:Int) Y (j2:Int))),0):=by
      unfold mulM Fa
      dsimp only
      rw [rG,rY,Azc,if_pos rfl,if_pos rfl]
    have rD:Av (R:Int) (K:Int) (Bg (Int.toNat (R:Int)) (Int.toNat (K:Int)) (fun (j1 j2:Nat)=>G1 (Fw (P:Int) G (j1:Int)) (Hk (P:Int) (K:Int) Y (j2:Int))))=true:=by rw [Ay8,Ay8]; exact Hy _ r6 k6
    have aD:Ae (Bg (Int.toNat (R:Int)) (Int.toNat (K:Int)) (fun (j1 j2:Nat)=>G1 (Fw (P:Int) G (j1:Int)) (Hk (P:Int) (K:Int) Y (j2:Int))))=true:=Ez fun _ _=>N4 _ _
    rw [e2]
    generalize Bg (Int.toNat (R:Int)) (Int.toNat (K:Int)) (fun (j1 j2:Nat)=>G1 (Fw (P:Int) G (j1:Int)) (Hk (P:Int) (K:Int) Y (j2:Int)))=D at rD aD ⊢
    rw [rg,rD,ag,aD,Ay7 ⟨rfl,rfl⟩,Azc,Azc,Azc,Ay6]
    have e3:Aoz (R:Int) (K:Int) g ((R:Int),(K:Int),D,0)=Ic (R:Int) (K:Int) (Bg (Int.toNat (R:Int)) (Int.toNat (K:Int)) (fun (j1 j2:Nat)=>Db (Cj (K:Int) g (j1:Int) (j2:Int)) (Cj (K:Int) D (j1:Int) (j2:Int)))) 0:=by
      unfold Aoz K0
      dsimp only
      rw [rg,rD,Azc,if_pos rfl,if_pos ⟨rfl,rfl⟩]
      rfl
    rw [e3]
    exact Arn hn n6 r6 k6 hq aq hY aY hW aW (Ez fun _ _=>Kz (Ey ag) (Ey aD))
  · have ef:Ic (R:Int) (n:Int) W 0=Ij 2:=by unfold Ic; rw [if_neg (fun h=>h rfl),if_pos k]
    rw [Od k,Ay6,ef]
    exact Kj rfl
theorem Arp {R n P C K:Nat} {qq:List Int} {y:MX} (hn:n=P+C) (n6:n≤6) (r6:R≤6) (k6:K≤6) (hq:qq.length=n*n) (aq:Ae qq=true)
    (hy:y.2.2.2=0→∃ Y,y=((P:Int),(K:Int),Y,0)∧Y.length=P*K∧Ae Y=true) (hl:l.length=R*n) (al:Ae l=true) (hg:g.length=R*K) (ag:Ae g=true) :
    Out (B7.Solve.C12 N (R:Int) (n:Int) l (P:Int) q m (R:Int) (K:Int) g u v h (n:Int) (n:Int) qq p6_3 p6_4 p6_5 p6_6 p7 y.2.2.2 y.1 y.2.1 y.2.2.1)
      (if y.2.2.2≠0 then Ij y.2.2.2 else Yw ((n:Int),(n:Int),qq,0) y (Aga (mulM ((R:Int),(n:Int),l,0) ((n:Int),(n:Int),qq,0))) (R:Int) (n:Int) (P:Int) (R:Int) (K:Int) g):=by
  rw [B7.Solve.Z5]
  by_cases k:y.2.2.2=0
  · rw [En k,Aza,if_neg (fun h=>h k)]
    obtain ⟨Y,rfl,hY,aY⟩:=hy k
    have rl:Av (R:Int) (n:Int) l=true:=Ef r6 n6 hl
    have rq:Av (n:Int) (n:Int) qq=true:=Ef n6 n6 hq
    rw [rl,rq,al,aq,Ay7 rfl,Azc,Azc,Azc,Ay6]
    have e2:Aga (mulM ((R:Int),(n:Int),l,0) ((n:Int),(n:Int),qq,0))=Ic (R:Int) (n:Int) (Bg (Int.toNat (R:Int)) (Int.toNat (n:Int)) (fun (j1 j2:Nat)=>G1 (Fw (n:Int) l (j1:Int)) (Hk (n:Int) (n:Int) qq (j2:Int)))) 0:=by
      unfold mulM Fa
      dsimp only
      rw [rl,rq,Azc,if_pos rfl,if_pos rfl]
      rfl
    rw [e2]
    exact Aro hn n6 r6 k6 hq aq hY aY (by rw [Ca,Ay8,Ay8]) (Ez fun _ _=>N4 _ _) hg ag
  · rw [Od k,Ay6,if_pos k]; exact Kj rfl
end
open EqRef20
theorem Apo {r c:Int} {l:List Int} (h:B1 r c l=0):(Ko r c l).1=Nh r c l:=by
  unfold Ko
  rw [if_neg (fun k=>k h)]
theorem B7.Solve.known:B7.Solve.Kn:=B7.Solve.Ac (.cons Af.Mul.known (.cons Af.Part.known (.cons Af.Stack.known (.cons Af.Sub.known (.cons Af.Co.known (.cons Gw.Check.known (.cons B4.B0.known (.cons A0.Flat.known (.cons A0.Eb.known (.cons A0.Cs.known (.cons B7.Check.known .nil))))))))))) fun r c l p q m a b g u v h hp=>by
  have h0:Qf l m g h=true:=hp
  obtain ⟨h1,h2⟩:=Ad.1 (show ((Ae l&&Ae m)&&(Ae g&&Ae h))=true from h0)
  obtain ⟨al,am⟩:=Ad.1 h1
  obtain ⟨ag,ah⟩:=Ad.1 h2
  suffices hs:Out (Bp B7.Solve.E 0 _ _ _) (D7 r c l p q m a b g u v h) by
    obtain ⟨dv,drops,e1,e2⟩:=hs
    exact ⟨0,dv,drops,e1,e2⟩
  rw [B7.Solve.ev,h0,Ay6]
  unfold D7
  by_cases k:Kf r c l p q m a b g u v h=0
  · obtain ⟨k1,k2,k3,k4,e1,e2,e3,e4,e5,hpc,hc⟩:=Vn k
    obtain ⟨R,C0,rfl,rfl,r6,c6,hl⟩:=B8 (Ex k1).1
    obtain ⟨P,n,rfl,rfl,p6,n6,hm⟩:=B8 (Ex k2).1
    obtain ⟨R',K,rfl,rfl,_,b6,hg⟩:=B8 (Ex k3).1
    obtain rfl:n=C0:=by omega
    obtain rfl:R'=R:=by omega
    have fm:=(Ex k2).2
    have rm:Av (P:Int) (n:Int) m=true:=(Ex k2).1
    rw [En k,Aza,rm,Ay6,if_neg (fun h=>h k)]
    have hT:eqT (P:Int) (n:Int) m=Bg (Int.toNat (n:Int)) (Int.toNat (P:Int)) (fun (j1 j2:Nat)=>Cj (n:Int) m (j2:Int) (j1:Int)):=by
      unfold eqT Cx
      rw [if_pos rm]
    have rT:Av (n:Int) (P:Int) (Bg (Int.toNat (n:Int)) (Int.toNat (P:Int)) (fun (j1 j2:Nat)=>Cj (n:Int) m (j2:Int) (j1:Int)))=true:=by rw [Ay8,Ay8]; exact Hy _ n6 p6
    have aT:Ae (Bg (Int.toNat (n:Int)) (Int.toNat (P:Int)) (fun (j1 j2:Nat)=>Cj (n:Int) m (j2:Int) (j1:Int)))=true:=Ez fun _ _=>Ey am
    have fT:Di (Bg (Int.toNat (n:Int)) (Int.toNat (P:Int)) (fun (j1 j2:Nat)=>Cj (n:Int) m (j2:Int) (j1:Int)))=true:=U7 fun _ _=>Adf fm
    generalize Bg (Int.toNat (n:Int)) (Int.toNat (P:Int)) (fun (j1 j2:Nat)=>Cj (n:Int) m (j2:Int) (j1:Int))=T at hT rT aT fT ⊢
    rw [rT,fT,aT,Azc,Azc,Ay6,B7.Solve.Axb]
    by_cases kf:Ei (n:Int) (P:Int) T=0
    · obtain ⟨q1,g1⟩:=Pr kf
      obtain ⟨A,B,eA,eB,_,_,_,aq,hq,ar,hr,_,fr⟩:=Va aT kf
      obtain rfl:n=A:=by omega
      obtain rfl:P=B:=by omega
      rw [Ay8,Ay8] at q1 g1
      have rR:Av (n:Int) (P:Int) (Ix n P T)=true:=Ef n6 p6 hr
      have pb:Gk (n:Int) (P:Int) 0 0 (P:Int) (P:Int)=true:=Ay7 (by omega)
      rw [Ay7 kf,Bool.not_true,Aza,q1,g1]
      have rG:Av (P:Int) (P:Int) (Bg (Int.toNat (P:Int)) (Int.toNat (P:Int)) (fun (j1 j2:Nat)=>Cj (P:Int) (Ix n P T) ((0:Int)+(j1:Int)) ((0:Int)+(j2:Int))))=true:=by rw [Ay8]; exact Hy _ p6 p6
      have aG:Ae (Bg (Int.toNat (P:Int)) (Int.toNat (P:Int)) (fun (j1 j2:Nat)=>Cj (P:Int) (Ix n P T) ((0:Int)+(j1:Int)) ((0:Int)+(j2:Int))))=true:=Ez fun _ _=>Ey ar
      have fG:Di (Bg (Int.toNat (P:Int)) (Int.toNat (P:Int)) (fun (j1 j2:Nat)=>Cj (P:Int) (Ix n P T) ((0:Int)+(j1:Int)) ((0:Int)+(j2:Int))))=true:=U7 fun _ _=>Adf fr
      have e6:Jn (eqR (P:Int) (n:Int) m) 0 0 (P:Int) (P:Int)=((P:Int),(P:Int),Bg (Int.toNat (P:Int)) (Int.toNat (P:Int)) (fun (j1 j2:Nat)=>Cj (P:Int) (Ix n P T) ((0:Int)+(j1:Int)) ((0:Int)+(j2:Int))),0):=by
        unfold eqR
        rw [hT,g1]
        unfold Jn F4
        dsimp only
        rw [rR,if_pos rfl,pb,if_pos rfl]
      dsimp only
      rw [rR,pb,Azc,Ay6,rG,Ay6,B7.Solve.Agx]
      have e7:Ra (P:Int) (n:Int) m=Cx (P:Int) (P:Int) (Bg (Int.toNat (P:Int)) (Int.toNat (P:Int)) (fun (j1 j2:Nat)=>Cj (P:Int) (Ix n P T) ((0:Int)+(j1:Int)) ((0:Int)+(j2:Int)))):=by
        unfold Ra Atk
        rw [e6]
      generalize Bg (Int.toNat (P:Int)) (Int.toNat (P:Int)) (fun (j1 j2:Nat)=>Cj (P:Int) (Ix n P T) ((0:Int)+(j1:Int)) ((0:Int)+(j2:Int)))=G at rG aG fG e7 ⊢
      have e8:Cx (P:Int) (P:Int) G=((P:Int),(P:Int),Bg (Int.toNat (P:Int)) (Int.toNat (P:Int)) (fun (j1 j2:Nat)=>Cj (P:Int) G (j2:Int) (j1:Int)),0):=by
        unfold Cx
        rw [if_pos rG]
      have rS:Av (P:Int) (P:Int) (Bg (Int.toNat (P:Int)) (Int.toNat (P:Int)) (fun (j1 j2:Nat)=>Cj (P:Int) G (j2:Int) (j1:Int)))=true:=by rw [Ay8]; exact Hy _ p6 p6
      have aS:Ae (Bg (Int.toNat (P:Int)) (Int.toNat (P:Int)) (fun (j1 j2:Nat)=>Cj (P:Int) G (j2:Int) (j1:Int)))=true:=Ez fun _ _=>Ey aG
      have fS:Di (Bg (Int.toNat (P:Int)) (Int.toNat (P:Int)) (fun (j1 j2:Nat)=>Cj (P:Int) G (j2:Int) (j1:Int)))=true:=U7 fun _ _=>Adf fG
      rw [e8] at e7
      generalize Bg (Int.toNat (P:Int)) (Int.toNat (P:Int)) (fun (j1 j2:Nat)=>Cj (P:Int) G (j2:Int) (j1:Int))=S at rS aS fS e7 ⊢
      rw [rS,aS,fS,ah,Azc,Azc,Ay6,Ay6]
      have kS:=Apo (Adr rS fS)
      cases kb:Nh (P:Int) (P:Int) S with
      | true =>
        have d2:hY (P:Int) (n:Int) m u v h=Ij 5:=by unfold hY; rw [hT,e7,if_neg (fun h=>h kf),kS,kb,if_pos rfl]
        rw [Ay6,d2,if_pos (show (Ij 5).2.2.2≠0 by decide)]
        exact Kj rfl
      | false =>
        have d1:hQ (P:Int) (n:Int) m=((n:Int),(n:Int),L8 n P T,0):=by unfold hQ; rw [hT,e7,if_neg (fun h=>h kf),kS,kb,if_neg (by decide),q1]
        have d2:hY (P:Int) (n:Int) m u v h=Qh (P:Int) (P:Int) S u v h:=by unfold hY; rw [hT,e7,if_neg (fun h=>h kf),kS,kb,if_neg (by decide)]
        unfold Aw0
        rw [Aza,d1,d2]
        have hy:(Qh (P:Int) (P:Int) S u v h).2.2.2=0→∃ Y,Qh (P:Int) (P:Int) S u v h=((P:Int),(K:Int),Y,0)∧Y.length=P*K∧Ae Y=true:=fun hz=>by
          obtain ⟨P',K',Y,e9,e10,_,_,e11,e12,_,e13⟩:=Ao3 hz
          obtain rfl:P=P':=by omega
          obtain rfl:K=K':=by omega
          exact ⟨Y,e11,e12,e13⟩
        generalize Qh (P:Int) (P:Int) S u v h=y at hy ⊢
        exact Arp (C:=n-P) (by omega) n6 r6 b6 hq aq hy hl al hg ag
    · have e6:Ei (n:Int) (P:Int) T=2:=by
        have kc:=Adr rT fT
        rw [P6 kc] at kf ⊢
        by_cases hk:Lt (n:Int).toNat (P:Int).toNat T=true
        · rw [if_pos hk] at kf; exact absurd rfl kf
        · rw [if_neg hk]
      have d2:hY (P:Int) (n:Int) m u v h=Ij 2:=by unfold hY; rw [hT,if_pos kf,e6]
      rw [Azb kf,Bool.not_false,Ay6,d2,if_pos (show (Ij 2).2.2.2≠0 by decide)]
      exact Kj rfl
  · rw [Od k,Ay6,Ay6,if_pos k]
    exact Kj rfl
set_option maxRecDepth 100000
namespace EqLaw17
end EqLaw17
open EqLaw17
theorem Ot (r c:Int) (l:List Int):Dg r c l r c l=true:=by unfold Dg; simp
namespace EqLaw20
def Cc.one.A8:List (Nat × Entry):=[]
def Cc.one.E:Env:=A9 (A7 Cc.one.A8) (fun _=>false) (fun _=>none) (fun _=>none)
theorem Cc.one.ev (N:Nat) (b:Int):Bp Cc.one.E N Tryz.f130 (Al Tryz.f130) [.int .u64 b]=some (.agg [.int .i64 1,.int .i64 1,.ints (.own 4 37) .u64 [b]]):=by kernel_rfl
abbrev _root_.Go.Proofs.S1.Cc.one.Kn:=A5 Tryz.prog 130 Cc.one.spec
theorem Cc.one.Ac (hk:Ay Tryz.prog Cc.one.A8) (h:∀ (b:Int),Cc.one.pre [.i b]=true→Ba Cc.one.E Tryz.f130 [.int .u64 b] (Cc.one.out [.i b])):Cc.one.Kn :=
  Aj (A1 hk _ _ _) Tryz.func130 (by kernel_rfl) (by kernel_rfl) h
def Cc.Ip.A8:List (Nat × Entry):=[(130,Cc.one.spec),(47,Dw.Solve.spec)]
def Cc.Ip.E:Env:=A9 (A7 Cc.Ip.A8) (fun _=>false) (fun _=>none) (fun _=>none)
theorem Cc.Ip.ev (N:Nat):Bp Cc.Ip.E N Tryz.f50 (Al Tryz.f50) []=bif (Qf ([(4607182418800017408:Int)]) ([(4607182418800017408:Int)]) ([(0:Int)]) ([(4613937818241073152:Int)])) then bif ((!((((D7 1 1 ([(4607182418800017408:Int)]) 1 1 ([(4607182418800017408:Int)]) 1 1 ([(0:Int)]) 1 1 ([(4613937818241073152:Int)])).2.2.2)==(0:Int))&&((List.length ((D7 1 1 ([(4607182418800017408:Int)]) 1 1 ([(4607182418800017408:Int)]) 1 1 ([(0:Int)]) 1 1 ([(4613937818241073152:Int)])).2.2.1):Int)==(1:Int))))||(decide ((0:Int)<(List.length ((D7 1 1 ([(4607182418800017408:Int)]) 1 1 ([(4607182418800017408:Int)]) 1 1 ([(0:Int)]) 1 1 ([(4613937818241073152:Int)])).2.2.1):Int)))) then some (.bool (bif (bif (((D7 1 1 ([(4607182418800017408:Int)]) 1 1 ([(4607182418800017408:Int)]) 1 1 ([(0:Int)]) 1 1 ([(4613937818241073152:Int)])).2.2.2)==(0:Int)) then ((List.length ((D7 1 1 ([(4607182418800017408:Int)]) 1 1 ([(4607182418800017408:Int)]) 1 1 ([(0:Int)]) 1 1 ([(4613937818241073152:Int)])).2.2.1):Int)==(1:Int)) else false) then ((List.getD ((D7 1 1 ([(4607182418800017408:Int)]) 1 1 ([(4607182418800017408:Int)]) 1 1 ([(0:Int)]) 1 1 ([(4613937818241073152:Int)])).2.2.1) 0 0)==(4613937818241073152:Int)) else false)) else none else none :=
  Eq.trans (by kernel_rfl)
  (Ea (Ar (On (((D7 1 1 ([(4607182418800017408:Int)]) 1 1 ([(4607182418800017408:Int)]) 1 1 ([(0:Int)]) 1 1 ([(4613937818241073152:Int)])).2.2.2)==(0:Int))) (Ar (Mb (((D7 1 1 ([(4607182418800017408:Int)]) 1 1 ([(4607182418800017408:Int)]) 1 1 ([(0:Int)]) 1 1 ([(4613937818241073152:Int)])).2.2.2)==(0:Int))) (Ar (Mb (((D7 1 1 ([(4607182418800017408:Int)]) 1 1 ([(4607182418800017408:Int)]) 1 1 ([(0:Int)]) 1 1 ([(4613937818241073152:Int)])).2.2.2)==(0:Int))) (Ar (Mb (((D7 1 1 ([(4607182418800017408:Int)]) 1 1 ([(4607182418800017408:Int)]) 1 1 ([(0:Int)]) 1 1 ([(4613937818241073152:Int)])).2.2.2)==(0:Int))) (Ar (Tw (((D7 1 1 ([(4607182418800017408:Int)]) 1 1 ([(4607182418800017408:Int)]) 1 1 ([(0:Int)]) 1 1 ([(4613937818241073152:Int)])).2.2.2)==(0:Int))) (Ar (Anj (((D7 1 1 ([(4607182418800017408:Int)]) 1 1 ([(4607182418800017408:Int)]) 1 1 ([(0:Int)]) 1 1 ([(4613937818241073152:Int)])).2.2.2)==(0:Int)) ((List.length ((D7 1 1 ([(4607182418800017408:Int)]) 1 1 ([(4607182418800017408:Int)]) 1 1 ([(0:Int)]) 1 1 ([(4613937818241073152:Int)])).2.2.1):Int)==(1:Int))) (Ar (Ahb (((D7 1 1 ([(4607182418800017408:Int)]) 1 1 ([(4607182418800017408:Int)]) 1 1 ([(0:Int)]) 1 1 ([(4613937818241073152:Int)])).2.2.2)==(0:Int)) ((List.length ((D7 1 1 ([(4607182418800017408:Int)]) 1 1 ([(4607182418800017408:Int)]) 1 1 ([(0:Int)]) 1 1 ([(4613937818241073152:Int)])).2.2.1):Int)==(1:Int))) (Cq (Ax2 (((D7 1 1 ([(4607182418800017408:Int)]) 1 1 ([(4607182418800017408:Int)]) 1 1 ([(0:Int)]) 1 1 ([(4613937818241073152:Int)])).2.2.2)==(0:Int)) ((List.length ((D7 1 1 ([(4607182418800017408:Int)]) 1 1 ([(4607182418800017408:Int)]) 1 1 ([(0:Int)]) 1 1 ([(4613937818241073152:Int)])).2.2.1):Int)==(1:Int)) (decide ((0:Int)<(List.length ((D7 1 1 ([(4607182418800017408:Int)]) 1 1 ([(4607182418800017408:Int)]) 1 1 ([(0:Int)]) 1 1 ([(4613937818241073152:Int)])).2.2.1):Int)))) (Ar (Ahb (((D7 1 1 ([(4607182418800017408:Int)]) 1 1 ([(4607182418800017408:Int)]) 1 1 ([(0:Int)]) 1 1 ([(4613937818241073152:Int)])).2.2.2)==(0:Int)) ((List.length ((D7 1 1 ([(4607182418800017408:Int)]) 1 1 ([(4607182418800017408:Int)]) 1 1 ([(0:Int)]) 1 1 ([(4613937818241073152:Int)])).2.2.1):Int)==(1:Int))) (Ar (Ahb (((D7 1 1 ([(4607182418800017408:Int)]) 1 1 ([(4607182418800017408:Int)]) 1 1 ([(0:Int)]) 1 1 ([(4613937818241073152:Int)])).2.2.2)==(0:Int)) ((List.length ((D7 1 1 ([(4607182418800017408:Int)]) 1 1 ([(4607182418800017408:Int)]) 1 1 ([(0:Int)]) 1 1 ([(4613937818241073152:Int)])).2.2.1):Int)==(1:Int))) (Ar (Aq3 (((D7 1 1 ([(4607182418800017408:Int)]) 1 1 ([(4607182418800017408:Int)]) 1 1 ([(0:Int)]) 1 1 ([(4613937818241073152:Int)])).2.2.2)==(0:Int)) ((List.length ((D7 1 1 ([(4607182418800017408:Int)]) 1 1 ([(4607182418800017408:Int)]) 1 1 ([(0:Int)]) 1 1 ([(4613937818241073152:Int)])).2.2.1):Int)==(1:Int))) rfl))) rfl)))))))) rfl)
abbrev _root_.Go.Proofs.S1.Cc.Ip.Kn:=A5 Tryz.prog 50 Cc.Ip.spec
theorem Cc.Ip.Ac (hk:Ay Tryz.prog Cc.Ip.A8) (h:∀ (_:Unit),Cc.Ip.pre []=true→Ba Cc.Ip.E Tryz.f50 [] (Cc.Ip.out [])):Cc.Ip.Kn :=
  Aj (A1 hk _ _ _) Tryz.func50 (by kernel_rfl) (by kernel_rfl) (h ())
def Cc.task.A8:List (Nat × Entry):=[]
def Cc.task.E:Env:=A9 (A7 Cc.task.A8) (fun _=>false) (fun _=>none) (fun _=>none)
theorem Cc.task.ev (N:Nat) (r c:Int) (l:List Int) (p q:Int) (m:List Int) (a b:Int) (g:List Int) (u v:Int) (h:List Int):Bp Cc.task.E N Tryz.f49 (Al Tryz.f49) [.agg [.int .i64 r,.int .i64 c,.ints .arg .u64 l,.int .i64 p,.int .i64 q,.ints .arg .u64 m,.int .i64 a,.int .i64 b,.ints .arg .u64 g,.int .i64 u,.int .i64 v,.ints .arg .u64 h]]=some (.agg [.int .i64 r,.int .i64 c,.ints .arg .u64 l,.int .i64 p,.int .i64 q,.ints .arg .u64 m,.int .i64 a,.int .i64 b,.ints .arg .u64 g,.int .i64 u,.int .i64 v,.ints .arg .u64 h]):=by kernel_rfl
abbrev _root_.Go.Proofs.S1.Cc.task.Kn:=A5 Tryz.prog 49 Cc.task.spec
theorem Cc.task.Ac (hk:Ay Tryz.prog Cc.task.A8) (h:∀ (r c:Int) (l:List Int) (p q:Int) (m:List Int) (a b:Int) (g:List Int) (u v:Int) (h:List Int),Cc.task.pre [.i r,.i c,.l l,.i p,.i q,.l m,.i a,.i b,.l g,.i u,.i v,.l h]=true→Ba Cc.task.E Tryz.f49 [.agg [.int .i64 r,.int .i64 c,.ints .arg .u64 l,.int .i64 p,.int .i64 q,.ints .arg .u64 m,.int .i64 a,.int .i64 b,.ints .arg .u64 g,.int .i64 u,.int .i64 v,.ints .arg .u64 h]] (Cc.task.out [.i r,.i c,.l l,.i p,.i q,.l m,.i a,.i b,.l g,.i u,.i v,.l h])):Cc.task.Kn :=
  Aj (A1 hk _ _ _) Tryz.func49 (by kernel_rfl) (by kernel_rfl) h
def Cc.D2.A8:List (Nat × Entry):=[(50,Cc.Ip.spec),(49,Cc.task.spec),(47,Dw.Solve.spec),(29,Af.Np.spec),(31,Af.Fb.spec),(48,B7.Solve.spec)]
def Cc.D2.E:Env:=A9 (A7 Cc.D2.A8) (fun _=>false) (fun _=>none) (fun _=>none)
theorem Cc.D2.ev (N:Nat) (r c:Int) (l:List Int) (p q:Int) (m:List Int) (a b:Int) (g:List Int) (u v:Int) (h:List Int):Bp Cc.D2.E N Tryz.f8 (Al Tryz.f8) [.agg [.int .i64 r,.int .i64 c,.ints .arg .u64 l,.int .i64 p,.int .i64 q,.ints .arg .u64 m,.int .i64 a,.int .i64 b,.ints .arg .u64 g,.int .i64 u,.int .i64 v,.ints .arg .u64 h]]=bif (F1 l) then bif (F1 m) then bif (F1 g) then bif (F1 h) then bif (Qf l m g h) then bif (F1 l) then bif ((!(Dg r c l r c l))||(F1 m)) then bif (((!(Dg r c l r c l))||(!(Dg p q m p q m)))||(F1 g)) then bif ((((!(Dg r c l r c l))||(!(Dg p q m p q m)))||(!(Dg a b g a b g)))||(F1 h)) then bif ((((!(Dg r c l r c l))||(!(Dg p q m p q m)))||(!(Dg a b g a b g)))||(!(Dg u v h u v h))) then some (.bool false) else bif (Qf l m g h) then bif ((!(((D7 r c l p q m a b g u v h).2.2.2)==((D7 r c l p q m a b g u v h).2.2.2)))||(F1 ((D7 r c l p q m a b g u v h).2.2.1))) then some (.bool (bif (bif (((D7 r c l p q m a b g u v h).2.2.2)==((D7 r c l p q m a b g u v h).2.2.2)) then (Dg ((D7 r c l p q m a b g u v h).1) ((D7 r c l p q m a b g u v h).2.1) ((D7 r c l p q m a b g u v h).2.2.1) ((D7 r c l p q m a b g u v h).1) ((D7 r c l p q m a b g u v h).2.1) ((D7 r c l p q m a b g u v h).2.2.1)) else false) then true else false)) else none else none else none else none else none else none else none else none else none else none else none :=
  Eq.trans (by kernel_rfl)
  (Cq (Ci (F1 l)) (Cq (Ci (F1 m)) (Cq (Ci (F1 g)) (Cq (Ci (F1 h)) (Ea (Ea (Ar (Z6 (Dg r c l r c l)) (Ar (Qq (Dg r c l r c l)) (Ar (Z6 (Dg r c l r c l)) (Ar (Qq (Dg r c l r c l)) (Cq (Awo (Dg r c l r c l) (F1 m)) (Ar (Qq (Dg r c l r c l)) (Ar (Ab7 (Dg r c l r c l)) (Ar (Anl (Dg r c l r c l) (Dg p q m p q m)) (Ar (Ahd (Dg r c l r c l) (Dg p q m p q m)) (Ar (Anl (Dg r c l r c l) (Dg p q m p q m)) (Ar (Ahd (Dg r c l r c l) (Dg p q m p q m)) (Cq (Awp (Dg r c l r c l) (Dg p q m p q m) (F1 g)) (Ar (Ahd (Dg r c l r c l) (Dg p q m p q m)) (Ar (Awf (Dg r c l r c l) (Dg p q m p q m)) (Ar (Atl (Dg r c l r c l) (Dg p q m p q m) (Dg a b g a b g)) (Ar (At4 (Dg r c l r c l) (Dg p q m p q m) (Dg a b g a b g)) (Ar (Atl (Dg r c l r c l) (Dg p q m p q m) (Dg a b g a b g)) (Ar (At4 (Dg r c l r c l) (Dg p q m p q m) (Dg a b g a b g)) (Cq (Axz (Dg r c l r c l) (Dg p q m p q m) (Dg a b g a b g) (F1 h)) (Ar (At4 (Dg r c l r c l) (Dg p q m p q m) (Dg a b g a b g)) (Ar (Ax0 (Dg r c l r c l) (Dg p q m p q m) (Dg a b g a b g)) (Cq (Ax1 (Dg r c l r c l) (Dg p q m p q m) (Dg a b g a b g) (Dg u v h u v h)) rfl (Ea (Ar (On (((D7 r c l p q m a b g u v h).2.2.2)==((D7 r c l p q m a b g u v h).2.2.2))) (Ar (On (((D7 r c l p q m a b g u v h).2.2.2)==((D7 r c l p q m a b g u v h).2.2.2))) (Cq (Ax5 (((D7 r c l p q m a b g u v h).2.2.2)==((D7 r c l p q m a b g u v h).2.2.2)) (F1 ((D7 r c l p q m a b g u v h).2.2.1))) (Ar (Tw (((D7 r c l p q m a b g u v h).2.2.2)==((D7 r c l p q m a b g u v h).2.2.2))) (Ar (Anj (((D7 r c l p q m a b g u v h).2.2.2)==((D7 r c l p q m a b g u v h).2.2.2)) (Dg ((D7 r c l p q m a b g u v h).1) ((D7 r c l p q m a b g u v h).2.1) ((D7 r c l p q m a b g u v h).2.2.1) ((D7 r c l p q m a b g u v h).1) ((D7 r c l p q m a b g u v h).2.1) ((D7 r c l p q m a b g u v h).2.2.1))) (Ar (Aq3 (((D7 r c l p q m a b g u v h).2.2.2)==((D7 r c l p q m a b g u v h).2.2.2)) (Dg ((D7 r c l p q m a b g u v h).1) ((D7 r c l p q m a b g u v h).2.1) ((D7 r c l p q m a b g u v h).2.2.1) ((D7 r c l p q m a b g u v h).1) ((D7 r c l p q m a b g u v h).2.1) ((D7 r c l p q m a b g u v h).2.2.1))) rfl))) rfl))) rfl)))) rfl))))))) rfl))))))) rfl))))) rfl) rfl) rfl) rfl) rfl) rfl)
abbrev _root_.Go.Proofs.S1.Cc.D2.Kn:=A5 Tryz.prog 8 Cc.D2.spec
theorem Cc.D2.Ac (hk:Ay Tryz.prog Cc.D2.A8) (h:∀ (r c:Int) (l:List Int) (p q:Int) (m:List Int) (a b:Int) (g:List Int) (u v:Int) (h:List Int),Cc.D2.pre [.i r,.i c,.l l,.i p,.i q,.l m,.i a,.i b,.l g,.i u,.i v,.l h]=true→Ba Cc.D2.E Tryz.f8 [.agg [.int .i64 r,.int .i64 c,.ints .arg .u64 l,.int .i64 p,.int .i64 q,.ints .arg .u64 m,.int .i64 a,.int .i64 b,.ints .arg .u64 g,.int .i64 u,.int .i64 v,.ints .arg .u64 h]] (Cc.D2.out [.i r,.i c,.l l,.i p,.i q,.l m,.i a,.i b,.l g,.i u,.i v,.l h])):Cc.D2.Kn :=
  Aj (A1 hk _ _ _) Tryz.func8 (by kernel_rfl) (by kernel_rfl) h
end EqLaw20
open EqLaw20
theorem Cc.task.known:Cc.task.Kn:=Cc.task.Ac .nil fun r c l p q m a b g u v h _ =>
  ⟨0,_,[],Cc.task.ev 0 r c l p q m a b g u v h,Wk.G2 (.cons .int (.cons .int (.cons .Rh (.cons .int (.cons .int (.cons .Rh (.cons .int (.cons .int (.cons .Rh (.cons .int (.cons .int (.cons .Rh .nil))))))))))))⟩
theorem Cc.one.known:Cc.one.Kn:=Cc.one.Ac .nil fun b _ =>
  ⟨0,_,[4],Cc.one.ev 0 b,Qo (List.mem_singleton.2 rfl)⟩
theorem Ar8:D7 1 1 [4607182418800017408] 1 1 [4607182418800017408] 1 1 [0] 1 1 [4613937818241073152]=(1,1,[4613937818241073152],0):=by decide +kernel
theorem Aic {x:Int} (h:decide (0≤x∧x<18446744073709551616)=true):Ae [x]=true:=Aw.2 fun y hy=>by
  rw [List.mem_singleton.1 hy]; exact Aw.2 (of_decide_eq_true h)
theorem Vg:Qf [4607182418800017408] [4607182418800017408] [0] [4613937818241073152]=true:=by
  unfold Qf
  rw [Aic (by decide),Aic (x:=0) (by decide),Aic (x:=4613937818241073152) (by decide)]; rfl
theorem Cc.Ip.known:Cc.Ip.Kn:=Cc.Ip.Ac (.cons Cc.one.known (.cons Dw.Solve.known .nil)) fun _ _=>by
  refine ⟨0,Cc.Ip.out [],[],?_,.bool⟩
  rw [Cc.Ip.ev,Vg,Ar8]
  rfl
theorem Ar4 (r c:Int) (l:List Int) (p q:Int) (m:List Int):(Fa r c l p q m).2.2.1.length≤36:=by
  unfold Fa
  by_cases k:(Av r c l&&Av p q m)=true
  · rw [if_pos k]
    obtain ⟨h1,h2⟩:=Ad.1 k
    obtain ⟨R,C,rfl,rfl,r6,c6,_⟩:=B8 h1
    obtain ⟨P,Q,rfl,rfl,p6,q6,_⟩:=B8 h2
    by_cases k2:(C:Int)=(P:Int)
    · rw [if_pos k2]
      dsimp only
      rw [Ca,Ay8,Ay8]
      exact Nat.mul_le_mul r6 q6
    · rw [if_neg k2]; exact Nat.zero_le _
  · rw [if_neg k]; exact Nat.zero_le _
theorem Asv {r c:Int} {l:List Int} {e:Int} (h:l.length≤36):(Ic r c l e).2.2.1.length≤36:=by
  unfold Ic
  by_cases k:e=0
  · rw [if_neg (fun h=>h k)]
    by_cases k2:B1 r c l=0
    · rw [if_neg (fun h=>h k2)]; exact h
    · rw [if_pos k2]; exact Nat.zero_le _
  · rw [if_pos k]; exact Nat.zero_le _
theorem Aa7 {e:Int}:(Ij e).2.2.1.length≤36:=Nat.zero_le _
theorem V9 {P:Prop} [Decidable P] {x y:MX} (h1:x.2.2.1.length≤36) (h2:y.2.2.1.length≤36):(if P then x else y).2.2.1.length≤36:=by
  by_cases k:P
  · rw [if_pos k]; exact h1
  · rw [if_neg k]; exact h2
theorem Asc (r c:Int) (l:List Int) (p q:Int) (m:List Int) (a b:Int) (g:List Int) (u v:Int) (h:List Int):(D7 r c l p q m a b g u v h).2.2.1.length≤36:=by
  unfold D7 Yw Afi Yv
  exact V9 Aa7 (V9 Aa7 (V9 Aa7 (V9 Aa7 (V9 Aa7 (V9 Aa7 (Asv (Ar4 _ _ _ _ _ _)))))))
theorem Cc.D2.known:Cc.D2.Kn:=Cc.D2.Ac (.cons Cc.Ip.known (.cons Cc.task.known (.cons Dw.Solve.known (.cons Af.Np.known (.cons Af.Fb.known (.cons B7.Solve.known .nil)))))) fun r c l p q m a b g u v h hp=>by
  obtain ⟨h0,h1⟩:=Ad.1 (show (Qf l m g h&&((F1 l&&F1 m)&&(F1 g&&F1 h)))=true from hp)
  obtain ⟨h2,h3⟩:=Ad.1 h1
  obtain ⟨ol,om⟩:=Ad.1 h2
  obtain ⟨og,oh⟩:=Ad.1 h3
  have ox:F1 (D7 r c l p q m a b g u v h).2.2.1=true:=Aw.2 (by have:=Asc r c l p q m a b g u v h; omega)
  refine ⟨0,Cc.D2.out [.i r,.i c,.l l,.i p,.i q,.l m,.i a,.i b,.l g,.i u,.i v,.l h],[],?_,.bool⟩
  show _=some (DV.bool true)
  rw [Cc.D2.ev,ol,om,og,oh,h0,ox,Ot,Ot,Ot,Ot,Ot]
  have e:((D7 r c l p q m a b g u v h).2.2.2==(D7 r c l p q m a b g u v h).2.2.2)=true:=beq_self_eq_true _
  rw [e]
  rfl
end Go.Proofs.S1
end
