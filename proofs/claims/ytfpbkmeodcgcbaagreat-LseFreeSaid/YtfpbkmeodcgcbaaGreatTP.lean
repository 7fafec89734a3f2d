/- A verified evaluator of the program's form and its use for this seat: LseP, S1EqLaw20P, S1PLaw20P. -/
import Derived.Test.YtfpbkmeodcgcbaaGreatTO
import Derived.Test.YtfpbkmeodcgcbaaGreatTE
import Derived.Test.YtfpbkmeodcgcbaaGreatTF
import Derived.Test.YtfpbkmeodcgcbaaGreatTG
import Derived.Test.YtfpbkmeodcgcbaaGreatTM
set_option linter.unusedVariables false
set_option linter.unusedSimpArgs false
open Option renaming some->xM,none->xN
open Bool renaming true->wg,false->wy
open Int renaming toNat->wz
open List renaming length->vA
open List renaming replicate->zq,mem_map->zu
noncomputable section
open Go.Proofs.Tryz
namespace Go.Proofs.S1
open Go Go.Den Go.CI Go.Proofs
theorem U6:∀n:Fin 7,hQ 0 (n.val:Int) []=Ab6 n.val/\hY 0 (n.val:Int) [] 0 1 []=(0,1,[],0)/\Cm 0 (n.val:Int) []=0/\Cm 0 1 []=0:=by decide +kernel
theorem Ajb{x:Int}(h:Fw x):CA x 0=x:=by
 by_cases hx:x=9223372036854775808
 ·rw[hx]; decide +kernel
 ·have g:=h.Abv hx;have w:=Bt.1 h.word;show((Em x.toNat (BG wg 0)).1:Int)=x;rw[I6 (F4 h.word) g.k3 g.k4 g.ne wg]; omega
theorem AaM{R C:Nat}{x:MX}(h:Rn R C x):GA x 0 0 (R:Int) 0=((R:Int),0,[],0):=by have hr:=h.right;obtain⟨l,rfl,r6,c6,hl,al⟩:=h;unfold GA EW;dsimp only;rw[hr,Az rfl,Az (show GI (R:Int) (C:Int) 0 0 (R:Int) 0=wg from Ac (by omega))];have e:(Cg (wz (R:Int)) (wz 0) fun i k:Nat=>Cc (C:Int) l (0+(i:Int)) (0+(k:Int)))=[]:=AF (by rw[Ca]; rfl);rw[e]
theorem Aj4{R:Nat}(r6:R<=6):E6 (R:Int) 0 [] 0 1 []=((R:Int),1,zq R 0,0):=by
 unfold E6;rw[show B5 (R:Int) 0 []=wg from D8 (r:=R) (c:=0) r6 (by decide) (by simp),show B5 0 1 []=wg from by decide,Ah,Az rfl,Az rfl,Ad]
 have e:(Cg R (wz 1) fun i k:Nat=>Fu (Ee 0 [] (i:Int)) (Hw 0 1 [] (k:Int)))=zq R 0:=by
  have h:(fun i k:Nat=>Fu (Ee 0 [] (i:Int)) (Hw 0 1 [] (k:Int)))=fun _ _=>(0:Int):=funext fun i=>funext fun k=>by
   have e1:Ee 0 [] (i:Int)=[]:=by unfold Ee; simp
   rw[e1]; rfl
  rw[h,U5];show zq (R*1) (0:Int)=_;rw[AN]
 rw[e]
theorem Y4{R:Nat}{m:Bb}(hm:Rn R 1 ((R:Int),1,m,0))(fm:Dc m=wg):IV (R:Int) 1 m (R:Int) 1 (zq R 0)=((R:Int),1,m,0):=by
 have hr:=hm.right;have r6:=hm.r6;obtain⟨m',e,_,_,hl,al⟩:=hm;obtain rfl:m=m':=congrArg (fun z:MX=>z.2.2.1) e;unfold IV;rw[show B5 (R:Int) 1 m=wg from hr,show B5 (R:Int) 1 (zq R 0)=wg from D8 (c:=1) r6 (by decide) (by rw[List.length_replicate,AN]),Ah,Az rfl,Az ⟨rfl,rfl⟩,Ad]
 have h:Cg R 1 (fun i k:Nat=>CA (Cc 1 m (i:Int) (k:Int)) (Cc 1 (zq R 0) (i:Int) (k:Int)))=m:=by
  refine List.ext_getElem? fun j=>?_
  by_cases hj:j<R
  ·have h1:=Z5 (r:=R) (c:=1) (i:=j) (k:=0) (f:=fun i k:Nat=>CA (Cc 1 m (i:Int) (k:Int)) (Cc 1 (zq R 0) (i:Int) (k:Int))) hj (by decide);rw[AN,AM,Al] at h1;have hl':j<(Cg R 1 (fun i k:Nat=>CA (Cc 1 m (i:Int) (k:Int)) (Cc 1 (zq R 0) (i:Int) (k:Int)))).length:=by rw[Ca]; omega
   rw[As hl'] at h1 ⊢;rw[As (show j<m.length by omega)];refine congrArg xM (Eq.trans h1 ?_);have e1:Cc 1 m (j:Int) ((0:Nat):Int)=m.getD (j*1+0) 0:=Jg 1 m j 0;have e2:Cc 1 (zq R 0) (j:Int) ((0:Nat):Int)=(zq R (0:Int)).getD (j*1+0) 0:=Jg 1 _ j 0
   have e3:(zq R (0:Int)).getD (j*1+0) 0=0:=by rw[Al,List.getElem?_replicate]; split<;>rfl
   rw[e1,e2,e3,AN,AM,Ajb (Abx al fm (by omega)),Al,As (by omega)];rfl
  ·rw[AY (by rw[Ca]; omega),AY (by omega)]
 exact congrArg (fun z=>((R:Int),(1:Int),z,(0:Int))) h
theorem YB{n:Nat}{Y:Bb}(h:Rn n 1 ((n:Int),1,Y,0)):R3 (0,1,[],0) ((n:Int),1,Y,0)=((n:Int),1,Y,0):=by have hr:=h.right;have n6:=h.r6;obtain⟨l,e,_,_,hl,_⟩:=h;obtain rfl:Y=l:=congrArg (fun z:MX=>z.2.2.1) e;unfold R3 C6;dsimp only;rw[hr,show B5 0 1 []=wg from by decide,Ah,Az rfl,Az ⟨rfl,by omega⟩,Int.zero_add,Ad];have:=Aa1 (R:=0) (P:=n) (C:=1) (l:=[]) (m:=Y) rfl hl;rw[List.nil_append,AO] at this;rw[show(1:Int).toNat=1 from rfl];exact congrArg (fun z=>((n:Int),(1:Int),z,(0:Int))) this
theorem Ahe{R n:Nat}{l m:Bb}(hA:Rn R n ((R:Int),(n:Int),l,0))(hC:Rn R 1 ((R:Int),1,m,0))(fA:Dc l=wg)(fC:Dc m=wg)(hn:n<=R):
 ((Dz (R:Int) (n:Int) (l.map Fs) (R:Int) 1 m).2.2.2≠0->Dy (R:Int) (n:Int) l 0 (n:Int) [] (R:Int) 1 m 0 1 []=Gv (Dz (R:Int) (n:Int) (l.map Fs) (R:Int) 1 m).2.2.2) /\
 (∀X,Dz (R:Int) (n:Int) (l.map Fs) (R:Int) 1 m=((n:Int),1,X,0)->Rn n 1 ((n:Int),1,X,0)->Dc X=wg->Dy (R:Int) (n:Int) l 0 (n:Int) [] (R:Int) 1 m 0 1 []=((n:Int),1,X.map Fs,0)):=by
 have n6:=hA.c6;have r6:=hA.r6;obtain⟨q1,q2,k2,k4⟩:=U6 ⟨n,by omega⟩;dsimp only at q1 q2 k2 k4;have k1:Cm (R:Int) (n:Int) l=0:=hA.chk fA;have k3:Cm (R:Int) 1 m=0:=hC.chk fC
 have kt:IU (R:Int) (n:Int) l 0 (n:Int) [] (R:Int) 1 m 0 1 []=0:=by unfold IU;rw[Ay (fun h=>h k1),Ay (fun h=>h k2),Ay (fun h=>h k3),Ay (fun h=>h k4),Ay (by omega)]
 obtain⟨hW,fW⟩:=Xt hA fA
 have ew:AlV (R:Int) (n:Int) l 0 (n:Int) []=Xu ((R:Int),(n:Int),l,0):=by unfold AlV;rw[q1,Vq hA fA,Ab0 hW fW]
 have eD:Abg (Xu ((R:Int),(n:Int),l,0)) (0,1,[],0) (R:Int) 0=((R:Int),1,zq R 0,0):=by unfold Abg;rw[AaM hW];exact Aj4 r6
 have eF:Ahg (R:Int) 1 m ((R:Int),1,zq R 0,0)=((R:Int),1,m,0):=by unfold Ahg;dsimp only;rw[Y4 hC fC];exact Ab0 hC fC
 have ez:XJ (GA (Xu ((R:Int),(n:Int),l,0)) 0 0 (R:Int) ((n:Int)-0)) ((R:Int),1,m,0)=Dz (R:Int) (n:Int) (l.map Fs) (R:Int) 1 m:=by rw[Int.sub_zero,Ag5 hW];rfl
 have start:Dy (R:Int) (n:Int) l 0 (n:Int) [] (R:Int) 1 m 0 1 []=Uk (Ab6 n) (0,1,[],0) (Dz (R:Int) (n:Int) (l.map Fs) (R:Int) 1 m):=by unfold Dy;rw[Ay (fun h=>h kt),q2,Ay (fun h=>h rfl),ew,q1];unfold AcD;rw[Ay (fun h=>h hW.err),eD,eF];unfold Ahf;rw[Ay (fun h=>h rfl),ez]
 refine⟨fun h=>?_,fun X e hX fX=>?_⟩
 ·rw[start];unfold Uk;rw[Az h]
 ·obtain⟨hP,fP⟩:=Xt hX fX;rw[start,e];unfold Uk;rw[Ay (fun h=>h rfl),YB hX,Ay (fun h=>h rfl),XA hX fX,Ab0 hP fP];rfl
theorem SI(x:Int):DW (Fs x)=DW x:=by
 unfold Fs;split
 ·rename_i h;rw[h,Afu];exact(Ho wg).symm
 ·rfl
theorem Aee:Fs 0=0:=by decide
theorem Z7(l:Bb)(i:Nat):(l.map Fs).getD i 0=Fs (l.getD i 0):=by
 rw[Al,Al,AW];cases l[i]? with
 | none=>exact Aee.symm
 | some x=>rfl
theorem Yk(c i k:Int)(l:Bb):Cc c (l.map Fs) i k=Fs (Cc c l i k):=by unfold Cc;exact Z7 _ _
theorem Acm(l:Bb):Im (l.map Fs)=Im l:=by unfold Im;rw[AK];exact IC _ fun i _=>by rw[Z7,SI]
theorem AjS(c:Nat)(l m h:Bb)(q i k:Nat):Px c (l.map Fs) m h q i k=Px c l m h q i k:=by unfold Px;rw[IC c fun j _=>by rw[Yk,SI]]
theorem Ahr(c:Nat)(l m h:Bb)(q i k:Nat):Px c l (m.map Fs) h q i k=Px c l m h q i k:=by unfold Px;rw[IC c fun j _=>by rw[Yk q,SI]]
theorem AeI(r c q:Nat)(l m h:Bb):Jr r c q (l.map Fs) m h=Jr r c q l (m.map Fs) h:=by
 unfold Jr;refine IC _ fun k _=>IC _ fun j _=>?_
 have e:(F6 r fun i=>DW (Cc (c:Int) (l.map Fs) (i:Int) (j:Int))*Px c (l.map Fs) m h q i k)=F6 r fun i=>DW (Cc (c:Int) l (i:Int) (j:Int))*Px c l (m.map Fs) h q i k :=IC r fun i _=>by rw[Yk,SI,AjS,Ahr]
 rw[e]
theorem Ag3:∀l:Bb,SL (l.map Fs) l
 | []=>.nil
 | x::l=>.cons (TN x) (Ag3 l)
theorem Alx{r c:Nat}{l:Bb}(h:Tm r c l):Tm r c (l.map Fs):=by
 have hl:=h.AbY;refine⟨h.r6,h.c6,by rw[AK]; exact h.len,Bt.2 fun y hy=>?_,fun y hy=>?_,fun y hy k=>?_⟩
 ·obtain⟨x,hx,rfl⟩:=zu.1 hy;have:=Bt.1 hl x hx;unfold Fs;split
  ·exact Hn
  ·exact this
 ·obtain⟨x,hx,rfl⟩:=zu.1 hy;exact Al2 (TN x) (h.Ud x hx)
 ·obtain⟨x,hx,rfl⟩:=zu.1 hy;have e:=Aa6 (TN x) k;rw[e] at k ⊢;exact h.least x hx k
open Go Go.Den Go.CI Go.Proofs
set_option maxRecDepth 100000
def D9.HQ.E:=E0 [(5,D9.GG.Bk),(6,Ec.Solve.Bk),(10,Bx.Add.q.Bk),(9,Bx.Mul.q.Bk),(12,B6.BD.Bk),(8,B6.I7.Bk),(4,B6.Gz.Bk),(11,B6.HX.Bk),(7,BS.F3.Bk)]
theorem D9.HQ.ev(N:Nat)(r c:Int)(l:Bb)(p q:Int)(m:Bb):BX D9.HQ.E N f3 (Br f3) [.agg [.int .i64 r,.int .i64 c,.Bh .arg .u64 l],.agg [.int .i64 p,.int .i64 q,.Bh .arg .u64 m]]=cond (Bg l&&CE (0<=(30:Int)/\(30:Int)<=1000)) (bif ((!(B5 r c l&&JG l 30))||(Bg m&&CE (0<=(30:Int)/\(30:Int)<=1000))) then cond ((!(B5 r c l&&JG l 30))||(!(B5 p q m&&JG m 30))) (xM (.bool wg)) (bif (Sh l [] m []) then cond (Bg l&&Bg m) (bif ((q !=(1:Int))||(r !=p)) then xM (.bool (cond (((Dy r c l 0 c [] p q m 0 1 []).2.2.2)==(3:Int)) wg wy)) else bif (((Dy r c l 0 c [] p q m 0 1 []).2.2.2) !=((Dz r c l p q m).2.2.2)) then xM (.bool wy) else bif (((Dy r c l 0 c [] p q m 0 1 []).2.2.2) !=(0:Int)) then xM (.bool (cond ((vA ((Dy r c l 0 c [] p q m 0 1 []).2.2.1):Int)==(0:Int)) wg wy)) else bif (Bg l&&B5 r c l) then cond (Bg ((Dy r c l 0 c [] p q m 0 1 []).2.2.1)&&B5 ((Dy r c l 0 c [] p q m 0 1 []).1) ((Dy r c l 0 c [] p q m 0 1 []).2.1) ((Dy r c l 0 c [] p q m 0 1 []).2.2.1)) (bif (Nk (Im l)&&Nk (Im ((Dy r c l 0 c [] p q m 0 1 []).2.2.1))) then cond (Bg m&&B5 p q m) (bif (Nk (DY (Im l)*DY (Im ((Dy r c l 0 c [] p q m 0 1 []).2.2.1)))&&Nk (Im m)) then cond (Nk (Im l)&&Nk (DY (DY (Im l)*DY (Im ((Dy r c l 0 c [] p q m 0 1 []).2.2.1)))+DY (Im m))) (bif ((!((((Dy r c l 0 c [] p q m 0 1 []).1)==c)&&(((Dy r c l 0 c [] p q m 0 1 []).2.1)==(1:Int))))||(((B5 r c l&&B5 ((Dy r c l 0 c [] p q m 0 1 []).1) ((Dy r c l 0 c [] p q m 0 1 []).2.1) ((Dy r c l 0 c [] p q m 0 1 []).2.2.1))&&(B5 p q m&&(Bg l&&(Bg ((Dy r c l 0 c [] p q m 0 1 []).2.2.1)&&Bg m))))&&decide (((Dy r c l 0 c [] p q m 0 1 []).1)=c/\p=r/\q=((Dy r c l 0 c [] p q m 0 1 []).2.1)))) then cond ((!((((Dy r c l 0 c [] p q m 0 1 []).1)==c)&&(((Dy r c l 0 c [] p q m 0 1 []).2.1)==(1:Int))))||((dSo (Jr (wz r) (wz c) (wz ((Dy r c l 0 c [] p q m 0 1 []).2.1)) l ((Dy r c l 0 c [] p q m 0 1 []).2.2.1) m)&&dSo (DY (Im l)*DY (DY (DY (Im l)*DY (Im ((Dy r c l 0 c [] p q m 0 1 []).2.2.1)))+DY (Im m))))&&CE (0<=(35:Int)/\(35:Int)<=1000))) (xM (.bool (cond (bif (cond (((Dy r c l 0 c [] p q m 0 1 []).1)==c) (((Dy r c l 0 c [] p q m 0 1 []).2.1)==(1:Int)) wy) then (decide (DY (Jr (wz r) (wz c) (wz ((Dy r c l 0 c [] p q m 0 1 []).2.1)) l ((Dy r c l 0 c [] p q m 0 1 []).2.2.1) m)<=DY (DY (Im l)*DY (DY (DY (Im l)*DY (Im ((Dy r c l 0 c [] p q m 0 1 []).2.2.1)))+DY (Im m)))*tw (-2*35)+tw (-4000))) else wy) wg wy))) xN else xN) xN else xN) xN else xN) xN else xN) xN else xN) else xN) xN:=
 Et (DJ (B4 (WN (B5 r c l&&JG l 30)) (C0 (Ad9 _ _) (B4 (PA (B5 r c l&&JG l 30)) (B4 (WO (B5 r c l&&JG l 30)) (C0 (AfN _ _) rfl (DJ (DJ (B4 (O1 (q !=(1:Int))) (B4 (Nx (q !=(1:Int))) (B4 (O1 (q !=(1:Int))) (B4 (Nx (q !=(1:Int))) (B4 (tt8 (q !=(1:Int))) (B4 (SM (q !=(1:Int))) (C0 (tt5 _ _) (B4 (L8 (((Dy r c l 0 c [] p q m 0 1 []).2.2.2)==(3:Int))) (B4 (Pp (((Dy r c l 0 c [] p q m 0 1 []).2.2.2)==(3:Int))) rfl)) (DJ rfl (DJ (B4 (L8 ((vA ((Dy r c l 0 c [] p q m 0 1 []).2.2.1):Int)==(0:Int))) (B4 (Pp ((vA ((Dy r c l 0 c [] p q m 0 1 []).2.2.1):Int)==(0:Int))) rfl)) (DJ (C0 (Cp _) (C0 (Cp _) (C0 (Cp _) (C0 (Cp _) (C0 (Cp _) (B4 (Ani (((Dy r c l 0 c [] p q m 0 1 []).1)==c)) (B4 (AkE (((Dy r c l 0 c [] p q m 0 1 []).1)==c)) (B4 (AkE (((Dy r c l 0 c [] p q m 0 1 []).1)==c)) (B4 (Anj (((Dy r c l 0 c [] p q m 0 1 []).1)==c)) (B4 (AiM (((Dy r c l 0 c [] p q m 0 1 []).1)==c) (((Dy r c l 0 c [] p q m 0 1 []).2.1)==(1:Int))) (B4 (AiM (((Dy r c l 0 c [] p q m 0 1 []).1)==c) (((Dy r c l 0 c [] p q m 0 1 []).2.1)==(1:Int))) (B4 (AiM (((Dy r c l 0 c [] p q m 0 1 []).1)==c) (((Dy r c l 0 c [] p q m 0 1 []).2.1)==(1:Int))) (C0 (Aoi _ _ _) (B4 (AiM (((Dy r c l 0 c [] p q m 0 1 []).1)==c) (((Dy r c l 0 c [] p q m 0 1 []).2.1)==(1:Int))) (C0 (Aoj _ _ _) (B4 (Aok (((Dy r c l 0 c [] p q m 0 1 []).1)==c) (((Dy r c l 0 c [] p q m 0 1 []).2.1)==(1:Int))) (B4 (Aol (((Dy r c l 0 c [] p q m 0 1 []).1)==c) (((Dy r c l 0 c [] p q m 0 1 []).2.1)==(1:Int)) (decide (DY (Jr (wz r) (wz c) (wz ((Dy r c l 0 c [] p q m 0 1 []).2.1)) l ((Dy r c l 0 c [] p q m 0 1 []).2.2.1) m)<=DY (DY (Im l)*DY (DY (DY (Im l)*DY (Im ((Dy r c l 0 c [] p q m 0 1 []).2.2.1)))+DY (Im m)))*tw (-2*35)+tw (-4000)))) (B4 (Aom (((Dy r c l 0 c [] p q m 0 1 []).1)==c) (((Dy r c l 0 c [] p q m 0 1 []).2.1)==(1:Int)) (decide (DY (Jr (wz r) (wz c) (wz ((Dy r c l 0 c [] p q m 0 1 []).2.1)) l ((Dy r c l 0 c [] p q m 0 1 []).2.2.1) m)<=DY (DY (Im l)*DY (DY (DY (Im l)*DY (Im ((Dy r c l 0 c [] p q m 0 1 []).2.2.1)))+DY (Im m)))*tw (-2*35)+tw (-4000)))) rfl))) rfl)) rfl)))))))) rfl) rfl) rfl) rfl) rfl) rfl)))))))))) rfl) rfl)))) rfl)) rfl)
theorem D9.HQ.Bi:Kq 3 D9.HQ.Bk:=D6 D9.HQ.E Tryz.func3 (kc D9.GG.Bi (kc Ec.Solve.Bi (kc Bx.Add.q.Bi (kc Bx.Mul.q.Bi (kc B6.BD.Bi (kc B6.I7.Bi (kc B6.Gz.Bi (kc B6.HX.Bi (kc BS.F3.Bi .nil))))))))) fun r c l p q m hp=>by
 obtain⟨al,am⟩:=Bf.1 (show(Bg l&&Bg m)=wg from hp);refine⟨0,.bool wg,[],?_,.bool⟩;have k1:CE (0<=(30:Int)/\(30:Int)<=1000)=wg:=Bt.2 (by decide);have k2:CE (0<=(35:Int)/\(35:Int)<=1000)=wg:=Bt.2 (by decide);have an:Bg []=wg:=Bt.2 fun y hy=>by cases hy
 have a4:Sh l [] m []=wg:=by unfold Sh; rw[al,am,an]; rfl
 rw[D9.HQ.ev,al,am,a4,k1,k2,Ah,Aa,AQ,Aa];cases t1:B5 r c l&&JG l 30 with
 | false=>rfl
 | true =>
 cases t2:B5 p q m&&JG m 30 with
 | false=>rfl
 | true =>
 obtain⟨hr,ht⟩:=Bf.1 t1;obtain⟨hr2,ht2⟩:=Bf.1 t2;obtain⟨R,n,rfl,rfl,A⟩:=AkG (k:=30) hr al ht (by decide);obtain⟨P,Q,rfl,rfl,B⟩:=AkG (k:=30) hr2 am ht2 (by decide);have c1:=Kh hr A.Ud.Is;have c3:=Kh hr2 B.Ud.Is;obtain⟨_,_,c2,c4⟩:=U6 ⟨n,by have:=A.c6; omega⟩;dsimp only at c2 c4;have three:∀{x:MX},x=Gv 3->x.2.2.2=3:=fun h=>by rw[h]; rfl
 rw[AD,Bool.or_self,Af,Aa,Aa];by_cases hs:Q≠1\/R≠P
 ·have e1:IU (R:Int) (n:Int) l 0 (n:Int) [] (P:Int) (Q:Int) m 0 1 []=3:=by unfold IU;rw[Ay (fun h=>h c1),Ay (fun h=>h c2),Ay (fun h=>h c3),Ay (fun h=>h c4),Az (by omega)]
  have e:Dy (R:Int) (n:Int) l 0 (n:Int) [] (P:Int) (Q:Int) m 0 1 []=Gv 3:=by unfold Dy; rw[e1,Az (by decide)]
  have g:(((Q:Int) !=1)||((R:Int) !=(P:Int)))=wg:=by rw[Bool.or_eq_true,bne_iff_ne,bne_iff_ne]; omega
  rw[g,Aa,e];rfl
 ·obtain rfl:Q=1:=by omega
  obtain rfl:P=R:=by omega
  have g:((((1:Nat):Int) !=1)||((P:Int) !=(P:Int)))=wy:=by simp
  rw[g,Af];have q1:((1:Nat):Int)=1:=rfl;rw[q1];have A':=Alx A;have err:(Dz (P:Int) (n:Int) (l.map Fs) (P:Int) 1 m).2.2.2=(Dz (P:Int) (n:Int) l (P:Int) 1 m).2.2.2:=Ae9 (Ag3 l) A'.AbY;have mA:Rn P n ((P:Int),(n:Int),l,0):=⟨l,rfl,A.r6,A.c6,A.len,al⟩
  have mC:Rn P 1 ((P:Int),1,m,0):=⟨m,rfl,B.r6,by decide,B.len,am⟩
  by_cases hn:n<=P
  ·obtain⟨bad,Abv⟩:=Ahe mA mC A.Ud.Is B.Ud.Is hn;rw[<- err];have ta:Dz (P:Int) (n:Int) (l.map Fs) (P:Int) 1 m=Gv 3\/Dz (P:Int) (n:Int) (l.map Fs) (P:Int) 1 m=Gv 5\/_:=Abm A' B;rcases ta with e | e | ⟨X,_,_,e,lX,bX,gX⟩
   ·rw[bad (by rw[e]; decide),e]; rfl
   ·rw[bad (by rw[e]; decide),e]; rfl
   ·have e:Dz (P:Int) (n:Int) (l.map Fs) (P:Int) 1 m=((n:Int),1,X,0):=e
    have aX:Bg X=wg:=by have:=Wg (P:Int) (n:Int) (l.map Fs) (P:Int) 1 m;rw[e] at this; exact this
    have mX:Rn n 1 ((n:Int),1,X,0):=⟨X,rfl,A.c6,by decide,lX,aX⟩
    rw[Abv X e mX bX.Is,e];dsimp only;rw[AeI,Acm,<- Acm X] at gX;have hP:=(Xt mX bX.Is).1;have aP:Bg (X.map Fs)=wg:=hP.inn;have rP:B5 (n:Int) 1 (X.map Fs)=wg:=hP.right;have lA:l.length<=36:=Hf hr;have lB:m.length<=36:=Hf hr2;have l36:(X.map Fs).length<=36:=Hf rP;obtain⟨d1,d2,d3,d4,d5,d6⟩:=Ahs lA l36 lB;have dg:Ds (Jr P n 1 l (X.map Fs) m):=(Dg.AoO A.r6 A.c6 (by decide)).ds (by decide) (by decide) (by decide);have n1:((0:Int) !=0)=wy:=rfl;have n2:((n:Int)==(n:Int))=wg:=by simp
    have n3:((1:Int)==1)=wg:=rfl;have e1:decide ((n:Int)=(n:Int)/\(P:Int)=(P:Int)/\(1:Int)=1)=wg:=Ac ⟨rfl,rfl,rfl⟩;have e2:(-2*(35:Int))=-70:=rfl;have i1:wz 1=1:=rfl;have hr2':B5 (P:Int) 1 m=wg:=hr2;rw[n1,n2,n3,hr,hr2',rP,aP,e1,e2,Ad,Ad,i1];simp only[Bool.or_self,AD,Bool.false_or,Ah,Aa,Af,E7 d1,E7 d2,E7 d3,E7 d4,E7 d5,E7 d6.dq,E7 dg.dq,EL d1,EL d2,EL d3,EL d4,EL d5,AhV d6,AhV dg];rw[Ac gX];rfl
  ·have c3':Cm (P:Int) 1 m=0:=c3
   have e1:IU (P:Int) (n:Int) l 0 (n:Int) [] (P:Int) 1 m 0 1 []=3:=by unfold IU;rw[Ay (fun h=>h c1),Ay (fun h=>h c2),Ay (fun h=>h c3'),Ay (fun h=>h c4),Az (by omega)]
   have e:Dy (P:Int) (n:Int) l 0 (n:Int) [] (P:Int) 1 m 0 1 []=Gv 3:=by unfold Dy; rw[e1,Az (by decide)]
   have e2:Dz (P:Int) (n:Int) l (P:Int) 1 m=Gv 3:=by unfold Dz;rw[Ay (fun h=>h c1),Ay (fun h=>h c3'),Az (by omega)]
   rw[e,e2];rfl
end Go.Proofs.S1
end
