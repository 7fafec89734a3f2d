/- A verified evaluator of the program's form and its use for this seat: SvdN, S1PRef19, S1PRef19A, S1EqBes, S1PBes, S1EqLow, S1PLow, S1EqLse, S1PLse, S1PLseA, S1PRefL, S1PRef20, S1PMx, S1EqGg, S1PGg, S1EqRidge, S1PRidge, S1EqRef22, S1PRef22, S1EqLaw17, S1PLaw17, S1EqLaw22, S1PLaw22, S1EqTot, S1PTot, S1PGgA, S1EqRef21, S1PRef21, S1EqGsv, S1EqRef23, S1PGs, S1EqLaw23, S1PGsA, S1PLaw23, S1EqRefM, S1PRefM, ExaL, S1PExa, RatO, RatP, RatQ, VecR, NorR, NorS, MirR, MirT, MirW, MakV, AppV. -/
import Derived.Test.YthajngaadbanfaaGreatTK
import Derived.Test.YthajngaadbanfaaGreatTJ
import Derived.Test.YthajngaadbanfaaGreatTE
import Derived.Test.YthajngaadbanfaaGreatTF
import Derived.Test.YthajngaadbanfaaGreatTI
set_option linter.unusedVariables false
set_option linter.unusedSimpArgs false
open Option renaming some->wM,none->wN
open Bool renaming true->wc,false->wh
open Int renaming toNat->wi
open List renaming length->wj,getD->vC
open List renaming length_cons->zj,all_eq_true->zF,mem_map->zh,range->zg,mem_singleton->ze,getElem?_range->yn,mem_iff_getElem->wa,getElem_mem->z6,getD_cons_zero->xP
open Nat renaming zero_le->zl,div_eq_of_lt->yd,zero_mul->zK,mod_lt->zt,mul_lt_mul''->xX,mul_zero->yk,mul_add->z7,one_mul->zv,mul_mul_mul_comm->y6
open Int renaming natCast_add->zI
open Rat renaming mul_le_mul_of_nonneg_left->zd,le_of_lt->za,mul_nonneg->zb,mul_assoc->xo,natCast_mul->zP,natCast_add->yg,natCast_lt_natCast->vW,mul_pos->z8,mul_le_mul_of_nonneg_right->zc,le_of_mul_le_mul_right->zQ,mul_eq_zero->xY,le_trans->zp,le_refl->zE,le_total->yQ,add_zero->xE
noncomputable section
open Go.Proofs.Tryz
namespace Go.Cn
open Go.Den
theorem U2{b:Nat}{n:Int}(h4:Bn b≠4):Bn (Cj b n).1≠4:=by
 by_cases h:Bn b=3\/Bn b=0
 ·unfold Cj; rw[Ay h4,Az h]; exact h4
 ·rw[G4 h4 h]; exact Gd _ _ _
theorem V8{k:Int}:∀(l:Bf) (s t:Nat),(∀z∈l,Bd 1 (Cj z.toNat k).1)->Bm t 2 s->0<t->t+l.length<=1000->Bm (t+l.length) 2 (F8 k (s:Int) l).toNat
 | [],s,t,_,hs,_,_=>by show Bm t 2 (wi (s:Int));rw[Ad]; exact hs
 | x::l,s,t,hl,hs,h0,ht=>by simp only[zj] at ht ⊢;have h1:Bd 1 (Cj x.toNat k).1:=hl x AY;have h2:Bd 2 (Ee (Cj x.toNat k).1 (Cj x.toNat k).1).1:=Bd.mul (j:=1) (k:=1) (by decide) h1 h1;have h3:=Bm.add (k:=2) (by omega) (by omega) (by decide) hs h2.bm;have:=V8 l _ (t+1) (fun z hz=>hl z (AN _ hz)) h3 (by omega) (by omega);rw[show t+(l.length+1)=t+1+l.length by omega];unfold F8 DD Cx;rw[Co,Ad,Ad];exact this
theorem AeP{x:Bf}(hf:Dx x=wc)(hl:x.length<=6):Bn (Cb x).toNat≠4:=by
 obtain⟨b3,b4,_,hb⟩:=Jb hf;unfold Cb;by_cases h:BI x=0\/Du (BI x)=wh
 ·rw[Az h]; exact b4
 ·rw[Ay h];obtain⟨t,te,t1,_⟩:=MG (-BO (BI x)) x 0 (zl _);have te:F8 (-BO (BI x)) 0 x=t:=te
  have bm:Bm (1+x.length) 2 (F8 (-BO (BI x)) 0 x).toNat:=V8 x 0 1 (fun z hz=>by have zk:=L4 (FI hf z hz);exact Bd.down zk.1 zk.2 b3 b4 (hb z hz)) (Bd.zero wh 2).bm (by decide) (by omega)
  rw[te,Ad] at bm;have bt:Bd (3+3) t:=(bm.bd (j:=3) (by omega)).mono (by decide);have br:Bd 3 (Ek t).1:=Bd.root (by decide) bt (EF t1);rw[te,Co];unfold DG;rw[Ad,Ad];exact U2 br.2.1
section
variable{key:Int->Int}(hk:∀i,Bn (key i).toNat≠4)
include hk
end
end Go.Cn
namespace Go.Proofs.S1
open Go Go.Den Go.Cn Go.Proofs
section
variable{R C:Nat}{b:Int}(r6:R<=6)(c6:C<=6)(hb:Br b=wc)(N:Nat)
include r6 c6 hb
end
open Go Go.Den Go.Cn Go.Proofs
section
variable{l o:Bf}(hl:Cw l=wc)(hin:HO l.length o=wc)(h6:o.length<=6)(N:Nat)
include h6
include hl hin
end
section
variable{R C:Nat}{l x:Bf}(r6:R<=6)(c6:C<=6)(hl:l.length=R*C)(hx:x.length=C)(hin:HO C x=wc)(N:Nat){F:Nat->Nat->Int}(hF:F=fun(i k:Nat)=>Dy (C:Int) l (i:Int) (x.getD k 0))
include r6 c6 hl hx hin hF
end
section
variable{R C:Nat}{l:Bf}(r6:R<=6)(c6:C<=6)(N:Nat)
include r6 c6
end
section
variable{R C:Nat}{l:Bf}(r6:R<=6)(c6:C<=6)(hl:l.length=R*C)(al:Bq l=wc)(N:Nat)(hc:BT (R:Int) (C:Int) l=0)
include r6 c6 hl al hc
end
set_option maxRecDepth 100000
section
variable{n Q:Nat}{l m:Bf}
end
section
variable{N:Nat}{r c p q a b u v:Int}{l m g h:Bf}{w one two done f y Q z:MX}
end
theorem Aj6{c:Int}{l:Bf}{i k:Int}(h:Dx l=wc):Du (Dy c l i k)=wc:=by
 unfold Dy;rw[Al];cases hx:l[(i*c+k).toNat]? with
 | none=>exact(by decide:Du 0=wc)
 | some x =>unfold Dx at h;exact zF.1 h x (List.mem_of_getElem? hx)
theorem AfB{r c:Nat}{f:Nat->Nat->Int}(h:∀i k,Du (f i k)=wc):Dx (Dj r c f)=wc:=by unfold Dx;rw[zF];intro x hx;obtain⟨j,_,rfl⟩:=zh.1 hx;exact h _ _
section
variable{n Q:Nat}{l m:Bf}
end
def Lb(R C:Nat)(x:MX):Prop:=∃l,x=((R:Int),(C:Int),l,0)/\R<=6/\C<=6/\l.length=R*C/\Bq l=wc
def FM(x:MX):Prop:=Dx x.2.2.1=wc
theorem FM.of{r c e:Int}{l:Bf}(h:Dx l=wc):FM (r,c,l,e):=h
theorem Lb.mk{R C:Nat}{l:Bf}(r6:R<=6)(c6:C<=6)(hl:l.length=R*C)(al:Bq l=wc):Lb R C ((R:Int),(C:Int),l,0):=⟨l,rfl,r6,c6,hl,al⟩
section
variable{R C K:Nat}{x y:MX}
theorem Lb.right(h:Lb R C x):BD x.1 x.2.1 x.2.2.1=wc:=by obtain⟨l,rfl,r6,c6,hl,al⟩:=h;exact D7 r6 c6 hl
theorem Lb.inn(h:Lb R C x):Bq x.2.2.1=wc:=by obtain⟨l,rfl,r6,c6,hl,al⟩:=h; exact al
theorem Lb.rows(h:Lb R C x):x.1=R:=by obtain⟨l,rfl,_⟩:=h; rfl
theorem Lb.AmQ(h:Lb R C x):x.2.1=C:=by obtain⟨l,rfl,_⟩:=h; rfl
theorem Lb.r6(h:Lb R C x):R<=6:=by obtain⟨l,rfl,r6,_⟩:=h; exact r6
theorem Lb.c6(h:Lb R C x):C<=6:=by obtain⟨l,rfl,_,c6,_⟩:=h; exact c6
theorem Lb.len(h:Lb R C x):x.2.2.1.length<=36:=by obtain⟨l,rfl,r6,c6,hl,_⟩:=h;have:=AE r6 c6;show l.length<=36;omega
theorem Lb.chk(h:Lb R C x)(f:FM x):AmS x=0:=LZ h.right f
theorem X8{i k a b:Nat}(ha:i+a<=R)(hb:k+b<=C):Kg (R:Int) (C:Int) (i:Int) (k:Int) (a:Int) (b:Int)=wc:=Ac (by omega)
theorem Lb.part{i k a b:Nat}(h:Lb R C x)(ha:i+a<=R)(hb:k+b<=C):Lb a b (KT x i k a b):=by have hr:=h.right;obtain⟨l,rfl,r6,c6,hl,al⟩:=h;refine⟨_,by unfold KT Ff; dsimp only; rw[Az hr,Az (X8 ha hb)],by omega,by omega,by rw[Ch,Ad,Ad],Gu fun _ _=>Agn al⟩
theorem FM.part{i k a b:Nat}(h:Lb R C x)(f:FM x)(ha:i+a<=R)(hb:k+b<=C):FM (KT x i k a b):=by have hr:=h.right;obtain⟨l,rfl,r6,c6,hl,al⟩:=h;unfold KT Ff;dsimp only;rw[Az hr,Az (X8 ha hb)];exact .of (AfB fun _ _=>Aj6 (show Dx _=wc from f))
theorem Lb.mul(h:Lb R K x)(g:Lb K C y):Lb R C (mulM x y):=by have hr:=h.right;have hg:=g.right;obtain⟨l,rfl,r6,c6,hl,al⟩:=h;obtain⟨m,rfl,p6,q6,hm,am⟩:=g;refine⟨_,by unfold mulM ON; rw[hr,hg,Ah,Az rfl,Az rfl],r6,q6,by rw[Ch,Ad,Ad],Gu fun _ _=>HG _ _⟩
theorem Lb.fac(h:Lb R C x)(e:EY x.1 x.2.1 x.2.2.1=0):Lb R R (qX x.1 x.2.1 x.2.2.1)/\Lb R C (rX x.1 x.2.1 x.2.2.1)/\FM (qX x.1 x.2.1 x.2.2.1)/\FM (rX x.1 x.2.1 x.2.2.1):=by
 obtain⟨l,rfl,r6,c6,hl,al⟩:=h;obtain⟨q1,g1⟩:=VN e;obtain⟨A,B,eA,eB,_,_,_,aq,hq,ar,hr,fq,fr⟩:=Ym al e;dsimp only at eA eB;obtain rfl:A=R:=by omega
 obtain rfl:B=C:=by omega
 dsimp only at q1 g1 ⊢;rw[q1,g1];rw[Ad,Ad];exact⟨.mk r6 r6 hq aq,.mk r6 c6 hr ar,fq,fr⟩
end
section
variable{N:Nat}{r c p q u v:Int}{l m h:Bf}{R Q T C W:MX}
end
section
variable{N:Nat}{r c p q:Int}{l m:Bf}{Q L S w o y:MX}
end
section
variable{r c p q u v x:Int}{l m h:Bf}
end
theorem W4{r c:Int}{l:Bf}(h:BT r c l=0):BD r c l=wc/\Dx l=wc:=by
 unfold BT at h;by_cases h1:BD r c l=wc
 ·rw[Az h1] at h;by_cases h2:Dx l=wc
  ·exact⟨h1,h2⟩
  ·rw[Ay h2] at h; cases h
 ·rw[Ay h1] at h; cases h
section
variable{C:Nat}{V:Bf}(c6:C<6)(hV:V.length=(C+1)*(C+1))(aV:Bq V=wc)(N:Nat)
include c6 aV
include hV
end
section
variable{C:Nat}{V:Bf}(c6:C<6)(hV:V.length=(C+1)*(C+1))(aV:Bq V=wc)(N:Nat)(p7 p7_1:Int)(p7_2 p7_6:Bf)(p7_7:Int)
include c6 hV aV
end
section
variable{N:Nat}{r c p q u v:Int}{l m h:Bf}{T C E c1 c2 e1 e2 y d f x:MX}
end
def CG.Check.hint:Nat->Option BK
 | 0=>wM { Da:=[2,3,10,11],Cg:=[],Cv:=[2,3] }
 | _=>wN
def CG.Check.E:=Dr (CW [(69,DI.Check.Bu)]) (fun _=>wh) CG.Check.hint (fun _=>wN)
theorem CG.Check.ev(N:Nat)(r c:Int)(l:Bf)(p q:Int)(m:Bf):Cz CG.Check.E (N+4) f27 (Bw f27) [.agg [.int .i64 r,.int .i64 c,.Bj .arg .u64 l],.agg [.int .i64 p,.int .i64 q,.Bj .arg .u64 m]]=cond (Bq l) (bif ((BT r c l) !=(0:Int)) then wM (.int .i64 (BT r c l)) else bif (Bq m) then cond ((BT p q m) !=(0:Int)) (wM (.int .i64 (BT p q m))) (bif ((((c !=q)||(BH c 1))||(BH (Bh (r+p)) c))||(BH 6 (Bh (r+p)))) then wM (.int .i64 3) else wM (.int .i64 0)) else wN) wN :=Et (ET (ET rfl (ET (ET rfl (B4 (TO (c !=q)) (B4 (Rw (c !=q)) (B4 (Rw (c !=q)) (B4 (Xb (c !=q)) (B4 (Xa (c !=q) (BH c 1)) (B4 (YN (c !=q) (BH c 1)) (B4 (Xa (c !=q) (BH c 1)) (B4 (YN (c !=q) (BH c 1)) (B4 (Xa (c !=q) (BH c 1)) (B4 (YN (c !=q) (BH c 1)) (B4 (AgK (c !=q) (BH c 1)) (B4 (AgK (c !=q) (BH c 1)) (B4 (AgM (c !=q) (BH c 1)) (B4 (AbG (c !=q) (BH c 1) (BH (Bh (r+p)) c)) (B4 (AbH (c !=q) (BH c 1) (BH (Bh (r+p)) c)) (B4 (AbG (c !=q) (BH c 1) (BH (Bh (r+p)) c)) (B4 (AbH (c !=q) (BH c 1) (BH (Bh (r+p)) c)) (B4 (Ak8 (c !=q) (BH c 1) (BH (Bh (r+p)) c)) (B4 (AbH (c !=q) (BH c 1) (BH (Bh (r+p)) c)) (B4 (AgN (c !=q) (BH c 1) (BH (Bh (r+p)) c)) (CQ (Amq _ _ _ _) rfl rfl)))))))))))))))))))))) rfl)) rfl)
def CG.CY.hint:Nat->Option BK
 | 0=>wM { Da:=[4,19,21,100,101],Cg:=[(22,13,122013,.Bj 43 .u64 [])],Cv:=[4,19,21] }
 | _=>wN
def CG.CY.GN:List (Nat × Ew):=[(27,CG.Check.Bu),(68,Bg.DU.Bu),(65,Bg.Mul.Bu),(63,Bg.Part.Bu),(61,Bg.Stack.Bu),(62,qr.Ok.Bu),(64,Ct.BW.Bu),(66,Bs.Finite.Bu),(67,Bs.Norm.Bu)]
def CG.CY.live:Nat->Option (List Nat)
 | 4=>wM [2,3,4]
 | 7=>wM [2,3,4,7]
 | 10=>wM [2,3,4,9,10]
 | 13=>wM [4,10,11,12,14]
 | 16=>wM [4,10,11,14,16,17,18]
 | 19=>wM [4,10,11,16,17,18,19]
 | 26=>wM [4,21]
 | _=>wN
def CG.CY.E:Env:=Dr (CW CG.CY.GN) (fun _=>wh) CG.CY.hint CG.CY.live
section
variable(N M:Nat)(r c:Int)(l:Bf)(p q:Int)(m:Bf)(p7 p7_1:Int)(p7_2:Bf)(p10 p10_1:Int)(p10_2:Bf)(p9 p9_1:Int)(p9_2:Bf)(p14 p14_1:Int)(p14_2:Bf)(p12 p12_1:Int)(p12_2 p18:Bf)(p17 p17_1:Int)(p17_2:Bf)(p16 p16_1:Int)(p16_2:Bf)(p19 p19_1:Int)(p19_2:Bf)(p101:Int)(p13:Bf)
def CG.CY.C4:Option DV:=cutAt CG.CY.E N f25 (Bw f25) [1,1] [] ⟨Fp 119 [(2,.ptr 2 0 0),(3,.ptr 3 0 0),(4,.ptr 4 0 0)],[(4,wh,.box [.int .i64 0,.int .i64 0,.nil,.int .i64 0,.int .i64 0,.nil,.int .i64 0,.int .i64 0,.nil,.int .i64 0,.int .i64 0,.nil,.nil,.nil]),(3,wh,.box [.int .i64 p,.int .i64 q,.Bj .arg .u64 m]),(2,wh,.box [.int .i64 r,.int .i64 c,.Bj .arg .u64 l])]⟩
def CG.CY.C7:Option DV:=cutAt CG.CY.E N f25 (Bw f25) [1,1,1,1] [] ⟨Fp 119 [(2,.ptr 2 0 0),(3,.ptr 3 0 0),(4,.ptr 4 0 0),(7,.ptr 7 0 0)],[(7,wh,.box [.int .i64 p7,.int .i64 p7_1,.Bj .BE .u64 p7_2]),(4,wh,.box [.int .i64 0,.int .i64 0,.nil,.int .i64 0,.int .i64 0,.nil,.int .i64 0,.int .i64 0,.nil,.int .i64 0,.int .i64 0,.nil,.nil,.nil]),(3,wh,.box [.int .i64 p,.int .i64 q,.Bj .arg .u64 m]),(2,wh,.box [.int .i64 r,.int .i64 c,.Bj .arg .u64 l])]⟩
def CG.CY.C10:Option DV:=cutAt CG.CY.E N f25 (Bw f25) [1,1,1,1,1,1] [] ⟨Fp 119 [(2,.ptr 2 0 0),(3,.ptr 3 0 0),(4,.ptr 4 0 0),(9,.ptr 9 0 0),(10,.ptr 10 0 0)],[(10,wh,.box [.int .i64 p10,.int .i64 p10_1,.Bj .BE .u64 p10_2]),(9,wh,.box [.int .i64 p9,.int .i64 p9_1,.Bj .BE .u64 p9_2]),(7,wh,.box [.int .i64 p7,.int .i64 p7_1,.Bj .BE .u64 p7_2]),(4,wh,.box [.int .i64 0,.int .i64 0,.nil,.int .i64 0,.int .i64 0,.nil,.int .i64 0,.int .i64 0,.nil,.int .i64 0,.int .i64 0,.nil,.nil,.nil]),(3,wh,.box [.int .i64 p,.int .i64 q,.Bj .arg .u64 m]),(2,wh,.box [.int .i64 r,.int .i64 c,.Bj .arg .u64 l])]⟩
def CG.CY.C13:Option DV:=cutAt CG.CY.E N f25 (Bw f25) [1,1,1,1,1,1,1,1,1] [] ⟨Fp 119 [(4,.ptr 4 0 0),(10,.ptr 10 0 0),(11,.int .i64 c),(12,.ptr 12 0 0),(14,.ptr 14 0 0)],[(14,wh,.box [.int .i64 p14,.int .i64 p14_1,.Bj .BE .u64 p14_2]),(12,wh,.box [.int .i64 p12,.int .i64 p12_1,.Bj .BE .u64 p12_2]),(10,wh,.box [.int .i64 p10,.int .i64 p10_1,.Bj .BE .u64 p10_2]),(9,wh,.box [.int .i64 p9,.int .i64 p9_1,.Bj .BE .u64 p9_2]),(7,wh,.box [.int .i64 p7,.int .i64 p7_1,.Bj .BE .u64 p7_2]),(4,wh,.box [.int .i64 0,.int .i64 0,.nil,.int .i64 0,.int .i64 0,.nil,.int .i64 0,.int .i64 0,.nil,.int .i64 0,.int .i64 0,.nil,.nil,.nil]),(3,wh,.box [.int .i64 p,.int .i64 q,.Bj .arg .u64 m]),(2,wh,.box [.int .i64 r,.int .i64 c,.Bj .arg .u64 l])]⟩
def CG.CY.C16:Option DV:=cutAt CG.CY.E N f25 (Bw f25) [1,1,1,1,1,1,1,1,1,1,1] [] ⟨Fp 119 [(4,.ptr 4 0 0),(10,.ptr 10 0 0),(11,.int .i64 c),(14,.ptr 14 0 0),(16,.ptr 16 0 0),(17,.ptr 17 0 0),(18,.Bj .BE .u64 p18)],[(17,wh,.box [.int .i64 p17,.int .i64 p17_1,.Bj .BE .u64 p17_2]),(16,wh,.box [.int .i64 p16,.int .i64 p16_1,.Bj .arg .u64 p16_2]),(14,wh,.box [.int .i64 p14,.int .i64 p14_1,.Bj .BE .u64 p14_2]),(12,wh,.box [.int .i64 p12,.int .i64 p12_1,.Bj .BE .u64 p12_2]),(10,wh,.box [.int .i64 p10,.int .i64 p10_1,.Bj .BE .u64 p10_2]),(9,wh,.box [.int .i64 p9,.int .i64 p9_1,.Bj .BE .u64 p9_2]),(7,wh,.box [.int .i64 p7,.int .i64 p7_1,.Bj .BE .u64 p7_2]),(4,wh,.box [.int .i64 0,.int .i64 0,.nil,.int .i64 0,.int .i64 0,.nil,.int .i64 0,.int .i64 0,.nil,.int .i64 0,.int .i64 0,.nil,.nil,.nil]),(3,wh,.box [.int .i64 p,.int .i64 q,.Bj .arg .u64 m]),(2,wh,.box [.int .i64 r,.int .i64 c,.Bj .arg .u64 l])]⟩
def CG.CY.C19:Option DV:=cutAt CG.CY.E N f25 (Bw f25) [1,1,1,1,1,1,1,1,1,1,1,1,1] [] ⟨Fp 119 [(4,.ptr 4 0 0),(10,.ptr 10 0 0),(11,.int .i64 c),(16,.ptr 16 0 0),(17,.ptr 17 0 0),(18,.Bj .BE .u64 p18),(19,.ptr 19 0 0)],[(19,wh,.box [.int .i64 p19,.int .i64 p19_1,.Bj .BE .u64 p19_2]),(17,wh,.box [.int .i64 p17,.int .i64 p17_1,.Bj .BE .u64 p17_2]),(16,wh,.box [.int .i64 p16,.int .i64 p16_1,.Bj .arg .u64 p16_2]),(14,wh,.box [.int .i64 p14,.int .i64 p14_1,.Bj .BE .u64 p14_2]),(12,wh,.box [.int .i64 p12,.int .i64 p12_1,.Bj .BE .u64 p12_2]),(10,wh,.box [.int .i64 p10,.int .i64 p10_1,.Bj .BE .u64 p10_2]),(9,wh,.box [.int .i64 p9,.int .i64 p9_1,.Bj .BE .u64 p9_2]),(7,wh,.box [.int .i64 p7,.int .i64 p7_1,.Bj .BE .u64 p7_2]),(4,wh,.box [.int .i64 0,.int .i64 0,.nil,.int .i64 0,.int .i64 0,.nil,.int .i64 0,.int .i64 0,.nil,.int .i64 0,.int .i64 0,.nil,.nil,.nil]),(3,wh,.box [.int .i64 p,.int .i64 q,.Bj .arg .u64 m]),(2,wh,.box [.int .i64 r,.int .i64 c,.Bj .arg .u64 l])]⟩
def CG.CY.L0:Option DV:=C6 CG.CY.E N f25 (Bw f25) [1,1,1,1,1,1,1,1,1,1,1,1,1,1,0,1,0] [] M ⟨Fp 119 [(4,.ptr 4 0 0),(19,.ptr 19 0 0),(21,.ptr 21 0 0),(100,.int .i64 c),(101,.int .i64 p101)],[(4,wh,.box [.int .i64 0,.int .i64 0,.nil,.int .i64 0,.int .i64 0,.nil,.int .i64 0,.int .i64 0,.nil,.int .i64 0,.int .i64 0,.nil,.nil,.nil]),(19,wh,.box [.int .i64 p19,.int .i64 p19_1,.Bj .BE .u64 p19_2]),(21,wh,.box [.int .i64 p16,.int .i64 p16_1,.Bj .arg .u64 p16_2,.int .i64 p19,.int .i64 p19_1,.Bj .BE .u64 p19_2,.int .i64 p17,.int .i64 p17_1,.Bj .BE .u64 p17_2,.int .i64 p10,.int .i64 p10_1,.Bj .BE .u64 p10_2,.Bj .BE .u64 p18,.Dh 122013]),(122013,wh,.Bj 43 .u64 p13)]⟩
def CG.CY.C26:Option DV:=cutAt CG.CY.E N f25 (Bw f25) [1,1,1,1,1,1,1,1,1,1,1,1,1,1,1] [] ⟨Fp 119 [(4,.ptr 4 0 0),(21,.ptr 21 0 0)],[(4,wh,.box [.int .i64 0,.int .i64 0,.nil,.int .i64 0,.int .i64 0,.nil,.int .i64 0,.int .i64 0,.nil,.int .i64 0,.int .i64 0,.nil,.nil,.nil]),(19,wh,.box [.int .i64 p19,.int .i64 p19_1,.Bj .BE .u64 p19_2]),(21,wh,.box [.int .i64 p16,.int .i64 p16_1,.Bj .arg .u64 p16_2,.int .i64 p19,.int .i64 p19_1,.Bj .BE .u64 p19_2,.int .i64 p17,.int .i64 p17_1,.Bj .BE .u64 p17_2,.int .i64 p10,.int .i64 p10_1,.Bj .BE .u64 p10_2,.Bj .BE .u64 p18,.Dh 122013]),(122013,wh,.Bj 43 .u64 p13)]⟩
theorem CG.CY.AlB:CG.CY.C4 N r c l p q m=cond (((ID r c l p q m).2.2.2) !=(0:Int)) (wM (.CJ [.agg [.int .i64 0,.int .i64 0,.nil,.int .i64 0,.int .i64 0,.nil,.int .i64 0,.int .i64 0,.nil,.int .i64 0,.int .i64 0,.nil,.nil,.nil],.int .i64 ((ID r c l p q m).2.2.2)])) (CG.CY.C7 N r c l p q m ((ID r c l p q m).1) ((ID r c l p q m).2.1) ((ID r c l p q m).2.2.1)):=(DO _ _ _ _ _ _ _).trans (by kernel_rfl)
theorem CG.CY.Ab5:CG.CY.C7 N r c l p q m p7 p7_1 p7_2=cond (Bq p7_2) (bif ((EY p7 p7_1 p7_2) !=(0:Int)) then wM (.CJ [.agg [.int .i64 0,.int .i64 0,.nil,.int .i64 0,.int .i64 0,.nil,.int .i64 0,.int .i64 0,.nil,.int .i64 0,.int .i64 0,.nil,.nil,.nil],.int .i64 (EY p7 p7_1 p7_2)]) else CG.CY.C10 N r c l p q m p7 p7_1 p7_2 ((Pf p7 p7_1 p7_2).1) ((Pf p7 p7_1 p7_2).2.1) ((Pf p7 p7_1 p7_2).2.2.1) ((TR p7 p7_1 p7_2).1) ((TR p7 p7_1 p7_2).2.1) ((TR p7 p7_1 p7_2).2.2.1)) wN:=(DO _ _ _ _ _ _ _).trans (by kernel_rfl)
theorem CG.CY.AjZ:CG.CY.C10 N r c l p q m p7 p7_1 p7_2 p10 p10_1 p10_2 p9 p9_1 p9_2=
 CG.CY.C13 N r c l p q m p7 p7_1 p7_2 p10 p10_1 p10_2 p9 p9_1 p9_2 ((Ff p9 p9_1 p9_2 r 0 p c).1) ((Ff p9 p9_1 p9_2 r 0 p c).2.1) ((Ff p9 p9_1 p9_2 r 0 p c).2.2.1) ((Ff p9 p9_1 p9_2 0 0 r c).1) ((Ff p9 p9_1 p9_2 0 0 r c).2.1) ((Ff p9 p9_1 p9_2 0 0 r c).2.2.1):=(DO _ _ _ _ _ _ _).trans (by kernel_rfl)
theorem CG.CY.WM:CG.CY.C13 N r c l p q m p7 p7_1 p7_2 p10 p10_1 p10_2 p9 p9_1 p9_2 p14 p14_1 p14_2 p12 p12_1 p12_2=cond (Bq p12_2) (bif ((G7 p12 p12_1 p12_2) !=(0:Int)) then wM (.CJ [.agg [.int .i64 0,.int .i64 0,.nil,.int .i64 0,.int .i64 0,.nil,.int .i64 0,.int .i64 0,.nil,.int .i64 0,.int .i64 0,.nil,.nil,.nil],.int .i64 (G7 p12 p12_1 p12_2)]) else CG.CY.C16 N r c l p q m p7 p7_1 p7_2 p10 p10_1 p10_2 p9 p9_1 p9_2 p14 p14_1 p14_2 p12 p12_1 p12_2 (Od p12 p12_1 p12_2) ((HS p12 p12_1 p12_2).1) ((HS p12 p12_1 p12_2).2.1) ((HS p12 p12_1 p12_2).2.2.1) ((Gz p12 p12_1 p12_2).1) ((Gz p12 p12_1 p12_2).2.1) ((Gz p12 p12_1 p12_2).2.2.1)) wN:=(DO _ _ _ _ _ _ _).trans (by kernel_rfl)
theorem CG.CY.Aau:CG.CY.C16 N r c l p q m p7 p7_1 p7_2 p10 p10_1 p10_2 p9 p9_1 p9_2 p14 p14_1 p14_2 p12 p12_1 p12_2 p18 p17 p17_1 p17_2 p16 p16_1 p16_2=cond (Bq p14_2&&Bq p17_2) (bif (Cw ((ON p14 p14_1 p14_2 p17 p17_1 p17_2).2.2.1)) then cond (!(Dx ((ON p14 p14_1 p14_2 p17 p17_1 p17_2).2.2.1))) (wM (.CJ [.agg [.int .i64 0,.int .i64 0,.nil,.int .i64 0,.int .i64 0,.nil,.int .i64 0,.int .i64 0,.nil,.int .i64 0,.int .i64 0,.nil,.nil,.nil],.int .i64 2])) (CG.CY.C19 N r c l p q m p7 p7_1 p7_2 p10 p10_1 p10_2 p9 p9_1 p9_2 p14 p14_1 p14_2 p12 p12_1 p12_2 p18 p17 p17_1 p17_2 p16 p16_1 p16_2 ((ON p14 p14_1 p14_2 p17 p17_1 p17_2).1) ((ON p14 p14_1 p14_2 p17 p17_1 p17_2).2.1) ((ON p14 p14_1 p14_2 p17 p17_1 p17_2).2.2.1)) else wN) wN:=(DO _ _ _ _ _ _ _).trans (by kernel_rfl)
theorem CG.CY.AjT:CG.CY.C19 N r c l p q m p7 p7_1 p7_2 p10 p10_1 p10_2 p9 p9_1 p9_2 p14 p14_1 p14_2 p12 p12_1 p12_2 p18 p17 p17_1 p17_2 p16 p16_1 p16_2 p19 p19_1 p19_2=
 CG.CY.L0 N N c p10 p10_1 p10_2 p18 p17 p17_1 p17_2 p16 p16_1 p16_2 p19 p19_1 p19_2 0 []:=(DO _ _ _ _ _ _ _).trans (by kernel_rfl)
theorem CG.CY.B7:CG.CY.L0 N (M+1) c p10 p10_1 p10_2 p18 p17 p17_1 p17_2 p16 p16_1 p16_2 p19 p19_1 p19_2 p101 p13=cond (BH p101 c) (bif (EG p19 p19_1 p19_2 p101&&Ci (0<=(0:Int)/\(0:Int)<=p19)) then cond (Cw (BQ p19_1 p19_2 p101 0 (wi (p19-0)))&&Ci (wj (BQ p19_1 p19_2 p101 0 (wi (p19-0)))<=64)) (bif (decide ((wj p13)+1<=GK)) then CG.CY.L0 N M c p10 p10_1 p10_2 p18 p17 p17_1 p17_2 p16 p16_1 p16_2 p19 p19_1 p19_2 (Bh (p101+1)) (p13++[(Cb (BQ p19_1 p19_2 p101 0 (wi (p19-0))))]) else wN) wN else wN) (CG.CY.C26 N p10 p10_1 p10_2 p18 p17 p17_1 p17_2 p16 p16_1 p16_2 p19 p19_1 p19_2 p13):=by kernel_rfl
theorem CG.CY.AjR:CG.CY.C26 N p10 p10_1 p10_2 p18 p17 p17_1 p17_2 p16 p16_1 p16_2 p19 p19_1 p19_2 p13=wM (.CJ [.agg [.int .i64 p16,.int .i64 p16_1,.Bj .arg .u64 p16_2,.int .i64 p19,.int .i64 p19_1,.Bj .BE .u64 p19_2,.int .i64 p17,.int .i64 p17_1,.Bj .BE .u64 p17_2,.int .i64 p10,.int .i64 p10_1,.Bj .BE .u64 p10_2,.Bj .BE .u64 p18,.Bj (.own 122013 43) .u64 p13],.int .i64 0]):=(DO _ _ _ _ _ _ _).trans (by kernel_rfl)
theorem CG.CY.ev:Cz CG.CY.E N f25 (Bw f25) [.agg [.int .i64 r,.int .i64 c,.Bj .arg .u64 l],.agg [.int .i64 p,.int .i64 q,.Bj .arg .u64 m]]=cond (Bq l&&Bq m) (bif ((Wn r c l p q m) !=(0:Int)) then wM (.CJ [.agg [.int .i64 0,.int .i64 0,.nil,.int .i64 0,.int .i64 0,.nil,.int .i64 0,.int .i64 0,.nil,.int .i64 0,.int .i64 0,.nil,.nil,.nil],.int .i64 (Wn r c l p q m)]) else CG.CY.C4 N r c l p q m) wN:=by kernel_rfl
end
def CG.DB.hint:Nat->Option BK
 | 0=>wM { Da:=[3,4,9,10,11],Cg:=[],Cv:=[] }
 | _=>wN
def CG.DB.E:=Dr (CW [(78,compare.Mw.Bu),(79,Bs.CF.Bu)]) (fun _=>wh) CG.DB.hint (fun _=>wN)
section
variable(N:Nat)(a1 b1:Int)(l1:Bf)(a2 b2:Int)(l2:Bf)(a3 b3:Int)(l3:Bf)(a4 b4:Int)(l4 x:Bf)(M:Nat)(y:Bf)(p3 p11:Int)
def CG.DB.L0:Option DV:=C6 CG.DB.E N f46 (Bw f46) [1,1,1,0,1,0] [] M ⟨Fp 23 [(3,.int .i64 p3),(4,.int .u64 (BV 4607182418800017408 (-40:Int))),(9,.Bj .arg .u64 y),(10,.int .i64 (wj y:Int)),(11,.int .i64 p11)],[]⟩
theorem CG.DB.B7:CG.DB.L0 N (M+1) y p3 p11=cond (BH p11 (wj y:Int)) (bif ((decide (0<=p11))&&(decide (p11<(wj y:Int)))) then cond (Br (BV 4607182418800017408 (-40:Int))&&Br (vC y (wi p11) 0)) (bif (!(decide (Gk (BV 4607182418800017408 (-40:Int)) (vC y (wi p11) 0)<0))) then CG.DB.L0 N M y (Bh (p3+1)) (Bh (p11+1)) else CG.DB.L0 N M y p3 (Bh (p11+1))) wN else wN) (wM (.int .i64 p3)):=by kernel_rfl
theorem CG.DB.ev:Cz CG.DB.E N f46 (Bw f46) [.agg [.int .i64 a1,.int .i64 b1,.Bj .arg .u64 l1,.int .i64 a2,.int .i64 b2,.Bj .arg .u64 l2,.int .i64 a3,.int .i64 b3,.Bj .arg .u64 l3,.int .i64 a4,.int .i64 b4,.Bj .arg .u64 l4,.Bj .arg .u64 x,.Bj .arg .u64 y]]=cond (Eg 4607182418800017408 (-40:Int)) (CG.DB.L0 N N y 0 (0:Int)) wN:=by kernel_rfl
end
theorem Lb.upr{R C:Nat}{x:MX}(h:Lb R C x)(e:G7 x.1 x.2.1 x.2.2.1=0):Lb R C (Gz x.1 x.2.1 x.2.2.1)/\Lb C C (HS x.1 x.2.1 x.2.2.1)/\Bq (Od x.1 x.2.1 x.2.2.1)=wc/\(Od x.1 x.2.1 x.2.2.1).length=C:=by
 obtain⟨l,rfl,r6,c6,hl,al⟩:=h;dsimp only at e ⊢;have hi:Hu R C ((Dt R C l).1,(Dt R C l).2.1,wc):=Hu.DC 60 (R9 hl al);have eW:Gz (R:Int) (C:Int) l=((R:Int),(C:Int),FY R C l,0):=by unfold Gz; rw[Ay (fun k=>k e),Ad,Ad]
 have eV:HS (R:Int) (C:Int) l=((C:Int),(C:Int),F7 R C l,0):=by unfold HS; rw[Ay (fun k=>k e),Ad,Ad]
 have eS:Od (R:Int) (C:Int) l=CS R C (FY R C l):=by unfold Od; rw[Ay (fun k=>k e),Ad,Ad]
 rw[eW,eV,eS];exact⟨.mk r6 c6 (by unfold FY; rw[IG,FH]) (Qs (IN hi.1.2)),.mk c6 c6 (FH ..) (IN hi.2.2),Q6 ..,II ..⟩
structure WK(R C P:Nat)(l m:Bf):Prop where
 c1:1<=C
 cr:C<=R+P
 r6:R+P<=6
 hl:BD (R:Int) (C:Int) l=wc
 hm:BD (P:Int) (C:Int) m=wc
 ll:l.length=R*C
 lm:m.length=P*C
 fl:Dx l=wc
 fm:Dx m=wc
theorem Af3{r c:Int}{l:Bf}{p q:Int}{m:Bf}(h:Wn r c l p q m=0):∃R C P:Nat,r=R/\c=C/\p=P/\q=C/\WK R C P l m:=by
 unfold Wn at h;by_cases k:Yy r c l p q m=0
 ·rw[Ay (fun g=>g k)] at h;by_cases g:c≠q\/c<1\/r+p<c\/6<r+p
  ·rw[Az g] at h; cases h
  ·have k1:BT r c l=0:=by
    unfold Yy at k;by_cases h:BT r c l=0
    ·exact h
    ·rw[Az h] at k; exact k
   have k2:BT p q m=0:=by unfold Yy at k; rw[Ay (fun h=>h k1)] at k; exact k
   obtain⟨hr,fl⟩:=W4 k1;obtain⟨hm,fm⟩:=W4 k2;obtain⟨R,C,rfl,rfl,r6,c6,hl⟩:=DF hr;obtain⟨P,Q,rfl,rfl,p6,q6,hm'⟩:=DF hm;obtain rfl:C=Q:=by omega
   exact⟨R,C,P,rfl,rfl,rfl,rfl,by omega,by omega,by omega,hr,hm,hl,hm',fl,fm⟩
 ·rw[Az k] at h; exact absurd h k
section
variable{R C P:Nat}{l m:Bf}(h:WK R C P l m)(al:Bq l=wc)(am:Bq m=wc)
include h al am
theorem WK.mat:Lb (R+P) C (((R:Int)+(P:Int),(C:Int),l++m,0):MX)/\FM (((R:Int)+(P:Int),(C:Int),l++m,0):MX):=by
 have e:(R:Int)+(P:Int)=((R+P:Nat):Int):=(zI _ _).symm;rw[e];refine⟨.mk h.r6 (by have:=h.cr; have:=h.r6; omega) (by rw[A8,h.ll,h.lm,AM]) (Bv.2 fun y hy=>?_),.of ?_⟩
 ·rcases List.mem_append.1 hy with hy | hy
  ·exact Bv.1 al y hy
  ·exact Bv.1 am y hy
 ·unfold Dx;rw[List.all_append];exact Bi.2 ⟨h.fl,h.fm⟩
omit al am in
theorem WK.stack:ID (R:Int) (C:Int) l (P:Int) (C:Int) m=((R:Int)+(P:Int),(C:Int),l++m,0):=by have e:(R:Int)+(P:Int)=((R+P:Nat):Int):=(zI _ _).symm;have r6:=h.r6;unfold ID;rw[h.hl,h.hm,Ah,Az rfl,Az ⟨rfl,by omega⟩,e,Ad,Ad,YT h.ll h.lm]
theorem WK.thin(k:EY ((R:Int)+(P:Int)) (C:Int) (l++m)=0):(Lb (R+P) C (gsQ (R:Int) (C:Int) l (P:Int) m)/\FM (gsQ (R:Int) (C:Int) l (P:Int) m))/\Lb C C (Pf ((R:Int)+(P:Int)) (C:Int) (l++m)):=by
 have e:(R:Int)+(P:Int)=((R+P:Nat):Int):=(zI _ _).symm;have hm:=(h.mat al am).1;have cr:=h.cr;have c6:=hm.c6;unfold gsQ;rw[e] at k hm ⊢;obtain⟨f1,f2,f3,f4⟩:=hm.fac k;have emin:min ((R+P:Nat):Int) (C:Int)=(C:Int):=by omega
 have q1:=f1.part (i:=0) (k:=0) (a:=R+P) (b:=C) (by omega) (by omega);have q2:=FM.part f1 f3 (i:=0) (k:=0) (a:=R+P) (b:=C) (by omega) (by omega);have q3:=f2.part (i:=0) (k:=0) (a:=C) (b:=C) (by omega) (by omega)
 have eq:qX ((R+P:Nat):Int) (C:Int) (l++m)=(((R+P:Nat):Int),((R+P:Nat):Int),Iw (R+P) C (l++m),0):=by unfold qX; rw[Ay (fun g=>g k),Ad,Ad]
 have er:rX ((R+P:Nat):Int) (C:Int) (l++m)=(((R+P:Nat):Int),(C:Int),IA (R+P) C (l++m),0):=by unfold rX; rw[Ay (fun g=>g k),Ad,Ad]
 have t1:TR ((R+P:Nat):Int) (C:Int) (l++m)=KT (qX ((R+P:Nat):Int) (C:Int) (l++m)) ((0:Nat):Int) ((0:Nat):Int) ((R+P:Nat):Int) (C:Int):=by
  obtain⟨t,et,_⟩:=q1;rw[et];unfold TR;rw[Ay (fun g=>g k),emin,Ad,Ad]
  have:Ff ((R+P:Nat):Int) ((R+P:Nat):Int) (Iw (R+P) C (l++m)) 0 0 ((R+P:Nat):Int) (C:Int)=(((R+P:Nat):Int),(C:Int),t,0):=by rw[<- et,eq]; rfl
  rw[this]
 have t2:Pf ((R+P:Nat):Int) (C:Int) (l++m)=KT (rX ((R+P:Nat):Int) (C:Int) (l++m)) ((0:Nat):Int) ((0:Nat):Int) (C:Int) (C:Int):=by
  obtain⟨t,et,_⟩:=q3;rw[et];unfold Pf;rw[Ay (fun g=>g k),emin,Ad,Ad]
  have:Ff ((R+P:Nat):Int) (C:Int) (IA (R+P) C (l++m)) 0 0 (C:Int) (C:Int)=((C:Int),(C:Int),t,0):=by rw[<- et,er]; rfl
  rw[this]
 rw[t1,t2];exact⟨⟨q1,q2⟩,q3⟩
theorem WK.parts(k:EY ((R:Int)+(P:Int)) (C:Int) (l++m)=0):(Lb R C (GD (R:Int) (C:Int) l (P:Int) m)/\FM (GD (R:Int) (C:Int) l (P:Int) m))/\Lb P C (gsL (R:Int) (C:Int) l (P:Int) m):=by obtain⟨⟨q1,q2⟩,_⟩:=h.thin al am k;exact⟨⟨q1.part (i:=0) (k:=0) (by omega) (by omega),FM.part q1 q2 (i:=0) (k:=0) (by omega) (by omega)⟩,q1.part (i:=R) (k:=0) (by omega) (by omega)⟩
theorem WK.prod(k:EY ((R:Int)+(P:Int)) (C:Int) (l++m)=0)(e:G7 (GD (R:Int) (C:Int) l (P:Int) m).1 (GD (R:Int) (C:Int) l (P:Int) m).2.1 (GD (R:Int) (C:Int) l (P:Int) m).2.2.1=0):Lb P C (WO (R:Int) (C:Int) l (P:Int) m):=by obtain⟨⟨t1,_⟩,t2⟩:=h.parts al am k;exact t2.mul (t1.upr e).2.1
end
def UH(a b:Bf)(W U V R:MX)(f g h:QT):List DV :=[.int .i64 W.1,.int .i64 W.2.1,.Bj .arg .u64 W.2.2.1,.int .i64 U.1,.int .i64 U.2.1,.Bj .BE .u64 U.2.2.1,.int .i64 V.1,.int .i64 V.2.1,.Bj f .u64 V.2.2.1,.int .i64 R.1,.int .i64 R.2.1,.Bj g .u64 R.2.2.1,.Bj .BE .u64 a,.Bj h .u64 b]
def noP:List DV:=[.int .i64 0,.int .i64 0,.nil,.int .i64 0,.int .i64 0,.nil,.int .i64 0,.int .i64 0,.nil,.int .i64 0,.int .i64 0,.nil,.nil,.nil]
def gsP(r c:Int)(l:Bf)(p q:Int)(m:Bf)(f g:QT):List DV:=UH (Fq r c l p q m) (Iu r c l p q m) (Hd r c l p q m) (Hf r c l p q m) (He r c l p q m) (Hg r c l p q m) f g .BE
theorem Abg{r c:Int}{l:Bf}{p q:Int}{m:Bf}{f g:QT}(h:CX r c l p q m≠0):gsP r c l p q m f g=UH [] [] (Jw 0) (Jw 0) (Jw 0) (Jw 0) f g .BE:=by unfold gsP Hd Hf He Hg Fq Iu gsO ZK;rw[Az h,Az h,Az h,Az h,Az h,Az h];rfl
theorem Aj0{r c:Int}{l:Bf}{p q:Int}{m:Bf}{f g:QT}(h:CX r c l p q m=0):gsP r c l p q m f g=
 UH (Od (GD r c l p m).1 (GD r c l p m).2.1 (GD r c l p m).2.2.1) (CS p.toNat c.toNat (WO r c l p m).2.2.1) (Gz (GD r c l p m).1 (GD r c l p m).2.1 (GD r c l p m).2.2.1) (WO r c l p m) (gsV r c l p m) (Pf (r+p) c (l++m)) f g .BE:=by
 have h':¬CX r c l p q m≠0:=fun k=>k h
 unfold gsP Hd Hf He Hg Fq Iu gsO ZK;rw[Ay h',Ay h',Ay h',Ay h',Ay h',Ay h']
theorem Vq{drops:List Nat}{f g:QT}:Wk drops (.agg noP) (.agg (UH [] [] (Jw 0) (Jw 0) (Jw 0) (Jw 0) f g .BE)) :=Wk.GA (.cons .int (.cons .int (.cons (.nil _ _) (.cons .int (.cons .int (.cons (.nil _ _) (.cons .int (.cons .int (.cons (.nil _ _) (.cons .int (.cons .int (.cons (.nil _ _) (.cons (.nil _ _) (.cons (.nil _ _) .nil))))))))))))))
theorem CG.Check.Bp:Kq 27 CG.Check.Bu:=E1 CG.Check.E Tryz.func27 (kc DI.Check.Bp .nil) fun r c l p q m hp=>by
 obtain⟨al,am⟩:=Bi.1 (show(Bq l&&Bq m)=wc from hp);refine⟨0+4,.int .i64 (Wn r c l p q m),[],?_,.int⟩;rw[CG.Check.ev,al,am,Aa,Aa];unfold Wn Yy;by_cases k1:BT r c l=0
 ·rw[M8 k1,Af];have z1:¬BT r c l≠0:=fun h=>h k1
  rw[Ay z1];by_cases k2:BT p q m=0
  ·rw[M8 k2,Af,Ay (fun h=>h k2)];obtain⟨R,C,rfl,rfl,r6,c6,_⟩:=DF (W4 k1).1;obtain⟨P,Q,rfl,rfl,p6,q6,_⟩:=DF (W4 k2).1;rw[Bz (by omega) (by omega),B8,B8,B8];by_cases g:(C:Int)≠(Q:Int)\/(C:Int)<1\/(R:Int)+(P:Int)<(C:Int)\/6<(R:Int)+(P:Int)
   ·rw[Az g]
    have:(((((C:Int) !=(Q:Int))||decide ((C:Int)<1))||decide ((R:Int)+(P:Int)<(C:Int)))||decide (6<(R:Int)+(P:Int)))=wc:=by simp only[Bool.or_eq_true,bne_iff_ne,Ai];omega
    rw[this,Aa]
   ·rw[Ay g];have e:(C:Int)=(Q:Int):=by omega
    rw[e,Ag (by omega),Ag (by omega),Ag (by omega),show((Q:Int) !=(Q:Int))=wh by simp];rfl
  ·rw[neI k2,Aa,Az k2]
 ·rw[neI k1,Aa,Az k1,Az k1]
theorem Abn{r c:Int}{l:Bf}{p q:Int}{m:Bf}(h:Wn r c l p q m≠0):CX r c l p q m=Wn r c l p q m:=Az h
section
variable{R C P:Nat}{l m:Bf}(h:WK R C P l m)(al:Bq l=wc)(am:Bq m=wc)(he:Wn (R:Int) (C:Int) l (P:Int) (C:Int) m=0)
include he
theorem Ai6(k:EY ((R:Int)+(P:Int)) (C:Int) (l++m)≠0):CX (R:Int) (C:Int) l (P:Int) (C:Int) m=2:=by unfold CX; rw[Ay (fun g=>g he),Az k]
theorem AfL(k:EY ((R:Int)+(P:Int)) (C:Int) (l++m)=0)(e:G7 (GD (R:Int) (C:Int) l (P:Int) m).1 (GD (R:Int) (C:Int) l (P:Int) m).2.1 (GD (R:Int) (C:Int) l (P:Int) m).2.2.1≠0):
 CX (R:Int) (C:Int) l (P:Int) (C:Int) m=G7 (GD (R:Int) (C:Int) l (P:Int) m).1 (GD (R:Int) (C:Int) l (P:Int) m).2.1 (GD (R:Int) (C:Int) l (P:Int) m).2.2.1:=by
 unfold CX; rw[Ay (fun g=>g he),Ay (fun g=>g k),Az e]
theorem Ai5(k:EY ((R:Int)+(P:Int)) (C:Int) (l++m)=0)(e:G7 (GD (R:Int) (C:Int) l (P:Int) m).1 (GD (R:Int) (C:Int) l (P:Int) m).2.1 (GD (R:Int) (C:Int) l (P:Int) m).2.2.1=0):
 CX (R:Int) (C:Int) l (P:Int) (C:Int) m=if Dx (WO (R:Int) (C:Int) l (P:Int) m).2.2.1=wc then 0 else 2:=by
 unfold CX; rw[Ay (fun g=>g he),Ay (fun g=>g k),Ay (fun g=>g e)]
omit he
include h al am
theorem WK.AmP(k:EY ((R:Int)+(P:Int)) (C:Int) (l++m)≠0):EY ((R:Int)+(P:Int)) (C:Int) (l++m)=2:=by
 obtain⟨h1,h2⟩:=h.mat al am;have hc:BT ((R:Int)+(P:Int)) (C:Int) (l++m)=0:=h1.chk h2;unfold EY at k ⊢;rw[Ay (fun g=>g hc)] at k ⊢;split at k
 ·exact absurd rfl k
 ·rename_i g; rw[Ay g]
end
theorem Af2{P C:Nat}{u:Bf}(p6:P<=6)(c6:C<=6)(hr:BD (P:Int) (C:Int) u=wc)(au:Bq u=wc)(N:Nat)(a b:Int)(x y:Bf)(v w:Int)(z:Bf)(s t:Int)(o:Bf):∀(d k F:Nat),k+d=C->d<F ->
 CG.CY.L0 N F (C:Int) a b x y v w z s t o (P:Int) (C:Int) u (k:Int) ((zg k).map fun c=>Cb (Dl P C u c))=CG.CY.C26 N a b x y v w z s t o (P:Int) (C:Int) u (CS P C u):=by
 intro d
 induction d with
 | zero =>
   intro k F hk hF;obtain⟨F,rfl⟩:∃G,F=G+1:=⟨F-1,by omega⟩
   obtain rfl:k=C:=by omega
   rw[CG.CY.B7,B8,Ag (by omega),Af];rfl
 | succ d ih =>
   intro k F hk hF;obtain⟨F,rfl⟩:∃G,F=G+1:=⟨F-1,by omega⟩
   have cp:(EG (P:Int) (C:Int) u (k:Int)&&Ci (0<=(0:Int)/\(0:Int)<=(P:Int)))=wc:=Bi.2 ⟨Bi.2 ⟨hr,Bv.2 (by omega)⟩,Bv.2 (by omega)⟩;have ln:(BQ (C:Int) u (k:Int) 0 P).length<=6:=by rw[Dv]; exact p6
   rw[CG.CY.B7,B8,Ac (by omega),Aa,cp,Aa,show wi ((P:Int)-(0:Int))=P by omega,VU (HJ au) ln,Aa,Ac (by rw[AO,AL]; unfold GK; omega),Aa,Bz (by omega) (by omega)];have:=ih (k+1) F (by omega) (by omega);rw[List.range_succ,List.map_append] at this;exact this
theorem CG.CY.Bp:Kq 25 CG.CY.Bu:=E1 CG.CY.E Tryz.func25 (kc CG.Check.Bp (kc Bg.DU.Bp (kc Bg.Mul.Bp (kc Bg.Part.Bp (kc Bg.Stack.Bp (kc qr.Ok.Bp (kc Ct.BW.Bp (kc Bs.Finite.Bp (kc Bs.Norm.Bp .nil))))))))) fun r c l p q m hp=>by
 have hall:(Bq l&&Bq m)=wc:=hp;obtain⟨al,am⟩:=Bi.1 hall;show ∃N dv drops,_=wM dv/\Wk drops dv (.CJ [.agg (gsP r c l p q m .BE .BE),.int .i64 (CX r c l p q m)]);by_cases k:Wn r c l p q m=0
 ·obtain⟨R,C,P,rfl,rfl,rfl,rfl,h⟩:=Af3 k
  have e4:Cz CG.CY.E 8 Tryz.f25 (Bw Tryz.f25) [.agg [.int .i64 (R:Int),.int .i64 (C:Int),.Bj .arg .u64 l],.agg [.int .i64 (P:Int),.int .i64 (C:Int),.Bj .arg .u64 m]]=
   CG.CY.C7 8 (R:Int) (C:Int) l (P:Int) (C:Int) m ((R:Int)+(P:Int)) (C:Int) (l++m):=by
   rw[CG.CY.ev,hall,Aa,M8 k,Af,CG.CY.AlB,h.stack];rfl
  have aA:Bq (l++m)=wc:=(h.mat al am).1.inn;by_cases kf:EY ((R:Int)+(P:Int)) (C:Int) (l++m)=0
  ·obtain⟨⟨t1,t2⟩,t3⟩:=h.parts al am kf
   have e13:Cz CG.CY.E 8 Tryz.f25 (Bw Tryz.f25) [.agg [.int .i64 (R:Int),.int .i64 (C:Int),.Bj .arg .u64 l],.agg [.int .i64 (P:Int),.int .i64 (C:Int),.Bj .arg .u64 m]]=
    CG.CY.C13 8 (R:Int) (C:Int) l (P:Int) (C:Int) m ((R:Int)+(P:Int)) (C:Int) (l++m) (Pf ((R:Int)+(P:Int)) (C:Int) (l++m)).1 (Pf ((R:Int)+(P:Int)) (C:Int) (l++m)).2.1 (Pf ((R:Int)+(P:Int)) (C:Int) (l++m)).2.2.1
     (gsQ (R:Int) (C:Int) l (P:Int) m).1 (gsQ (R:Int) (C:Int) l (P:Int) m).2.1 (gsQ (R:Int) (C:Int) l (P:Int) m).2.2.1 (gsL (R:Int) (C:Int) l (P:Int) m).1 (gsL (R:Int) (C:Int) l (P:Int) m).2.1 (gsL (R:Int) (C:Int) l (P:Int) m).2.2.1
     (GD (R:Int) (C:Int) l (P:Int) m).1 (GD (R:Int) (C:Int) l (P:Int) m).2.1 (GD (R:Int) (C:Int) l (P:Int) m).2.2.1:=by
    rw[e4,CG.CY.Ab5,aA,Aa,M8 kf,Af,CG.CY.AjZ];rfl
   by_cases ku:G7 (GD (R:Int) (C:Int) l (P:Int) m).1 (GD (R:Int) (C:Int) l (P:Int) m).2.1 (GD (R:Int) (C:Int) l (P:Int) m).2.2.1=0
   ·have hU:=h.prod al am kf ku;have hV:=(t1.upr ku).2.1;have oU:Cw (WO (R:Int) (C:Int) l (P:Int) m).2.2.1=wc:=FO hU.inn (by have:=hU.len; omega)
    have e16:Cz CG.CY.E 8 Tryz.f25 (Bw Tryz.f25) [.agg [.int .i64 (R:Int),.int .i64 (C:Int),.Bj .arg .u64 l],.agg [.int .i64 (P:Int),.int .i64 (C:Int),.Bj .arg .u64 m]]=
     (bif (!(Dx (WO (R:Int) (C:Int) l (P:Int) m).2.2.1)) then wM (.CJ [.agg noP,.int .i64 2]) else
      CG.CY.L0 8 8 (C:Int) (Pf ((R:Int)+(P:Int)) (C:Int) (l++m)).1 (Pf ((R:Int)+(P:Int)) (C:Int) (l++m)).2.1 (Pf ((R:Int)+(P:Int)) (C:Int) (l++m)).2.2.1 (Od (GD (R:Int) (C:Int) l (P:Int) m).1 (GD (R:Int) (C:Int) l (P:Int) m).2.1 (GD (R:Int) (C:Int) l (P:Int) m).2.2.1)
       (gsV (R:Int) (C:Int) l (P:Int) m).1 (gsV (R:Int) (C:Int) l (P:Int) m).2.1 (gsV (R:Int) (C:Int) l (P:Int) m).2.2.1
       (Gz (GD (R:Int) (C:Int) l (P:Int) m).1 (GD (R:Int) (C:Int) l (P:Int) m).2.1 (GD (R:Int) (C:Int) l (P:Int) m).2.2.1).1 (Gz (GD (R:Int) (C:Int) l (P:Int) m).1 (GD (R:Int) (C:Int) l (P:Int) m).2.1 (GD (R:Int) (C:Int) l (P:Int) m).2.2.1).2.1 (Gz (GD (R:Int) (C:Int) l (P:Int) m).1 (GD (R:Int) (C:Int) l (P:Int) m).2.1 (GD (R:Int) (C:Int) l (P:Int) m).2.2.1).2.2.1
       (WO (R:Int) (C:Int) l (P:Int) m).1 (WO (R:Int) (C:Int) l (P:Int) m).2.1 (WO (R:Int) (C:Int) l (P:Int) m).2.2.1 (0:Int) []):=by
     rw[e13,CG.CY.WM,t1.inn,Aa,M8 ku,Af,CG.CY.Aau,t3.inn,hV.inn,Ah,Aa];show(cond (Cw (WO (R:Int) (C:Int) l (P:Int) m).2.2.1) _ _)=_;rw[oU,Aa,CG.CY.AjT];rfl
    have eE:=Ai5 k kf ku;cases hf:Dx (WO (R:Int) (C:Int) l (P:Int) m).2.2.1 with
    | false =>rw[hf,Ay (by decide)] at eE;refine⟨8,.CJ [.agg noP,.int .i64 2],[],by rw[e16,hf]; rfl,?_⟩;rw[Abg (by rw[eE]; decide),eE];exact Wk.FQ (.cons Vq (.cons .int .nil))
    | true =>
      rw[hf,Az rfl] at eE;have hr:=hU.right;have au:=hU.inn;have r1:=hU.rows;have c1:=hU.AmQ;rw[r1,c1] at hr;refine⟨8,.CJ [.agg (UH (Od (GD (R:Int) (C:Int) l (P:Int) m).1 (GD (R:Int) (C:Int) l (P:Int) m).2.1 (GD (R:Int) (C:Int) l (P:Int) m).2.2.1) (CS P C (WO (R:Int) (C:Int) l (P:Int) m).2.2.1) (Gz (GD (R:Int) (C:Int) l (P:Int) m).1 (GD (R:Int) (C:Int) l (P:Int) m).2.1 (GD (R:Int) (C:Int) l (P:Int) m).2.2.1) (WO (R:Int) (C:Int) l (P:Int) m) (gsV (R:Int) (C:Int) l (P:Int) m) (Pf ((R:Int)+(P:Int)) (C:Int) (l++m)) .BE .BE (.own 122013 tB)),.int .i64 0],[122013],?_,?_⟩
      ·rw[e16,hf,AH,Af,r1,c1];refine(Af2 hU.r6 hU.c6 hr au 8 _ _ _ _ _ _ _ _ _ _ C 0 8 (by omega) (by have:=hU.c6; omega)).trans ?_;rw[CG.CY.AjR];unfold UH;rw[r1,c1]
      ·rw[Aj0 eE,eE,Ad,Ad];exact Wk.FQ (.cons (Wk.GA (.cons .int (.cons .int (.cons .WC (.cons .int (.cons .int (.cons .IP (.cons .int (.cons .int (.cons .IP (.cons .int (.cons .int (.cons .IP (.cons .IP (.cons (.drop _ _ _ _ (ze.2 rfl)) .nil))))))))))))))) (.cons .int .nil))
   ·have eE:=AfL k kf ku;refine⟨8,.CJ [.agg noP,.int .i64 (G7 (GD (R:Int) (C:Int) l (P:Int) m).1 (GD (R:Int) (C:Int) l (P:Int) m).2.1 (GD (R:Int) (C:Int) l (P:Int) m).2.2.1)],[],by rw[e13,CG.CY.WM,t1.inn,Aa,neI ku,Aa]; rfl,?_⟩;rw[Abg (by rw[eE]; exact ku),eE];exact Wk.FQ (.cons Vq (.cons .int .nil))
  ·have eE:=Ai6 k kf;refine⟨8,.CJ [.agg noP,.int .i64 2],[],by rw[e4,CG.CY.Ab5,aA,Aa,neI kf,Aa,h.AmP al am kf]; rfl,?_⟩;rw[Abg (by rw[eE]; decide),eE];exact Wk.FQ (.cons Vq (.cons .int .nil))
 ·refine⟨0,.CJ [.agg noP,.int .i64 (Wn r c l p q m)],[],by rw[CG.CY.ev,hall,Aa,neI k,Aa]; rfl,?_⟩;rw[Abg (by rw[Abn k]; exact k),Abn k];exact Wk.FQ (.cons Vq (.cons .int .nil))
def BS.one.E:=E0 []
theorem BS.one.ev(N:Nat)(b:Int):Cz BS.one.E N f45 (Bw f45) [.int .u64 b]=wM (.agg [.int .i64 1,.int .i64 1,.Bj (.own 4 43) .u64 [b]]):=by kernel_rfl
def BS.FP.GN:List (Nat × Ew):=[(46,CG.DB.Bu),(25,CG.CY.Bu),(45,BS.one.Bu)]
def BS.FP.E:Env:=Dr (CW BS.FP.GN) (fun _=>wh) (fun _=>wN) (fun _=>wN)
theorem BS.FP.ev(N:Nat):Cz BS.FP.E N f10 (Bw f10) []=cond (Bq ([(4607182418800017408:Int)])&&Bq ([(0:Int)])) (bif ((!(((CX 1 1 ([(4607182418800017408:Int)]) 1 1 ([(0:Int)]))==(0:Int))&&((wj (Fq 1 1 ([(4607182418800017408:Int)]) 1 1 ([(0:Int)])):Int)==(1:Int))))||(decide ((0:Int)<(wj (Fq 1 1 ([(4607182418800017408:Int)]) 1 1 ([(0:Int)])):Int)))) then cond ((!(((((CX 1 1 ([(4607182418800017408:Int)]) 1 1 ([(0:Int)]))==(0:Int))&&((wj (Fq 1 1 ([(4607182418800017408:Int)]) 1 1 ([(0:Int)])):Int)==(1:Int)))&&((vC (Fq 1 1 ([(4607182418800017408:Int)]) 1 1 ([(0:Int)])) 0 0)==(4607182418800017408:Int)))&&((wj (Iu 1 1 ([(4607182418800017408:Int)]) 1 1 ([(0:Int)])):Int)==(1:Int))))||(Cw (Iu 1 1 ([(4607182418800017408:Int)]) 1 1 ([(0:Int)])))) (wM (.bool (cond (bif (cond (bif ((CX 1 1 ([(4607182418800017408:Int)]) 1 1 ([(0:Int)]))==(0:Int)) then ((wj (Fq 1 1 ([(4607182418800017408:Int)]) 1 1 ([(0:Int)])):Int)==(1:Int)) else wh) ((vC (Fq 1 1 ([(4607182418800017408:Int)]) 1 1 ([(0:Int)])) 0 0)==(4607182418800017408:Int)) wh) then ((wj (Iu 1 1 ([(4607182418800017408:Int)]) 1 1 ([(0:Int)])):Int)==(1:Int)) else wh) ((Rz (Iu 1 1 ([(4607182418800017408:Int)]) 1 1 ([(0:Int)])))==(1:Int)) wh))) wN else wN) wN:=
 Et (ET (B4 (M3 ((CX 1 1 ([(4607182418800017408:Int)]) 1 1 ([(0:Int)]))==(0:Int))) (B4 (J7 ((CX 1 1 ([(4607182418800017408:Int)]) 1 1 ([(0:Int)]))==(0:Int))) (B4 (J7 ((CX 1 1 ([(4607182418800017408:Int)]) 1 1 ([(0:Int)]))==(0:Int))) (B4 (J7 ((CX 1 1 ([(4607182418800017408:Int)]) 1 1 ([(0:Int)]))==(0:Int))) (B4 (Qk ((CX 1 1 ([(4607182418800017408:Int)]) 1 1 ([(0:Int)]))==(0:Int))) (B4 (AiI ((CX 1 1 ([(4607182418800017408:Int)]) 1 1 ([(0:Int)]))==(0:Int)) ((wj (Fq 1 1 ([(4607182418800017408:Int)]) 1 1 ([(0:Int)])):Int)==(1:Int))) (B4 (AbE ((CX 1 1 ([(4607182418800017408:Int)]) 1 1 ([(0:Int)]))==(0:Int)) ((wj (Fq 1 1 ([(4607182418800017408:Int)]) 1 1 ([(0:Int)])):Int)==(1:Int))) (CQ (Ak7 _ _ _) (B4 (AbE ((CX 1 1 ([(4607182418800017408:Int)]) 1 1 ([(0:Int)]))==(0:Int)) ((wj (Fq 1 1 ([(4607182418800017408:Int)]) 1 1 ([(0:Int)])):Int)==(1:Int))) (B4 (AbE ((CX 1 1 ([(4607182418800017408:Int)]) 1 1 ([(0:Int)]))==(0:Int)) ((wj (Fq 1 1 ([(4607182418800017408:Int)]) 1 1 ([(0:Int)])):Int)==(1:Int))) (B4 (AiJ ((CX 1 1 ([(4607182418800017408:Int)]) 1 1 ([(0:Int)]))==(0:Int)) ((wj (Fq 1 1 ([(4607182418800017408:Int)]) 1 1 ([(0:Int)])):Int)==(1:Int))) (B4 (AiK ((CX 1 1 ([(4607182418800017408:Int)]) 1 1 ([(0:Int)]))==(0:Int)) ((wj (Fq 1 1 ([(4607182418800017408:Int)]) 1 1 ([(0:Int)])):Int)==(1:Int)) ((vC (Fq 1 1 ([(4607182418800017408:Int)]) 1 1 ([(0:Int)])) 0 0)==(4607182418800017408:Int))) (B4 (AbF ((CX 1 1 ([(4607182418800017408:Int)]) 1 1 ([(0:Int)]))==(0:Int)) ((wj (Fq 1 1 ([(4607182418800017408:Int)]) 1 1 ([(0:Int)])):Int)==(1:Int)) ((vC (Fq 1 1 ([(4607182418800017408:Int)]) 1 1 ([(0:Int)])) 0 0)==(4607182418800017408:Int))) (B4 (AbF ((CX 1 1 ([(4607182418800017408:Int)]) 1 1 ([(0:Int)]))==(0:Int)) ((wj (Fq 1 1 ([(4607182418800017408:Int)]) 1 1 ([(0:Int)])):Int)==(1:Int)) ((vC (Fq 1 1 ([(4607182418800017408:Int)]) 1 1 ([(0:Int)])) 0 0)==(4607182418800017408:Int))) (B4 (AbF ((CX 1 1 ([(4607182418800017408:Int)]) 1 1 ([(0:Int)]))==(0:Int)) ((wj (Fq 1 1 ([(4607182418800017408:Int)]) 1 1 ([(0:Int)])):Int)==(1:Int)) ((vC (Fq 1 1 ([(4607182418800017408:Int)]) 1 1 ([(0:Int)])) 0 0)==(4607182418800017408:Int))) (B4 (AiL ((CX 1 1 ([(4607182418800017408:Int)]) 1 1 ([(0:Int)]))==(0:Int)) ((wj (Fq 1 1 ([(4607182418800017408:Int)]) 1 1 ([(0:Int)])):Int)==(1:Int)) ((vC (Fq 1 1 ([(4607182418800017408:Int)]) 1 1 ([(0:Int)])) 0 0)==(4607182418800017408:Int))) (B4 (AgL ((CX 1 1 ([(4607182418800017408:Int)]) 1 1 ([(0:Int)]))==(0:Int)) ((wj (Fq 1 1 ([(4607182418800017408:Int)]) 1 1 ([(0:Int)])):Int)==(1:Int)) ((vC (Fq 1 1 ([(4607182418800017408:Int)]) 1 1 ([(0:Int)])) 0 0)==(4607182418800017408:Int)) ((wj (Iu 1 1 ([(4607182418800017408:Int)]) 1 1 ([(0:Int)])):Int)==(1:Int))) (CQ (AkX _ _ _ _ _) (B4 (AdV ((CX 1 1 ([(4607182418800017408:Int)]) 1 1 ([(0:Int)]))==(0:Int)) ((wj (Fq 1 1 ([(4607182418800017408:Int)]) 1 1 ([(0:Int)])):Int)==(1:Int)) ((vC (Fq 1 1 ([(4607182418800017408:Int)]) 1 1 ([(0:Int)])) 0 0)==(4607182418800017408:Int)) ((wj (Iu 1 1 ([(4607182418800017408:Int)]) 1 1 ([(0:Int)])):Int)==(1:Int))) (B4 (AkF ((CX 1 1 ([(4607182418800017408:Int)]) 1 1 ([(0:Int)]))==(0:Int)) ((wj (Fq 1 1 ([(4607182418800017408:Int)]) 1 1 ([(0:Int)])):Int)==(1:Int)) ((vC (Fq 1 1 ([(4607182418800017408:Int)]) 1 1 ([(0:Int)])) 0 0)==(4607182418800017408:Int)) ((wj (Iu 1 1 ([(4607182418800017408:Int)]) 1 1 ([(0:Int)])):Int)==(1:Int))) rfl)) rfl)))))))))) rfl)))))))) rfl)
abbrev BS.FP.Kn:=Ev prog 10 BS.FP.Bu
theorem BS.FP.D9(hk:Fe prog BS.FP.GN)(h:Unit->Hyp BS.FP.E f10 BS.FP.ts BS.FP.pre BS.FP.out):BS.FP.Kn :=Gc (IQ hk _ _ _) func10 (by kernel_rfl) (by kernel_rfl) (h ())
theorem UX:Br (BV 4607182418800017408 (-40))=wc/\Eg 4607182418800017408 (-40)=wc:=⟨FD OJ,Bi.2 ⟨OJ,Bv.2 (by decide)⟩⟩
theorem Aef{y:Bf}{i:Nat}(h:i<y.length):Rz (y.take (i+1))=Rz (y.take i)+(if ZP (y.getD i 0)=wc then 1 else 0):=by
 unfold Rz;rw[List.take_succ_eq_append_getElem h,List.countP_append,Al,As h];show _=_+(if ZP y[i]=wc then (1:Int) else 0)
 by_cases k:ZP y[i]=wc
 ·rw[Az k,List.countP_cons_of_pos k]; rfl
 ·rw[Ay k,List.countP_cons_of_neg k]; rfl
theorem Aj7(y:Bf):0<=Rz y/\Rz y<=y.length:=by have:=List.countP_le_length (p:=ZP) (l:=y);unfold Rz; omega
theorem Afy(N:Nat){y:Bf}(hy:Cw y=wc):∀(k i F:Nat),i+k=y.length->k<F->CG.DB.L0 N F y (Rz (y.take i)) (i:Int)=wM (.int .i64 (Rz y)):=by
 obtain⟨hl,hu⟩:=Io hy;obtain⟨w1,w2⟩:=UX;intro k
 induction k with
 | zero =>
   intro i F hi hF;obtain⟨F,rfl⟩:∃G,F=G+1:=⟨F-1,by omega⟩
   rw[CG.DB.B7,B8,Ag (by omega),Af,List.take_of_length_le (by omega)]
 | succ k ih =>
   intro i F hi hF;obtain⟨F,rfl⟩:∃G,F=G+1:=⟨F-1,by omega⟩
   have ih:=ih (i+1) F (by omega) (by omega);rw[Aef (by omega)] at ih;have hb:=Aj7 (y.take i);rw[List.length_take] at hb;rw[CG.DB.B7,B8,Ac (show(i:Int)<(y.length:Int) by omega),Aa,Ac (show(0:Int)<=(i:Int) by omega),Ah,Aa,Ad,w1,hu i (by omega),Ah,Aa,Bz (x:=(i:Int)+1) (by omega) (by omega),Bz (by omega) (by omega)];have e:(!(decide (Gk (BV 4607182418800017408 (-40)) (y.getD i 0)<0)))=ZP (y.getD i 0):=rfl;rw[e];cases h:ZP (y.getD i 0) with
   | true=>rw[h,Az rfl] at ih; exact ih
   | false=>rw[h,Ay (by decide),Int.add_zero] at ih; exact ih
theorem CG.DB.Bp:Kq 46 CG.DB.Bu:=E1 CG.DB.E Tryz.func46 (kc compare.Mw.Bp (kc Bs.CF.Bp .nil)) fun a1 b1 l1 a2 b2 l2 a3 b3 l3 a4 b4 l4 x y hp=>by have oy:Cw y=wc:=hp;refine⟨y.length+1,.int .i64 (Rz y),[],?_,.int⟩;rw[CG.DB.ev,UX.2,Aa];exact Afy (y.length+1) oy y.length 0 (y.length+1) (by omega) (by omega)
theorem BS.one.Bp:Kq 45 BS.one.Bu:=E1 BS.one.E Tryz.func45 .nil fun b _ =>
 ⟨0,_,[4],BS.one.ev 0 b,YD (ze.2 rfl)⟩
theorem AmT:CX 1 1 [4607182418800017408] 1 1 [0]=0/\Fq 1 1 [4607182418800017408] 1 1 [0]=[4607182418800017408]/\Iu 1 1 [4607182418800017408] 1 1 [0]=[0]/\Rz [0]=1:=by decide +kernel
theorem Tq{x:Int}(h:decide (0<=x/\x<18446744073709551616)=wc):Bq [x]=wc:=Bv.2 fun y hy=>by rw[ze.1 hy]; exact Bv.2 (A6 h)
theorem BS.FP.Bp:BS.FP.Kn:=BS.FP.D9 (kc CG.DB.Bp (kc CG.CY.Bp (kc BS.one.Bp .nil))) fun _ _=>by obtain⟨h1,h2,h3,h4⟩:=AmT;have o0:Cw [(0:Int)]=wc:=FO (Tq (by decide)) (by decide);refine⟨0,BS.FP.out [],[],?_,.bool⟩;rw[BS.FP.ev,Tq (by decide),Tq (x:=0) (by decide),h1,h2,h3,h4,o0];rfl
def Bo.single.hint:Nat->Option BK
 | 0=>wM { Da:=[0,1,5,6,7],Cg:=[(0,5,100005,.Bj 121 .u32 [])],Cv:=[] }
 | _=>wN
def Bo.single.E:=Dr (CW []) (fun _=>wh) Bo.single.hint (fun _=>wN)
section
variable(N M:Nat)(a:Bf)(x p6 p7:Int)(p5:Bf)
def Bo.single.L0:Option DV:=C6 Bo.single.E N f115 (Bw f115) [1,1,1,0,1,0] [] M ⟨Fp 39 [(0,.Bj .arg .u32 a),(1,.int .u32 x),(5,.Dh 100005),(6,.int .u64 p6),(7,.int .i64 p7)],[(100005,wh,.Bj 121 .u32 p5)]⟩
theorem Bo.single.B7:Bo.single.L0 N (M+1) a x p6 p7 p5=cond (BH p7 (wj a:Int)) (bif ((decide (0<=p7))&&(decide (p7<(wj a:Int)))) then cond (decide ((wj p5)+1<=GK)) (Bo.single.L0 N M a x (BU (Int.tdiv (BU ((BU ((BU (vC a (wi p7) 0))*(BU x)))+p6)) 4294967296)) (Bh (p7+1)) (p5++[(Hy (Int.tmod (BU ((BU ((BU (vC a (wi p7) 0))*(BU x)))+p6)) 4294967296))])) wN else wN) (bif (decide ((wj p5)+1<=GK)) then wM (.Bj (.own 38 121) .u32 (p5++[(Hy p6)])) else wN):=by kernel_rfl
theorem Bo.single.ev:Cz Bo.single.E N f115 (Bw f115) [.Bj .arg .u32 a,.int .u32 x]=
 Bo.single.L0 N N a x 0 0 []:=by kernel_rfl
end
def Bo.Mul.hint:Nat->Option BK
 | 0=>wM { Da:=[2,3,4,5,6],Cg:=[(0,5,100005,.Bj 121 .u32 [])],Cv:=[2,3,4] }
 | _=>wN
def Bo.Mul.E:=Dr (CW [(104,Bo.Made.Bu),(110,Bo.plus.own.Bu),(115,Bo.single.Bu)]) (fun n=>Nat.beq n 29) Bo.Mul.hint (fun _=>wN)
section
variable(N M:Nat)(n:Bool)(a:Bf)(m:Bool)(b:Bf)(p6:Int)(p5:Bf)
def Bo.Mul.L0:Option DV:=C6 Bo.Mul.E N f60 (Bw f60) [1,1,0,1,0] [] M ⟨Fp 37 [(2,.ptr 2 0 0),(3,.ptr 3 0 0),(4,.ptr 4 0 0),(5,.Dh 100005),(6,.int .i64 p6)],[(2,wh,.box [.bool n,.Bj .arg .u32 a]),(3,wh,.box [.bool m,.Bj .arg .u32 b]),(4,wh,.box [.bool wh,.nil]),(100005,wh,.Bj 121 .u32 p5)]⟩
theorem Bo.Mul.B7:Bo.Mul.L0 N (M+1) n a m b p6 p5=cond (DT 0 p6) (bif (decide (1+(wj p5)<=GK)) then cond ((decide (0<=p6))&&(decide (p6<(wj b:Int)))) (bif (G9 a&&Afz (vC b (wi p6) 0)) then cond (G9 ([(0:Int)]++p5)&&G9 (singleL a (vC b (wi p6) 0))) (Bo.Mul.L0 N M n a m b (Bh (p6-1)) (HV ([(0:Int)]++p5) (singleL a (vC b (wi p6) 0)))) wN else wN) wN else wN) (bif (G9 p5) then wM (.agg [.bool (BB (wv (!(n==m)) p5)),.Bj .arg .u32 (Bk (wv (!(n==m)) p5))]) else wN) :=Et (ET (ET (CQ (JZ _ _) (CQ (CD _) (CQ (CD _) rfl rfl) rfl) rfl) rfl) rfl)
theorem Bo.Mul.ev:Cz Bo.Mul.E N f60 (Bw f60) [.agg [.bool n,.Bj .arg .u32 a],.agg [.bool m,.Bj .arg .u32 b]]=
 Bo.Mul.L0 N N n a m b (Bh ((wj b:Int)-1)) []:=by kernel_rfl
end
def B0.Mul.E:=E0 [(60,Bo.Mul.Bu),(39,B0.Of.Bu)]
theorem B0.Mul.ev(N:Nat)(n:Bool)(a:Bf)(e:Int)(m:Bool)(b:Bf)(f:Int):Cz B0.Mul.E N f23 (Bw f23) [.agg [.bool n,.Bj .arg .u32 a,.int .i64 e],.agg [.bool m,.Bj .arg .u32 b,.int .i64 f]]=cond (okM n a&&okM m b) (bif (HD (BB (wv n a*wv m b)) (Bk (wv n a*wv m b))&&OK (Bh (e+f))) then wM (.agg [.bool (BB (mD (wv (BB (wv n a*wv m b)) (Bk (wv n a*wv m b))))),.Bj .arg .u32 (Bk (mD (wv (BB (wv n a*wv m b)) (Bk (wv n a*wv m b))))),.int .i64 (eD (wv (BB (wv n a*wv m b)) (Bk (wv n a*wv m b))) (Bh (e+f)))]) else wN) wN :=Et (CQ (CD _) (CQ (CD _) rfl rfl) rfl)
abbrev B0.Mul.q.Kn:Prop:=Ev prog 23 B0.Mul.q.Bu
abbrev Bo.plus.own.Kn:Prop:=Ev prog 110 Bo.plus.own.Bu
theorem Bo.plus.own.call:∀(args:Array Value) (w:World),(callFunc 110 args).run prog w=.ok (.enter 110 args) w:=HP func110 (by kernel_rfl) (show f110.body=wM (Bw f110) by kernel_rfl)
theorem Bo.plus.meets{E:Env}(he:GH prog E){ts:List AT}{pre:List Fk->Bool}{out:List Fk->DV}(h:∀ats ds,E2 ts ats ds->pre ats=wc->∃fuel d drops,Cz E fuel f110 (Bw f110) ds=wM d/\Wk drops d (out ats)):Rv prog 110 (BP ts pre out):=Na he func110 (show f110.body=wM (Bw f110) by kernel_rfl) h
theorem RP{n:Bool}{l:Bf}(h:okM n l=wc):∃v,n=BB v/\l=Bk v/\D0 v.natAbs<33554432:=by have h:=Bv.1 h;obtain⟨h1,h2,h3⟩:=h;obtain⟨e1,e2⟩:=QO h2 h3;refine⟨wv n l,e1,e2,?_⟩;rw[e2,CE] at h1;exact h1
theorem Bo.plus.own.Bp:Bo.plus.own.Kn:=by refine⟨Bo.plus.meets (E:=Bo.plus.E) (IQ (kc Bo.Kl.Bp .nil) _ _ _) fun ats dvs he hp=>?_,Bo.plus.own.call⟩;obtain⟨a,_,_,rfl,rfl,he0⟩:=he.Xv;obtain⟨b,_,_,rfl,rfl,he1⟩:=he0.Xv;obtain⟨rfl,rfl⟩:=he1.HE;obtain⟨ha,hb⟩:=Bi.1 (show(G9 a&&G9 b)=wc from hp);refine⟨max a.length b.length+2,.Bj (.own 100005 tW) .u32 (HV a b),[],?_,.Da _ _ _ _ (List.not_mem_nil)⟩;rw[Bo.plus.ev];exact UB _ ha hb (max a.length b.length+1) 0 0 _ (by omega) (by omega) (by omega) (by simp)
theorem VD{x y c:Nat}(hx:x<4294967296)(hy:y<4294967296)(hc:c<4294967296):x*y+c<18446744073709551616:=by have:=AE (show x<=4294967295 by omega) (show y<=4294967295 by omega);omega
theorem Xq(N:Nat){a:Bf}{X:Nat}(ha:G9 a=wc)(hX:X<4294967296):∀(k i c F:Nat),i+k=a.length->k<F->c<4294967296 ->
 C0 a / 2^(32*i)*X+c=C0 a*X / 2^(32*i) ->
 Bo.single.L0 N F a (X:Int) (c:Int) (i:Int) (digits i (C0 a*X))=wM (.Bj (.own 38 tW) .u32 (singleL a (X:Int))):=by
 obtain⟨la,ia⟩:=Iq ha;intro k
 induction k with
 | zero =>
   intro i c F hi hF hc h;obtain⟨F,rfl⟩:∃G,F=G+1:=⟨F-1,by omega⟩
   have t0:decide ((i:Int)<(a.length:Int))=wh:=Ag (by omega);have t1:decide ((digits i (C0 a*X)).length+1<=GK)=wc:=Ac (by rw[DZ]; unfold GK; omega);have hz:C0 a / 2^(32*i)=0:=yd (by rw[show i=a.length by omega]; exact Ij ia);rw[hz,zK,AS] at h;rw[Bo.single.B7,B8,t0,Af,t1,Aa,Hx (by omega) (by omega)];unfold singleL;rw[Ad,Ic,<- show i=a.length by omega,<- h,Ao hc]
 | succ k ih =>
   intro i c F hi hF hc h;obtain⟨F,rfl⟩:∃G,F=G+1:=⟨F-1,by omega⟩
   have t0:decide ((i:Int)<(a.length:Int))=wc:=Ac (by omega);have t2:decide ((0:Int)<=(i:Int))=wc:=Ac (by omega);have t1:decide ((digits i (C0 a*X)).length+1<=GK)=wc:=Ac (by rw[DZ]; unfold GK; omega);rw[Bo.single.B7,B8,t0,t1,t2];simp only[Aa,Ah];rw[Ad,KK ia i];have ih:=ih (i+1);rw[J0,A0 4294967296,<- A9,<- A9,Ic] at ih;generalize C0 a / 2^(32*i)=x at *
   generalize C0 a*X / 2^(32*i)=z at *
   have hb:=VD (x:=x%4294967296) (y:=X) (c:=c) (zt _ (by decide)) hX hc
   have hm:x*X=x / 4294967296*X*4294967296+x%4294967296*X:=by rw[Nat.mul_right_comm,<- AM];congr 1;omega
   have e1:BU (BU (BU ((x%4294967296:Nat):Int)*BU (X:Int))+(c:Int))=((x%4294967296*X+c:Nat):Int):=by rw[Dk (x:=((x%4294967296:Nat):Int)) (by omega) (by omega),Dk (x:=(X:Int)) (by omega) (by omega),<- Ax,Dk (x:=((x%4294967296*X:Nat):Int)) (by omega) (by omega),Dk (by omega) (by omega)];omega
   have hlt:(x%4294967296*X+c) / 4294967296<4294967296:=by omega
   rw[e1,XR,H0,H2,Hx (by omega) (by omega),Dk (by omega) (by omega),Bz (by omega) (by omega)];rw[hm] at h;generalize x%4294967296*X=p at *
   generalize x / 4294967296*X=q at *
   have e2:(p+c)%4294967296=z%4294967296:=by omega
   rw[e2];exact ih ((p+c) / 4294967296) F (by omega) (by omega) hlt (by omega)
theorem Bo.single.Bp:Kq 115 Bo.single.Bu:=E1 Bo.single.E Tryz.func115 .nil fun a x hp=>by
 obtain⟨ha,hx⟩:=Bi.1 hp;have hx:=Bv.1 hx;obtain⟨X,rfl⟩:∃k:Nat,x=k:=⟨x.toNat,by omega⟩
 refine⟨a.length+1,.Bj (.own 38 tW) .u32 (singleL a X),[38],?_,VP⟩;rw[Bo.single.ev];exact Xq _ ha (by omega) a.length 0 0 _ (by omega) (by omega) (by omega) (by simp)
theorem Sy(a:Bf)(x:Int):PN (singleL a x):=JT _ _
theorem MK(a:Bf)(x:Int):(singleL a x).length=a.length+1:=DZ _ _
theorem Xr{a:Bf}(ia:PN a){X:Nat}(hX:X<4294967296):C0 (singleL a (X:Int))=C0 a*X:=by have h:=Ij ia;unfold singleL;rw[HR,Ad,Ao];rw[J0,A0 4294967296];exact xX h hX
theorem AeY(N:Nat){n m:Bool}{a b:Bf}(ha:PN a)(hb:PN b)(la:a.length<33554432)(lb:b.length<33554432):
 ∀(j F:Nat) (p:Bf),j<=b.length->j<F->PN p->p.length<=a.length+2*(b.length-j)->C0 p=C0 a*(C0 b / 2^(32*j)) ->
 Bo.Mul.L0 N F n a m b ((j:Int)-1) p=wM (.agg [.bool (BB (Gx (!(n==m)) (C0 a*C0 b))),.Bj .arg .u32 (Bk (Gx (!(n==m)) (C0 a*C0 b)))]):=by
 intro j
 induction j with
 | zero =>
   intro F p hj hF ip lp vp;obtain⟨F,rfl⟩:∃G,F=G+1:=⟨F-1,by omega⟩
   have o:G9 p=wc:=Ip (by omega) ip;rw[yk,AG,Nat.div_one] at vp;rw[Bo.Mul.B7,Ei,Ag (by omega),Af,o,Aa];unfold wv;rw[vp]
 | succ j ih =>
   intro F p hj hF ip lp vp;obtain⟨F,rfl⟩:∃G,F=G+1:=⟨F-1,by omega⟩
   have e0:((j+1:Nat):Int)-1=(j:Int):=by omega
   have hX:C0 b / 2^(32*j)%4294967296<4294967296:=zt _ (by decide);have o1:G9 a=wc:=Ip (by omega) ha;have i0:PN ([(0:Int)]++p):=Yd ip;have o2:G9 ([(0:Int)]++p)=wc:=Ip (by rw[A8]; show 1+p.length<_; omega) i0;have o3:G9 (singleL a ((C0 b / 2^(32*j)%4294967296:Nat):Int))=wc:=Ip (by rw[MK]; omega) (Sy _ _);have o4:Afz ((C0 b / 2^(32*j)%4294967296:Nat):Int)=wc:=Bv.2 (by omega)
   have vz:C0 ([(0:Int)]++p)=4294967296*C0 p:=by show(0:Int).toNat+4294967296*C0 p=_;rw[show(0:Int).toNat=0 from rfl,AS]
   have c1:decide (1+p.length<=GK)=wc:=Ac (by unfold GK; omega);have c2:decide ((j:Int)<(b.length:Int))=wc:=Ac (by omega);have c3:decide ((0:Int)<=(j:Int))=wc:=Ac (by omega);rw[e0,Bo.Mul.B7,Ei,c3,Aa,c1,Aa,c2,Ah,Aa,Ad,KK hb j,o1,o4,Ah,Aa,o2,o3,Ah,Aa,Bz (by omega) (by omega)];refine ih F _ (by omega) (by omega) (SH _ _) ?_ ?_
   ·rw[LG,A8,MK];show max (1+p.length) _+1<=_;omega
   ·rw[UC i0 (Sy _ _),vz,Xr ha hX,vp,J0,A0 4294967296 (2^(32*j)),<- A9,Nat.mul_left_comm,<- z7];congr 1;omega
theorem AgY(s t:Bool)(x y:Nat):Gx (!(s==t)) (x*y)=Gx s x*Gx t y:=by unfold Gx;cases s<;>cases t<;>simp[Ax,Int.neg_mul,Int.mul_neg]
theorem Bo.Mul.Bp:Kq 60 Bo.Mul.Bu:=E1 Bo.Mul.E Tryz.func60 (kc Bo.Made.Bp (kc Bo.plus.own.Bp (kc Bo.single.Bp .nil))) fun n a m b hp=>by obtain⟨h1,h2⟩:=Bi.1 hp;obtain⟨v,rfl,rfl,hv⟩:=RP h1;obtain⟨w,rfl,rfl,hw⟩:=RP h2;refine⟨(Bk w).length+1,Bo.Mul.out [.b (BB v),.l (Bk v),.b (BB w),.l (Bk w)],[],?_,Vs⟩;have lv:=CE v;have lw:=CE w;have iw:=Fy w;have hz:C0 (Bk w) / 2^(32*(Bk w).length)=0:=yd (Ij iw);rw[Bo.Mul.ev,Bz (by omega) (by omega)];refine(AeY _ (Fy v) iw (by omega) (by omega) (Bk w).length _ [] (AB _) (by omega) (fun x h=>by cases h) (by show 0<=_; omega) (by rw[hz,yk]; rfl)).trans ?_;rw[AgY];rfl
theorem Afp(n m:Nat):D0 (n*m)<=D0 n+D0 m:=by refine Ja ?_;rw[z7,A5];exact xX (It n) (It m)
theorem B0.Mul.Bp:Kq 23 B0.Mul.Bu:=E1 B0.Mul.E Tryz.func23 (kc Bo.Mul.Bp (kc B0.Of.Bp .nil)) fun n a e m b f hp=>by obtain⟨h1,h2⟩:=Bi.1 hp;obtain⟨h3,h4⟩:=Bi.1 h2;have he:=Bv.1 h3;have hf:=Bv.1 h4;obtain⟨h5,h6⟩:=Bi.1 h1;obtain⟨v,rfl,rfl,hv⟩:=RP h5;obtain⟨w,rfl,rfl,hw⟩:=RP h6;refine⟨0,B0.Mul.out [.b (BB v),.l (Bk v),.i e,.b (BB w),.l (Bk w),.i f],[],?_,wdy⟩;have hl:=Afp v.natAbs w.natAbs;have o1:HD (BB (v*w)) (Bk (v*w))=wc:=Gq (by rw[Int.natAbs_mul]; omega);have o2:OK (e+f)=wc:=Bv.2 (by omega);rw[B0.Mul.ev,h5,h6,Ah,Aa,Bz (by omega) (by omega)];simp only[EB];rw[o1,o2,Ah,Aa];show _=wM (DV.agg [.bool (BB (mD (wv (BB v) (Bk v)*wv (BB w) (Bk w)))),.Bj .arg .u32 (Bk (mD (wv (BB v) (Bk v)*wv (BB w) (Bk w)))),.int .i64 (eD (wv (BB v) (Bk v)*wv (BB w) (Bk w)) (e+f))]);rw[EB,EB]
end Go.Proofs.S1
namespace Go.Cn
open Go.Den
structure Fw(x:Int):Prop where
 word:Br x=wc
 fin:Du x=wc
end Go.Cn
namespace Go.Proofs.S1
open Go Go.Den Go.Cn Go.Proofs
theorem Xy{R C:Nat}{l:Bf}(hl:l.length=R*C){I:Nat}(hI:I<R):JB (C:Int) l (I:Int)=(zg C).map fun k:Nat=>Dy (C:Int) l (I:Int) (k:Int):=by
 have hlen:=OE hl hI;have e1:((I:Int)*(C:Int)).toNat=I*C:=by rw[<- Ax,Ad]
 have e2:(((I:Int)+1)*(C:Int)).toNat=(I+1)*C:=by
  have:((I:Int)+1)*(C:Int)=(((I+1)*C:Nat):Int):=by rw[Ax]; rfl
  rw[this,Ad]
 refine PG (by rw[hlen,AO,AL]) fun j hj=>?_
 rw[hlen] at hj;have hp:=Fx hI hj;have h1:(I+1)*C=I*C+C:=by rw[AM,zv]
 rw[Ba,yn hj];unfold JB;rw[List.getElem?_drop,e1,e2,List.getElem?_take,Az (by omega)];show l[I*C+j]?=wM (Dy (C:Int) l (I:Int) (j:Int));rw[Mc,Al,As (by omega)];rfl
end Go.Proofs.S1
namespace Go.Cn
open Go.Den
theorem HB(s:Bool):vR (Cq s 0)=0:=by
 have e3:Bx (Cq s 0)=0:=by cases s<;>decide
 unfold vR;rw[e3];have z:((0:Nat):Rat)=0:=rfl;rw[z]; grind
theorem JW{a:Nat}(h:Bn a=0):vR a=0:=by
 have h3:Bn a≠3:=by omega
 have h4:Bn a≠4:=by omega
 unfold vR;rw[(CZ h3 h4).2 h];have z:((0:Nat):Rat)=0:=rfl;rw[z]; grind
theorem AaI(S:Int):Lc (decide (S<0))*((S.natAbs:Nat):Rat)=(S:Rat):=by
 rw[<- VH];congr 1;unfold Gx;by_cases h:S<0
 ·rw[Az (Ac h)]; omega
 ·rw[Ay (by rw[Ag h]; decide)]; omega
theorem MO{s:Bool}{V:Nat}{E:Int}(h:Bn (Cq s (Cu V E))≠3):Cu V E<Er:=by
 have:=NI V E;rcases AF (Cu V E) Er with g | g
 ·exact g
 ·exfalso;have e:Cu V E=Er:=by omega
  rw[e] at h;exact h (Afs s)
theorem Agy{s:Bool}{V:Nat}{E:Int}{B:Rat}(h:Ab (Lc s*((V:Rat)*tw E)) B):(V:Rat)*tw E<=B:=(Za (LO V E)).1 h
theorem Hi{x B:Rat}(h:x<=B):uR*x<=uR*B:=zd h (za Dd)
theorem NZ{a b:Nat}(a3:Bn a≠3)(a4:Bn a≠4)(b3:Bn b≠3)(b4:Bn b≠4)(hf:Bn (DS a b).1≠3){B:Rat}(hB:Ab (vR a+vR b) B):Nr (vR (DS a b).1) (vR a+vR b) (uR*B):=by
 have pa:=CH a;have pb:=CH b;rw[Nx (by omega) a3 b3] at hf ⊢;obtain⟨m,hm⟩:∃m,m=min (B6 a) (B6 b):=⟨_,rfl⟩
 have ea:=WW (a:=a) (g:=m) (by omega);have eb:=WW (a:=b) (g:=m) (by omega);rw[<- hm] at hf ⊢;generalize hS:E3 a m+E3 b m=S at hf ⊢
 have es:vR a+vR b=(S:Rat)*tw m:=by rw[<- ea,<- eb,<- hS,Rat.intCast_add]; grind
 rw[es] at hB ⊢;unfold HK at hf ⊢;by_cases h0:S=0
 ·rw[Az h0];dsimp only;rw[HB,h0];have z:((0:Int):Rat)=0:=rfl;have:=zb (za Dd) hB.nn;rw[z];unfold Nr; grind
 ·rw[Ay h0] at hf ⊢;dsimp only at hf ⊢;have h:=(MP (decide (S<0)) (MO hf)).2.1 (by omega);rw[<- xo (Lc _),AaI] at h;refine h.mono (Hi (Agy (s:=decide (S<0)) ?_));rw[<- xo,AaI]; exact hB
theorem KF{a b:Nat}(a3:Bn a≠3)(a4:Bn a≠4)(b3:Bn b≠3)(b4:Bn b≠4)(hf:Bn (Ee a b).1≠3){B:Rat}(hB:Ab (vR a*vR b) B):Nr (vR (Ee a b).1) (vR a*vR b) (uR*B+Cl):=by
 unfold Ee at hf ⊢;rw[Ay (by omega),Ay (by omega)] at hf ⊢;dsimp only at hf ⊢
 have e:vR a*vR b=Lc (Ce a !=Ce b)*(((Bx a*Bx b:Nat):Rat)*tw (B6 a+B6 b)):=by unfold vR;rw[AaH,zP,E5]; grind
 rw[e] at hB ⊢;refine(MP _ (MO hf)).1.mono ?_;have:=Hi (Agy hB);grind
theorem Sj{b:Nat}(h:b<2^64):vR (DR b)=-(vR b):=by obtain⟨h1,h2,h3⟩:=HZ h;unfold vR Bx B6;rw[h1,h2,h3];unfold Lc;cases Ce b<;>simp<;>grind
theorem RF{a b:Nat}(hb:b<2^64)(a3:Bn a≠3)(a4:Bn a≠4)(b3:Bn b≠3)(b4:Bn b≠4)(hf:Bn (Ql a b).1≠3){B:Rat}(hB:Ab (vR a-vR b) B):Nr (vR (Ql a b).1) (vR a-vR b) (uR*B):=by
 have k:=ZI b;have e:vR a-vR b=vR a+vR (DR b):=by rw[Sj hb]; grind
 rw[e] at hB ⊢;exact NZ a3 a4 (by omega) (by omega) hf hB
theorem GZ{a:Nat}{n:Int}(a3:Bn a≠3)(a4:Bn a≠4)(hf:Bn (Cj a n).1≠3):Nr (vR (Cj a n).1) (vR a*tw n) Cl:=by
 by_cases k0:Bn a=0
 ·have e:(Cj a n).1=a:=by unfold Cj; rw[Ay a4,Az (.inr k0)]
  have he:=DY;rw[e,JW k0];unfold Nr; grind
 ·rw[G4 a4 (by omega)] at hf ⊢;dsimp only at hf ⊢;have h:=(MP (Ce a) (MO hf)).2.2 (EJ a)
  have e:vR a*tw n=Lc (Ce a)*(((Bx a:Nat):Rat)*tw (B6 a+n)):=by unfold vR;rw[E5]; grind
  rw[e];exact h
open Go.Den
theorem AbQ{X Y K:Nat}(hY:0<Y):EI X Y K*Y<=2*(X*2^K)+Y/\2*(X*2^K)<=EI X Y K*Y+Y:=by
 have hd:=Nat.div_add_mod (X*2^K) Y;have hm:=zt (X*2^K) hY;unfold EI;rw[AM,A7,A0 (X*2^K / Y)];split
 ·rw[zK]; omega
 ·rw[zv]; omega
theorem C1{m n:Nat}(h:m<=n):(m:Rat)<=(n:Rat):=Rat.natCast_le_natCast.2 h
theorem AbR{X Y:Nat}{e f:Int}{q:Rat}(hX:0<X)(hY:0<Y)(hY2:Y<2^53)(hq:q*((Y:Rat)*tw f)=(X:Rat)*tw e):Nr ((EI X Y 120:Rat)*tw (e-f-121)) q (tw (-68)*q)/\0<=q:=by
 obtain⟨h1,h2⟩:=AbQ (X:=X) (K:=120) hY;have g1:=C1 h1;have g2:=C1 h2;rw[yg,zP,zP,zP] at g1;rw[yg,zP,zP,zP] at g2;have t2:((2:Nat):Rat)=2:=rfl;have t120:((2^120:Nat):Rat)=tw 120:=(Hl 120).symm;rw[t2,t120] at g1 g2;have pE:=En (e-f-121);have pf:=En f
 have yp:(0:Rat)<(Y:Rat):=by have:((0:Nat):Rat)<(Y:Rat):=vW.2 hY;exact this
 have ypos:0<(Y:Rat)*tw f:=z8 yp pf
 have e1:2*tw 120*(tw (e-f-121)*tw f)=tw e:=by have:2*tw 120=tw 121:=(RB 120).symm;rw[this,<- E5,<- E5]; congr 1; omega
 have m1:=zc g1 (za (z8 pE pf));have m2:=zc g2 (za (z8 pE pf));generalize tw (e-f-121)=T at *
 generalize (EI X Y 120:Rat)=S at *
 have s1:S*T*((Y:Rat)*tw f)<=(q+T)*((Y:Rat)*tw f):=by
  have:(q+T)*((Y:Rat)*tw f)=(X:Rat)*tw e+T*((Y:Rat)*tw f):=by rw[<- hq]; grind
  rw[this,<- e1];grind
 have s2:q*((Y:Rat)*tw f)<=(S*T+T)*((Y:Rat)*tw f):=by rw[hq,<- e1];grind
 have k1:=zQ s1 ypos;have k2:=zQ s2 ypos
 have hT:T<=tw (-68)*q:=by
  refine zQ (c:=(Y:Rat)*tw f) ?_ ypos;have e3:tw (-68)*q*((Y:Rat)*tw f)=tw (-68)*((X:Rat)*tw e):=by rw[<- hq]; grind
  have x1:(1:Rat)<=(X:Rat):=C1 (show 1<=X from hX)
  have y1:(Y:Rat)<=tw 53:=by have:=C1 (Nat.le_of_lt hY2);rw[<- Hl] at this;exact this
  have z1:=zd y1 (za (z8 pE pf));have pe:=En e;have z2:=zc x1 (za (z8 (En (-68)) pe))
  have e4:T*tw f*tw 53=tw (-68)*tw e:=by
   rw[<- e1]
   have:tw (-68)*(2*tw 120)=tw 53:=by rw[<- RB,<- E5]; rfl
   grind
  rw[e3];grind
 have hq0:0<=q:=by refine zQ (c:=(Y:Rat)*tw f) ?_ ypos;rw[hq];have:=LO X e;grind
 refine⟨?_,hq0⟩;unfold Nr;grind
theorem YZ(s:Bool):Lc s*Lc s=1:=by cases s<;>decide +kernel
theorem W0{a b:Nat}(a3:Bn a≠3)(a4:Bn a≠4)(b3:Bn b≠3)(b4:Bn b≠4)(b0:Bn b≠0)(hf:Bn (K5 a b).1≠3){q B:Rat}(hq:q*vR b=vR a)(hB:Ab q B):Nr (vR (K5 a b).1) q (2*uR*B+Cl):=by
 have hBn:=hB.nn;have hu:=Dd;have he:=DY;have bm:Bx b≠0:=fun h=>b0 ((CZ b3 b4).1 h)
 have yp:(0:Rat)<((Bx b:Nat):Rat):=by have:((0:Nat):Rat)<((Bx b:Nat):Rat):=vW.2 (by omega);exact this
 have ypos:0<((Bx b:Nat):Rat)*tw (B6 b):=z8 yp (En _);have hub:=zb (za Dd) hBn
 have hq2:(Lc (Ce a !=Ce b)*q)*(((Bx b:Nat):Rat)*tw (B6 b))=((Bx a:Nat):Rat)*tw (B6 a):=by
  unfold vR at hq;rw[AaH];have h1:=YZ (Ce a);generalize Lc (Ce a)=sa at *
  generalize Lc (Ce b)=sb at *
  grind
 by_cases k0:Bn a=0
 ·have ea:Bx a=0:=(CZ a3 a4).2 k0;have z:((0:Nat):Rat)=0:=rfl;rw[ea,z] at hq2
  have q0:q=0:=by
   have:(Lc (Ce a !=Ce b)*q)*(((Bx b:Nat):Rat)*tw (B6 b))=0:=by rw[hq2]; grind
   have h1:Lc (Ce a !=Ce b)*q=0:=by
    rcases xY.1 this with h | h
    ·exact h
    ·grind
   have h2:=YZ (Ce a !=Ce b);generalize Lc (Ce a !=Ce b)=sx at *
   grind
  have ed:(K5 a b).1=Cq (Ce a !=Ce b) 0:=by unfold K5;rw[Ay (by omega),Ay (by omega),Ay a3,Az (.inr k0)]
  rw[ed,HB,q0];unfold Nr;grind
 ·have am:Bx a≠0:=fun h=>k0 ((CZ a3 a4).1 h)
  have ed:(K5 a b).1=Cq (Ce a !=Ce b) (Cu (EI (Bx a) (Bx b) 120) (B6 a-B6 b-121)):=by unfold K5;rw[Ay (by omega),Ay (by omega),Ay a3,Ay (by omega),Ay b0]
  rw[ed] at hf ⊢;obtain⟨h1,h2⟩:=AbR (X:=Bx a) (Y:=Bx b) (by omega) (by omega) (EJ b) hq2;have h3:=(MP (Ce a !=Ce b) (MO hf)).1;have h4:=Aer (s:=Ce a !=Ce b) h1
  have sq:Lc (Ce a !=Ce b)*(Lc (Ce a !=Ce b)*q)=q:=by
   have h2:=YZ (Ce a !=Ce b);generalize Lc (Ce a !=Ce b)=sx at *
   grind
  rw[sq] at h4
  have hB2:Lc (Ce a !=Ce b)*q<=B:=by
   unfold Ab at hB;unfold Lc;cases (Ce a !=Ce b)
   ·have e:(if wh=wc then (-1:Rat) else 1)=1:=rfl;rw[e]; grind
   ·have e:(if wc=wc then (-1:Rat) else 1)=-1:=rfl;rw[e]; grind
  generalize Lc (Ce a !=Ce b)*q=p at *
  generalize ((EI (Bx a) (Bx b) 120:Nat):Rat)*tw (B6 a-B6 b-121)=W at *
  refine(h3.trans h4).mono ?_;have t68:tw (-68)=uR*tw (-15):=by unfold uR; rw[<- E5]; rfl
  have t15:tw (-15)<=1 / 4:=by decide +kernel
  have t0:=za (En (-15))
  have n1:W<=2*p:=by
   have:=h1.1;have m:=zc t15 h2
   have:tw (-68)*p<=p:=by
    have u1:tw (-68)<=1:=by decide +kernel
    have:=zc u1 h2;grind
   grind
  have n2:tw (-68)*p<=1 / 4*(uR*p):=by have m:=zc t15 (zb (za hu) h2);rw[t68]; grind
  have n3:=h1.1;have n4:W<=p+tw (-68)*p:=n3;have n5:tw (-68)<=1 / 4:=by decide +kernel
  have n6:tw (-68)*p<=1 / 4*p:=zc n5 h2;have n7:uR*W<=uR*(5 / 4*p):=Hi (by grind);have n8:uR*p<=uR*B:=Hi hB2;grind
theorem YR{n:Nat}(h:2^53<=I9 n):(Ec n*Ec n)*2^52<=4*n*2^52+4*n/\4*n*2^52<=(Ec n*Ec n)*2^52+4*n:=by
 obtain⟨h1,h2⟩:=Jk n;unfold Ec;split
 ·rename_i e
  have:(2*I9 n+0)*(2*I9 n+0)=4*n:=by rw[AQ,y6,e]
  rw[this]; omega
 ·have e1:(2*I9 n+1)*(2*I9 n+1)=4*(I9 n*I9 n)+4*I9 n+1:=by simp only[AM,z7,zv,AR,y6]; omega
  have e2:(I9 n+1)*(I9 n+1)=I9 n*I9 n+2*I9 n+1:=by simp only[AM,z7,zv,AR]; omega
  rw[e2] at h2;rw[e1];have h3:I9 n*2^53<=I9 n*I9 n:=Nat.mul_le_mul_left _ h;generalize I9 n*I9 n=I at *
  generalize I9 n=i at *
  omega
theorem Hj{x y:Rat}(h:0<=x)(g:x<=y):x*x<=y*y:=by have h1:=zd g h;have h2:=zc g (zp h g);grind
theorem Pm{b:Nat}(b3:Bn b≠3)(b4:Bn b≠4)(hn:Ce b=wh\/Bn b=0)(hf:Bn (Ek b).1≠3):Nr (vR (Ek b).1*vR (Ek b).1) (vR b) (8*uR*vR b)/\0<=vR (Ek b).1/\0<=vR b:=by
 by_cases k0:Bn b=0
 ·rw[IF b4 (.inl k0),JW k0];unfold Nr; grind
 have hn:Ce b=wh:=hn.elim id fun h=>absurd h k0
 have m0:Bx b≠0:=fun e=>k0 ((CZ b3 b4).1 e)
 have hi:b≠Er:=fun e=>b3 (by rw[e]; exact Yc)
 have pe:=CH b;rw[MH b4 (fun h=>h.elim k0 hi) hn] at hf ⊢;dsimp only at hf ⊢;obtain⟨r1,r2⟩:=Pv m0;have hrk:E6 b<=129:=by unfold E6; omega
 generalize hr:(B6 b-(E6 b:Int)) / 2-1=r at r2 hf ⊢;have hq:2^53<=I9 (Bx b*2^E6 b):=PL (t:=53) r1;obtain⟨s1,s2⟩:=YR hq;have hs:2^54<=Ec (Bx b*2^E6 b):=by unfold Ec; omega
 have hf':Bn (Cq wh (Cu (Ec (Bx b*2^E6 b)) r))≠3:=by rw[F2]; exact hf
 have h1:=(MP wh (MO hf')).1;rw[F2] at h1;have sg:Lc wh=1:=rfl;rw[sg,Rat.one_mul] at h1
 have eb:vR b=((Bx b*2^E6 b:Nat):Rat)*(tw 2*(tw r*tw r)):=by
  have e:=MD (Bx b) (E6 b) (B6 b);unfold vR;rw[hn];have e2:tw 2*(tw r*tw r)=tw (B6 b-(E6 b:Int)):=by rw[<- E5,<- E5]; congr 1; omega
  rw[e2,e,sg]; grind
 generalize Bx b*2^E6 b=n at *
 generalize Ec n=s at *
 have g1:=C1 s1;have g2:=C1 s2;simp only[yg,zP] at g1 g2;have t4:((4:Nat):Rat)=tw 2:=by decide +kernel
 have t52:((2^52:Nat):Rat)=tw 52:=(Hl 52).symm;rw[t4,t52] at g1 g2;have hs':=C1 hs;have t54:((2^54:Nat):Rat)=tw 54:=(Hl 54).symm;rw[t54] at hs';have pr:=En r;have prr:=z8 pr pr;have m1:=zc g1 (za prr);have m2:=zc g2 (za prr);have hS1:tw 54*tw r<=(s:Rat)*tw r:=zc hs' (za pr);generalize hS:(s:Rat)*tw r=S at *
 have q1:S*S*tw 52<=vR b*tw 52+vR b:=by rw[eb,<- hS]; grind
 have q2:vR b*tw 52<=S*S*tw 52+vR b:=by rw[eb,<- hS]; grind
 have hb0:0<=vR b:=by rw[eb];exact zb (GR n) (za (z8 (En 2) prr))
 have eta1:Cl<=uR*S:=by
  have z1:tw (-657)<=tw r:=AdQ (by omega);have z2:Cl<=uR*(tw 54*tw (-657)):=by decide +kernel
  have z3:tw 54*tw (-657)<=tw 54*tw r:=zd z1 (za (En 54));have z4:=Hi (zp z3 hS1);grind
 have hS0:0<=S:=by have:=z8 (En 54) pr;grind
 generalize vR b=B at *
 generalize vR (Cu s r)=R at *
 have h2:Nr R S (2*uR*S):=h1.mono (by grind);have cu:2*uR*tw 52=1:=by decide +kernel
 have u0:=Dd;have p1:=zc q1 (show 0<=2*uR by grind);have p2:=zc q2 (show 0<=2*uR by grind);have k1:S*S*tw 52*(2*uR)=S*S:=by grind
 have k2:(B*tw 52+B)*(2*uR)=(1+2*uR)*B:=by grind
 have k3:B*tw 52*(2*uR)=B:=by grind
 have k4:(S*S*tw 52+B)*(2*uR)=S*S+2*uR*B:=by grind
 rw[k1,k2] at p1;rw[k3,k4] at p2;have e1:S*S<=(1+2*uR)*B:=p1;have e2:(1-2*uR)*B<=S*S:=by grind
 have hu1:0<=1-2*uR:=by decide +kernel
 have a1:R<=(1+2*uR)*S:=by have:=h2.1; grind
 have a2:(1-2*uR)*S<=R:=by have:=h2.2; grind
 have a0:=zb hu1 hS0;have hR0:0<=R:=zp a0 a2;have b1:R*R<=(1+2*uR)*S*((1+2*uR)*S):=Hj hR0 a1;have b2:(1-2*uR)*S*((1-2*uR)*S)<=R*R:=Hj a0 a2;have c1:=zd e1 (show 0<=(1+2*uR)*(1+2*uR) by decide +kernel);have c2:=zd e2 (show 0<=(1-2*uR)*(1-2*uR) by decide +kernel);have d1:(1+2*uR)*(1+2*uR)*(1+2*uR)<=1+8*uR:=by decide +kernel
 have d2:1-8*uR<=(1-2*uR)*(1-2*uR)*(1-2*uR):=by decide +kernel
 have f1:=zc d1 hb0;have f2:=zc d2 hb0;refine⟨?_,hR0,hb0⟩;generalize uR=u at *
 unfold Nr;grind
def sm:Nat->(Nat->Rat)->Rat
 | 0,_=>0
 | n+1,f=>sm n f+f n
theorem BG{f g:Nat->Rat}:∀n,(∀i,i<n->f i=g i)->sm n f=sm n g
 | 0,_=>rfl
 | n+1,h=>by unfold sm;rw[BG n fun i hi=>h i (by omega),h n (by omega)]
theorem Eo(f g:Nat->Rat):∀n,sm n (fun i=>f i+g i)=sm n f+sm n g
 | 0=>by unfold sm; grind
 | n+1=>by unfold sm;rw[Eo f g n]; grind
theorem ES(c:Rat)(f:Nat->Rat):∀n,sm n (fun i=>c*f i)=c*sm n f
 | 0=>by unfold sm; grind
 | n+1=>by unfold sm;rw[ES c f n]; grind
theorem Jz{f g:Nat->Rat}:∀n,(∀i,i<n->f i<=g i)->sm n f<=sm n g
 | 0,_=>zE
 | n+1,h=>by
   unfold sm;have h1:=Jz n fun i hi=>h i (by omega)
   have h2:=h n (by omega);grind
theorem On{f:Nat->Rat}:∀n,(∀i,i<n->0<=f i)->0<=sm n f
 | 0,_=>zE
 | n+1,h=>by
   unfold sm;have h1:=On n fun i hi=>h i (by omega)
   have h2:=h n (by omega);grind
theorem GC(n:Nat):sm n (fun _=>0)=0:=by
 induction n with
 | zero=>rfl
 | succ n ih=>unfold sm; rw[ih]; grind
theorem O9{n:Nat}{f:Nat->Rat}{k:Nat}(hk:k<n)(h:∀i,i<n->i≠k->f i=0):sm n f=f k:=by
 induction n with
 | zero=>omega
 | succ n ih =>
   unfold sm;by_cases e:k=n
   ·subst e;rw[BG k (g:=fun _=>0) fun i hi=>h i (by omega) (by omega),GC]; grind
   ·rw[ih (by omega) fun i hi=>h i (by omega),h n (by omega) (by omega)]; grind
theorem BX(x:Rat):0<=x*x:=by
 rcases(yQ:(0:Rat)<=x\/x<=0) with h | h
 ·exact zb h h
 ·have:=zb (show 0<=-x by grind) (show 0<=-x by grind);grind
theorem H7{x y:Rat}(hy:0<=y)(h:x*x<=y*y):x<=y:=by
 rcases(yQ:x<=y\/y<=x) with g | g
 ·exact g
 ·have h1:=Hj hy g;have e:x*x=y*y:=by grind
  have z:(x-y)*(x+y)=0:=by grind
  rcases xY.1 z with k | k
  ·grind
  ·grind
theorem TM{x y:Rat}(hy:0<=y)(h:x*x<=y*y):Ab x y:=by have h1:=H7 hy h;have h2:=H7 (x:=-x) hy (by grind);unfold Ab; grind
def sq(n:Nat)(f:Nat->Rat):Rat:=sm n fun i=>f i*f i
theorem Mn(n:Nat)(f:Nat->Rat):0<=sq n f:=On n fun i _=>BX (f i)
theorem cs(f g:Nat->Rat):∀n,sm n (fun i=>f i*g i)*sm n (fun i=>f i*g i)<=sq n f*sq n g
 | 0=>by unfold sq sm; grind
 | n+1=>by
   have ih:=cs f g n;have hF:=Mn n f;have hG:=Mn n g;unfold sq sm;dsimp only;unfold sq at ih hF hG;generalize sm n (fun i=>f i*g i)=A at *
   generalize sm n (fun i=>f i*f i)=F at *
   generalize sm n (fun i=>g i*g i)=G at *
   generalize f n=a;generalize g n=b;have hP:=zb hF (BX b);have hQ:=zb hG (BX a)
   have hX:A*a*b*(A*a*b)<=F*(b*b)*(G*(a*a)):=by have:=zc ih (zb (BX a) (BX b));grind
   have hd:=BX (F*(b*b)-G*(a*a));have k:2*(A*a*b)<=F*(b*b)+G*(a*a):=H7 (by grind) (by grind);grind
def Ln(n:Nat)(f:Nat->Rat)(s:Rat):Prop:=0<=s/\sq n f<=s*s
theorem Ln.mono{n:Nat}{f:Nat->Rat}{s t:Rat}(h:Ln n f s)(g:s<=t):Ln n f t:=⟨zp h.1 g,zp h.2 (Hj h.1 g)⟩
theorem CM{a b c d:Rat}(h1:a<=b)(h2:c<=d)(hb:0<=b)(hc:0<=c):a*c<=b*d:=by have g1:=zc h1 hc;have g2:=zd h2 hb;grind
theorem Ln.dot{n:Nat}{f g:Nat->Rat}{s t:Rat}(h:Ln n f s)(k:Ln n g t):Ab (sm n fun i=>f i*g i) (s*t):=by refine TM (zb h.1 k.1) ?_;have h1:=cs f g n;have h2:=CM h.2 k.2 (BX s) (Mn n g);grind
theorem Ln.congr{n:Nat}{f g:Nat->Rat}{s:Rat}(h:Ln n f s)(e:∀i,i<n->g i=f i):Ln n g s:=by
 refine⟨h.1,?_⟩;have:sq n g=sq n f:=BG n fun i hi=>by rw[e i hi]
 rw[this]; exact h.2
theorem Ln.add{n:Nat}{f g:Nat->Rat}{s t:Rat}(h:Ln n f s)(k:Ln n g t):Ln n (fun i=>f i+g i) (s+t):=by
 have h0:=h.1;have k0:=k.1;refine⟨by grind,?_⟩
 have e:sq n (fun i=>f i+g i)=sq n f+(2*sm n (fun i=>f i*g i)+sq n g):=by unfold sq;rw[<- ES,<- Eo,<- Eo];exact BG n fun i _=>by grind
 have d:=(h.dot k).2;have h2:=h.2;have k2:=k.2;rw[e];grind
theorem Ln.scale{n:Nat}{f:Nat->Rat}{s c B:Rat}(h:Ln n f s)(hc:Ab c B):Ln n (fun i=>c*f i) (B*s):=by
 have hB:=hc.nn;refine⟨zb hB h.1,?_⟩
 have e:sq n (fun i=>c*f i)=c*c*sq n f:=by unfold sq;rw[<- ES];exact BG n fun i _=>by grind
 have c2:c*c<=B*B:=by
  unfold Ab at hc;rcases(yQ:(0:Rat)<=c\/c<=0) with g | g
  ·exact Hj g hc.2
  ·have:=Hj (x:=-c) (y:=B) (by grind) (by grind);grind
 have:=CM c2 h.2 (BX B) (Mn n f);rw[e];grind
theorem Ln.neg{n:Nat}{f:Nat->Rat}{s:Rat}(h:Ln n f s):Ln n (fun i=>-f i) s:=by
 refine⟨h.1,?_⟩;have e:sq n (fun i=>-f i)=sq n f:=BG n fun i _=>by grind
 rw[e]; exact h.2
theorem Ln.sub{n:Nat}{f g:Nat->Rat}{s t:Rat}(h:Ln n f s)(k:Ln n g t):Ln n (fun i=>f i-g i) (s+t) :=(h.add k.neg).congr fun i _=>by grind
theorem N8{n k:Nat}{f:Nat->Rat}(hk:k<n)(h:∀i,i<n->0<=f i):f k<=sm n f:=by
 induction n with
 | zero=>omega
 | succ n ih =>
   unfold sm;by_cases e:k=n
   ·subst e;have:=On k fun i hi=>h i (by omega)
    grind
   ·have h1:=ih (by omega) fun i hi=>h i (by omega)
    have h2:=h n (by omega);grind
theorem Ln.at{n k:Nat}{f:Nat->Rat}{s:Rat}(h:Ln n f s)(hk:k<n):Ab (f k) s:=by refine TM h.1 (zp ?_ h.2);exact N8 (f:=fun i=>f i*f i) hk fun i _=>BX (f i)
theorem Ln.zero(n:Nat):Ln n (fun _=>0) 0:=by
 refine⟨zE,?_⟩
 have:sq n (fun _=>0)=0:=by unfold sq;have:=GC n;rw[<- this];exact BG n fun i _=>by grind
 rw[this]; grind
theorem Lj(n:Nat)(c:Rat):sm n (fun _=>c)=(n:Rat)*c:=by
 induction n with
 | zero =>have z:((0:Nat):Rat)=0:=rfl;rw[z]; unfold sm; grind
 | succ n ih =>have e:((n+1:Nat):Rat)=(n:Rat)+1:=yg n 1;unfold sm;rw[ih,e]; grind
theorem Ln.Ir{n:Nat}{f:Nat->Rat}{B:Rat}(hB:0<=B)(h:∀i,i<n->Ab (f i) B)(h9:n<=9):Ln n f (3*B):=by
 refine⟨by grind,?_⟩
 have h1:sq n f<=sm n (fun _=>B*B):=Jz n fun i hi=>by
  have:=h i hi;unfold Ab at this;rcases(yQ:(0:Rat)<=f i\/f i<=0) with g | g
  ·exact Hj g this.2
  ·have:=Hj (x:=-f i) (y:=B) (by grind) (by grind);grind
 rw[Lj] at h1;have h2:(n:Rat)<=9:=C1 h9;have:=zc h2 (BX B);grind
theorem Li(f:Nat->Rat):∀n,sm (n+1) f=f 0+sm n (fun i=>f (i+1))
 | 0=>by show(0:Rat)+f 0=f 0+0;grind
 | n+1=>by
   show sm (n+1) f+f (n+1)=f 0+(sm n (fun i=>f (i+1))+f (n+1))
   rw[Li f n]; grind
theorem GL:uR<=1 / 1000000:=by decide +kernel
theorem Aej{c t q T z t' u e:Rat}(hc:0<=c)(hc2:c<=20)(hT:0<=T)(hz:0<=z)(hu:0<u)(hu2:u<=1 / 1000000)(he:0<e)
 (h1:Nr t T (3*c*u*T+2*c*e)) (h2:Nr q z (u*z+e)) (h3:Nr t' (t+q) (u*(T+3*c*u*T+2*c*e+(z+(u*z+e))))):
 Nr t' (T+z) (3*(c+1)*u*(T+z)+2*(c+1)*e):=by
 have a0:=zb (za hu) hT;have b0:=zb (za hu) hz
 have c1:3*c*u<=1:=by have:=zc hc2 (za hu);grind
 have k1:=zc c1 a0;have k2:=zc (show u<=1 by grind) b0
 have c3:(2*c+1)*u<=1:=by have:=zc hc2 (za hu);grind
 have k3:=zc c3 (za he);have k4:=zb hc b0;unfold Nr at *
 grind
def zR(k x:Int):Rat:=vR (Cj x.toNat k).1
theorem V7{k:Int}(hk:k<=0):∀(l:Bf) (s t:Nat) (T c:Rat),Bl 1 l->Bm t 2 s->0<t->t+l.length<=100->0<=T->0<=c->c+(l.length:Rat)<=20->Nr (vR s) T (3*c*uR*T+2*c*Cl) ->
 Nr (vR (F8 k (s:Int) l).toNat) (T+sm l.length (fun j=>zR k (l.getD j 0)*zR k (l.getD j 0))) (3*(c+(l.length:Rat))*uR*(T+sm l.length (fun j=>zR k (l.getD j 0)*zR k (l.getD j 0)))+2*(c+(l.length:Rat))*Cl)
 | [],s,t,T,c,_,_,_,_,_,_,_,h=>by have z:((([]:Bf).length:Nat):Rat)=0:=rfl;have e:sm ([]:Bf).length (fun j=>zR k (([]:Bf).getD j 0)*zR k (([]:Bf).getD j 0))=0:=rfl;rw[z,e,xE,xE];show Nr (vR (wi (s:Int))) T _;rw[Ad];exact h
 | x::l,s,t,T,c,hl,hs,h0,ht,hT,hc,hc2,h=>by
   have el:(((x::l).length:Nat):Rat)=(l.length:Rat)+1:=by rw[zj]; exact yg _ 1
   simp only[zj] at ht;rw[el] at hc2 ⊢;have hln:=GR l.length;have b1:Bd 1 (Cj x.toNat k).1:=Bd.scale (by decide) (hl x AY) (by omega);have b2:Bd 2 (Ee (Cj x.toNat k).1 (Cj x.toNat k).1).1:=Bd.mul (j:=1) (k:=1) (by decide) b1 b1;have b3:=Bm.add (k:=2) (by omega) (by omega) (by decide) hs b2.bm;have zz:=BX (vR (Cj x.toNat k).1);have m1:=KF b1.1 b1.2.1 b1.1 b1.2.1 b2.1 (B:=vR (Cj x.toNat k).1*vR (Cj x.toNat k).1) (by unfold Ab; grind);have u0:=Dd;have e0:=DY
   have m2:=NZ hs.1 hs.2.1 b2.1 b2.2.1 b3.1 (B:=T+3*c*uR*T+2*c*Cl+(vR (Cj x.toNat k).1*vR (Cj x.toNat k).1+(uR*(vR (Cj x.toNat k).1*vR (Cj x.toNat k).1)+Cl))) (by have n1:=h.1;have n2:=h.2;have n3:=m1.1;have n4:=m1.2;have n5:=zb (za u0) zz;have n6:=zb hc (zb (za u0) hT);have n7:=zb hc (za e0);unfold Ab;grind)
   have st:=Aej hc (by grind) hT zz u0 GL e0 h m1 m2;have ih:=V7 hk l _ (t+1) (T+vR (Cj x.toNat k).1*vR (Cj x.toNat k).1) (c+1) (fun z hz=>hl z (AN _ hz)) b3 (by omega) (by omega) (by grind) (by grind) (by grind) st
   have es:sm (x::l).length (fun j=>zR k ((x::l).getD j 0)*zR k ((x::l).getD j 0))=vR (Cj x.toNat k).1*vR (Cj x.toNat k).1+sm l.length (fun j=>zR k (l.getD j 0)*zR k (l.getD j 0)):=by rw[zj,Li];rfl
   have eq:(F8 k (s:Int) (x::l)).toNat=(F8 k ((DS s (Ee (Cj x.toNat k).1 (Cj x.toNat k).1).1).1:Nat) l).toNat:=by rw[F8];unfold DD Cx;rw[Co,Ad,Ad]
   rw[es,eq];rw[show T+(vR (Cj x.toNat k).1*vR (Cj x.toNat k).1+sm l.length (fun j=>zR k (l.getD j 0)*zR k (l.getD j 0)))=T+vR (Cj x.toNat k).1*vR (Cj x.toNat k).1+sm l.length (fun j=>zR k (l.getD j 0)*zR k (l.getD j 0)) by grind,show c+((l.length:Rat)+1)=c+1+(l.length:Rat) by grind];exact ih
theorem R8(a:Nat):vR a=Lc (Ce a)*((Ih a:Rat)*tw (-1074)):=by
 have pa:=CH a
 have e:(Ih a:Rat)*tw (-1074)=((Bx a:Nat):Rat)*tw (B6 a):=by have:=MD (Bx a) (B6 a-(-1074)).toNat (B6 a);rw[show B6 a-((B6 a-(-1074)).toNat:Int)=-1074 by omega] at this;exact this
 rw[e];unfold vR;grind
theorem Rq{k a:Nat}(h:Bd k a):Ab (vR a) (tw k):=by
 rw[R8,Za (LO _ _)];have h1:=C1 h.2.2;rw[<- Hl] at h1;have h2:=zc h1 (za (En (-1074)));rw[<- E5] at h2;have e:((k+1074:Nat):Int)+-1074=k:=by omega
 rw[e] at h2;exact h2
def av(x:Rat):Rat:=if 0<=x then x else -x
theorem DK(x:Rat):0<=av x:=by unfold av; split<;>grind
theorem Gh(x:Rat):Ab x (av x):=by unfold av Ab; split<;>grind
theorem F4{x B:Rat}(h:Ab x B):av x<=B:=by unfold Ab at h; unfold av; split<;>grind
theorem Ef(x y:Rat):av (x*y)=av x*av y:=by
 unfold av;by_cases hx:0<=x
 ·by_cases hy:0<=y
  ·have:=zb hx hy;rw[Az hx,Az hy,Az this]
  ·have:=zb hx (show 0<=-y by grind);rw[Az hx,Ay hy];split<;>grind
 ·by_cases hy:0<=y
  ·have:=zb (show 0<=-x by grind) hy;rw[Ay hx,Az hy];split<;>grind
  ·have:=zb (show 0<=-x by grind) (show 0<=-y by grind);rw[Ay hx,Ay hy];split<;>grind
theorem Gg(x:Rat):av x*av x=x*x:=by unfold av; split<;>grind
theorem Hm(x y:Rat):av (x+y)<=av x+av y:=by have h1:=Gh x;have h2:=Gh y;refine F4 ?_;unfold Ab at *; grind
theorem G2{x y d:Rat}:Nr x y d↔av (x-y)<=d:=by unfold Nr av;split<;>constructor<;>intro h<;>grind
theorem IH{a:Nat}(h:pw 0<=a%2^63):1<=av (vR a):=by
 obtain⟨h1,h2⟩:=L7 h;have m1:=C1 h1;have t:((2^52:Nat):Rat)=tw 52:=(Hl 52).symm;rw[t] at m1;have m2:tw (-52)<=tw (B6 a):=AdQ h2;have m3:=CM m1 m2 (GR _) (za (En _));have e:tw 52*tw (-52)=1:=by rw[<- E5]; exact J6
 rw[e] at m3
 have e2:av (vR a)=((Bx a:Nat):Rat)*tw (B6 a):=by
  have hn:=LO (Bx a) (B6 a);unfold vR Lc;cases Ce a
  ·have e:(if wh=wc then (-1:Rat) else 1)=1:=rfl;rw[e,Rat.one_mul]; unfold av; rw[Az hn]
  ·have e:(if wc=wc then (-1:Rat) else 1)=-1:=rfl;rw[e];unfold av;split<;>grind
 rw[e2];exact m3
theorem Vt{a:Nat}(h:Ce a=wh):0<=vR a:=by unfold vR;rw[h];have hn:=LO (Bx a) (B6 a);have e:Lc wh=1:=rfl;rw[e]; grind
theorem RJ{f g:Nat->Rat}{d:Rat}:∀n,(∀i,i<n->Nr (f i) (g i) d)->Nr (sm n f) (sm n g) ((n:Rat)*d)
 | 0,_=>by have z:((0:Nat):Rat)=0:=rfl;show Nr 0 0 _;rw[z]; unfold Nr; grind
 | n+1,h=>by
   have ih:=RJ n fun i hi=>h i (by omega)
   have h1:=h n (by omega);have e:((n+1:Nat):Rat)=(n:Rat)+1:=yg n 1;show Nr (sm n f+f n) (sm n g+g n) _;rw[e];unfold Nr at *; grind
theorem Pn{x y d B:Rat}(h:Nr x y d)(hB:Ab y B)(hd:0<=d):Nr (x*x) (y*y) (d*(2*B+d)):=by
 have e:x*x-y*y=(x-y)*(x+y):=by grind
 rw[G2,e,Ef];have h1:=G2.1 h
 have h2:av (x+y)<=2*B+d:=by
  refine F4 ?_;unfold Nr at h;unfold Ab at *
  grind
 exact CM h1 h2 hd (DK _)
def rv(l:Bf)(i:Nat):Rat:=vR (l.getD i 0).toNat
theorem Alj{k:Nat}{l:Bf}(h:Bl k l)(i:Nat):Ab (rv l i) (tw k):=Rq (OZ h i)
theorem tw1:tw 1=2:=by decide +kernel
theorem Amh:tw (-1)=1 / 2:=by decide +kernel
theorem AeO{y:Bf}(hy:Bl 1 y)(hl:y.length<=7)(h:∃z∈y,pw 0<=z.toNat%2^63):
 Nr (vR (Cb y).toNat*vR (Cb y).toNat) (sq y.length (rv y)) (40*uR*sq y.length (rv y))/\1<=vR (Cb y).toNat/\1<=sq y.length (rv y):=by
 obtain⟨n1,n2⟩:=AaW hy hl h
 have hm1:1<=sq y.length (rv y):=by
  obtain⟨z,hz,g⟩:=h;obtain⟨j,hj,rfl⟩:=wa.1 hz;have e:rv y j=vR (y[j]).toNat:=by unfold rv; rw[Al,As hj]; rfl
  have h1:=IH g;rw[<- e] at h1;have h2:=N8 (f:=fun i=>rv y i*rv y i) hj fun i _=>BX _
  have h3:=Hj (x:=1) (y:=av (rv y j)) (by decide) h1;rw[Gg] at h3;unfold sq;grind
 have nn:Ce (Cb y).toNat=wh:=EF n2.2;have hv0:=Vt nn
 have hv1:1<=vR (Cb y).toNat:=by
  have nl:(Cb y).toNat<2^63:=by have:=n2.2; rw[Fc] at this; omega
  have:=IH (a:=(Cb y).toNat) (by rw[Ao nl]; exact n2.1);unfold av at this;rw[Az hv0] at this;exact this
 refine⟨?_,hv1,hm1⟩;have hf:=hy.FJ
 have h0:∃z∈y,BF z≠0:=by obtain⟨z,hz,g⟩:=h;refine⟨z,hz,fun k=>?_⟩;have:=Fz (b:=z.toNat) (by unfold BF at k; omega);rw[Ry] at g; omega
 obtain⟨b3,b4,ba,hb⟩:=Jb hf
 have hB:pw 0<=DP (BI y).toNat:=by obtain⟨z,hz,g⟩:=h;exact AP g (hb z hz)
 obtain⟨w,hw,w0,we⟩:=Mb hf h0;have wk:=L4 (FI hf w hw);have ee:BO (BI y)=Em w.toNat:=by unfold BO; rw[we,LU w.toNat]; rfl
 obtain⟨x1,_⟩:=KM wk.1 wk.2 w0;have wm:Bx w.toNat≠0:=fun e=>w0 ((CZ wk.1 wk.2).1 e)
 have u1:=(hy w hw).log wm
 have u2:=(Lo.OL (a:=w.toNat) wk.1 wk.2 (by rw[we] at hB;show pw 0<=DP w.toNat;unfold DP at hB ⊢; omega)).log
 have e01:Em w.toNat=0\/Em w.toNat=1:=by omega
 have en:Cb y=BV (DG (F8 (-Em w.toNat) 0 y)) (Em w.toNat):=by
  unfold Cb
  rw[Ay (fun k=>by
   rcases k with k | k
   ·rw[k] at hB; rw[Ry] at hB; revert hB; decide
   ·unfold Du at k; rw[IL] at k; simp[b3,b4] at k),ee]
 obtain⟨t,te,t1,t2⟩:=MG (-Em w.toNat) y 0 (zl _);have tb:=t2 (.inr ⟨w,hw,by rw[Co]; exact OD wk.1 wk.2 w0⟩);have te:F8 (-Em w.toNat) 0 y=t:=te;have z0:vR 0=0:=HB wh;have hlen:(y.length:Rat)<=7:=C1 hl;have se:=V7 (k:=-Em w.toNat) (by omega) y 0 1 0 0 hy (Bd.zero wh 2).bm (by decide) (by omega) (zE) (zE) (by grind) (by rw[z0]; unfold Nr; grind);have se:Nr (vR (F8 (-Em w.toNat) 0 y).toNat) _ _:=se;have bm:=Qp (k:=-Em w.toNat) (by omega) y 0 1 hy (Bd.zero wh 2).bm (by decide) (by omega);have bm:Bm (1+y.length) 2 (F8 (-Em w.toNat) 0 y).toNat:=bm;rw[te,Ad] at bm se;rw[te] at en;have bt:Bd (3+3) t:=(bm.bd (j:=3) (by omega)).mono (by decide);have br:Bd 3 (Ek t).1:=Bd.root (by decide) bt (EF tb.2);have hr:=Pm bt.1 bt.2.1 (.inl (EF tb.2)) br.1
 have en2:(Cb y).toNat=(Cj (Ek t).1 (Em w.toNat)).1:=by rw[en,Co];unfold DG;rw[Ad,Ad]
 have hsc:=GZ (a:=(Ek t).1) (n:=Em w.toNat) br.1 br.2.1 (by rw[<- en2]; exact n1.1);rw[<- en2] at hsc;have r8:=Rq br;generalize vR (Ek t).1=r at *
 generalize vR (Cb y).toNat=v at *
 have hz:Nr (sm y.length (fun j=>zR (-Em w.toNat) (y.getD j 0)*zR (-Em w.toNat) (y.getD j 0))) (sm y.length (fun j=>rv y j*tw (-Em w.toNat)*(rv y j*tw (-Em w.toNat)))) ((y.length:Rat)*(Cl*(2*2+Cl))):=RJ _ fun i hi=>by
  have hb1:=hy (y.getD i 0) (by rw[Al,As hi]; exact z6 hi);have bs:Bd 1 (Cj (y.getD i 0).toNat (-Em w.toNat)).1:=Bd.scale (by decide) hb1 (by omega);have s1:=GZ (n:=-Em w.toNat) hb1.1 hb1.2.1 bs.1;refine Pn (B:=2) s1 ?_ (za DY);have a1:=Rq hb1;have t1':tw ((1:Nat):Int)=2:=tw1;rw[t1'] at a1;show Ab (vR (y.getD i 0).toNat*tw (-Em w.toNat)) 2;rcases e01 with e | e
  ·rw[e];have:tw (-0)=1:=J6;rw[this,Rat.mul_one]; exact a1
  ·rw[e,Amh];unfold Ab at *; grind
 have hs2:sm y.length (fun j=>rv y j*tw (-Em w.toNat)*(rv y j*tw (-Em w.toNat)))=tw (-Em w.toNat)*tw (-Em w.toNat)*sq y.length (rv y):=by unfold sq;rw[<- ES];exact BG _ fun i _=>by grind
 rw[hs2] at hz;generalize sq y.length (rv y)=m at *
 generalize sm y.length (fun j=>zR (-Em w.toNat) (y.getD j 0)*zR (-Em w.toNat) (y.getD j 0))=Z at *
 generalize vR t=T at *
 have hn0:=GR y.length;generalize (y.length:Rat)=n at *
 have u0:=Dd;have e0:=DY;have es:Cl<=uR / 1000000:=by decide +kernel
 have es2:Cl<=1 / 1000000:=by decide +kernel
 have hK:tw (Em w.toNat)*tw (-Em w.toNat)=1:=by rw[<- E5,show Em w.toNat+-Em w.toNat=0 by omega]; exact J6
 have hk2:0<tw (Em w.toNat)/\tw (Em w.toNat)<=2:=by
  refine⟨En _,?_⟩;rcases e01 with e | e
  ·rw[e,J6]; decide
  ·rw[e,tw1]; exact zE
 have t3:tw ((3:Nat):Int)=8:=by decide +kernel
 rw[t3] at r8;generalize tw (Em w.toNat)=K at *
 generalize tw (-Em w.toNat)=J at *
 have hr1:Ab (r*K) 16:=by have h1:=CM r8.2 hk2.2 (by decide) (za hk2.1);have h2:=zb hr.2.1 (za hk2.1);unfold Ab; grind
 have s1:=Pn hsc hr1 (za e0);have hKK:=zb (za hk2.1) (za hk2.1);have hK4:=CM hk2.2 hk2.2 (by decide) (za hk2.1);have s2:=hr.1.scale hKK;have s3:=se.scale hKK;have s4:=hz.scale hKK
 have c4:J*J*m*(K*K)=m:=by
  have:J*J*m*(K*K)=(K*J)*(K*J)*m:=by grind
  rw[this,hK]; grind
 rw[c4] at s4
 have d1:n*(Cl*(2*2+Cl))*(K*K)<=150*Cl:=by have a1:=CM hlen (show Cl*(2*2+Cl)<=Cl*(501 / 100) from zd (by grind) (za e0)) (by decide) (zb (za e0) (by grind));have a2:=CM a1 hK4 (by grind) hKK;grind
 have s4:=s4.mono d1;have hZ0:0<=Z*(K*K):=by have:=s4.2; grind
 have g1:(3*(0+n)*uR*(0+Z)+2*(0+n)*Cl)*(K*K)<=21*(uR*(Z*(K*K)))+56*Cl:=by have a1:=zc hlen (zb (za u0) hZ0);have a2:=CM (CM hlen (zE:Cl<=Cl) (by decide) (za e0)) hK4 (by grind) hKK;grind
 have s3:=s3.mono g1;rw[Rat.zero_add] at s3;generalize hZ':Z*(K*K)=Z' at *
 generalize hT':T*(K*K)=T' at *
 have s2':Nr (r*r*(K*K)) T' (8*(uR*T')):=s2.mono (by rw[<- hT']; grind);have eR:r*K*(r*K)=r*r*(K*K):=by grind
 rw[eR] at s1;have f1:Z'<=m+m / 1000:=by have:=s4.1; grind
 have f2:=Hi f1
 have f3:uR*(m+m / 1000)<=m / 100000:=by have:=zc GL (show 0<=m+m / 1000 by grind);grind
 have f4:T'<=m+m / 100:=by have:=s3.1; grind
 have f5:=Hi f4;have f6:uR*(m+m / 1000)=uR*m+uR*m / 1000:=by grind
 have f7:uR*(m+m / 100)=uR*m+uR*m / 100:=by grind
 have f8:uR<=uR*m:=by have:=zd hm1 (za u0);grind
 have s1':Nr (v*v) (r*r*(K*K)) (33*Cl):=s1.mono (by have:=zd (show 2*16+Cl<=33 by grind) (za e0);grind)
 refine((s1'.trans s2').trans (s3.trans s4)).mono ?_;grind
theorem JU{x y z d:Rat}(h:Nr x y d):av x<=av y+d:=by have h1:=Gh y;refine F4 ?_;unfold Nr at h; unfold Ab at *; grind
theorem Aaj{x:Rat}(h:av x=0):x=0:=by unfold av at h; split at h<;>grind
theorem TE(x:Rat):av (-x)=av x:=by unfold av; split<;>split<;>grind
theorem Y1{x:Rat}(h:0<=x):av x=x:=by unfold av; rw[Az h]
theorem Als(x:Rat):x<=av x:=(Gh x).2
theorem Ks{a b:Rat}(h:b≠0):a / b*b=a:=by grind
theorem AeA{w D d q:Rat}(hD:0<av D)(hd:Nr d D (uR*av D))(hq:q*d=w*D):av (q-w)<=11 / 10*uR*av w:=by
 have u0:=Dd;have us:=GL;have h1:=G2.1 hd;have aw:=DK w
 have h2:(1-uR)*av D<=av d:=by have:=JU (z:=0) hd.symm;grind
 have e:(q-w)*d=w*(D-d):=by grind
 have h3:av (q-w)*av d=av w*av (D-d):=by rw[<- Ef,<- Ef,e]
 have h4:av (D-d)<=uR*av D:=G2.1 hd.symm;have h5:=zd h4 aw;have h6:=zd h2 (DK (q-w));have h7:av (q-w)*(1-uR)*av D<=av w*uR*av D:=by grind
 have h8:=zQ h7 hD;refine zQ (c:=1-uR) ?_ (by grind);have h9:(1:Rat)<=11 / 10*(1-uR):=by grind
 have h10:=zc h9 (zb (za u0) aw);grind
section
variable{k:Nat}{y v:Nat->Rat}{μ τ d p:Rat}
structure GB(k:Nat)(y v:Nat->Rat)(μ τ d p:Rat):Prop where
 k6:k<=6
 v0:v 0=1
 one:1<=av μ
 Gx:y 0*μ<=0
 len:Nr (μ*μ) (sq (k+1) y) (40*uR*sq (k+1) y)
 two:∀i,i<=k->Ab (y i) 2
 hd:Nr d (y 0-μ) (uR*av (y 0-μ))
 hp:Nr p (μ-y 0) (uR*av (y 0-μ))
 hv:∀i,i<k->∀q,q*d=y (i+1)->Nr (v (i+1)) q (2*uR*av q+Cl)
 ht:∀q,q*μ=p->Nr τ q (2*uR*av q+Cl)
theorem Ka(n:Nat)(f:Nat->Rat):sq (n+1) f=f 0*f 0+sq n (fun i=>f (i+1)):=Li (fun i=>f i*f i) n
theorem GB.D(h:GB k y v μ τ d p):av (y 0-μ)=av (y 0)+av μ:=by
 have h1:=h.one;have h2:=h.Gx;unfold av at *
 by_cases a:0<=μ
 ·rw[Az a] at h1 ⊢
  have:y 0<=0:=by
   rcases(yQ:y 0<=0\/0<=y 0) with g | g
   ·exact g
   ·have:=zd h1 g;grind
  split<;>(try split)<;>grind
 ·rw[Ay a] at h1 ⊢
  have:0<=y 0:=by
   rcases(yQ:0<=y 0\/y 0<=0) with g | g
   ·exact g
   ·have:=zd h1 (show 0<=-(y 0) by grind);grind
  split<;>(try split)<;>grind
theorem GB.WL(h:GB k y v μ τ d p):0<av (y 0-μ)/\av μ<=av (y 0-μ)/\y 0-μ≠0/\μ≠0:=by
 have h1:=h.one;have h2:=h.D;have h3:=DK (y 0);refine⟨by grind,by grind,fun e=>?_,fun e=>?_⟩
 ·rw[e] at h2;have:av 0=0:=by decide
  grind
 ·rw[e] at h1;have:av 0=0:=by decide
  grind
def wR(y:Nat->Rat)(μ:Rat)(i:Nat):Rat:=y i / (y 0-μ)
theorem GB.w(h:GB k y v μ τ d p)(i:Nat):wR y μ i*(y 0-μ)=y i:=Ks h.WL.2.2.1
theorem GB.vw(h:GB k y v μ τ d p){i:Nat}(hi:i<k):av (v (i+1)-wR y μ (i+1))<=4*uR*av (wR y μ (i+1))+Cl:=by
 have u0:=Dd;have us:=GL;have hD:=h.WL.1
 have d0:d≠0:=fun e=>by
  have:=JU (z:=0) h.hd.symm;rw[e] at this;have z:av 0=0:=by decide
  have:uR*av (y 0-μ)<=1 / 1000000*av (y 0-μ):=zc us (za hD);grind
 have hq:=Ks (a:=y (i+1)) d0;have h1:=G2.1 (h.hv i hi _ hq);have h2:=AeA (w:=wR y μ (i+1)) hD h.hd (by rw[h.w]; exact hq);have aw:=DK (wR y μ (i+1));generalize y (i+1) / d=q at *
 generalize wR y μ (i+1)=w at *
 have h3:av q<=11 / 10*av w:=by have:=Hm w (q-w);rw[show w+(q-w)=q by grind] at this;have:11 / 10*uR*av w<=1 / 10*av w:=zc (by grind) aw;grind
 have h4:=Hm (v (i+1)-q) (q-w);rw[show v (i+1)-q+(q-w)=v (i+1)-w by grind] at h4;have h5:=Hi h3;have h6:=zb (za u0) aw;grind
theorem Sx{f g d:Nat->Rat}:∀n,(∀i,i<n->Nr (f i) (g i) (d i))->Nr (sm n f) (sm n g) (sm n d)
 | 0,_=>by show Nr 0 0 0;unfold Nr; grind
 | n+1,h=>by
   have ih:=Sx n fun i hi=>h i (by omega)
   have h1:=h n (by omega);show Nr (sm n f+f n) (sm n g+g n) (sm n d+d n);unfold Nr at *; grind
def W2(k:Nat)(y:Nat->Rat)(μ:Rat):Rat:=sm k fun i=>wR y μ (i+1)*wR y μ (i+1)
def V2(k:Nat)(v:Nat->Rat):Rat:=sm k fun i=>v (i+1)*v (i+1)
theorem GB.W(h:GB k y v μ τ d p):W2 k y μ*((y 0-μ)*(y 0-μ))=sq (k+1) y-y 0*y 0/\0<=W2 k y μ:=by
 refine⟨?_,On k fun i _=>BX _⟩;have e:sq (k+1) y-y 0*y 0=sq k (fun i=>y (i+1)):=by rw[Ka]; grind
 rw[e];unfold W2 sq;rw[Rat.mul_comm,<- ES];refine BG k fun i _=>?_
 have:=h.w (i+1);generalize wR y μ (i+1)=w at *
 show(y 0-μ)*(y 0-μ)*(w*w)=y (i+1)*y (i+1);rw[<- this];grind
theorem GB.m2(h:GB k y v μ τ d p):sq (k+1) y<=(1+41*uR)*(μ*μ)/\0<=sq (k+1) y:=by
 have h0:=Mn (k+1) y;refine⟨?_,h0⟩;have h1:=h.len.2;have c:1<=(1+41*uR)*(1-40*uR):=by decide +kernel
 have h2:=zc c h0;have h3:=zd (show(1-40*uR)*sq (k+1) y<=μ*μ by grind) (show 0<=1+41*uR by decide +kernel);grind
theorem GB.f0(h:GB k y v μ τ d p):av (y 0)<=101 / 100*av μ/\av (y 0-μ)<=201 / 100*av μ:=by
 have h1:=h.m2.1
 have h2:y 0*y 0<=sq (k+1) y:=by
  rw[Ka];have:=Mn k fun i=>y (i+1)
  grind
 have a0:=DK μ
 have h3:av (y 0)<=101 / 100*av μ:=by
  refine H7 (by grind) ?_;rw[Gg];have e:101 / 100*av μ*(101 / 100*av μ)=101 / 100*(101 / 100)*(μ*μ):=by rw[<- Gg μ]; grind
  rw[e];have c:1+41*uR<=101 / 100*(101 / 100):=by decide +kernel
  have:=zc c (BX μ);grind
 refine⟨h3,?_⟩;rw[h.D]; grind
theorem GB.Wle(h:GB k y v μ τ d p):W2 k y μ<=1+41*uR:=by
 obtain⟨h1,h2⟩:=h.W;obtain⟨d1,d2,d3,d4⟩:=h.WL;have hDD:=Hj (DK μ) d2;rw[Gg,Gg] at hDD;have hm:=h.m2.1;have y0:=BX (y 0);have h3:=zd hDD (show 0<=1+41*uR by decide +kernel)
 have hp:0<(y 0-μ)*(y 0-μ):=by have:=z8 d1 d1;rw[Gg] at this;exact this
 refine zQ (c:=(y 0-μ)*(y 0-μ)) ?_ hp;grind
theorem GB.wle(h:GB k y v μ τ d p){i:Nat}(hi:i<=k):av (wR y μ i)<=2:=by
 obtain⟨d1,d2,d3,d4⟩:=h.WL;have h1:=F4 (h.two i hi);have h2:=h.w i;have h3:av (wR y μ i)*av (y 0-μ)=av (y i):=by rw[<- Ef,h2]
 refine zQ (c:=av (y 0-μ)) ?_ d1;have:=h.one;grind
theorem AgT{a b e:Rat}(h:av (a-b)<=4*uR*av b+e)(he:0<=e)(he2:e<=1 / 1000000)(hb:av b<=2):Nr (a*a) (b*b) (9*uR*(b*b)+5*e):=by
 have u0:=Dd;have b0:=DK b;have ub:=zb (za u0) b0;have e1:a*a-b*b=(a-b)*(a+b):=by grind
 have h2:av (a+b)<=2*av b+(4*uR*av b+e):=by
  have:=Hm (a-b) (2*b);rw[show a-b+2*b=a+b by grind,Ef] at this;have t:av 2=2:=by decide
  rw[t] at this;grind
 rw[G2,e1,Ef];have h3:=CM h h2 (by grind) (DK _);have k1:uR*av b<=1 / 1000000*av b:=zc GL b0;have k2:=zd k1 ub;have k3:=zd (show 2*av b+(4*uR*av b+e)+4*uR*av b<=5 by grind) he;rw[<- Gg b];have k4:=zb ub b0;grind
theorem GB.VW(h:GB k y v μ τ d p):Nr (V2 k v) (W2 k y μ) (9*uR*W2 k y μ+30*Cl):=by
 have e0:=DY;have e2:Cl<=1 / 1000000:=by decide +kernel
 have h1:=Sx k fun i hi=>AgT (h.vw hi) (za e0) e2 (h.wle (i:=i+1) (by omega))
 refine h1.mono ?_
 have e:sm k (fun i=>9*uR*(wR y μ (i+1)*wR y μ (i+1))+5*Cl)=9*uR*W2 k y μ+(k:Rat)*(5*Cl):=by rw[Eo (fun i=>9*uR*(wR y μ (i+1)*wR y μ (i+1))) (fun _=>5*Cl),ES,Lj];rfl
 rw[e];have hk:(k:Rat)<=6:=C1 h.k6;have:=zc hk (show 0<=5*Cl by grind);grind
def tR(y:Nat->Rat)(μ:Rat):Rat:=-(y 0-μ) / μ
theorem GB.t(h:GB k y v μ τ d p):tR y μ*μ=-(y 0-μ):=Ks h.WL.2.2.2
theorem GB.tle(h:GB k y v μ τ d p):av (tR y μ)<=201 / 100/\av (τ-tR y μ)<=7*uR/\av (tR y μ)*av μ=av (y 0-μ):=by
 have u0:=Dd;have ht:=h.t;have one:=h.one;have hm:0<av μ:=by grind
 have h1:av (tR y μ)*av μ=av (y 0-μ):=by rw[<- Ef,ht,TE]
 have h2:av (tR y μ)<=201 / 100:=by refine zQ (c:=av μ) ?_ hm;rw[h1]; exact h.f0.2
 refine⟨h2,?_,h1⟩;have hq:=Ks (a:=p) h.WL.2.2.2;have h3:=G2.1 (h.ht _ hq);generalize p / μ=q at *
 generalize tR y μ=t at *
 have h4:av (q-t)<=uR*av t:=by
  refine zQ (c:=av μ) ?_ hm;have e:(q-t)*μ=p-(μ-y 0):=by grind
  have e2:av (q-t)*av μ=av (p-(μ-y 0)):=by rw[<- Ef,e]
  have:=G2.1 h.hp;rw[e2];have e3:uR*av t*av μ=uR*av (y 0-μ):=by rw[<- h1]; grind
  rw[e3]; exact this
 have h5:av q<=av t+uR*av t:=by have:=Hm t (q-t);rw[show t+(q-t)=q by grind] at this;grind
 have h6:=Hm (τ-q) (q-t);rw[show τ-q+(q-t)=τ-t by grind] at h6;have t0:=DK t;have k1:=Hi h2;have k2:=Hi h5;have k3:uR*(uR*av t)<=1 / 1000000*(uR*av t):=zc GL (zb (za u0) t0);have e1:Cl<=uR / 1000000:=by decide +kernel
 grind
theorem GB.tt(h:GB k y v μ τ d p):av (tR y μ*(1+W2 k y μ)-2)<=41*uR:=by
 obtain⟨hW,_⟩:=h.W;have ht:=h.t;obtain⟨d1,d2,d3,d4⟩:=h.WL;have one:=h.one;have hm:0<av μ:=by grind
 generalize W2 k y μ=W at *
 generalize tR y μ=t at *
 have e:(t*(1+W)-2)*(μ*(y 0-μ))=-(sq (k+1) y-μ*μ):=by
  have e0:(t*(1+W)-2)*(μ*(y 0-μ))*(y 0-μ)=-(sq (k+1) y-μ*μ)*(y 0-μ):=by grind
  have e1:((t*(1+W)-2)*(μ*(y 0-μ)) - -(sq (k+1) y-μ*μ))*(y 0-μ)=0:=by grind
  rcases xY.1 e1 with g | g
  ·grind
  ·exact absurd g d3
 have e2:av (t*(1+W)-2)*(av μ*av (y 0-μ))=av (sq (k+1) y-μ*μ):=by rw[<- Ef,<- Ef,e,TE]
 have hl:=G2.1 h.len.symm;have hm2:=h.m2.1;have k1:=zd hm2 (show 0<=40*uR by decide +kernel);have c:40*uR*(1+41*uR)<=41*uR:=by decide +kernel
 have k2:=zc c (BX μ);have k3:=zd d2 (DK μ);rw[Gg] at k3;have k4:=zd k3 (show 0<=41*uR by decide +kernel);refine zQ (c:=av μ*av (y 0-μ)) ?_ (z8 hm d1);grind
theorem GB.sqv(h:GB k y v μ τ d p):sq (k+1) v=1+V2 k v:=by rw[Ka,h.v0];unfold V2 sq;grind
theorem GB.AeU(h:GB k y v μ τ d p):Nr (τ*sq (k+1) v) 2 (100*uR)/\Ab τ (21 / 10)/\sq (k+1) v<=201 / 100:=by
 have u0:=Dd;have us:=GL;have e1:Cl<=uR / 1000000:=by decide +kernel
 obtain⟨t1,t2,_⟩:=h.tle;have hVW:=h.VW;have hW:=h.Wle;have hW0:=h.W.2;have htt:=h.tt;rw[h.sqv];have hV:=hVW.1;have k0:uR*W2 k y μ<=2*uR:=zp (Hi hW) (by decide +kernel);have hV2:V2 k v<=101 / 100:=by grind
 refine⟨?_,?_,by grind⟩
 ·rw[G2];have hV0:0<=V2 k v:=On k fun i _=>BX _
  generalize W2 k y μ=W at *
  generalize V2 k v=V at *
  generalize tR y μ=t at *
  have a1:av ((τ-t)*(1+V))<=7*uR*(201 / 100):=by
   rw[Ef];have:av (1+V)<=201 / 100:=by rw[Y1 (by grind)]; grind
   exact CM t2 this (by grind) (DK _)
  have a2:av (t*(V-W))<=201 / 100*(20*uR):=by rw[Ef];have:=G2.1 hVW;exact CM t1 (show av (V-W)<=20*uR by grind) (by grind) (DK _)
  have a3:=Hm ((τ-t)*(1+V)+t*(V-W)) (t*(1+W)-2);have a4:=Hm ((τ-t)*(1+V)) (t*(V-W));rw[show(τ-t)*(1+V)+t*(V-W)+(t*(1+W)-2)=τ*(1+V)-2 by grind] at a3;grind
 ·have:=Hm (tR y μ) (τ-tR y μ);rw[show tR y μ+(τ-tR y μ)=τ by grind] at this;have h2:=Gh τ;unfold Ab at *
  grind
end
theorem Ln.AeN{n:Nat}{f g:Nat->Rat}{s:Rat}(h:∀i,i<n->av (f i)<=g i)(k:Ln n g s):Ln n f s:=by refine⟨k.1,zp (Jz n fun i hi=>?_) k.2⟩;have:=Hj (DK (f i)) (h i hi);rw[Gg] at this;exact this
section
variable{k:Nat}{y v:Nat->Rat}{μ τ d p:Rat}
def gR(k:Nat)(y v:Nat->Rat):Rat:=sm (k+1) fun j=>v j*y j
theorem GB.g(h:GB k y v μ τ d p):av (gR k y v+μ)<=46*uR*av μ:=by
 have u0:=Dd;have us:=GL;have e1:Cl<=uR / 1000000:=by decide +kernel
 have e0:=DY;obtain⟨d1,d2,d3,d4⟩:=h.WL;have one:=h.one;have a0:=DK μ;have hm2:=h.m2.1
 have hX:sm k (fun i=>av (wR y μ (i+1))*av (y (i+1)))*av (y 0-μ)=sq (k+1) y-y 0*y 0:=by
  have e:sq (k+1) y-y 0*y 0=sq k (fun i=>y (i+1)):=by rw[Ka]; grind
  rw[e];unfold sq;rw[Rat.mul_comm,<- ES];refine BG k fun i _=>?_
  show av (y 0-μ)*(av (wR y μ (i+1))*av (y (i+1)))=y (i+1)*y (i+1);have h2:av (wR y μ (i+1))*av (y 0-μ)=av (y (i+1)):=by rw[<- Ef,h.w]
  rw[<- Gg (y (i+1))];generalize av (wR y μ (i+1))=w at *
  rw[<- h2]; grind
 have hX2:sm k (fun i=>av (wR y μ (i+1))*av (y (i+1)))<=101 / 100*av μ:=by
  refine zQ (c:=av (y 0-μ)) ?_ d1;rw[hX];have y0:=BX (y 0);have c:1+41*uR<=101 / 100:=by decide +kernel
  have k1:=zc c (BX μ);have k2:=zd d2 a0;rw[Gg] at k2;grind
 have hX0:0<=sm k (fun i=>av (wR y μ (i+1))*av (y (i+1))):=On k fun i _=>zb (DK _) (DK _)
 have hG:Nr (sm k fun i=>v (i+1)*y (i+1)) (sm k fun i=>wR y μ (i+1)*y (i+1)) (4*uR*sm k (fun i=>av (wR y μ (i+1))*av (y (i+1)))+12*Cl):=by
  have h1:=Sx (f:=fun i=>v (i+1)*y (i+1)) (g:=fun i=>wR y μ (i+1)*y (i+1)) (d:=fun i=>4*uR*(av (wR y μ (i+1))*av (y (i+1)))+2*Cl) k fun i hi=>by have hv:=h.vw hi;have hy:=F4 (h.two (i+1) (by omega));have y0:=DK (y (i+1));rw[G2];show av (v (i+1)*y (i+1)-wR y μ (i+1)*y (i+1))<=4*uR*(av (wR y μ (i+1))*av (y (i+1)))+2*Cl;rw[show v (i+1)*y (i+1)-wR y μ (i+1)*y (i+1)=(v (i+1)-wR y μ (i+1))*y (i+1) by grind,Ef];have h3:=zc hv y0;have h4:=zd hy (za e0);grind
  refine h1.mono ?_;rw[Eo (fun i=>4*uR*(av (wR y μ (i+1))*av (y (i+1)))) (fun _=>2*Cl),ES,Lj];have hk:(k:Rat)<=6:=C1 h.k6;have:=zc hk (show 0<=2*Cl by grind);grind
 have hGe:(sm k fun i=>wR y μ (i+1)*y (i+1))*(y 0-μ)=sq (k+1) y-y 0*y 0:=by
  have e:sq (k+1) y-y 0*y 0=sq k (fun i=>y (i+1)):=by rw[Ka]; grind
  rw[e];unfold sq;rw[Rat.mul_comm,<- ES];refine BG k fun i _=>?_
  show(y 0-μ)*(wR y μ (i+1)*y (i+1))=y (i+1)*y (i+1);have h2:=h.w (i+1);generalize wR y μ (i+1)=w at *
  rw[<- h2]; grind
 have eg:gR k y v=y 0+sm k fun i=>v (i+1)*y (i+1):=by unfold gR;rw[Li,h.v0]; grind
 rw[eg];generalize (sm k fun i=>v (i+1)*y (i+1))=G at *
 generalize (sm k fun i=>wR y μ (i+1)*y (i+1))=Ge at *
 generalize sm k (fun i=>av (wR y μ (i+1))*av (y (i+1)))=X at *
 have h5:av (y 0+Ge+μ)<=41*uR*av μ:=by
  have e:(y 0+Ge+μ)*(y 0-μ)=sq (k+1) y-μ*μ:=by grind
  have e2:av (y 0+Ge+μ)*av (y 0-μ)=av (sq (k+1) y-μ*μ):=by rw[<- Ef,e]
  have hl:=G2.1 h.len.symm;have hl:av (sq (k+1) y-μ*μ)<=40*uR*sq (k+1) y:=G2.1 h.len.symm;have k1:=zd hm2 (show 0<=40*uR by decide +kernel);have c:40*uR*(1+41*uR)<=41*uR:=by decide +kernel
  have k2:=zc c (BX μ);have k3:=zd d2 a0;rw[Gg] at k3;have k4:=zd k3 (show 0<=41*uR by decide +kernel);refine zQ (c:=av (y 0-μ)) ?_ d1;grind
 have h6:=G2.1 hG;have h7:=Hm (G-Ge) (y 0+Ge+μ);rw[show G-Ge+(y 0+Ge+μ)=y 0+G+μ by grind] at h7;have k5:=Hi hX2
 have k6:uR<=uR*av μ:=by have:=zd one (za u0);grind
 grind
theorem GB.e(h:GB k y v μ τ d p):av (y 0-μ-τ*gR k y v)<=104*uR*av μ:=by
 have u0:=Dd;have hg:=h.g;obtain⟨t1,t2,t3⟩:=h.tle;have ht:=h.t;have h2:=F4 h.AeU.2.1;generalize gR k y v=g at *
 have e:y 0-μ-τ*g=(τ-tR y μ)*μ-τ*(g+μ):=by grind
 have h3:=Hm ((τ-tR y μ)*μ) (-(τ*(g+μ)));rw[show(τ-tR y μ)*μ+-(τ*(g+μ))=(τ-tR y μ)*μ-τ*(g+μ) by grind,TE,Ef,Ef] at h3;rw[e];have a0:=DK μ;have k1:=zc t2 a0;have k2:=CM h2 hg (by grind) (DK _);have k3:=zb (za u0) a0;grind
theorem GB.Ajp(h:GB k y v μ τ d p):Ln (k+1) (fun i=>y i-τ*gR k y v*v i-if i=0 then μ else 0) (200*uR*av μ):=by
 have u0:=Dd;have e1:Cl<=uR / 1000000:=by decide +kernel
 have e0:=DY;have one:=h.one;have a0:=DK μ;have hE:=h.e;obtain⟨d1,d2,d3,d4⟩:=h.WL;have lv:Ln (k+1) v (3 / 2):=⟨by decide +kernel,zp h.AeU.2.2 (by decide +kernel)⟩
 have ly:Ln (k+1) y (101 / 100*av μ):=by
  refine⟨by grind,?_⟩;have c:1+41*uR<=101 / 100*(101 / 100):=by decide +kernel
  have k1:=zc c (BX μ);have k2:=h.m2.1;have:=Gg μ;grind
 have hA:=lv.scale (c:=y 0-μ-τ*gR k y v) (B:=104*uR*av μ) (by have:=Gh (y 0-μ-τ*gR k y v);unfold Ab at *; grind)
 have c1:Ln (k+1) (fun i=>4*uR*av (y i)) (4*uR*(101 / 100*av μ)):=by
  have lav:Ln (k+1) (fun i=>av (y i)) (101 / 100*av μ):=by
   refine⟨ly.1,?_⟩;have e:sq (k+1) (fun i=>av (y i))=sq (k+1) y:=BG _ fun i _=>Gg _
   rw[e]; exact ly.2
  exact lav.scale (c:=4*uR) (B:=4*uR) (by unfold Ab; grind)
 have c2:Ln (k+1) (fun _=>Cl*av (y 0-μ)) (3*(Cl*av (y 0-μ))):=by have:=zb (za e0) (DK (y 0-μ));exact Ln.Ir this (fun i _=>by unfold Ab; grind) (by have:=h.k6; omega)
 have hB:Ln (k+1) (fun i=>if i=0 then 0 else (y 0-μ)*(wR y μ i-v i)) (4*uR*(101 / 100*av μ)+3*(Cl*av (y 0-μ))):=by
  refine Ln.AeN (g:=fun i=>4*uR*av (y i)+Cl*av (y 0-μ)) (fun i hi=>?_) (c1.add c2);cases i with
  | zero =>
    have k1:=zb (za u0) (DK (y 0));have k2:=zb (za e0) (DK (y 0-μ));have z:av 0=0:=by decide
    rw[Az rfl,z]; grind
  | succ i =>
    rw[Ay (by omega),Ef];have hv:=h.vw (i:=i) (by omega);have h2:av (wR y μ (i+1))*av (y 0-μ)=av (y (i+1)):=by rw[<- Ef,h.w]
    have h3:av (wR y μ (i+1)-v (i+1))=av (v (i+1)-wR y μ (i+1)):=by rw[<- TE]; congr 1; grind
    have h4:=zd hv (za d1);rw[h3,<- h2];clear hA c1 c2 lv ly;grind
 have hs:=(hA.add hB).congr (g:=fun i=>y i-τ*gR k y v*v i-if i=0 then μ else 0) fun i hi=>by
  cases i with
  | zero =>rw[Az rfl,Az rfl,h.v0]; grind
  | succ i =>
    rw[Ay (by omega),Ay (by omega)];have:=h.w (i+1);generalize wR y μ (i+1)=w at *
    rw[<- this]; grind
 refine hs.mono ?_;have k1:=zd h.f0.2 (za e0);have k2:=zc e1 a0;have k3:=zb (za u0) a0;grind
end
theorem AgX{a b:Nat}(h:Ce a=!Ce b):vR a*vR b<=0:=by
 have ha:=LO (Bx a) (B6 a);have hb:=LO (Bx b) (B6 b);have hp:=zb ha hb;unfold vR;rw[h];unfold Lc;cases Ce b
 ·have e1:(if (!wh)=wc then (-1:Rat) else 1)=-1:=rfl;have e2:(if wh=wc then (-1:Rat) else 1)=1:=rfl;rw[e1,e2]; grind
 ·have e1:(if (!wc)=wc then (-1:Rat) else 1)=1:=rfl;have e2:(if wc=wc then (-1:Rat) else 1)=-1:=rfl;rw[e1,e2]; grind
theorem YG:vR SM.toNat=1:=by decide +kernel
theorem Aew{n:Nat}{f:Nat->Int}{i:Nat}(hi:i+1<n):rv (G8 n f) (i+1)=vR (f (i+1)).toNat:=by unfold rv G8;rw[List.getD_cons_succ,Al,Ba,yn (by omega)];rfl
theorem Ps{x:Bf}{e:Int}{i:Nat}(hi:i<x.length):rv (B5 x e) i=vR (Cj (x.getD i 0).toNat e).1:=by unfold rv B5;rw[Al,Ba,Al,As hi];show vR (BV x[i] e).toNat=_;rw[Co];rfl
theorem Ac9{x:Bf}{k:Nat}(hk:x.length=k+1)(h6:k<=6)(hf:Dx x=wc)(ax:Bq x=wc)(h:∃z∈x,BF z≠0):
 GB k (rv (B5 x (-BO (BI x)))) (rv (Q9 x)) (vR (KU x).toNat) (vR (SX x).toNat) (vR (DW (Es x) (KU x)).toNat) (vR (DW (KU x) (Es x)).toNat):=by
 obtain⟨m1,m2,m3,m4⟩:=XD hf (by omega) h;obtain⟨f1,f2⟩:=XU hf ax (by omega) h;have sb:=GP hf;have s1:=NA hf h;have sl:(B5 x (-BO (BI x))).length=k+1:=by unfold B5; rw[AO,hk]
 have nv:=AeO sb (by omega) s1;rw[sl] at nv;have lm:=K7 (Afb x)
 have ef:rv (B5 x (-BO (BI x))) 0=vR (Es x).toNat:=by rw[Ps (by omega)];unfold Es;rw[Co]
 have fb:Bd 1 (Es x).toNat:=by
  have:=OZ sb 0
  have e:(B5 x (-BO (BI x))).getD 0 0=Es x:=by
   unfold B5 Es;cases x with
   | nil=>simp at hk
   | cons a t=>rfl
  rw[e] at this;exact this
 have f64:(Es x).toNat<2^64:=K7 (FD (Jp ax 0));have e1:(DW (Es x) (KU x)).toNat=(Ql (Es x).toNat (KU x).toNat).1:=RE _ _;have e2:(DW (KU x) (Es x)).toNat=(Ql (KU x).toNat (Es x).toNat).1:=RE _ _;refine⟨h6,?_,IH m3,?_,?_,fun i _=>Alj sb i,?_,?_,fun i hi q hq=>?_,fun q hq=>?_⟩
 ·unfold Q9 G8 rv;rw[xP];exact YG
 ·rw[ef];cases x with
  | nil=>simp at hk
  | cons a t =>
    have ak:=L4 (FI hf a AY);by_cases k0:BF a=0
    ·have z:vR (Es (a::t)).toNat=0:=by
      refine JW ?_;unfold Es;rw[Co];have k0':Bn a.toNat=0:=by unfold BF at k0; omega
      show Bn (Cj a.toNat _).1=0;unfold Cj;rw[Ay ak.2,Az (.inr k0')];exact k0'
     rw[z]; grind
    ·refine AgX ?_
     have hn:Ce (Es (a::t)).toNat=Ce (DR (KU (a::t)).toNat):=by rw[m4];unfold Es;rw[Co];show Ce (Cj a.toNat _).1=_;rw[U3 ak.2];unfold KJ;rw[Ay k0];rfl
     rw[hn,(HZ lm).1]
 ·have em:vR (KU x).toNat*vR (KU x).toNat=vR (Cb (B5 x (-BO (BI x)))).toNat*vR (Cb (B5 x (-BO (BI x)))).toNat:=by
   unfold KU;split
   ·rfl
   ·have e:(Cy (Cb (B5 x (-BO (BI x))))).toNat=DR (Cb (B5 x (-BO (BI x)))).toNat:=Ad _;rw[e,Sj (K7 (JF _))];grind
  rw[em];exact nv.1
 ·rw[ef,e1];refine RF lm fb.1 fb.2.1 m1.1 m1.2.1 ?_ (Gh _);rw[<- e1]; exact f1.k3
 ·rw[ef,e2];refine RF (B:=av (vR (Es x).toNat-vR (KU x).toNat)) f64 m1.1 m1.2.1 fb.1 fb.2.1 ?_ ?_
  ·rw[<- e2]; exact f2.1
  ·have:=Gh (vR (Es x).toNat-vR (KU x).toNat);unfold Ab at *; grind
 ·have er:rv (Q9 x) (i+1)=vR (K5 (Cj (x.getD (i+1) 0).toNat (-BO (BI x))).1 (DW (Es x) (KU x)).toNat).1:=by unfold Q9;rw[Aew (by omega),KN,Co]
  rw[Ps (by omega)] at hq
  have yb:Bd 1 (Cj (x.getD (i+1) 0).toNat (-BO (BI x))).1:=by
   have hm:x.getD (i+1) 0∈x:=by rw[Al,As (show i+1<x.length by omega)];exact z6 _
   have hb:=sb _ (zh.2 ⟨x.getD (i+1) 0,hm,rfl⟩);rw[Co] at hb;exact hb
  have vb:=Bd.div (j:=1) (t:=0) (by decide) yb f1;rw[er];exact W0 yb.1 yb.2.1 f1.k3 f1.k4 f1.k0 vb.1 hq (Gh q)
 ·unfold SX;rw[KN];have tb:=Bd.div (j:=5) (t:=0) (by decide) f2 m2;exact W0 f2.1 f2.2.1 m2.k3 m2.k4 m2.k0 tb.1 hq (Gh q)
def vH(n:Nat)(v:Nat->Rat)(t:Rat)(a:Nat->Rat)(i:Nat):Rat:=a i-t*(sm n fun j=>v j*a j)*v i
theorem AdB{n:Nat}{v:Nat->Rat}{t c:Rat}{a b:Nat->Rat}(i:Nat):vH n v t (fun j=>c*a j+b j) i=c*vH n v t a i+vH n v t b i:=by
 unfold vH
 have e:sm n (fun j=>v j*(c*a j+b j))=c*sm n (fun j=>v j*a j)+sm n (fun j=>v j*b j):=by rw[<- ES,<- Eo];exact BG n fun j _=>by grind
 rw[e]; grind
theorem Ph{n:Nat}{v:Nat->Rat}{t:Rat}{a b:Nat->Rat}(h:∀j,j<n->a j=b j){i:Nat}(hi:i<n):vH n v t a i=vH n v t b i:=by unfold vH;rw[BG n (f:=fun j=>v j*a j) (g:=fun j=>v j*b j) fun j hj=>by rw[h j hj],h i hi]
theorem Akj{n:Nat}{v a:Nat->Rat}{t s:Rat}(ht:Ab t (21 / 10))(hv:sq n v<=201 / 100)(ha:Ln n a s):Ln n (vH n v t a) (6*s):=by
 have lv:Ln n v (3 / 2):=⟨by decide +kernel,zp hv (by decide +kernel)⟩
 have hd:=lv.dot ha
 have hc:Ab (t*sm n fun j=>v j*a j) (21 / 10*(3 / 2*s)):=by have h1:=CM (F4 ht) (F4 hd) (by decide +kernel) (DK _);rw[<- Ef] at h1;have:=Gh (t*sm n fun j=>v j*a j);unfold Ab at *; grind
 have h2:=lv.scale hc;have h3:=ha.sub h2;have s0:=ha.1;exact(h3.congr fun i _=>rfl).mono (by grind)
structure AjQ(n:Nat)(x v:Nat->Rat)(t b s:Rat):Prop where
 tt:av (t*(t*sq n v-2))<=220*uR
 tb:Ab t (21 / 10)
 vv:sq n v<=201 / 100
 mir:Ln n (fun i=>vH n v t x i-if i=0 then b else 0) (205*uR*s+Cl)
theorem Xw{n:Nat}(hn:n≠0)(i:Nat):rv (G8 n fun _=>0) i=if i=0 then 1 else 0:=by
 cases i with
 | zero =>rw[Az rfl];unfold rv G8;rw[xP];exact YG
 | succ i =>
   rw[Ay (by omega)];have z:vR (wi 0)=0:=HB wh;by_cases hi:i+1<n
   ·rw[Aew hi]; exact z
   ·unfold rv;rw[Al,Bb (by rw[LF hn]; omega)];exact z
theorem Zr{x:Bf}{i:Nat}(h:Fg (x.drop 1)=wc)(hi:0<i):rv x i=0:=by
 unfold rv;by_cases hl:i<x.length
 ·have hm:x.getD i 0∈x.drop 1:=by rw[Al,As hl];refine wa.2 ⟨i-1,by rw[List.length_drop]; omega,?_⟩;rw[List.getElem_drop];show x[1+(i-1)]=x[i];congr 1; omega
  have:=A6 (zF.1 h _ hm);refine JW ?_;unfold BF at this;omega
 ·rw[Al,Bb (by omega)];exact HB wh
theorem SZ{x:Bf}{k:Nat}{s:Rat}(hk:x.length=k+1)(h6:k<=6)(ax:Bq x=wc)(he:(Cm x).2.2.2=0)(hs:Ln (k+1) (rv x) s):
 AjQ (k+1) (rv x) (rv (Cm x).1) (vR (Cm x).2.1.toNat) (vR (Cm x).2.2.1.toNat) s:=by
 have u0:=Dd;have e0:=DY;have s0:=hs.1;have us:=zb (za u0) s0;unfold Cm at he ⊢;by_cases h1:x.length=0\/64<x.length
 ·rw[Az h1] at he; exact absurd he (by decide)
 rw[Ay h1] at he ⊢;by_cases hf':¬Dx x=wc
 ·rw[Ay hf'] at he; exact absurd he (by decide)
 have hf:=Classical.not_not.1 hf';rw[Az hf] at he ⊢;unfold Z0 at he ⊢;by_cases h3:Fg (x.drop 1)=wc
 ·rw[Az h3];dsimp only;have hv:∀i,rv (G8 x.length fun _=>0) i=if i=0 then 1 else 0:=Xw (by omega)
  have z:vR (wi 0)=0:=HB wh;rw[z]
  have sv:sq (k+1) (rv (G8 x.length fun _=>0))=1:=by
   rw[Ka,hv 0,Az rfl]
   have:sq k (fun i=>rv (G8 x.length fun _=>0) (i+1))=0:=by
    unfold sq
    rw[BG k (g:=fun _=>0) fun i _=>by dsimp only;rw[hv (i+1),Ay (by omega)]; grind]
    exact GC k
   rw[this]; grind
  refine⟨?_,by unfold Ab; grind,by rw[sv]; decide +kernel,?_⟩
  ·have:av (0*(0*sq (k+1) (rv (G8 x.length fun _=>0))-2))=0:=by rw[Rat.zero_mul]; decide
   rw[this]; grind
  ·refine((Ln.zero (k+1)).congr fun i hi=>?_).mono (by grind);unfold vH;cases i with
   | zero =>rw[Az rfl];show rv x 0-0*_*_-vR (x.getD 0 0).toNat=0;have:rv x 0=vR (x.getD 0 0).toNat:=rfl;rw[this]; grind
   | succ i =>rw[Ay (by omega),Zr h3 (by omega)]; grind
 ·rw[Ay h3] at he ⊢;by_cases h4':¬Du (FC x)=wc
  ·rw[Ay h4'] at he; exact absurd he (by decide)
  have h4:=Classical.not_not.1 h4';rw[Az h4];dsimp only;have hsome:=QJ h3;have M:=Ac9 hk h6 hf ax hsome;have hM:=M.Ajp;obtain⟨n2,tb,vv⟩:=M.AeU;have one:=M.one;have hlen:=M.len;obtain⟨m1,m2,m3,m4⟩:=XD hf (by omega) hsome
  have hb:Nr (vR (FC x).toNat) (vR (KU x).toNat*tw (BO (BI x))) Cl:=by have eb:(FC x).toNat=(Cj (KU x).toNat (BO (BI x))).1:=Co _ _;rw[eb];refine GZ m1.1 m1.2.1 ?_;rw[<- eb];exact(L4 h4).1
  have hK:tw (BO (BI x))*tw (-BO (BI x))=1:=by rw[<- E5,show BO (BI x)+-BO (BI x)=0 by omega]; exact J6
  have hK0:=En (BO (BI x));have hsb:=GP hf
  have hd:∀i,i<k+1->av (rv x i-tw (BO (BI x))*rv (B5 x (-BO (BI x))) i)<=Cl*tw (BO (BI x)):=fun i hi=>by
   have hm:x.getD i 0∈x:=by rw[Al,As (show i<x.length by omega)];exact z6 _
   have xk:=L4 (FI hf _ hm);have yb:=hsb _ (zh.2 ⟨x.getD i 0,hm,rfl⟩);rw[Co] at yb;have h5:=G2.1 (GZ (n:=-BO (BI x)) xk.1 xk.2 yb.1);have ex:rv x i=vR (x.getD i 0).toNat:=rfl;rw[Ps (by omega),ex];generalize vR (Cj (x.getD i 0).toNat (-BO (BI x))).1=Y at *
   generalize vR (x.getD i 0).toNat=X at *
   have e:X-tw (BO (BI x))*Y=-(Y-X*tw (-BO (BI x)))*tw (BO (BI x)):=by
    have:X=X*(tw (BO (BI x))*tw (-BO (BI x))):=by rw[hK]; grind
    grind
   rw[e,Ef,TE,Y1 (za hK0)];exact zc h5 (za hK0)
  generalize rv (B5 x (-BO (BI x)))=y at *
  generalize vR (KU x).toNat=μ at *
  generalize rv (Q9 x)=v at *
  generalize vR (SX x).toNat=t at *
  generalize vR (FC x).toNat=b at *
  generalize tw (BO (BI x))=K at *
  generalize rv x=X at *
  have eK:=zb (za e0) (za hK0)
  have lD:Ln (k+1) (fun i=>X i-K*y i) (3*(Cl*K)):=Ln.Ir eK (fun i hi=>by have:=hd i hi;have h2:=Gh (X i-K*y i);unfold Ab at *; grind) (by omega)
  have hKm:K*av μ<=1001 / 1000*s:=by
   have a1:Ln (k+1) (fun i=>K*y i) (s+3*(Cl*K)):=(hs.sub lD).congr fun i _=>by grind
   have a2:sq (k+1) (fun i=>K*y i)=K*K*sq (k+1) y:=by unfold sq;rw[<- ES];exact BG _ fun i _=>by grind
   have a3:=a1.2;rw[a2] at a3;have a4:=hlen.1;have c1:1+40*uR<=10001 / 10000*(10001 / 10000):=by decide +kernel
   have a5:=zc c1 (Mn (k+1) y);have a6:=zd (show μ*μ<=10001 / 10000*(10001 / 10000)*sq (k+1) y by grind) (zb (za hK0) (za hK0))
   have a7:K*av μ<=10001 / 10000*(s+3*(Cl*K)):=by
    refine H7 (by grind) ?_;have e1:K*av μ*(K*av μ)=K*K*(μ*μ):=by rw[<- Gg μ]; grind
    rw[e1];have a8:=zd a3 (show(0:Rat)<=10001 / 10000*(10001 / 10000) by decide +kernel);grind
   have a9:Cl*K<=1 / 1000000*(K*av μ):=by
    have b1:=zd one (za hK0);have b2:Cl<=1 / 1000000:=by decide +kernel
    have b3:=CM b2 b1 (by decide +kernel) (by grind);grind
   grind
  have hM2:=hM.scale (c:=K) (B:=K) (by unfold Ab; grind);have hD2:=Akj tb vv lD
  have hbe:Ln (k+1) (fun i=>if i=0 then μ*K-b else 0) Cl:=by
   refine⟨za e0,?_⟩
   have e:sq (k+1) (fun i=>if i=0 then μ*K-b else 0)=(μ*K-b)*(μ*K-b):=by
    rw[Ka]
    have:sq k (fun i=>if i+1=0 then μ*K-b else 0)=0:=by
     unfold sq
     rw[BG k (g:=fun _=>0) fun i _=>by dsimp only;rw[Ay (by omega)]; grind]
     exact GC k
    rw[this,Az rfl]; grind
   rw[e,<- Gg];have:=G2.1 hb.symm;exact Hj (DK _) this
  have hsum:=((hM2.add hD2).add hbe).congr (g:=fun i=>vH (k+1) v t X i-if i=0 then b else 0) fun i hi=>by
   have e1:vH (k+1) v t X i=K*vH (k+1) v t y i+vH (k+1) v t (fun i=>X i-K*y i) i:=by rw[<- AdB];exact Ph (fun j _=>by grind) hi
   have e2:vH (k+1) v t y i=y i-t*gR k y v*v i:=rfl;rw[e1,e2];by_cases h:i=0
   ·rw[Az h,Az h,Az h]; grind
   ·rw[Ay h,Ay h,Ay h]; grind
  refine⟨?_,tb,vv,hsum.mono ?_⟩
  ·rw[Ef];have h1:=CM (F4 tb) (G2.1 n2) (by decide +kernel) (DK _);grind
  ·have k1:=Hi hKm
   have k2:Cl*K<=uR / 1000000*(K*av μ):=by
    have b1:=zd one (za hK0);have b2:Cl<=uR / 1000000:=by decide +kernel
    have b3:=CM b2 b1 (by grind) (by grind);grind
   grind
theorem Ln.avs{n:Nat}{f:Nat->Rat}{s:Rat}(h:Ln n f s):Ln n (fun i=>av (f i)) s:=by
 refine⟨h.1,?_⟩;have e:sq n (fun i=>av (f i))=sq n f:=BG n fun i _=>Gg (f i)
 rw[e]; exact h.2
theorem T3{c t q T A z t' u e:Rat}(hc:0<=c)(hc2:c<=20)(hT:av T<=A)(hu:0<u)(hu2:u<=1 / 1000000)(he:0<e)
 (h1:Nr t T (3*c*u*A+2*c*e)) (h2:Nr q z (u*av z+e)) (h3:Nr t' (t+q) (u*(A+(3*c*u*A+2*c*e)+(av z+(u*av z+e))))):
 Nr t' (T+z) (3*(c+1)*u*(A+av z)+2*(c+1)*e)/\av (T+z)<=A+av z:=by
 have hA:0<=A:=zp (DK T) hT;have hz:=DK z;have a0:=zb (za hu) hA;have b0:=zb (za hu) hz
 have c1:3*c*u<=1:=by have:=zc hc2 (za hu);grind
 have k1:=zc c1 a0;have k2:=zc (show u<=1 by grind) b0
 have c3:(2*c+1)*u<=1:=by have:=zc hc2 (za hu);grind
 have k3:=zc c3 (za he);have k4:=zb hc b0;have:=Hm T z;refine⟨?_,by grind⟩;unfold Nr at *
 grind
theorem Yu{j k:Nat}(hjk:j+k<=1000):∀(x y:Bf) (s t:Nat) (T A c:Rat),x.length=y.length->Bl j x->Bl k y->Bm t (j+k) s->0<t->t+x.length<=1000->av T<=A->0<=c->c+(x.length:Rat)<=20->Nr (vR s) T (3*c*uR*A+2*c*Cl) ->
 Nr (vR (PT s x y)) (T+sm x.length fun i=>rv x i*rv y i) (3*(c+(x.length:Rat))*uR*(A+sm x.length fun i=>av (rv x i)*av (rv y i))+2*(c+(x.length:Rat))*Cl)
 | [],[],s,t,T,A,c,_,_,_,_,_,_,_,_,_,h=>by have z:((([]:Bf).length:Nat):Rat)=0:=rfl;have e:(sm ([]:Bf).length fun i=>rv [] i*rv [] i)=0:=rfl;have e':(sm ([]:Bf).length fun i=>av (rv [] i)*av (rv [] i))=0:=rfl;rw[z,e,e',xE,xE,xE];exact h
 | [],_::_,_,_,_,_,_,hl,_,_,_,_,_,_,_,_,_=>by simp at hl
 | _::_,[],_,_,_,_,_,hl,_,_,_,_,_,_,_,_,_=>by simp at hl
 | a::x,b::y,s,t,T,A,c,hl,hx,hy,hs,h0,ht,hT,hc,hc2,h=>by
   have el:(((a::x).length:Nat):Rat)=(x.length:Rat)+1:=by rw[zj]; exact yg _ 1
   simp only[zj] at ht hl;rw[el] at hc2 ⊢;have hln:=GR x.length;have ba:=hx a AY;have bb:=hy b AY;have b2:=Bd.mul (show j+k<=1023 by omega) ba bb;have b3:=Bm.add (k:=j+k) (by omega) (by omega) hjk hs b2.bm;have m1:=KF ba.1 ba.2.1 bb.1 bb.2.1 b2.1 (B:=av (vR a.toNat*vR b.toNat)) (Gh _);have u0:=Dd;have e0:=DY
   have m2:=NZ hs.1 hs.2.1 b2.1 b2.2.1 b3.1 (B:=A+(3*c*uR*A+2*c*Cl)+(av (vR a.toNat*vR b.toNat)+(uR*av (vR a.toNat*vR b.toNat)+Cl))) (by
    have n1:=JU (z:=0) h;have n3:=JU (z:=0) m1;have n4:=Hm (vR s) (vR (Ee a.toNat b.toNat).1);have n5:=Gh (vR s+vR (Ee a.toNat b.toNat).1);unfold Ab at *
    grind)
   obtain⟨st,sT⟩:=T3 hc (by grind) hT u0 GL e0 h m1 m2;have ih:=Yu hjk x y _ (t+1) (T+vR a.toNat*vR b.toNat) (A+av (vR a.toNat*vR b.toNat)) (c+1) (by omega) (fun z hz=>hx z (AN _ hz)) (fun z hz=>hy z (AN _ hz)) b3 (by omega) (by omega) sT (by grind) (by grind) st
   have es:(sm (a::x).length fun i=>rv (a::x) i*rv (b::y) i)=vR a.toNat*vR b.toNat+sm x.length fun i=>rv x i*rv y i:=by rw[zj,Li];rfl
   have es':(sm (a::x).length fun i=>av (rv (a::x) i)*av (rv (b::y) i))=av (vR a.toNat*vR b.toNat)+sm x.length fun i=>av (rv x i)*av (rv y i):=by rw[zj,Li,Ef];rfl
   have eq:PT s (a::x) (b::y)=PT (DS s (Ee a.toNat b.toNat).1).1 x y:=rfl;rw[es,es',eq];rw[show T+(vR a.toNat*vR b.toNat+sm x.length fun i=>rv x i*rv y i)=T+vR a.toNat*vR b.toNat+sm x.length fun i=>rv x i*rv y i by grind,show A+(av (vR a.toNat*vR b.toNat)+sm x.length fun i=>av (rv x i)*av (rv y i))=A+av (vR a.toNat*vR b.toNat)+sm x.length fun i=>av (rv x i)*av (rv y i) by grind,show c+((x.length:Rat)+1)=c+1+(x.length:Rat) by grind];exact ih
theorem Wz{j k:Nat}(hjk:j+k<=1000){x y:Bf}{s t:Rat}(hl:x.length=y.length)(h7:x.length<=7)(hx:Bl j x)(hy:Bl k y)(lx:Ln x.length (rv x) s)(ly:Ln x.length (rv y) t):
 Nr (vR (EU x y).toNat) (sm x.length fun i=>rv x i*rv y i) (21*uR*(s*t)+14*Cl):=by
 have u0:=Dd;have e0:=DY;have z0:vR 0=0:=HB wh;have a0:av 0=0:=by decide
 have hlen:(x.length:Rat)<=7:=C1 h7;have hln:=GR x.length;have h:=Yu hjk x y 0 1 0 0 0 hl hx hy (Bd.zero wh (j+k)).bm (by decide) (by omega) (by rw[a0]; exact zE) zE (by grind) (by rw[z0]; unfold Nr; grind);have hd:=(lx.avs.dot ly.avs).2;have hd0:0<=sm x.length fun i=>av (rv x i)*av (rv y i):=On _ fun i _=>zb (DK _) (DK _)
 have e:(EU x y).toNat=PT 0 x y:=Ad _;rw[e];rw[Rat.zero_add] at h;refine h.mono ?_;have k1:=Hi hd;have k2:=zb (za u0) hd0;have k3:=zc hlen k2;have k4:=zc hlen (za e0);grind
end Go.Cn
end
