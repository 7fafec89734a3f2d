/- A verified evaluator of the program's form and its use for this seat: S1PLdxA, S1EqRef08, S1EqRef13, S1PRef08, S1EqOf, S1POf, S1PMatA, S1EqRef10, S1PRef10, S1PFill, S1EqHouse. -/
import Derived.Test.YtfpbkmeodcgcbaaGreatTJ
import Derived.Test.YtfpbkmeodcgcbaaGreatTE
import Derived.Test.YtfpbkmeodcgcbaaGreatTF
import Derived.Test.YtfpbkmeodcgcbaaGreatTG
set_option linter.unusedVariables false
set_option linter.unusedSimpArgs false
open Option renaming some->xM,none->xN
open Bool renaming true->wg,false->wy
open Int renaming toNat->wz
open List renaming length->vA,getD->vB
open Nat renaming mod_lt->zv,max_eq_right->wS,max_eq_left->wh
open List renaming drop->zM,take->zC,set->zw,foldl_cons->yR,range->zg,append_assoc->yu,range_zero->xg,map_nil->yJ,append_nil->yF,mem_singleton->zh
open Bool renaming or_eq_true->zN,or_eq_false_iff->yD
noncomputable section
open Go.Proofs.Tryz
namespace Go.Proofs.S1
open Go Go.Den Go.CI Go.Proofs
theorem MP{x:Nat}(hx:x<2^64):(Ieee.double.order x 0==xM .eq)=decide (Bj x=0):=by
 by_cases h4:Bj x=4
 ·rw[RG hx (by decide) (.inl h4),Ag (by omega)]; rfl
 ·have k0:Bj 0≠4:=by decide +kernel
  have z:F1 0=0:=by decide +kernel
  have hk:F1 x=0↔x%2^63=0:=by
   have:=JQ (BE x) (r:=x%2^63) (zv _ (by decide));rw[KF hx] at this;rw[this];unfold FX;cases BE x
   ·rw[Ay (by decide)]; omega
   ·rw[Az rfl]; omega
  have h0:Bj x=0↔x%2^63=0:=by
   have hp:x%2^63=Dn x*2^52+CL x:=by unfold Dn CL; omega
   rw[hp];have:=HI x;unfold Bj;split
   ·split<;>omega
   ·split
    ·omega
    ·split<;>omega
  rw[Mt hx (by decide) h4 k0,z,Ar,beq_iff_eq,Ae,(On _ _).2.2,Ai,hk,h0]
theorem Aef{x:Nat}(hx:x<2^64)(h4:Bj x≠4)(h0:Bj x≠0):(Ieee.double.order x 0==xM .lt)=BE x:=by
 have k0:Bj 0≠4:=by decide +kernel
 have z:F1 0=0:=by decide +kernel
 have hp:x%2^63=Dn x*2^52+CL x:=by unfold Dn CL; omega
 have hne:x%2^63≠0:=by intro h;refine h0 ?_;unfold Bj;rw[Ay (by omega),Ay (by omega),Ay (by omega)]
 have:=JQ (BE x) (r:=x%2^63) (zv _ (by decide));rw[KF hx] at this;rw[Mt hx (by decide) h4 k0,z,Ar,beq_iff_eq,Ae,(On _ _).1,this];unfold FX;cases BE x
 ·rw[Ay (by decide)];constructor
  ·intro h; omega
  ·intro h; cases h
 ·rw[Az rfl];constructor
  ·intro _; rfl
  ·intro _; omega
theorem Aej(x:Nat):HM x=-52\/HM x=0:=by unfold HM; split<;>simp
theorem AjK{f:Nat}(hf:f<2^52):(f+2^52).log2=52:=QJ (a:=52) (by omega) (by omega)
theorem math.Gh.Bi:math.Gh.Kn:=math.Gh.DF (kc math.DH.Bi (kc math.Inf.Bi (kc math.Kt.Bi (kc math.Ks.Bi (kc math.normalize.Bi .nil))))) fun x k hp=>by
 obtain⟨h1,h2⟩:=Bf.1 (show(Rj x&&CE (-2300<=k/\k<=2300))=wg from hp);have hx:=Bt.1 (show CE (x<2^64)=wg from h1);have hk:=Bt.1 h2;refine⟨0,.fl (H6 x k),[],?_,.fl⟩;by_cases h0:Bj x=0
 ·have:H6 x k=x:=by unfold H6 Co; rw[Ay (by omega),Ay (by omega),Az (.inr h0)]
  rw[math.Gh.ev,MP hx,Ac h0,Aa,this]
 by_cases h3:Bj x=3
 ·have:H6 x k=x:=by unfold H6 Co; rw[Ay (by omega),Ay (by omega),Az (.inl h3)]
  rw[math.Gh.ev,MP hx,Ag h0,Af,h1,Ac (rfl:(0:Int)=0),Ah,Aa,AQ,Aa,Ac h3,Bool.true_or,Aa,this]
 by_cases h4:Bj x=4
 ·have:H6 x k=x:=by unfold H6; rw[Az h4]
  rw[math.Gh.ev,MP hx,Ag h0,Af,h1,Ac (rfl:(0:Int)=0),Ah,Aa,AQ,Aa,Ac h4,AQ,Aa,this]
 obtain⟨P,f,d,p1,p2,hf,hw,hM,hP⟩:=AgH hx h3 h4 h0;obtain⟨w1,w2,w3,w4,w5,w6,w7⟩:=Oy (s:=BE x) p1 p2 hf;have hm:Bs x≠0:=fun h=>h0 ((Dd h3 h4).1 h)
 have hr:=Aej x;have hl:=AjK hf
 have hld:H6 x k=BG (BE x) (Cj (f+2^52) ((P:Int)-1075+HM x+k)):=by have:=Agi (k:=k) hm hM hP;unfold H6 Co;rw[Ay h4,Ay h4,Ay (by omega),this]
 have hp:Rj x=wg:=Bt.2 hx;have hfp:ZD x=wg:=Bt.2 ⟨hx,h3,h4⟩;have hnn:Fl (K2 x)=wy:=by rw[U1,hw,w5]; rfl
 have hfw:ZD (K2 x)=wg:=by rw[hw]; exact Bt.2 ⟨w4,by omega,by omega⟩
 have ee:Be (Be (k+HM x)+Be (ED .i64 (Be (D7 .u64 ((K2 x:Nat):Int) (52:Int))) (2047:Int)-(1023:Int)))=k+HM x+(P:Int)-1023:=by rw[hw,AhT p1 p2 hf,Bq (x:=k+HM x) (by omega) (by omega),Bq (x:=(P:Int)-1023) (by omega) (by omega),Bq (by omega) (by omega)];omega
 have hrun:=math.Gh.ev 0 x k;rw[MP hx,Ag h0,Af,hp,Ac (rfl:(0:Int)=0),Ah,Aa,AQ,Aa,Ag h3,Ag h4,Bool.or_self,Af,hfp,Aa,hnn,AZ,Aa,ee,hfw,Ah,Aa] at hrun;refine hrun.trans ?_;rw[hld];rw[Bw,Bw,Bw];by_cases c1:k+HM x+(P:Int)-1023 < -1075
 ·rw[Ac c1,Aa,hw,w3,(Go.CI.AdA (V:=f+2^52) (by omega) (by rw[hl]; omega)).1]
 ·rw[Ag c1,Af];by_cases c2:1023<k+HM x+(P:Int)-1023
  ·have hng:(Ieee.double.order (K2 x) 0==xM .lt)=BE x:=by rw[hw,Aef w4 (by omega) (by omega),w3]
   rw[Ac c2,Aa,hng,AoN (by omega) (by rw[hl]; omega)];cases BE x<;>rfl
  ·rw[Ag c2,Af];by_cases c3:k+HM x+(P:Int)-1023 < -1022
   ·obtain⟨q,hq⟩:∃q:Nat,k+HM x+(P:Int)-1023+53+1023=q:=⟨(k+HM x+(P:Int)-1023+53+1023).toNat,by omega⟩
    have e1:Be (Be (k+HM x+(P:Int)-1023+53)+1023)=(q:Int):=by rw[Bq (x:=k+HM x+(P:Int)-1023+53) (by omega) (by omega),Bq (by omega) (by omega)]; exact hq
    have e2:=Acz (s:=BE x) (P:=P) (f:=f) p2 hf (q:=q) (by omega);obtain⟨v1,v2,v3,v4,v5,v6,v7⟩:=Oy (s:=BE x) (P:=q) (f:=f) (by omega) (by omega) hf;have hmul:=mul_pow (a:=BG (BE x) (q*2^52+f)) (p:=4368491638549381120) (by omega) (by omega) (by rw[p53.2.2.1]; decide) (by rw[p53.2.2.1]; decide) p53.1 p53.2.2.2;have hmi:=QC (a:=4368491638549381120) (b:=BG (BE x) (q*2^52+f)) (by decide) v4 Gd;rw[Mw] at hmi;have:=TP hmi (by rw[hmul]; exact Od _ _ _);have e3:(q:Int)-1075+-105+52=(P:Int)-1075+HM x+k:=by omega
    have e4:(EA (BG (BE x) (q*2^52+f)) 4368491638549381120).1=BG (BE x) (Cj (f+2^52) ((P:Int)-1075+HM x+k)):=by rw[hmul,v3,v6,v7,p53.2.1,e3]
    rw[e4] at this;rw[Ac c3,Aa,e1,hw,e2,Ac (by omega),Aa,Ad,this]
   ·obtain⟨q,hq⟩:∃q:Nat,k+HM x+(P:Int)-1023+1023=q:=⟨(k+HM x+(P:Int)-1023+1023).toNat,by omega⟩
    have e1:Be (k+HM x+(P:Int)-1023+1023)=(q:Int):=by rw[Bq (by omega) (by omega)]; exact hq
    have e2:=Acz (s:=BE x) (P:=P) (f:=f) p2 hf (q:=q) (by omega);obtain⟨v1,v2,v3,v4,v5,v6,v7⟩:=Oy (s:=BE x) (P:=q) (f:=f) (by omega) (by omega) hf
    have hone:EA 4607182418800017408 (BG (BE x) (q*2^52+f))=(BG (BE x) (q*2^52+f),0):=by rw[Mw]; exact mul_one v4 (by omega) (by omega)
    have hmi:=QC (a:=4607182418800017408) (b:=BG (BE x) (q*2^52+f)) (by decide) v4 Gd;have:=TP hmi (by rw[hone]; show Bj (BG (BE x) (q*2^52+f))≠4; omega);have er:=Agm (L:=(P:Int)-1075+HM x+k) (q:=q) hf (by omega) (by omega) (by omega);rw[Ag c3,Af,e1,hw,e2,Ac (by omega),Aa,Ad,this,hone,er]
theorem math.Lu.Bi:Kq 127 math.Lu.Bk:=D6 math.Lu.E Tryz.func127 (kc math.Gh.Bi .nil) fun x k hp=>by have hp:(Rj x&&CE (-2300<=k/\k<=2300))=wg:=hp;exact⟨0,.fl (H6 x k),[],by rw[math.Lu.ev,hp,Aa],.fl⟩
theorem ZT{x:Nat}(k:Int):DM (H6 x k)=(Co x k).1:=by
 unfold H6;by_cases h4:Bj x=4
 ·rw[Az h4];unfold DM Co;rw[Az h4,Az h4]
 ·rw[Ay h4];unfold DM;rw[Ay];unfold Co;rw[Ay h4];by_cases h3:Bj x=3\/Bj x=0
  ·rw[Az h3]; exact h4
  ·rw[Ay h3]; exact Od _ _ _
theorem Bv.Ct.Bi:Kq 75 Bv.Ct.Bk:=D6 Bv.Ct.E Tryz.func75 (kc math.Lu.Bi (kc Bv.B.Bi (kc Bv.F.Bi .nil))) fun a k hp=>by
 obtain⟨h1,h2⟩:=Bf.1 (show D1 a k=wg from hp);obtain⟨x,rfl,hx⟩:=BR h1;refine⟨0,.int .u64 (BP (x:Int) k),[],?_,.int⟩;have hp:Rj x=wg:=Bt.2 hx
 have:FA (H6 x k)=BP (x:Int) k:=by unfold FA BP;rw[Ad,ZT]
 rw[Bv.Ct.ev,h1,Aa,Ad,hp,h2,Ah,Aa,this]
open Go Go.Den Go.CI Go.Proofs
set_option maxRecDepth 100000
def C2.ends.E:=E0 [(46,BJ.Finite.Bk),(97,BJ.Neg.Bk)]
theorem C2.ends.ev(N:Nat)(b:Int):BX C2.ends.E N f125 (Br f125) [.int .u64 b]=cond (Bo b) (bif (CO b) then xM (.int .i64 0) else bif (Bo b) then cond (DI b) (xM (.int .i64 (-1:Int))) (xM (.int .i64 1)) else xN) xN:=by kernel_rfl
def C2.Order.E:=E0 [(38,Bx.Compare.Bk),(47,BJ.Kind.Bk),(43,BJ.Value.Bk),(125,C2.ends.Bk)]
theorem C2.Order.ev(N:Nat)(a b:Int):BX C2.Order.E N f74 (Br f74) [.int .u64 a,.int .u64 b]=cond (Jx a) (bif (((B8 a)==(4:Int))||(Jx b)) then cond (((B8 a)==(4:Int))||((B8 b)==(4:Int))) (xM (.Cw [.int .i64 0,.bool wy])) (bif (Bo a) then cond (Bo b) (bif (((PV a) !=(0:Int))||((PV b) !=(0:Int))) then xM (.Cw [.int .i64 (max (-1:Int) (min 1 (Be ((PV a)-(PV b))))),.bool wg]) else bif (Bo a) then cond (Bo b) (bif (((Rr (BB (mD (E8 a))) (Bn (mD (E8 a)))&&Rr (BB (mD (E8 b))) (Bn (mD (E8 b))))&&MU (eD (E8 a) (BO a)))&&MU (eD (E8 b) (BO b))) then xM (.Cw [.int .i64 (Rb (wv (BB (mD (E8 a))) (Bn (mD (E8 a)))) (eD (E8 a) (BO a)) (wv (BB (mD (E8 b))) (Bn (mD (E8 b)))) (eD (E8 b) (BO b))),.bool wg]) else xN) xN else xN) xN else xN) else xN) xN :=Et (DJ (B4 (O1 ((B8 a)==(4:Int))) (C0 (AiN _ _) (B4 (Nx ((B8 a)==(4:Int))) (B4 (SM ((B8 a)==(4:Int))) (C0 (tt5 _ _) rfl (DJ (DJ (B4 (O1 ((PV a) !=(0:Int))) (B4 (Nx ((PV a) !=(0:Int))) (B4 (SM ((PV a) !=(0:Int))) (C0 (tt5 _ _) rfl rfl)))) rfl) rfl)))) rfl)) rfl)
def C2.J8.E:=E0 [(124,BJ.DO.Bk),(97,BJ.Neg.Bk)]
theorem C2.J8.ev(N:Nat)(a:Int):BX C2.J8.E N f73 (Br f73) [.int .u64 a]=cond (Bo a) (bif (DI a) then cond (Bo a) (xM (.int .u64 (CM a))) xN else xM (.int .u64 a)) xN:=by kernel_rfl
def C2.Max.E:=E0 [(74,C2.Order.Bk)]
theorem C2.Max.ev(N:Nat)(a b:Int):BX C2.Max.E N f72 (Br f72) [.int .u64 a,.int .u64 b]=cond (Bo a&&Bo b) (bif (!(VU a b)) then xM (.int .u64 9221120237041090560) else bif (BI (Ma a b) 0) then xM (.int .u64 b) else xM (.int .u64 a)) xN:=by kernel_rfl
def C2.N8.E:=E0 [(93,Bx.Yu.Bk),(46,BJ.Finite.Bk),(47,BJ.Kind.Bk),(43,BJ.Value.Bk)]
theorem C2.N8.ev(N:Nat)(a:Int):BX C2.N8.E N f48 (Br f48) [.int .u64 a]=cond (Bo a) (bif ((!(CO a))||(Jx a)) then cond ((!(CO a))||((B8 a)==(0:Int))) (xM (.int .i64 0)) (bif (Bo a) then cond (IS (BB (mD (E8 a))) (Bn (mD (E8 a)))&&MU (eD (E8 a) (BO a))) (xM (.int .i64 (Be ((Hy (wv (BB (mD (E8 a))) (Bn (mD (E8 a)))) (eD (E8 a) (BO a)))-1)))) xN else xN) else xN) xN :=Et (DJ (B4 (WN (CO a)) (C0 (Ad9 _ _) (B4 (PA (CO a)) (B4 (WO (CO a)) (C0 (Alv _ _) rfl rfl))) rfl)) rfl)
def Bv.Cu.hint:Nat->Option BH
 | 0=>xM { CH:=[0,3,4],BW:=[],Cf:=[] }
 | _=>xN
def Bv.Cu.E:=CP (CC [(73,C2.J8.Bk),(72,C2.Max.Bk)]) (fun _=>wy) Bv.Cu.hint (fun _=>xN)
section
variable(N M:Nat)(x:Bb)(p3 p4:Int)
def Bv.Cu.L0:Option DV:=BU Bv.Cu.E N f144 (Br f144) [1,1,0,1,0] [] M ⟨EP 19 [(0,.Bh .arg .u64 x),(3,.int .u64 p3),(4,.int .i64 p4)],[]⟩
theorem Bv.Cu.B1:Bv.Cu.L0 N (M+1) x p3 p4=cond (BI p4 (vA x:Int)) (bif ((decide (0<=p4))&&(decide (p4<(vA x:Int)))) then cond (Bo (vB x (wz p4) 0)) (bif (Bo p3&&Bo (Gf (vB x (wz p4) 0))) then Bv.Cu.L0 N M x (M4 p3 (Gf (vB x (wz p4) 0))) (Be (p4+1)) else xN) xN else xN) (xM (.int .u64 p3)):=by kernel_rfl
theorem Bv.Cu.ev:BX Bv.Cu.E N f144 (Br f144) [.Bh .arg .u64 x]=
 Bv.Cu.L0 N N x 0 0:=by kernel_rfl
end
def math.Sqrt.E:=E0 []
theorem math.Sqrt.ev(N x:Nat):BX math.Sqrt.E N f184 (Br f184) [.fl x]=xM (.fl ((Ieee.double.sqrt x).getD nanBits)):=by kernel_rfl
def Bv.Sqrt.E:=E0 [(184,math.Sqrt.Bk),(126,Bv.B.Bk),(128,Bv.F.Bk)]
theorem Bv.Sqrt.ev(N:Nat)(a:Int):BX Bv.Sqrt.E N f174 (Br f174) [.int .u64 a]=cond (Bo a) (xM (.int .u64 (FA (((Ieee.double.sqrt (wz a)).getD nanBits))))) xN:=by kernel_rfl
def Bv.Norm.hint:Nat->Option BH
 | 0=>xM { CH:=[0,4,5,6],BW:=[],Cf:=[] }
 | _=>xN
def Bv.Norm.E:=CP (CC [(46,BJ.Finite.Bk),(48,C2.N8.Bk),(129,Bv.Add.Bk),(144,Bv.Cu.Bk),(79,Bv.Mul.Bk),(75,Bv.Ct.Bk),(174,Bv.Sqrt.Bk)]) (fun _=>wy) Bv.Norm.hint (fun _=>xN)
section
variable(N M:Nat)(x:Bb)(p5 p6:Int)
def Bv.Norm.L0:Option DV:=BU Bv.Norm.E N f145 (Br f145) [1,1,1,1,1,0,1,0] [] M ⟨EP 42 [(0,.Bh .arg .u64 x),(4,.int .i64 (BK (BA x))),(5,.int .u64 p5),(6,.int .i64 p6)],[]⟩
theorem Bv.Norm.B1:Bv.Norm.L0 N (M+1) x p5 p6=cond (BI p6 (vA x:Int)) (bif ((decide (0<=p6))&&(decide (p6<(vA x:Int)))) then cond (D1 (vB x (wz p6) 0) (Be ((0:Int)-(BK (BA x))))) (bif (Bo (BP (vB x (wz p6) 0) (Be ((0:Int)-(BK (BA x)))))&&Bo (BP (vB x (wz p6) 0) (Be ((0:Int)-(BK (BA x)))))) then cond (Bo p5&&Bo (CN (BP (vB x (wz p6) 0) (Be ((0:Int)-(BK (BA x))))) (BP (vB x (wz p6) 0) (Be ((0:Int)-(BK (BA x))))))) (Bv.Norm.L0 N M x (EN p5 (CN (BP (vB x (wz p6) 0) (Be ((0:Int)-(BK (BA x))))) (BP (vB x (wz p6) 0) (Be ((0:Int)-(BK (BA x))))))) (Be (p6+1))) xN else xN) xN else xN) (bif (Bo p5) then cond (D1 (ET p5) (BK (BA x))) (xM (.int .u64 (BP (ET p5) (BK (BA x))))) xN else xN):=by kernel_rfl
theorem Bv.Norm.ev:BX Bv.Norm.E N f145 (Br f145) [.Bh .arg .u64 x]=cond (CW x) (bif (((BA x)==(0:Int))||(Bo (BA x))) then cond (((BA x)==(0:Int))||(!(CO (BA x)))) (xM (.int .u64 (BA x))) (bif (Bo (BA x)) then Bv.Norm.L0 N N x 0 (0:Int) else xN) else xN) xN :=Et (DJ (B4 (O1 ((BA x)==(0:Int))) (C0 (AiN _ _) (B4 (Nx ((BA x)==(0:Int))) (B4 (SM ((BA x)==(0:Int))) (C0 (AmJ _ _) rfl rfl))) rfl)) rfl)
end
def BT.Cy.hint:Nat->Option BH
 | 0=>xM { CH:=[0,3],BW:=[],Cf:=[] }
 | _=>xN
def BT.Cy.E:=CP (CC [(47,BJ.Kind.Bk)]) (fun _=>wy) BT.Cy.hint (fun _=>xN)
section
variable(N M:Nat)(x:Bb)(p3:Int)
def BT.Cy.L0:Option DV:=BU BT.Cy.E N f143 (Br f143) [1,0,1,0] [] M ⟨EP 16 [(0,.Bh .arg .u64 x),(3,.int .i64 p3)],[]⟩
theorem BT.Cy.B1:BT.Cy.L0 N (M+1) x p3=cond (BI p3 (vA x:Int)) (bif ((decide (0<=p3))&&(decide (p3<(vA x:Int)))) then cond (Jx (vB x (wz p3) 0)) (bif ((B8 (vB x (wz p3) 0)) !=(0:Int)) then xM (.bool wy) else BT.Cy.L0 N M x (Be (p3+1))) xN else xN) (xM (.bool wg)):=by kernel_rfl
theorem BT.Cy.ev:BX BT.Cy.E N f143 (Br f143) [.Bh .arg .u64 x]=
 BT.Cy.L0 N N x 1:=by kernel_rfl
end
def BT.lead.hint:Nat->Option BH
 | 0=>xM { CH:=[0,3],BW:=[],Cf:=[] }
 | _=>xN
def BT.lead.E:=CP (CC [(47,BJ.Kind.Bk)]) (fun _=>wy) BT.lead.hint (fun _=>xN)
section
variable(N M:Nat)(x:Bb)(p3:Int)
def BT.lead.L0:Option DV:=BU BT.lead.E N f146 (Br f146) [1,0,1,0] [] M ⟨EP 17 [(0,.Bh .arg .u64 x),(3,.int .i64 p3)],[]⟩
theorem BT.lead.B1:BT.lead.L0 N (M+1) x p3=cond (BI p3 (vA x:Int)) (bif ((decide (0<=p3))&&(decide (p3<(vA x:Int)))) then cond (Jx (vB x (wz p3) 0)) (bif ((B8 (vB x (wz p3) 0)) !=(0:Int)) then xM (.int .i64 p3) else BT.lead.L0 N M x (Be (p3+1))) xN else xN) (xM (.int .i64 0)):=by kernel_rfl
theorem BT.lead.ev:BX BT.lead.E N f146 (Br f146) [.Bh .arg .u64 x]=
 BT.lead.L0 N N x 0:=by kernel_rfl
end
def BT.En.hint:Nat->Option BH
 | 0=>xM { CH:=[0,2,4,5],BW:=[(0,4,100004,.Bh 47 .u64 [])],Cf:=[2] }
 | 2=>xM { CH:=[0,2,4,6,7,8],BW:=[(0,4,100004,.Bh 47 .u64 []),(0,7,100007,.Bh 47 .u64 [])],Cf:=[2] }
 | 4=>xM { CH:=[2,4,7,9,10,11,12],BW:=[(0,4,100004,.Bh 47 .u64 []),(0,7,100007,.Bh 47 .u64 [])],Cf:=[2] }
 | _=>xN
def BT.En.E:=CP (CC [(46,BJ.Finite.Bk),(124,BJ.DO.Bk),(97,BJ.Neg.Bk),(48,C2.N8.Bk),(144,Bv.Cu.Bk),(81,Bv.Div.Bk),(145,Bv.Norm.Bk),(75,Bv.Ct.Bk),(78,Bv.Sub.Bk),(146,BT.lead.Bk),(143,BT.Cy.Bk)]) (fun _=>wy) BT.En.hint (fun _=>xN)
section
variable(N M:Nat)(x:Bb)(p8:Int)(p7:Bb)(p9 p10 p11 p12:Int)(p4_1:Bb)(p5:Int)(p4:Bb)
def BT.En.L0:Option DV:=BU BT.En.E N f120 (Br f120) [1,1,0,1,0,0,1,0] [] M ⟨EP 98 [(0,.Bh .arg .u64 x),(2,.ptr 2 0 0),(4,.De 100004),(5,.int .i64 p5)],[(2,wy,.box [.nil,.int .u64 0,.int .u64 0]),(100004,wy,.Bh 47 .u64 p4)]⟩
def BT.En.L1:Option DV:=BU BT.En.E N f120 (Br f120) [1,1,1,1,1,0,1,0] [] M ⟨EP 98 [(0,.Bh .arg .u64 x),(2,.ptr 2 0 0),(4,.De 100004),(6,.int .i64 (BK (BA x))),(7,.De 100007),(8,.int .i64 p8)],[(2,wy,.box [.nil,.int .u64 0,.int .u64 0]),(100004,wy,.Bh 47 .u64 [(4607182418800017408:Int)]),(100007,wy,.Bh 47 .u64 p7)]⟩
def BT.En.L2:Option DV:=BU BT.En.E N f120 (Br f120) [1,1,1,1,1,1,1,1,1,1,1,0,1,0] [] M ⟨EP 98 [(2,.ptr 2 0 0),(4,.De 100004),(7,.De 100007),(9,.int .u64 p9),(10,.int .u64 p10),(11,.int .u64 p11),(12,.int .i64 p12)],[(2,wy,.box [.nil,.int .u64 0,.int .u64 0]),(100004,wy,.Bh 47 .u64 p4_1),(100007,wy,.Bh 47 .u64 p7)]⟩
theorem BT.En.B1:BT.En.L0 N (M+1) x p5 p4=cond (BI p5 (vA x:Int)) (bif (decide ((vA p4)+1<=GL)) then BT.En.L0 N M x (Be (p5+1)) (p4++[(0:Int)]) else xN) (bif (decide ((0:Int)<(vA x:Int))) then xM (.Cw [.agg [.Bh (.own 100004 47) .u64 p4,.int .u64 0,.int .u64 (vB x 0 0)],.bool wg]) else xN):=by kernel_rfl
theorem BT.En.BZ:BT.En.L1 N (M+1) x p8 p7=cond (BI p8 (vA x:Int)) (bif ((decide (0<=p8))&&(decide (p8<(vA x:Int)))) then cond (D1 (vB x (wz p8) 0) (Be ((0:Int)-(BK (BA x))))) (bif (decide ((vA p7)+1<=GL)) then BT.En.L1 N M x (Be (p8+1)) (p7++[(BP (vB x (wz p8) 0) (Be ((0:Int)-(BK (BA x)))))]) else xN) xN else xN) (bif (CW p7) then cond (CW x) (bif ((decide (0<=(N4 x 0)))&&(decide ((N4 x 0)<(vA x:Int)))) then cond (Bo (vB x (wz (N4 x 0)) 0)) (bif (!(DI (vB x (wz (N4 x 0)) 0))) then cond (Bo (CB p7)) (bif (D1 (CM (CB p7)) (BK (BA x))) then cond (Bo (BP (CM (CB p7)) (BK (BA x)))) (bif (!(CO (BP (CM (CB p7)) (BK (BA x))))) then xM (.Cw [.agg [.nil,.int .u64 0,.int .u64 0],.bool wy]) else bif (decide ((0:Int)<(vA p7:Int))) then cond (decide (0<(vA p7))) (bif (Bo (vB p7 0 0)&&Bo (CM (CB p7))) then BT.En.L2 N N p7 (CM (CB p7)) (BP (CM (CB p7)) (BK (BA x))) (CA (vB p7 0 0) (CM (CB p7))) 1 [(4607182418800017408:Int)] else xN) xN else xN) xN else xN) xN else bif (D1 (CB p7) (BK (BA x))) then cond (Bo (BP (CB p7) (BK (BA x)))) (bif (!(CO (BP (CB p7) (BK (BA x))))) then xM (.Cw [.agg [.nil,.int .u64 0,.int .u64 0],.bool wy]) else bif (decide ((0:Int)<(vA p7:Int))) then cond (decide (0<(vA p7))) (bif (Bo (vB p7 0 0)&&Bo (CB p7)) then BT.En.L2 N N p7 (CB p7) (BP (CB p7) (BK (BA x))) (CA (vB p7 0 0) (CB p7)) 1 [(4607182418800017408:Int)] else xN) xN else xN) xN else xN) xN else xN) xN else xN):=by kernel_rfl
theorem BT.En.EU:BT.En.L2 N (M+1) p7 p9 p10 p11 p12 p4_1=cond (BI p12 (vA p7:Int)) (bif ((decide (0<=p12))&&(decide (p12<(vA p7:Int)))) then cond (decide ((wz p12)<(vA p7))) (bif (Bo (vB p7 (wz p12) 0)&&Bo p11) then cond (decide ((vA p4_1)+1<=GL)) (BT.En.L2 N M p7 p9 p10 p11 (Be (p12+1)) (p4_1++[(El (vB p7 (wz p12) 0) p11)])) xN else xN) xN else xN) (bif (decide ((0:Int)<(vA p7:Int))) then cond (decide (0<(vA p7))) (bif (Bo p9&&Bo (vB p7 0 0)) then cond (Bo (CA p9 (vB p7 0 0))&&Bo p9) (xM (.Cw [.agg [.Bh (.own 100004 47) .u64 p4_1,.int .u64 (El (CA p9 (vB p7 0 0)) p9),.int .u64 p10],.bool wg])) xN else xN) xN else xN):=by kernel_rfl
theorem BT.En.ev:BX BT.En.E N f120 (Br f120) [.Bh .arg .u64 x]=cond (CW x) (bif (CX (zM 1 x)) then BT.En.L0 N N x 1 [(4607182418800017408:Int)] else bif (CW x) then cond (Bo (BA x)) (BT.En.L1 N N x 0 []) xN else xN) xN:=by kernel_rfl
end
def BT.Apply.hint:Nat->Option BH
 | 0=>xM { CH:=[1,3,4,5,10,11,12],BW:=[],Cf:=[5,10,11] }
 | 2=>xM { CH:=[1,3,4,5,10,11,12,13,14,15],BW:=[],Cf:=[5,10,11] }
 | _=>xN
def BT.Apply.E:=CP (CC [(83,Bv.FL.Bk),(79,Bv.Mul.Bk),(78,Bv.Sub.Bk),(42,B3.P7.Bk),(80,B3.Gy.arg.Bk)]) (fun _=>wy) BT.Apply.hint (fun _=>xN)
section
variable(N M0 M:Nat)(r c:Int)(l:Bb)(i k:Int)(v:Bb)(t p15:Int)(p11:Bb)(p12_1:Int)(p13:Bb)(p14 p12:Int)(p11_1:Bb)
def BT.Apply.L0:Option DV:=BU BT.Apply.E N f122 (Br f122) [1,1,0,1,0] [] M ⟨EP 60 [(1,.int .i64 i),(3,.Bh .arg .u64 v),(4,.int .u64 t),(5,.ptr 5 0 0),(10,.ptr 10 0 0),(11,.ptr 11 0 0),(12,.int .i64 p12)],[(5,wy,.box [.int .i64 r,.int .i64 c,.Bh .arg .u64 l]),(10,wy,.box [.int .i64 0,.int .i64 0,.nil]),(11,wy,.box [.int .i64 r,.int .i64 c,.Bh .arg .u64 p11_1])]⟩
def BT.Apply.L1:Option DV:=BU BT.Apply.E N f122 (Br f122) [1,1,0,1,0,0,1,0,0,1,1,1,0] [M0] M ⟨EP 60 [(1,.int .i64 i),(3,.Bh .arg .u64 v),(4,.int .u64 t),(5,.ptr 5 0 0),(10,.ptr 10 0 0),(11,.ptr 11 0 0),(12,.int .i64 p12_1),(13,.Bh .BF .u64 p13),(14,.int .u64 p14),(15,.int .i64 p15)],[(5,wy,.box [.int .i64 r,.int .i64 c,.Bh .arg .u64 l]),(10,wy,.box [.int .i64 0,.int .i64 0,.nil]),(11,wy,.box [.int .i64 r,.int .i64 c,.Bh .arg .u64 p11])]⟩
theorem BT.Apply.B1:BT.Apply.L0 N (M+1) r c l i v t p12 p11_1=cond (BI p12 c) (bif (EM r c l p12&&CE (0<=i/\i<=r)) then cond ((decide ((0:Int)<=(vA v:Int)))&&(decide ((vA v:Int)<=(vA (Cb c l p12 i (wz (r-i))):Int)))) (bif ((NA v (zC (wz (vA v:Int)) (Cb c l p12 i (wz (r-i))))&&Bg v)&&Bg (zC (wz (vA v:Int)) (Cb c l p12 i (wz (r-i))))) then cond (Bo t&&Bo (Fu v (zC (wz (vA v:Int)) (Cb c l p12 i (wz (r-i)))))) (BT.Apply.L1 N M N r c l i v t 0 p11_1 p12 (Cb c l p12 i (wz (r-i))) (CN t (Fu v (zC (wz (vA v:Int)) (Cb c l p12 i (wz (r-i))))))) xN else xN) xN else xN) (xM (.agg [.int .i64 r,.int .i64 c,.Bh .arg .u64 p11_1])) :=Et (DJ (DJ (C0 (I1 _ _) rfl rfl) rfl) rfl)
theorem BT.Apply.BZ:BT.Apply.L1 N M0 (M+1) r c l i v t p15 p11 p12_1 p13 p14=cond (BI p15 (vA v:Int)) (bif ((decide (0<=p15))&&(decide (p15<(vA p13:Int)))) then cond ((decide (0<=p15))&&(decide (p15<(vA v:Int)))) (bif (Bo p14&&Bo (vB v (wz p15) 0)) then cond (Bo (vB p13 (wz p15) 0)&&Bo (CN p14 (vB v (wz p15) 0))) (bif (Db r c p11 (Be (i+p15)) p12_1) then BT.Apply.L1 N M0 M r c l i v t (Be (p15+1)) (zw p11 (wz ((Be (i+p15))*c+p12_1)) (CA (vB p13 (wz p15) 0) (CN p14 (vB v (wz p15) 0)))) p12_1 p13 p14 else xN) xN else xN) xN else xN) (BT.Apply.L0 N M0 r c l i v t (Be (p12_1+1)) p11) :=Et (DJ (C0 (I1 _ _) (C0 (I1 _ _) (C0 (Cp _) (C0 (Cp _) (C0 (Cp _) rfl rfl) rfl) rfl) rfl) rfl) rfl)
theorem BT.Apply.ev:BX BT.Apply.E N f122 (Br f122) [.agg [.int .i64 r,.int .i64 c,.Bh .arg .u64 l],.int .i64 i,.int .i64 k,.Bh .arg .u64 v,.int .u64 t]=
 BT.Apply.L0 N N r c l i v t k l:=by kernel_rfl
end
def Cz.Es.hint:Nat->Option BH
 | 0=>xM { CH:=[1,3,6,7],BW:=[],Cf:=[3,6] }
 | _=>xN
def Cz.Es.E:=CP (CC [(80,B3.Gy.arg.Bk)]) (fun _=>wy) Cz.Es.hint (fun _=>xN)
section
variable(N M:Nat)(r c:Int)(l:Bb)(j b p7:Int)(p3:Bb)
def Cz.Es.L0:Option DV:=BU Cz.Es.E N f121 (Br f121) [1,1,0,1,0] [] M ⟨EP 26 [(1,.int .i64 j),(3,.ptr 3 0 0),(6,.ptr 6 0 0),(7,.int .i64 p7)],[(3,wy,.box [.int .i64 r,.int .i64 c,.Bh .arg .u64 p3]),(6,wy,.box [.int .i64 0,.int .i64 0,.nil])]⟩
theorem Cz.Es.B1:Cz.Es.L0 N (M+1) r c j p7 p3=cond (BI p7 r) (bif (Db r c p3 p7 j) then Cz.Es.L0 N M r c j (Be (p7+1)) (zw p3 (wz (p7*c+j)) 0) else xN) (xM (.agg [.int .i64 r,.int .i64 c,.Bh .arg .u64 p3])):=by kernel_rfl
theorem Cz.Es.ev:BX Cz.Es.E N f121 (Br f121) [.agg [.int .i64 r,.int .i64 c,.Bh .arg .u64 l],.int .i64 j,.int .u64 b]=cond (Db r c l j j) (Cz.Es.L0 N N r c j (Be (j+1)) (zw l (wz (j*c+j)) b)) xN:=by kernel_rfl
end
theorem C2.ends.Bi:Kq 125 C2.ends.Bk:=D6 C2.ends.E Tryz.func125 (kc BJ.Finite.Bi (kc BJ.Neg.Bi .nil)) fun b hp=>by
 have hp:Bo b=wg:=hp;refine⟨0,.int .i64 (PV b),[],?_,.int⟩;rw[C2.ends.ev,hp,Aa,Aa];unfold PV;cases CO b with
 | true=>rfl
 | false =>rw[Af,Ay (by decide)];cases DI b<;>rfl
theorem C2.J8.Bi:Kq 73 C2.J8.Bk:=D6 C2.J8.E Tryz.func73 (kc BJ.DO.Bi (kc BJ.Neg.Bi .nil)) fun a hp=>by
 obtain⟨n,rfl,hn⟩:=BR (x:=a) hp;refine⟨0,.int .u64 (Gf (n:Int)),[],?_,.int⟩;rw[C2.J8.ev,Cq hn,Aa,Aa];unfold Gf DI CM CV D5 BE;rw[Ad];by_cases h:2^63<=n
 ·rw[Ac h,Aa,Az h,show n%2^63=n-2^63 by omega]
 ·rw[Ag h,Af,show n%2^63=n by omega]
theorem Xy(b:Nat):Rr (BB (mD (E8 (b:Int)))) (Bn (mD (E8 (b:Int))))=wg/\IS (BB (mD (E8 (b:Int)))) (Bn (mD (E8 (b:Int))))=wg/\MU (eD (E8 (b:Int)) (By b))=wg:=by obtain⟨v1,v2,v3⟩:=AkZ b;have hl:D3 (mD (E8 (b:Int))).natAbs<3:=AG (KL (RL _)) v1;exact⟨AaQ (by omega),Hj (by omega),Bt.2 ⟨v2,v3⟩⟩
theorem Aku{a b:Nat}(ha:Bj a≠4)(hb:Bj b≠4):Rb (mD (E8 (a:Int))) (eD (E8 (a:Int)) (By a)) (mD (E8 (b:Int))) (eD (E8 (b:Int)) (By b))=if F1 a<F1 b then -1 else if F1 b<F1 a then 1 else 0:=by
 have pa:=C4 a;have pb:=C4 b;have ga:mD (E8 (a:Int))≠0->(-1074:Int)<=eD (E8 (a:Int)) (By a):=fun h=>AkU pa.1 (fun h0=>h (Jc.2 h0))
 have gb:mD (E8 (b:Int))≠0->(-1074:Int)<=eD (E8 (b:Int)) (By b):=fun h=>AkU pb.1 (fun h0=>h (Jc.2 h0))
 rw[Adm ga gb,AbZ pa.1,AbZ pb.1,<- Afy,<- Afy];have h1:=WG (f:=-1074) ha hb pa.1 pb.1;have h2:=WG (f:=-1074) hb ha pb.1 pa.1;unfold RV;by_cases c1:DT a (-1074)<DT b (-1074)
 ·rw[Az c1,Az (h1.1 c1)]
 ·rw[Ay c1,Ay (fun h=>c1 (h1.2 h))];by_cases c2:DT b (-1074)<DT a (-1074)
  ·rw[Az c2,Az (h2.1 c2)]
  ·rw[Ay c2,Ay (fun h=>c2 (h2.2 h))]
theorem Ah3{b:Nat}(hb:b<2^64):F1 b=FX (BE b) (b%2^63):=by have:=JQ (BE b) (r:=b%2^63) (zv _ (by decide));rw[KF hb] at this;exact this
theorem AcX{b:Nat}(hb:b<2^64)(h4:Bj b≠4):(F9 b=wg->PV (b:Int)=0/\-(Dk:Int)<F1 b/\F1 b<Dk)/\(F9 b=wy->Bj b=3/\((PV (b:Int)=1/\F1 b=Dk)\/(PV (b:Int)=-1/\F1 b=-(Dk:Int)))):=by
 have hk:=Ah3 hb;constructor
 ·intro hf;obtain⟨_,f3⟩:=F2 hf;have hl:=MW f3 h4;refine⟨by unfold PV CO; rw[Ad,hf,Az rfl],?_⟩;rw[hk];unfold FX;cases BE b
  ·rw[Ay (by decide)]; omega
  ·rw[Az rfl]; omega
 ·intro hf
  have h3:Bj b=3:=by
   unfold F9 at hf;have:=of_decide_eq_false hf;rcases Gr b with ⟨_,_,k⟩ | ⟨_,_,k⟩ | ⟨k,_,_⟩
   ·exact k
   ·exact absurd k h4
   ·omega
  have hi:=LN h3;refine⟨h3,?_⟩;rw[hk,hi];unfold PV CO DI FX;rw[Ad,hf,Ay (by decide)];cases BE b
  ·left; exact⟨rfl,rfl⟩
  ·right; exact⟨rfl,rfl⟩
theorem C2.Order.Bi:Kq 74 C2.Order.Bk:=D6 C2.Order.E Tryz.func74 (kc Bx.Compare.Bi (kc BJ.Kind.Bi (kc BJ.Value.Bi (kc C2.ends.Bi .nil)))) fun a b hp=>by
 obtain⟨ha,hb⟩:=Bf.1 (show(Bo a&&Bo b)=wg from hp);obtain⟨a,rfl,hn⟩:=BR ha;obtain⟨b,rfl,hm⟩:=BR hb;refine⟨0,.Cw [.int .i64 (Ma (a:Int) (b:Int)),.bool (VU (a:Int) (b:Int))],[],?_,Wk.Gx (.cons .int (.cons .bool .nil))⟩;have kk:∀n:Nat,B8 (n:Int)=(Bj n:Int):=fun _=>rfl
 have pe:∀n:Nat,BO (n:Int)=By n:=fun _=>rfl
 rw[C2.Order.ev,Ha,Ha,ha,hb,Aa,AQ,Aa,Aa,Aa,Aa,Aa,kk,kk,pe,pe,EE,EE];unfold Ma VU Vo Vp;rw[Ad,Ad];by_cases n4:Bj a=4\/Bj b=4
 ·have:(((Bj a:Nat):Int)==4||((Bj b:Nat):Int)==4)=wg:=by rw[zN,beq_iff_eq,beq_iff_eq]; omega
  rw[this,Aa,Az n4,Ac n4]; rfl
 ·have:(((Bj a:Nat):Int)==4||((Bj b:Nat):Int)==4)=wy:=by rw[yD,A8,A8]; omega
  rw[this,Af,Ay n4,Ag n4,AZ];have a4:Bj a≠4:=fun h=>n4 (.inl h)
  have b4:Bj b≠4:=fun h=>n4 (.inr h)
  obtain⟨a1,a2⟩:=AcX hn a4;obtain⟨b1,b2⟩:=AcX hm b4;have hinf:(0:Int)<(Dk:Int):=by decide
  cases hfa:F9 a with
  | true =>
    obtain⟨ea,ka1,ka2⟩:=a1 hfa;cases hfb:F9 b with
    | true =>obtain⟨eb,kb1,kb2⟩:=b1 hfb;obtain⟨o1,_,o3⟩:=Xy a;obtain⟨p1,_,p3⟩:=Xy b;have hc:=Aku a4 b4;rw[ea,eb,show(((0:Int) !=(0:Int))||((0:Int) !=(0:Int)))=wy from rfl,Af,o1,o3,p1,p3,hc];rfl
    | false =>
      obtain⟨_,hb2⟩:=b2 hfb;rcases hb2 with ⟨eb,kb⟩ | ⟨eb,kb⟩
      ·rw[ea,eb,kb,Az ka2]; rfl
      ·rw[ea,eb,kb,Ay (by omega),Az ka1]; rfl
  | false =>
    obtain⟨_,ha2⟩:=a2 hfa;cases hfb:F9 b with
    | true =>
      obtain⟨eb,kb1,kb2⟩:=b1 hfb;rcases ha2 with ⟨ea,ka⟩ | ⟨ea,ka⟩
      ·rw[ea,eb,ka,Ay (by omega),Az kb2]; rfl
      ·rw[ea,eb,ka,Az kb1]; rfl
    | false =>
      obtain⟨_,hb2⟩:=b2 hfb;rcases ha2 with ⟨ea,ka⟩ | ⟨ea,ka⟩<;>rcases hb2 with ⟨eb,kb⟩ | ⟨eb,kb⟩
      ·rw[ea,eb,ka,kb,Ay (by omega),Ay (by omega)]; rfl
      ·rw[ea,eb,ka,kb,Ay (by omega),Az (by omega)]; rfl
      ·rw[ea,eb,ka,kb,Az (by omega)]; rfl
      ·rw[ea,eb,ka,kb,Ay (by omega),Ay (by omega)]; rfl
theorem C2.Max.Bi:Kq 72 C2.Max.Bk:=D6 C2.Max.E Tryz.func72 (kc C2.Order.Bi .nil) fun a b hp=>by
 have hp:(Bo a&&Bo b)=wg:=hp;refine⟨0,.int .u64 (M4 a b),[],?_,.int⟩;rw[C2.Max.ev,hp,Aa,Bw];unfold M4 Abe VU Ma;cases Vp a.toNat b.toNat with
 | false=>rfl
 | true =>
   rw[AD,Af,Az rfl];obtain⟨h1,h2⟩:=Bf.1 hp;obtain⟨x,rfl,_⟩:=BR h1;obtain⟨y,rfl,_⟩:=BR h2;rw[Ad,Ad];by_cases h:Vo x y<0
   ·rw[Ac h,Aa,Az h]
   ·rw[Ag h,Af,Ay h]
theorem C2.N8.Bi:Kq 48 C2.N8.Bk:=D6 C2.N8.E Tryz.func48 (kc Bx.Yu.Bi (kc BJ.Finite.Bi (kc BJ.Kind.Bi (kc BJ.Value.Bi .nil)))) fun a hp=>by
 obtain⟨b,rfl,hb⟩:=BR (x:=a) hp;refine⟨0,.int .i64 (BK (b:Int)),[],?_,.int⟩;have kk:B8 (b:Int)=(Bj b:Int):=rfl;have hf:CO (b:Int)=F9 b:=rfl;have pe:BO (b:Int)=By b:=rfl;obtain⟨_,o2,o3⟩:=Xy b;have hE:=C4 b;have hM:=E1 b;rw[C2.N8.ev,Cq hb,Aa,Ha,AQ,Aa,kk,hf,pe,o2,o3,EE,Ah,Aa,Aa];unfold BK;rw[Ad];unfold Ea;cases hfin:F9 b with
 | false=>rfl
 | true =>
   by_cases h0:Bj b=0
   ·rw[h0]; rfl
   ·have k0:(((Bj b:Nat):Int)==(0:Int))=wy:=by rw[A8]; omega
    obtain⟨f4,f3⟩:=F2 hfin;have hm:Bs b≠0:=fun hz=>h0 ((Dd f3 f4).1 hz)
    have hv:E8 (b:Int)≠0:=by intro h;have:=WH b;rw[h] at this;exact hm this.symm
    have hl:(Bs b).log2<=52:=by have:=(AV hm).2 (show Bs b<2^53 by omega); omega
    have ht:Hy (mD (E8 (b:Int))) (eD (E8 (b:Int)) (By b))=((Bs b).log2:Int)+1+By b:=by
     unfold Hy Ut;rw[Ay (fun h=>hv (Jc.1 h)),Ay (fun h=>hv (Jc.1 h))];unfold eD;rw[Ay hv];have hs:=QF (E8 (b:Int))
     have ha:Bs b=(mD (E8 (b:Int))).natAbs*2^N9 (E8 (b:Int)).natAbs:=by have e:=congrArg Int.natAbs hs;rw[Int.natAbs_mul,Int.natAbs_natCast] at e;rw[<- WH b];exact e
     have hmd:(mD (E8 (b:Int))).natAbs≠0:=fun h=>hv (Jc.1 (Int.natAbs_eq_zero.1 h))
     have hlog:=JP (mD (E8 (b:Int))).natAbs (N9 (E8 (b:Int)).natAbs) hmd;rw[<- ha] at hlog;rw[hlog];omega
    rw[k0,Az ⟨rfl,h0⟩,ht,Bq (by omega) (by omega)];show xM (DV.int .i64 _)=_;congr 2; omega
theorem AcK{b:Nat}(h:b<2^63):F1 b=(b:Int):=JQ wy h
theorem AjA{m x:Nat}(hm:m<2^63)(m4:Bj m≠4)(hx:x<2^63)(x4:Bj x≠4):Abe m x=max m x:=by
 have o:Vp m x=wg:=by unfold Vp; rw[Ag (by omega)]; rfl
 have ho:Vo m x=if (m:Int)<(x:Int) then -1 else if (x:Int)<(m:Int) then 1 else 0:=by unfold Vo;rw[Ay (by omega),AcK hm,AcK hx]
 unfold Abe;rw[o,Az rfl,ho];by_cases h:m<x
 ·rw[Az (show(m:Int)<(x:Int) by omega),Az (by decide),wS (by omega)]
 ·rw[Ay (show ¬(m:Int)<(x:Int) by omega)];by_cases h2:x<m
  ·rw[Az (show(x:Int)<(m:Int) by omega),Ay (by decide),wh (by omega)]
  ·rw[Ay (show ¬(x:Int)<(m:Int) by omega),Ay (by decide),wh (by omega)]
theorem AcA{m x:Nat}(h:Bj m=4\/Bj x=4):Abe m x=Jt:=by
 have o:Vp m x=wy:=by unfold Vp; rw[Ac h]; rfl
 unfold Abe;rw[o,Ay (by decide)]
theorem Aev:Bj Jt=4:=by decide
theorem Z9:∀l:Bb,l.foldl (fun m x=>M4 m (Gf x)) ((Jt:Nat):Int)=((Jt:Nat):Int)
 | []=>rfl
 | x::l=>by
   rw[yR];have:M4 ((Jt:Nat):Int) (Gf x)=((Jt:Nat):Int):=by unfold M4; rw[Ad,AcA (.inl Aev)]
   rw[this];exact Z9 l
theorem U7:∀(l:Bb) (m:Nat),m<2^63->Bj m≠4->l.foldl (fun m x=>M4 m (Gf x)) (m:Int)=((It l m:Nat):Int)
 | [],m,_,_=>rfl
 | x::l,m,hm,m4=>by
   rw[yR];unfold It;have e1:(Gf x).toNat=CV x.toNat:=by unfold Gf; rw[Ad]
   by_cases h:Bj x.toNat=4
   ·rw[Az h]
    have:M4 (m:Int) (Gf x)=((Jt:Nat):Int):=by unfold M4;rw[e1,AcA (.inr (by rw[Oe]; exact h))]
    rw[this];exact Z9 l
   ·rw[Ay h];have hx:=Pd x.toNat;have x4:Bj (CV x.toNat)≠4:=by rw[Oe]; exact h
    have:M4 (m:Int) (Gf x)=((max m (CV x.toNat):Nat):Int):=by unfold M4;rw[Ad,e1,AjA hm m4 hx x4]
    rw[this];refine U7 l _ (by omega) ?_;rcases Nat.le_total m (CV x.toNat) with h2 | h2
    ·rw[wS h2]; exact x4
    ·rw[wh h2]; exact m4
theorem Aha{a b:Int}(ha:Bo a=wg)(hb:Bo b=wg):Bo (M4 a b)=wg:=by
 obtain⟨x,rfl,hx⟩:=BR ha;obtain⟨y,rfl,hy⟩:=BR hb;unfold M4 Abe;rw[Ad,Ad];split
 ·split
  ·exact hb
  ·exact ha
 ·exact Cq (by decide)
theorem Xs(N:Nat){x:Bb}(hx:CW x=wg):∀(k i F:Nat) (m:Int),i+k=x.length->k<F->Bo m=wg->Bv.Cu.L0 N F x m (i:Int)=xM (.int .u64 ((x.drop i).foldl (fun m x=>M4 m (Gf x)) m)):=by
 obtain⟨hl,hu⟩:=Hq hx;intro k
 induction k with
 | zero =>
   intro i F m hi hF hm;obtain⟨F,rfl⟩:∃G,F=G+1:=⟨F-1,by omega⟩
   rw[Bv.Cu.B1,Bw,Ag (by omega),Af,Ap (by omega)]; rfl
 | succ k ih =>
   intro i F m hi hF hm;obtain⟨F,rfl⟩:∃G,F=G+1:=⟨F-1,by omega⟩
   rw[Bv.Cu.B1,Bw,Ac (show(i:Int)<(x.length:Int) by omega),Aa,Ac (show(0:Int)<=(i:Int) by omega),Ah,Aa,Ad,hu i (by omega),Aa,hm,PQ,Ah,Aa,GD (by omega),yR,Bq (by omega) (by omega)];exact ih (i+1) F _ (by omega) (by omega) (Aha hm (PQ _))
theorem Bv.Cu.Bi:Kq 144 Bv.Cu.Bk:=D6 Bv.Cu.E Tryz.func144 (kc C2.J8.Bi (kc C2.Max.Bi .nil)) fun x hp=>by refine⟨x.length+1,.int .u64 (BA x),[],?_,.int⟩;rw[Bv.Cu.ev];have h:=Xs (x.length+1) hp x.length 0 (x.length+1) 0 (by omega) (by omega) Hn;rw[List.drop_zero] at h;have h2:=U7 x 0 (by decide) (by decide +kernel);exact h.trans (congrArg (fun n:Int=>xM (DV.int .u64 n)) h2)
theorem math.Sqrt.Bi:Kq 184 math.Sqrt.Bk:=D6 math.Sqrt.E Tryz.func184 .nil fun x _=>⟨0,.fl ((Ieee.double.sqrt x).getD nanBits),[],by rw[math.Sqrt.ev],.fl⟩
theorem Bv.Sqrt.Bi:Kq 174 Bv.Sqrt.Bk:=D6 Bv.Sqrt.E Tryz.func174 (kc math.Sqrt.Bi (kc Bv.B.Bi (kc Bv.F.Bi .nil))) fun a hp=>by
 obtain⟨x,rfl,hx⟩:=BR (x:=a) hp;refine⟨0,.int .u64 (ET (x:Int)),[],?_,.int⟩
 have:FA ((Ieee.double.sqrt (wz (x:Int))).getD nanBits)=ET (x:Int):=by unfold FA ET;rw[Ad,AdW hx Gd]
 rw[Bv.Sqrt.ev,Cq hx,Aa,this]
theorem Vj(N:Nat){x:Bb}(hx:CW x=wg):∀(k i F:Nat) (s:Int),i+k=x.length->k<F->Bo s=wg ->
 Bv.Norm.L0 N F x s (i:Int)=xM (.int .u64 (BP (ET (JH (-BK (BA x)) s (x.drop i))) (BK (BA x)))):=by
 obtain⟨hl,hu⟩:=Hq hx;have he:=UH (BA x);intro k
 induction k with
 | zero =>
   intro i F s hi hF hs;obtain⟨F,rfl⟩:∃G,F=G+1:=⟨F-1,by omega⟩
   rw[Bv.Norm.B1,Bw,Ag (by omega),Af,hs,Aa,show D1 (ET s) (BK (BA x))=wg from Bf.2 ⟨WX hs,Bt.2 (by omega)⟩,Aa,Ap (by omega)];rfl
 | succ k ih =>
   intro i F s hi hF hs;obtain⟨F,rfl⟩:∃G,F=G+1:=⟨F-1,by omega⟩
   rw[Bv.Norm.B1,Bw,Ac (show(i:Int)<(x.length:Int) by omega),Aa,Ac (show(0:Int)<=(i:Int) by omega),Ah,Aa,Ad,Bq (x:=(0:Int)-BK (BA x)) (by omega) (by omega),show(0:Int)-BK (BA x)=-BK (BA x) by omega,
    show D1 (vB x i 0) (-BK (BA x))=wg from Bf.2 ⟨hu i (by omega),Bt.2 (by omega)⟩,Aa,FP (hu i (by omega)),Ah,Aa,hs,Ft,Ah,Aa,YC (by omega),Bq (by omega) (by omega)]
   exact ih (i+1) F _ (by omega) (by omega) (AbQ hs (Ft _ _))
theorem Bv.Norm.Bi:Kq 145 Bv.Norm.Bk:=D6 Bv.Norm.E Tryz.func145 (kc BJ.Finite.Bi (kc C2.N8.Bi (kc Bv.Add.Bi (kc Bv.Cu.Bi (kc Bv.Mul.Bi (kc Bv.Ct.Bi (kc Bv.Sqrt.Bi .nil))))))) fun x hp=>by
 have hx:CW x=wg:=hp;refine⟨x.length+1,.int .u64 (CB x),[],?_,.int⟩;rw[Bv.Norm.ev,hx,Aa,Me,AQ,Aa];unfold CB;by_cases h:BA x=0\/CO (BA x)=wy
 ·have:((BA x==(0:Int))||(!(CO (BA x))))=wg:=by
   rcases h with h | h
   ·rw[h]; rfl
   ·rw[h,AZ,AQ]
  rw[this,Aa,Az h]
 ·have:((BA x==(0:Int))||(!(CO (BA x))))=wy:=by
   rw[yD,A8,Bool.not_eq_false'];refine⟨fun h0=>h (.inl h0),?_⟩;cases hf:CO (BA x) with
   | true=>rfl
   | false=>exact absurd (.inr hf) h
  rw[this,Af,Aa,Ay h];exact Vj (x.length+1) hx x.length 0 (x.length+1) 0 (by omega) (by omega) Hn
def Bc.of.CF.hint:Nat->Option BH
 | 0=>xM { CH:=[1,2,6,7,13,14],BW:=[(8,2,108002,.Bh 47 .u64 [])],Cf:=[6,7] }
 | 2=>xM { CH:=[1,2,6,7,8,13,14,17,18],BW:=[(8,2,108002,.Bh 47 .u64 [])],Cf:=[6,7] }
 | _=>xN
def Bc.of.CF.E:=CP (CC [(165,Bc.Gl.Bk)]) (fun _=>wy) Bc.of.CF.hint (fun _=>xN)
section
variable(N M0 M:Nat)(a b p8 p14_1 p18:Int)(p2:Bb)(p14:Int)(p2_1:Bb)
def Bc.of.CF.L0:Option DV:=BU Bc.of.CF.E N f55 (Br f55) [1,1,0,1,0] [] M ⟨EP 33 [(1,.int .i64 b),(2,.fn 165 [] []),(6,.ptr 6 0 0),(7,.ptr 7 0 0),(13,.int .i64 a),(14,.int .i64 p14)],[(6,wy,.box [.int .i64 0,.int .i64 0,.nil]),(7,wy,.box [.int .i64 a,.int .i64 b,.De 108002]),(108002,wy,.Bh 47 .u64 p2_1)]⟩
def Bc.of.CF.L1:Option DV:=BU Bc.of.CF.E N f55 (Br f55) [1,1,0,1,0,0,1,1,0,0,1,1,0] [M0] M ⟨EP 33 [(1,.int .i64 b),(2,.fn 165 [] []),(6,.ptr 6 0 0),(7,.ptr 7 0 0),(8,.int .i64 p8),(13,.int .i64 a),(14,.int .i64 p14_1),(17,.int .i64 b),(18,.int .i64 p18)],[(6,wy,.box [.int .i64 0,.int .i64 0,.nil]),(7,wy,.box [.int .i64 a,.int .i64 b,.De 108002]),(108002,wy,.Bh 47 .u64 p2)]⟩
theorem Bc.of.CF.B1:Bc.of.CF.L0 N (M+1) a b p14 p2_1=cond (BI p14 a) (Bc.of.CF.L1 N M N a b p14 p14 0 p2_1) (xM (.agg [.int .i64 a,.int .i64 b,.Bh (.own 108002 47) .u64 p2_1])):=by kernel_rfl
theorem Bc.of.CF.BZ:Bc.of.CF.L1 N M0 (M+1) a b p8 p14_1 p18 p2=cond (BI p18 b) (bif (decide ((vA p2)+1<=GL)) then Bc.of.CF.L1 N M0 M a b p8 p14_1 (Be (p18+1)) (p2++[(0:Int)]) else xN) (Bc.of.CF.L0 N M0 a b (Be (p14_1+1)) p2) :=Et (DJ (C0 (Cp _) rfl rfl) rfl)
theorem Bc.of.CF.ev:BX Bc.of.CF.E N f55 (Br f55) [.int .i64 a,.int .i64 b,.fn 165 [] []]=
 Bc.of.CF.L0 N N a b 0 []:=by kernel_rfl
end
def Bc.of.FE.hint:Nat->Option BH
 | 0=>xM { CH:=[1,2,6,7,13,14],BW:=[(8,2,108002,.Bh 47 .u64 [])],Cf:=[6,7] }
 | 2=>xM { CH:=[1,2,6,7,8,13,14,17,18],BW:=[(8,2,108002,.Bh 47 .u64 [])],Cf:=[6,7] }
 | _=>xN
def Bc.of.FE.E:=CP (CC [(135,Bc.Ku.Bk)]) (fun _=>wy) Bc.of.FE.hint (fun _=>xN)
section
variable(N M0 M:Nat)(a b p8 p14_1 p18:Int)(p2:Bb)(p14:Int)(p2_1:Bb)
def Bc.of.FE.L0:Option DV:=BU Bc.of.FE.E N f55 (Br f55) [1,1,0,1,0] [] M ⟨EP 33 [(1,.int .i64 b),(2,.fn 135 [] []),(6,.ptr 6 0 0),(7,.ptr 7 0 0),(13,.int .i64 a),(14,.int .i64 p14)],[(6,wy,.box [.int .i64 0,.int .i64 0,.nil]),(7,wy,.box [.int .i64 a,.int .i64 b,.De 108002]),(108002,wy,.Bh 47 .u64 p2_1)]⟩
def Bc.of.FE.L1:Option DV:=BU Bc.of.FE.E N f55 (Br f55) [1,1,0,1,0,0,1,1,0,0,1,1,0] [M0] M ⟨EP 33 [(1,.int .i64 b),(2,.fn 135 [] []),(6,.ptr 6 0 0),(7,.ptr 7 0 0),(8,.int .i64 p8),(13,.int .i64 a),(14,.int .i64 p14_1),(17,.int .i64 b),(18,.int .i64 p18)],[(6,wy,.box [.int .i64 0,.int .i64 0,.nil]),(7,wy,.box [.int .i64 a,.int .i64 b,.De 108002]),(108002,wy,.Bh 47 .u64 p2)]⟩
theorem Bc.of.FE.B1:Bc.of.FE.L0 N (M+1) a b p14 p2_1=cond (BI p14 a) (Bc.of.FE.L1 N M N a b p14 p14 0 p2_1) (xM (.agg [.int .i64 a,.int .i64 b,.Bh (.own 108002 47) .u64 p2_1])):=by kernel_rfl
theorem Bc.of.FE.BZ:Bc.of.FE.L1 N M0 (M+1) a b p8 p14_1 p18 p2=cond (BI p18 b) (bif (decide ((vA p2)+1<=GL)) then Bc.of.FE.L1 N M0 M a b p8 p14_1 (Be (p18+1)) (p2++[(Hc p8 p18)]) else xN) (Bc.of.FE.L0 N M0 a b (Be (p14_1+1)) p2) :=Et (DJ (C0 (Cp _) rfl rfl) rfl)
theorem Bc.of.FE.ev:BX Bc.of.FE.E N f55 (Br f55) [.int .i64 a,.int .i64 b,.fn 135 [] []]=
 Bc.of.FE.L0 N N a b 0 []:=by kernel_rfl
end
def Bc.of.Du.hint:Nat->Option BH
 | 0=>xM { CH:=[1,2,6,7,13,14],BW:=[(8,2,108002,.Bh 47 .u64 [])],Cf:=[6,7] }
 | 2=>xM { CH:=[1,2,6,7,8,13,14,17,18],BW:=[(8,2,108002,.Bh 47 .u64 [])],Cf:=[6,7] }
 | _=>xN
def Bc.of.Du.E:=CP (CC [(100,Bc.HZ.Bk)]) (fun _=>wy) Bc.of.Du.hint (fun _=>xN)
section
variable(N M0 M:Nat)(a b r c:Int)(l:Bb)(p8 p14_1 p18:Int)(p2:Bb)(p14:Int)(p2_1:Bb)
def Bc.of.Du.L0:Option DV:=BU Bc.of.Du.E N f55 (Br f55) [1,1,0,1,0] [] M ⟨EP 33 [(1,.int .i64 b),(2,.fn 100 [] [.CQ [.int .i64 r,.int .i64 c,.Bh .arg .u64 l]]),(6,.ptr 6 0 0),(7,.ptr 7 0 0),(13,.int .i64 a),(14,.int .i64 p14)],[(6,wy,.box [.int .i64 0,.int .i64 0,.nil]),(7,wy,.box [.int .i64 a,.int .i64 b,.De 108002]),(108002,wy,.Bh 47 .u64 p2_1)]⟩
def Bc.of.Du.L1:Option DV:=BU Bc.of.Du.E N f55 (Br f55) [1,1,0,1,0,0,1,1,0,0,1,1,0] [M0] M ⟨EP 33 [(1,.int .i64 b),(2,.fn 100 [] [.CQ [.int .i64 r,.int .i64 c,.Bh .arg .u64 l]]),(6,.ptr 6 0 0),(7,.ptr 7 0 0),(8,.int .i64 p8),(13,.int .i64 a),(14,.int .i64 p14_1),(17,.int .i64 b),(18,.int .i64 p18)],[(6,wy,.box [.int .i64 0,.int .i64 0,.nil]),(7,wy,.box [.int .i64 a,.int .i64 b,.De 108002]),(108002,wy,.Bh 47 .u64 p2)]⟩
theorem Bc.of.Du.B1:Bc.of.Du.L0 N (M+1) a b r c l p14 p2_1=cond (BI p14 a) (Bc.of.Du.L1 N M N a b r c l p14 p14 0 p2_1) (xM (.agg [.int .i64 a,.int .i64 b,.Bh (.own 108002 47) .u64 p2_1])):=by kernel_rfl
theorem Bc.of.Du.BZ:Bc.of.Du.L1 N M0 (M+1) a b r c l p8 p14_1 p18 p2=cond (BI p18 b) (bif (Db r c l p18 p8) then cond (decide ((vA p2)+1<=GL)) (Bc.of.Du.L1 N M0 M a b r c l p8 p14_1 (Be (p18+1)) (p2++[(Cc c l p18 p8)])) xN else xN) (Bc.of.Du.L0 N M0 a b r c l (Be (p14_1+1)) p2) :=Et (DJ (C0 (Cp _) (C0 (Cp _) rfl rfl) rfl) rfl)
theorem Bc.of.Du.ev:BX Bc.of.Du.E N f55 (Br f55) [.int .i64 a,.int .i64 b,.fn 100 [] [.CQ [.int .i64 r,.int .i64 c,.Bh .arg .u64 l]]]=
 Bc.of.Du.L0 N N a b r c l 0 []:=by kernel_rfl
end
def Bc.of.Part.hint:Nat->Option BH
 | 0=>xM { CH:=[1,2,6,7,13,14],BW:=[(8,2,108002,.Bh 47 .u64 [])],Cf:=[6,7] }
 | 2=>xM { CH:=[1,2,6,7,8,13,14,17,18],BW:=[(8,2,108002,.Bh 47 .u64 [])],Cf:=[6,7] }
 | _=>xN
def Bc.of.Part.E:=CP (CC [(61,Bc.Ia.Bk)]) (fun _=>wy) Bc.of.Part.hint (fun _=>xN)
section
variable(N M0 M:Nat)(a b r c:Int)(l:Bb)(x y p8 p14_1 p18:Int)(p2:Bb)(p14:Int)(p2_1:Bb)
def Bc.of.Part.L0:Option DV:=BU Bc.of.Part.E N f55 (Br f55) [1,1,0,1,0] [] M ⟨EP 33 [(1,.int .i64 b),(2,.fn 61 [] [.CQ [.int .i64 r,.int .i64 c,.Bh .arg .u64 l],.CQ [.int .i64 x],.CQ [.int .i64 y]]),(6,.ptr 6 0 0),(7,.ptr 7 0 0),(13,.int .i64 a),(14,.int .i64 p14)],[(6,wy,.box [.int .i64 0,.int .i64 0,.nil]),(7,wy,.box [.int .i64 a,.int .i64 b,.De 108002]),(108002,wy,.Bh 47 .u64 p2_1)]⟩
def Bc.of.Part.L1:Option DV:=BU Bc.of.Part.E N f55 (Br f55) [1,1,0,1,0,0,1,1,0,0,1,1,0] [M0] M ⟨EP 33 [(1,.int .i64 b),(2,.fn 61 [] [.CQ [.int .i64 r,.int .i64 c,.Bh .arg .u64 l],.CQ [.int .i64 x],.CQ [.int .i64 y]]),(6,.ptr 6 0 0),(7,.ptr 7 0 0),(8,.int .i64 p8),(13,.int .i64 a),(14,.int .i64 p14_1),(17,.int .i64 b),(18,.int .i64 p18)],[(6,wy,.box [.int .i64 0,.int .i64 0,.nil]),(7,wy,.box [.int .i64 a,.int .i64 b,.De 108002]),(108002,wy,.Bh 47 .u64 p2)]⟩
theorem Bc.of.Part.B1:Bc.of.Part.L0 N (M+1) a b r c l x y p14 p2_1=cond (BI p14 a) (Bc.of.Part.L1 N M N a b r c l x y p14 p14 0 p2_1) (xM (.agg [.int .i64 a,.int .i64 b,.Bh (.own 108002 47) .u64 p2_1])):=by kernel_rfl
theorem Bc.of.Part.BZ:Bc.of.Part.L1 N M0 (M+1) a b r c l x y p8 p14_1 p18 p2=cond (BI p18 b) (bif (Db r c l (x+p8) (y+p18)&&Tz x y p8 p18) then cond (decide ((vA p2)+1<=GL)) (Bc.of.Part.L1 N M0 M a b r c l x y p8 p14_1 (Be (p18+1)) (p2++[(Cc c l (x+p8) (y+p18))])) xN else xN) (Bc.of.Part.L0 N M0 a b r c l x y (Be (p14_1+1)) p2) :=Et (DJ (C0 (Cp _) (C0 (Cp _) rfl rfl) rfl) rfl)
theorem Bc.of.Part.ev:BX Bc.of.Part.E N f55 (Br f55) [.int .i64 a,.int .i64 b,.fn 61 [] [.CQ [.int .i64 r,.int .i64 c,.Bh .arg .u64 l],.CQ [.int .i64 x],.CQ [.int .i64 y]]]=
 Bc.of.Part.L0 N N a b r c l x y 0 []:=by kernel_rfl
end
def Bc.of.Sub.hint:Nat->Option BH
 | 0=>xM { CH:=[1,2,6,7,13,14],BW:=[(8,2,108002,.Bh 47 .u64 [])],Cf:=[6,7] }
 | 2=>xM { CH:=[1,2,6,7,8,13,14,17,18],BW:=[(8,2,108002,.Bh 47 .u64 [])],Cf:=[6,7] }
 | _=>xN
def Bc.of.Sub.E:=CP (CC [(63,Bc.Kl.Bk)]) (fun _=>wy) Bc.of.Sub.hint (fun _=>xN)
section
variable(N M0 M:Nat)(a b r c:Int)(l:Bb)(p q:Int)(m:Bb)(p8 p14_1 p18:Int)(p2:Bb)(p14:Int)(p2_1:Bb)
def Bc.of.Sub.L0:Option DV:=BU Bc.of.Sub.E N f55 (Br f55) [1,1,0,1,0] [] M ⟨EP 33 [(1,.int .i64 b),(2,.fn 63 [] [.CQ [.int .i64 r,.int .i64 c,.Bh .arg .u64 l],.CQ [.int .i64 p,.int .i64 q,.Bh .arg .u64 m]]),(6,.ptr 6 0 0),(7,.ptr 7 0 0),(13,.int .i64 a),(14,.int .i64 p14)],[(6,wy,.box [.int .i64 0,.int .i64 0,.nil]),(7,wy,.box [.int .i64 a,.int .i64 b,.De 108002]),(108002,wy,.Bh 47 .u64 p2_1)]⟩
def Bc.of.Sub.L1:Option DV:=BU Bc.of.Sub.E N f55 (Br f55) [1,1,0,1,0,0,1,1,0,0,1,1,0] [M0] M ⟨EP 33 [(1,.int .i64 b),(2,.fn 63 [] [.CQ [.int .i64 r,.int .i64 c,.Bh .arg .u64 l],.CQ [.int .i64 p,.int .i64 q,.Bh .arg .u64 m]]),(6,.ptr 6 0 0),(7,.ptr 7 0 0),(8,.int .i64 p8),(13,.int .i64 a),(14,.int .i64 p14_1),(17,.int .i64 b),(18,.int .i64 p18)],[(6,wy,.box [.int .i64 0,.int .i64 0,.nil]),(7,wy,.box [.int .i64 a,.int .i64 b,.De 108002]),(108002,wy,.Bh 47 .u64 p2)]⟩
theorem Bc.of.Sub.B1:Bc.of.Sub.L0 N (M+1) a b r c l p q m p14 p2_1=cond (BI p14 a) (Bc.of.Sub.L1 N M N a b r c l p q m p14 p14 0 p2_1) (xM (.agg [.int .i64 a,.int .i64 b,.Bh (.own 108002 47) .u64 p2_1])):=by kernel_rfl
theorem Bc.of.Sub.BZ:Bc.of.Sub.L1 N M0 (M+1) a b r c l p q m p8 p14_1 p18 p2=cond (BI p18 b) (bif (((Db r c l p8 p18&&Db p q m p8 p18)&&Bg l)&&Bg m) then cond (decide ((vA p2)+1<=GL)) (Bc.of.Sub.L1 N M0 M a b r c l p q m p8 p14_1 (Be (p18+1)) (p2++[(CA (Cc c l p8 p18) (Cc q m p8 p18))])) xN else xN) (Bc.of.Sub.L0 N M0 a b r c l p q m (Be (p14_1+1)) p2) :=Et (DJ (C0 (Cp _) (C0 (Cp _) rfl rfl) rfl) rfl)
theorem Bc.of.Sub.ev:BX Bc.of.Sub.E N f55 (Br f55) [.int .i64 a,.int .i64 b,.fn 63 [] [.CQ [.int .i64 r,.int .i64 c,.Bh .arg .u64 l],.CQ [.int .i64 p,.int .i64 q,.Bh .arg .u64 m]]]=
 Bc.of.Sub.L0 N N a b r c l p q m 0 []:=by kernel_rfl
end
def Bc.of.Stack.hint:Nat->Option BH
 | 0=>xM { CH:=[1,2,6,7,13,14],BW:=[(8,2,108002,.Bh 47 .u64 [])],Cf:=[6,7] }
 | 2=>xM { CH:=[1,2,6,7,8,13,14,17,18],BW:=[(8,2,108002,.Bh 47 .u64 [])],Cf:=[6,7] }
 | _=>xN
def Bc.of.Stack.E:=CP (CC [(68,Bc.G5.Bk)]) (fun _=>wy) Bc.of.Stack.hint (fun _=>xN)
section
variable(N M0 M:Nat)(a b r c:Int)(l:Bb)(p q:Int)(m:Bb)(p8 p14_1 p18:Int)(p2:Bb)(p14:Int)(p2_1:Bb)
def Bc.of.Stack.L0:Option DV:=BU Bc.of.Stack.E N f55 (Br f55) [1,1,0,1,0] [] M ⟨EP 33 [(1,.int .i64 b),(2,.fn 68 [] [.CQ [.int .i64 r,.int .i64 c,.Bh .arg .u64 l],.CQ [.int .i64 p,.int .i64 q,.Bh .arg .u64 m]]),(6,.ptr 6 0 0),(7,.ptr 7 0 0),(13,.int .i64 a),(14,.int .i64 p14)],[(6,wy,.box [.int .i64 0,.int .i64 0,.nil]),(7,wy,.box [.int .i64 a,.int .i64 b,.De 108002]),(108002,wy,.Bh 47 .u64 p2_1)]⟩
def Bc.of.Stack.L1:Option DV:=BU Bc.of.Stack.E N f55 (Br f55) [1,1,0,1,0,0,1,1,0,0,1,1,0] [M0] M ⟨EP 33 [(1,.int .i64 b),(2,.fn 68 [] [.CQ [.int .i64 r,.int .i64 c,.Bh .arg .u64 l],.CQ [.int .i64 p,.int .i64 q,.Bh .arg .u64 m]]),(6,.ptr 6 0 0),(7,.ptr 7 0 0),(8,.int .i64 p8),(13,.int .i64 a),(14,.int .i64 p14_1),(17,.int .i64 b),(18,.int .i64 p18)],[(6,wy,.box [.int .i64 0,.int .i64 0,.nil]),(7,wy,.box [.int .i64 a,.int .i64 b,.De 108002]),(108002,wy,.Bh 47 .u64 p2)]⟩
theorem Bc.of.Stack.B1:Bc.of.Stack.L0 N (M+1) a b r c l p q m p14 p2_1=cond (BI p14 a) (Bc.of.Stack.L1 N M N a b r c l p q m p14 p14 0 p2_1) (xM (.agg [.int .i64 a,.int .i64 b,.Bh (.own 108002 47) .u64 p2_1])):=by kernel_rfl
theorem Bc.of.Stack.BZ:Bc.of.Stack.L1 N M0 (M+1) a b r c l p q m p8 p14_1 p18 p2=cond (BI p18 b) (bif (Ml r c l p q m p8 p18) then cond (decide ((vA p2)+1<=GL)) (Bc.of.Stack.L1 N M0 M a b r c l p q m p8 p14_1 (Be (p18+1)) (p2++[(HT r c l q m p8 p18)])) xN else xN) (Bc.of.Stack.L0 N M0 a b r c l p q m (Be (p14_1+1)) p2) :=Et (DJ (C0 (Cp _) (C0 (Cp _) rfl rfl) rfl) rfl)
theorem Bc.of.Stack.ev:BX Bc.of.Stack.E N f55 (Br f55) [.int .i64 a,.int .i64 b,.fn 68 [] [.CQ [.int .i64 r,.int .i64 c,.Bh .arg .u64 l],.CQ [.int .i64 p,.int .i64 q,.Bh .arg .u64 m]]]=
 Bc.of.Stack.L0 N N a b r c l p q m 0 []:=by kernel_rfl
end
def Bc.of.Mul.hint:Nat->Option BH
 | 0=>xM { CH:=[1,2,6,7,13,14],BW:=[(8,2,108002,.Bh 47 .u64 [])],Cf:=[6,7] }
 | 2=>xM { CH:=[1,2,6,7,8,13,14,17,18],BW:=[(8,2,108002,.Bh 47 .u64 [])],Cf:=[6,7] }
 | _=>xN
def Bc.of.Mul.E:=CP (CC [(56,Bc.Km.Bk)]) (fun _=>wy) Bc.of.Mul.hint (fun _=>xN)
section
variable(N M0 M:Nat)(a b r c:Int)(l:Bb)(p q:Int)(m:Bb)(p8 p14_1 p18:Int)(p2:Bb)(p14:Int)(p2_1:Bb)
def Bc.of.Mul.L0:Option DV:=BU Bc.of.Mul.E N f55 (Br f55) [1,1,0,1,0] [] M ⟨EP 33 [(1,.int .i64 b),(2,.fn 56 [] [.CQ [.int .i64 r,.int .i64 c,.Bh .arg .u64 l],.CQ [.int .i64 p,.int .i64 q,.Bh .arg .u64 m]]),(6,.ptr 6 0 0),(7,.ptr 7 0 0),(13,.int .i64 a),(14,.int .i64 p14)],[(6,wy,.box [.int .i64 0,.int .i64 0,.nil]),(7,wy,.box [.int .i64 a,.int .i64 b,.De 108002]),(108002,wy,.Bh 47 .u64 p2_1)]⟩
def Bc.of.Mul.L1:Option DV:=BU Bc.of.Mul.E N f55 (Br f55) [1,1,0,1,0,0,1,1,0,0,1,1,0] [M0] M ⟨EP 33 [(1,.int .i64 b),(2,.fn 56 [] [.CQ [.int .i64 r,.int .i64 c,.Bh .arg .u64 l],.CQ [.int .i64 p,.int .i64 q,.Bh .arg .u64 m]]),(6,.ptr 6 0 0),(7,.ptr 7 0 0),(8,.int .i64 p8),(13,.int .i64 a),(14,.int .i64 p14_1),(17,.int .i64 b),(18,.int .i64 p18)],[(6,wy,.box [.int .i64 0,.int .i64 0,.nil]),(7,wy,.box [.int .i64 a,.int .i64 b,.De 108002]),(108002,wy,.Bh 47 .u64 p2)]⟩
theorem Bc.of.Mul.B1:Bc.of.Mul.L0 N (M+1) a b r c l p q m p14 p2_1=cond (BI p14 a) (Bc.of.Mul.L1 N M N a b r c l p q m p14 p14 0 p2_1) (xM (.agg [.int .i64 a,.int .i64 b,.Bh (.own 108002 47) .u64 p2_1])):=by kernel_rfl
theorem Bc.of.Mul.BZ:Bc.of.Mul.L1 N M0 (M+1) a b r c l p q m p8 p14_1 p18 p2=cond (BI p18 b) (bif (RI r c l p q m p8 p18) then cond (decide ((vA p2)+1<=GL)) (Bc.of.Mul.L1 N M0 M a b r c l p q m p8 p14_1 (Be (p18+1)) (p2++[(Fu (Ee c l p8) (Hw p q m p18))])) xN else xN) (Bc.of.Mul.L0 N M0 a b r c l p q m (Be (p14_1+1)) p2) :=Et (DJ (C0 (Cp _) (C0 (Cp _) rfl rfl) rfl) rfl)
theorem Bc.of.Mul.ev:BX Bc.of.Mul.E N f55 (Br f55) [.int .i64 a,.int .i64 b,.fn 56 [] [.CQ [.int .i64 r,.int .i64 c,.Bh .arg .u64 l],.CQ [.int .i64 p,.int .i64 q,.Bh .arg .u64 m]]]=
 Bc.of.Mul.L0 N N a b r c l p q m 0 []:=by kernel_rfl
end
def Bc.FE.E:=E0 [(55,Bc.of.FE.Bk),(116,Bc.size.Bk)]
theorem Bc.FE.ev(N:Nat)(n:Int):BX Bc.FE.E N f102 (Br f102) [.int .i64 n]=cond (!(Ce n)) (xM (.Cw [.agg [.int .i64 0,.int .i64 0,.nil],.int .i64 3])) (bif ((Ce n&&Ce n)) then xM (.Cw [.agg [.int .i64 n,.int .i64 n,.Bh .BF .u64 (Cg (wz n) (wz n) (fun j1 j2=>Hc j1 j2))],.int .i64 0]) else xN):=by kernel_rfl
def Bc.Du.E:=E0 [(60,Bc.Check.Bk),(55,Bc.of.Du.Bk)]
theorem Bc.Du.ev(N:Nat)(r c:Int)(l:Bb):BX Bc.Du.E N f50 (Br f50) [.agg [.int .i64 r,.int .i64 c,.Bh .arg .u64 l]]=cond ((Ki r c l) !=(0:Int)) (xM (.Cw [.agg [.int .i64 0,.int .i64 0,.nil],.int .i64 (Ki r c l)])) (bif ((Ce c&&Ce r)&&B5 r c l&&decide (c=c/\r=r)) then xM (.Cw [.agg [.int .i64 c,.int .i64 r,.Bh .BF .u64 (Cg (wz c) (wz r) (fun j1 j2=>Cc c l j2 j1))],.int .i64 0]) else xN):=by kernel_rfl
def Bc.Part.E:=E0 [(60,Bc.Check.Bk),(55,Bc.of.Part.Bk)]
theorem Bc.Part.ev(N:Nat)(r c:Int)(l:Bb)(x y:Int)(a b:Int):BX Bc.Part.E N f20 (Br f20) [.agg [.int .i64 r,.int .i64 c,.Bh .arg .u64 l],.int .i64 x,.int .i64 y,.int .i64 a,.int .i64 b]=cond ((Ki r c l) !=(0:Int)) (xM (.Cw [.agg [.int .i64 0,.int .i64 0,.nil],.int .i64 (Ki r c l)])) (bif ((((((((BI x 0)||(BI y 0))||(BI a 0))||(BI b 0))||(BI r x))||(BI c y))||(BI (Be (r-x)) a))||(BI (Be (c-y)) b)) then some (.Cw [.agg [.int .i64 0,.int .i64 0,.nil],.int .i64 3]) else bif ((Ce a&&Ce b)&&B5 r c l&&GI r c x y a b) then some (.Cw [.agg [.int .i64 a,.int .i64 b,.Bh .BF .u64 (Cg (wz a) (wz b) (fun j1 j2=>Cc c l (x+j1) (y+j2)))],.int .i64 0]) else xN) :=Et (DJ rfl (B4 (O1 (BI x 0)) (B4 (Nx (BI x 0)) (B4 (SM (BI x 0)) (B4 (Ad7 (BI x 0) (BI y 0)) (B4 (AfJ (BI x 0) (BI y 0)) (B4 (Aln (BI x 0) (BI y 0)) (B4 (Alo (BI x 0) (BI y 0) (BI a 0)) (B4 (AfK (BI x 0) (BI y 0) (BI a 0)) (B4 (Alp (BI x 0) (BI y 0) (BI a 0)) (B4 (AfL (BI x 0) (BI y 0) (BI a 0) (BI b 0)) (B4 (AfL (BI x 0) (BI y 0) (BI a 0) (BI b 0)) (B4 (AfM (BI x 0) (BI y 0) (BI a 0) (BI b 0)) (B4 (AmQ (BI x 0) (BI y 0) (BI a 0) (BI b 0)) (B4 (Alq (BI x 0) (BI y 0) (BI a 0) (BI b 0)) (B4 (AiP (BI x 0) (BI y 0) (BI a 0) (BI b 0) (BI r x)) (B4 (AiP (BI x 0) (BI y 0) (BI a 0) (BI b 0) (BI r x)) (B4 (Aoz (BI x 0) (BI y 0) (BI a 0) (BI b 0) (BI r x)) (B4 (AmR (BI x 0) (BI y 0) (BI a 0) (BI b 0) (BI r x)) (B4 (AmS (BI x 0) (BI y 0) (BI a 0) (BI b 0) (BI r x)) (B4 (Ad8 (BI x 0) (BI y 0) (BI a 0) (BI b 0) (BI r x) (BI c y)) (B4 (Ad8 (BI x 0) (BI y 0) (BI a 0) (BI b 0) (BI r x) (BI c y)) (B4 (Alr (BI x 0) (BI y 0) (BI a 0) (BI b 0) (BI r x) (BI c y)) (B4 (Ad8 (BI x 0) (BI y 0) (BI a 0) (BI b 0) (BI r x) (BI c y)) (B4 (AiQ (BI x 0) (BI y 0) (BI a 0) (BI b 0) (BI r x) (BI c y)) (B4 (AiQ (BI x 0) (BI y 0) (BI a 0) (BI b 0) (BI r x) (BI c y)) (B4 (AmT (BI x 0) (BI y 0) (BI a 0) (BI b 0) (BI r x) (BI c y)) (B4 (Als (BI x 0) (BI y 0) (BI a 0) (BI b 0) (BI r x) (BI c y) (BI (Be (r-x)) a)) (B4 (Als (BI x 0) (BI y 0) (BI a 0) (BI b 0) (BI r x) (BI c y) (BI (Be (r-x)) a)) (B4 (Ao0 (BI x 0) (BI y 0) (BI a 0) (BI b 0) (BI r x) (BI c y) (BI (Be (r-x)) a)) (B4 (Als (BI x 0) (BI y 0) (BI a 0) (BI b 0) (BI r x) (BI c y) (BI (Be (r-x)) a)) (B4 (AmU (BI x 0) (BI y 0) (BI a 0) (BI b 0) (BI r x) (BI c y) (BI (Be (r-x)) a)) (B4 (AmU (BI x 0) (BI y 0) (BI a 0) (BI b 0) (BI r x) (BI c y) (BI (Be (r-x)) a)) (B4 (Ao1 (BI x 0) (BI y 0) (BI a 0) (BI b 0) (BI r x) (BI c y) (BI (Be (r-x)) a)) (C0 (Ao2 _ _ _ _ _ _ _ _) rfl rfl)))))))))))))))))))))))))))))))))))
def Bc.Sub.E:=E0 [(55,Bc.of.Sub.Bk),(54,Bc.two.Bk)]
theorem Bc.Sub.ev(N:Nat)(r c:Int)(l:Bb)(p q:Int)(m:Bb):BX Bc.Sub.E N f21 (Br f21) [.agg [.int .i64 r,.int .i64 c,.Bh .arg .u64 l],.agg [.int .i64 p,.int .i64 q,.Bh .arg .u64 m]]=cond ((Ru r c l p q m) !=(0:Int)) (xM (.Cw [.agg [.int .i64 0,.int .i64 0,.nil],.int .i64 (Ru r c l p q m)])) (bif (!((r==p)&&(c==q))) then xM (.Cw [.agg [.int .i64 0,.int .i64 0,.nil],.int .i64 3]) else bif ((Ce r&&Ce c)&&((B5 r c l&&B5 p q m)&&(Bg l&&Bg m))&&decide (r=r/\c=c/\p=r/\q=c)) then xM (.Cw [.agg [.int .i64 r,.int .i64 c,.Bh .BF .u64 (Cg (wz r) (wz c) (fun j1 j2=>CA (Cc c l j1 j2) (Cc q m j1 j2)))],.int .i64 0]) else xN) :=Et (DJ rfl (C0 (Aoy _ _) rfl rfl))
def Bc.Stack.E:=E0 [(55,Bc.of.Stack.Bk),(54,Bc.two.Bk)]
theorem Bc.Stack.ev(N:Nat)(r c:Int)(l:Bb)(p q:Int)(m:Bb):BX Bc.Stack.E N f23 (Br f23) [.agg [.int .i64 r,.int .i64 c,.Bh .arg .u64 l],.agg [.int .i64 p,.int .i64 q,.Bh .arg .u64 m]]=cond ((Ru r c l p q m) !=(0:Int)) (xM (.Cw [.agg [.int .i64 0,.int .i64 0,.nil],.int .i64 (Ru r c l p q m)])) (bif ((c !=q)||(BI 6 (Be (r+p)))) then xM (.Cw [.agg [.int .i64 0,.int .i64 0,.nil],.int .i64 3]) else bif ((Ce (Be (r+p))&&Ce c)&&(B5 r c l&&B5 p q m)&&decide ((Be (r+p))=r+p/\c=c/\q=c)) then xM (.Cw [.agg [.int .i64 (Be (r+p)),.int .i64 c,.Bh .BF .u64 (Cg (wz (Be (r+p))) (wz c) (fun j1 j2=>HT r c l q m j1 j2))],.int .i64 0]) else xN) :=Et (DJ rfl (B4 (O1 (c !=q)) (B4 (Nx (c !=q)) (B4 (O1 (c !=q)) (B4 (Nx (c !=q)) (B4 (tt8 (c !=q)) (B4 (Nx (c !=q)) (B4 (SM (c !=q)) (C0 (tt5 _ _) rfl rfl)))))))))
def Bc.Mul.E:=E0 [(55,Bc.of.Mul.Bk),(54,Bc.two.Bk)]
theorem Bc.Mul.ev(N:Nat)(r c:Int)(l:Bb)(p q:Int)(m:Bb):BX Bc.Mul.E N f19 (Br f19) [.agg [.int .i64 r,.int .i64 c,.Bh .arg .u64 l],.agg [.int .i64 p,.int .i64 q,.Bh .arg .u64 m]]=cond ((Ru r c l p q m) !=(0:Int)) (xM (.Cw [.agg [.int .i64 0,.int .i64 0,.nil],.int .i64 (Ru r c l p q m)])) (bif (c !=p) then xM (.Cw [.agg [.int .i64 0,.int .i64 0,.nil],.int .i64 3]) else bif ((Ce r&&Ce q)&&((B5 r c l&&B5 p q m)&&(Bg l&&Bg m))&&decide (r=r/\q=q/\c=p)) then xM (.Cw [.agg [.int .i64 r,.int .i64 q,.Bh .BF .u64 (Cg (wz r) (wz q) (fun j1 j2=>Fu (Ee c l j1) (Hw p q m j2)))],.int .i64 0]) else xN):=by kernel_rfl
theorem of.CF.inner(N:Nat)  {A B:Nat} (hA:A<=6) (hB:B<=6) {F:Nat->Nat->Int} (hF:∀i j:Nat,F i j=(0:Int)) {i:Nat} (hi:i<A):∀(k j M0 M:Nat),j+k=B->k<M ->
 Bc.of.CF.L1 N M0 M (A:Int) (B:Int) (i:Int) (i:Int) (j:Int) (Cg i B F++(zg j).map (F i))=Bc.of.CF.L0 N M0 (A:Int) (B:Int) ((i+1:Nat):Int) (Cg (i+1) B F):=by
 intro k
 induction k with
 | zero =>
   intro j M0 M hj hM;obtain⟨M,rfl⟩:∃G,M=G+1:=⟨M-1,by omega⟩
   obtain rfl:j=B:=by omega
   rw[Bc.of.CF.BZ,Bw,Ag (by omega),Af,Bq (by omega) (by omega),<- J1];rfl
 | succ k ih =>
   intro j M0 M hj hM;obtain⟨M,rfl⟩:∃G,M=G+1:=⟨M-1,by omega⟩
   have d:decide ((Cg i B F++(zg j).map (F i)).length+1<=GL)=wg:=by refine Ac ?_;have:=A9 (show i<=6 by omega) hB;rw[A5,Ca,AK,AH]; unfold GL; omega
   rw[Bc.of.CF.BZ,Bw,Ac (by omega),Aa,d,Aa,Bq (by omega) (by omega),<- hF i j];have:=ih (j+1) M0 M (by omega) (by omega);rw[GY,<- yu] at this;exact this
theorem of.CF.outer(N:Nat)  {A B:Nat} (hA:A<=6) (hB:B<=6) (hN:6<N) {F:Nat->Nat->Int} (hF:∀i j:Nat,F i j=(0:Int)):∀(k i M:Nat),i+k=A->k<M ->
 Bc.of.CF.L0 N M (A:Int) (B:Int) (i:Int) (Cg i B F)=xM (.agg [.int .i64 (A:Int),.int .i64 (B:Int),.Bh (.own 108002 tB) .u64 (Cg A B F)]):=by
 intro k
 induction k with
 | zero =>
   intro i M hi hM;obtain⟨M,rfl⟩:∃G,M=G+1:=⟨M-1,by omega⟩
   obtain rfl:i=A:=by omega
   rw[Bc.of.CF.B1,Bw,Ag (by omega),Af]
 | succ k ih =>
   intro i M hi hM;obtain⟨M,rfl⟩:∃G,M=G+1:=⟨M-1,by omega⟩
   have n:=of.CF.inner N hA hB hF (show i<A by omega) B 0 M N (by omega) (by omega);rw[xg,yJ,yF] at n;rw[Bc.of.CF.B1,Bw,Ac (by omega),Aa];exact n.trans (ih (i+1) M (by omega) (by omega))
theorem of.FE.inner(N:Nat)  {A B:Nat} (hA:A<=6) (hB:B<=6) {F:Nat->Nat->Int} (hF:∀i j:Nat,F i j=Hc (i:Int) (j:Int)) {i:Nat} (hi:i<A):∀(k j M0 M:Nat),j+k=B->k<M ->
 Bc.of.FE.L1 N M0 M (A:Int) (B:Int) (i:Int) (i:Int) (j:Int) (Cg i B F++(zg j).map (F i))=Bc.of.FE.L0 N M0 (A:Int) (B:Int) ((i+1:Nat):Int) (Cg (i+1) B F):=by
 intro k
 induction k with
 | zero =>
   intro j M0 M hj hM;obtain⟨M,rfl⟩:∃G,M=G+1:=⟨M-1,by omega⟩
   obtain rfl:j=B:=by omega
   rw[Bc.of.FE.BZ,Bw,Ag (by omega),Af,Bq (by omega) (by omega),<- J1];rfl
 | succ k ih =>
   intro j M0 M hj hM;obtain⟨M,rfl⟩:∃G,M=G+1:=⟨M-1,by omega⟩
   have d:decide ((Cg i B F++(zg j).map (F i)).length+1<=GL)=wg:=by refine Ac ?_;have:=A9 (show i<=6 by omega) hB;rw[A5,Ca,AK,AH]; unfold GL; omega
   rw[Bc.of.FE.BZ,Bw,Ac (by omega),Aa,d,Aa,Bq (by omega) (by omega),<- hF i j];have:=ih (j+1) M0 M (by omega) (by omega);rw[GY,<- yu] at this;exact this
theorem of.FE.outer(N:Nat)  {A B:Nat} (hA:A<=6) (hB:B<=6) (hN:6<N) {F:Nat->Nat->Int} (hF:∀i j:Nat,F i j=Hc (i:Int) (j:Int)):∀(k i M:Nat),i+k=A->k<M ->
 Bc.of.FE.L0 N M (A:Int) (B:Int) (i:Int) (Cg i B F)=xM (.agg [.int .i64 (A:Int),.int .i64 (B:Int),.Bh (.own 108002 tB) .u64 (Cg A B F)]):=by
 intro k
 induction k with
 | zero =>
   intro i M hi hM;obtain⟨M,rfl⟩:∃G,M=G+1:=⟨M-1,by omega⟩
   obtain rfl:i=A:=by omega
   rw[Bc.of.FE.B1,Bw,Ag (by omega),Af]
 | succ k ih =>
   intro i M hi hM;obtain⟨M,rfl⟩:∃G,M=G+1:=⟨M-1,by omega⟩
   have n:=of.FE.inner N hA hB hF (show i<A by omega) B 0 M N (by omega) (by omega);rw[xg,yJ,yF] at n;rw[Bc.of.FE.B1,Bw,Ac (by omega),Aa];exact n.trans (ih (i+1) M (by omega) (by omega))
theorem Bc.of.FE.Bi:Kq 55 Bc.of.FE.Bk:=D6 Bc.of.FE.E Tryz.func55 (kc Bc.Ku.Bi .nil) fun a b hp=>by have h1:(Ce a&&Ce b)=wg:=hp;obtain⟨ha,hb⟩:=Bf.1 h1;obtain⟨A,rfl,hA⟩:=EF ha;obtain⟨B,rfl,hB⟩:=EF hb;refine⟨8,.agg [.int .i64 (A:Int),.int .i64 (B:Int),.Bh (.own 108002 tB) .u64 (Cg A B fun(i j:Nat)=>Hc (i:Int) (j:Int))],[108002],?_,Wk.Gt (.cons .int (.cons .int (.cons (.drop _ _ _ _ (zh.2 rfl)) .nil)))⟩;rw[Bc.of.FE.ev];have n:=of.FE.outer 8 hA hB (by omega) (F:=fun(i j:Nat)=>Hc (i:Int) (j:Int)) (fun _ _=>rfl) A 0 8 (by omega) (by omega);rw[J0] at n;exact n
theorem of.Du.inner(N:Nat)(r c:Int)(l:Bb){A B:Nat}(hA:A<=6)(hB:B<=6){F:Nat->Nat->Int}(hF:∀i j:Nat,F i j=Cc c l (j:Int) (i:Int)){i:Nat}(hi:i<A)(hp:∀j:Nat,j<B->Db r c l (j:Int) (i:Int)=wg):∀(k j M0 M:Nat),j+k=B->k<M ->
 Bc.of.Du.L1 N M0 M (A:Int) (B:Int) r c l (i:Int) (i:Int) (j:Int) (Cg i B F++(zg j).map (F i))=Bc.of.Du.L0 N M0 (A:Int) (B:Int) r c l ((i+1:Nat):Int) (Cg (i+1) B F):=by
 intro k
 induction k with
 | zero =>
   intro j M0 M hj hM;obtain⟨M,rfl⟩:∃G,M=G+1:=⟨M-1,by omega⟩
   obtain rfl:j=B:=by omega
   rw[Bc.of.Du.BZ,Bw,Ag (by omega),Af,Bq (by omega) (by omega),<- J1];rfl
 | succ k ih =>
   intro j M0 M hj hM;obtain⟨M,rfl⟩:∃G,M=G+1:=⟨M-1,by omega⟩
   have d:decide ((Cg i B F++(zg j).map (F i)).length+1<=GL)=wg:=by refine Ac ?_;have:=A9 (show i<=6 by omega) hB;rw[A5,Ca,AK,AH]; unfold GL; omega
   rw[Bc.of.Du.BZ,Bw,Ac (by omega),Aa,hp j (by omega),Aa,d,Aa,Bq (by omega) (by omega),<- hF i j];have:=ih (j+1) M0 M (by omega) (by omega);rw[GY,<- yu] at this;exact this
theorem of.Du.outer(N:Nat)(r c:Int)(l:Bb){A B:Nat}(hA:A<=6)(hB:B<=6)(hN:6<N){F:Nat->Nat->Int}(hF:∀i j:Nat,F i j=Cc c l (j:Int) (i:Int))(hp:∀i j:Nat,i<A->j<B->Db r c l (j:Int) (i:Int)=wg):∀(k i M:Nat),i+k=A->k<M ->
 Bc.of.Du.L0 N M (A:Int) (B:Int) r c l (i:Int) (Cg i B F)=xM (.agg [.int .i64 (A:Int),.int .i64 (B:Int),.Bh (.own 108002 tB) .u64 (Cg A B F)]):=by
 intro k
 induction k with
 | zero =>
   intro i M hi hM;obtain⟨M,rfl⟩:∃G,M=G+1:=⟨M-1,by omega⟩
   obtain rfl:i=A:=by omega
   rw[Bc.of.Du.B1,Bw,Ag (by omega),Af]
 | succ k ih =>
   intro i M hi hM;obtain⟨M,rfl⟩:∃G,M=G+1:=⟨M-1,by omega⟩
   have n:=of.Du.inner N r c l hA hB hF (show i<A by omega) (fun j hj=>hp i j (by omega) hj) B 0 M N (by omega) (by omega);rw[xg,yJ,yF] at n;rw[Bc.of.Du.B1,Bw,Ac (by omega),Aa];exact n.trans (ih (i+1) M (by omega) (by omega))
theorem Bc.of.Du.Bi:Kq 55 Bc.of.Du.Bk:=D6 Bc.of.Du.E Tryz.func55 (kc Bc.HZ.Bi .nil) fun a b r c l hp=>by
 obtain⟨h12,hy⟩:=Bf.1 (show(((Ce a&&Ce b)&&B5 r c l)&&decide (a=c/\b=r))=wg from hp);obtain⟨h1,hx⟩:=Bf.1 h12;have h2:=Bf.2 ⟨hx,hy⟩;obtain⟨ha,hb⟩:=Bf.1 h1;obtain⟨A,rfl,hA⟩:=EF ha;obtain⟨B,rfl,hB⟩:=EF hb;obtain⟨hr,he⟩:=Bf.1 h2;obtain⟨e1,e2⟩:=A3 he;have hp:∀i j:Nat,i<A->j<B->Db r c l (j:Int) (i:Int)=wg:=fun i j hi hj=>HA hr (by omega) (by omega) (by omega) (by omega) r
 refine⟨8,.agg [.int .i64 (A:Int),.int .i64 (B:Int),.Bh (.own 108002 tB) .u64 (Cg A B fun(i j:Nat)=>Cc c l (j:Int) (i:Int))],[108002],?_,Wk.Gt (.cons .int (.cons .int (.cons (.drop _ _ _ _ (zh.2 rfl)) .nil)))⟩;rw[Bc.of.Du.ev];have n:=of.Du.outer 8 r c l hA hB (by omega) (F:=fun(i j:Nat)=>Cc c l (j:Int) (i:Int)) (fun _ _=>rfl) hp A 0 8 (by omega) (by omega);rw[J0] at n;exact n
theorem of.Part.inner(N:Nat)(r c:Int)(l:Bb)(x y:Int){A B:Nat}(hA:A<=6)(hB:B<=6){F:Nat->Nat->Int}(hF:∀i j:Nat,F i j=Cc c l (x+(i:Int)) (y+(j:Int))){i:Nat}(hi:i<A)(hp:∀j:Nat,j<B->(Db r c l (x+(i:Int)) (y+(j:Int))&&Tz x y (i:Int) (j:Int))=wg):∀(k j M0 M:Nat),j+k=B->k<M ->
 Bc.of.Part.L1 N M0 M (A:Int) (B:Int) r c l x y (i:Int) (i:Int) (j:Int) (Cg i B F++(zg j).map (F i))=Bc.of.Part.L0 N M0 (A:Int) (B:Int) r c l x y ((i+1:Nat):Int) (Cg (i+1) B F):=by
 intro k
 induction k with
 | zero =>
   intro j M0 M hj hM;obtain⟨M,rfl⟩:∃G,M=G+1:=⟨M-1,by omega⟩
   obtain rfl:j=B:=by omega
   rw[Bc.of.Part.BZ,Bw,Ag (by omega),Af,Bq (by omega) (by omega),<- J1];rfl
 | succ k ih =>
   intro j M0 M hj hM;obtain⟨M,rfl⟩:∃G,M=G+1:=⟨M-1,by omega⟩
   have d:decide ((Cg i B F++(zg j).map (F i)).length+1<=GL)=wg:=by refine Ac ?_;have:=A9 (show i<=6 by omega) hB;rw[A5,Ca,AK,AH]; unfold GL; omega
   rw[Bc.of.Part.BZ,Bw,Ac (by omega),Aa,hp j (by omega),Aa,d,Aa,Bq (by omega) (by omega),<- hF i j];have:=ih (j+1) M0 M (by omega) (by omega);rw[GY,<- yu] at this;exact this
theorem of.Part.outer(N:Nat)(r c:Int)(l:Bb)(x y:Int){A B:Nat}(hA:A<=6)(hB:B<=6)(hN:6<N){F:Nat->Nat->Int}(hF:∀i j:Nat,F i j=Cc c l (x+(i:Int)) (y+(j:Int)))(hp:∀i j:Nat,i<A->j<B->(Db r c l (x+(i:Int)) (y+(j:Int))&&Tz x y (i:Int) (j:Int))=wg):∀(k i M:Nat),i+k=A->k<M ->
 Bc.of.Part.L0 N M (A:Int) (B:Int) r c l x y (i:Int) (Cg i B F)=xM (.agg [.int .i64 (A:Int),.int .i64 (B:Int),.Bh (.own 108002 tB) .u64 (Cg A B F)]):=by
 intro k
 induction k with
 | zero =>
   intro i M hi hM;obtain⟨M,rfl⟩:∃G,M=G+1:=⟨M-1,by omega⟩
   obtain rfl:i=A:=by omega
   rw[Bc.of.Part.B1,Bw,Ag (by omega),Af]
 | succ k ih =>
   intro i M hi hM;obtain⟨M,rfl⟩:∃G,M=G+1:=⟨M-1,by omega⟩
   have n:=of.Part.inner N r c l x y hA hB hF (show i<A by omega) (fun j hj=>hp i j (by omega) hj) B 0 M N (by omega) (by omega);rw[xg,yJ,yF] at n;rw[Bc.of.Part.B1,Bw,Ac (by omega),Aa];exact n.trans (ih (i+1) M (by omega) (by omega))
theorem Bc.of.Part.Bi:Kq 55 Bc.of.Part.Bk:=D6 Bc.of.Part.E Tryz.func55 (kc Bc.Ia.Bi .nil) fun a b r c l x y hp=>by
 obtain⟨h12,hy⟩:=Bf.1 (show(((Ce a&&Ce b)&&B5 r c l)&&GI r c x y a b)=wg from hp);obtain⟨h1,hx⟩:=Bf.1 h12;have h2:=Bf.2 ⟨hx,hy⟩;obtain⟨ha,hb⟩:=Bf.1 h1;obtain⟨A,rfl,hA⟩:=EF ha;obtain⟨B,rfl,hB⟩:=EF hb;obtain⟨hr,he⟩:=Bf.1 h2;have he:=A3 he;have hs:=Hg.1 hr
 have hp:∀i j:Nat,i<A->j<B->(Db r c l (x+(i:Int)) (y+(j:Int))&&Tz x y (i:Int) (j:Int))=wg:=fun i j hi hj =>
  Bf.2 ⟨HA hr (by omega) (by omega) (by omega) (by omega) r,Bt.2 (by omega)⟩
 refine⟨8,.agg [.int .i64 (A:Int),.int .i64 (B:Int),.Bh (.own 108002 tB) .u64 (Cg A B fun(i j:Nat)=>Cc c l (x+(i:Int)) (y+(j:Int)))],[108002],?_,Wk.Gt (.cons .int (.cons .int (.cons (.drop _ _ _ _ (zh.2 rfl)) .nil)))⟩;rw[Bc.of.Part.ev];have n:=of.Part.outer 8 r c l x y hA hB (by omega) (F:=fun(i j:Nat)=>Cc c l (x+(i:Int)) (y+(j:Int))) (fun _ _=>rfl) hp A 0 8 (by omega) (by omega);rw[J0] at n;exact n
theorem of.Stack.inner(N:Nat)(r c:Int)(l:Bb)(p q:Int)(m:Bb){A B:Nat}(hA:A<=6)(hB:B<=6){F:Nat->Nat->Int}(hF:∀i j:Nat,F i j=HT r c l q m (i:Int) (j:Int)){i:Nat}(hi:i<A)(hp:∀j:Nat,j<B->Ml r c l p q m (i:Int) (j:Int)=wg):∀(k j M0 M:Nat),j+k=B->k<M ->
 Bc.of.Stack.L1 N M0 M (A:Int) (B:Int) r c l p q m (i:Int) (i:Int) (j:Int) (Cg i B F++(zg j).map (F i))=Bc.of.Stack.L0 N M0 (A:Int) (B:Int) r c l p q m ((i+1:Nat):Int) (Cg (i+1) B F):=by
 intro k
 induction k with
 | zero =>
   intro j M0 M hj hM;obtain⟨M,rfl⟩:∃G,M=G+1:=⟨M-1,by omega⟩
   obtain rfl:j=B:=by omega
   rw[Bc.of.Stack.BZ,Bw,Ag (by omega),Af,Bq (by omega) (by omega),<- J1];rfl
 | succ k ih =>
   intro j M0 M hj hM;obtain⟨M,rfl⟩:∃G,M=G+1:=⟨M-1,by omega⟩
   have d:decide ((Cg i B F++(zg j).map (F i)).length+1<=GL)=wg:=by refine Ac ?_;have:=A9 (show i<=6 by omega) hB;rw[A5,Ca,AK,AH]; unfold GL; omega
   rw[Bc.of.Stack.BZ,Bw,Ac (by omega),Aa,hp j (by omega),Aa,d,Aa,Bq (by omega) (by omega),<- hF i j];have:=ih (j+1) M0 M (by omega) (by omega);rw[GY,<- yu] at this;exact this
theorem of.Stack.outer(N:Nat)(r c:Int)(l:Bb)(p q:Int)(m:Bb){A B:Nat}(hA:A<=6)(hB:B<=6)(hN:6<N){F:Nat->Nat->Int}(hF:∀i j:Nat,F i j=HT r c l q m (i:Int) (j:Int))(hp:∀i j:Nat,i<A->j<B->Ml r c l p q m (i:Int) (j:Int)=wg):∀(k i M:Nat),i+k=A->k<M ->
 Bc.of.Stack.L0 N M (A:Int) (B:Int) r c l p q m (i:Int) (Cg i B F)=xM (.agg [.int .i64 (A:Int),.int .i64 (B:Int),.Bh (.own 108002 tB) .u64 (Cg A B F)]):=by
 intro k
 induction k with
 | zero =>
   intro i M hi hM;obtain⟨M,rfl⟩:∃G,M=G+1:=⟨M-1,by omega⟩
   obtain rfl:i=A:=by omega
   rw[Bc.of.Stack.B1,Bw,Ag (by omega),Af]
 | succ k ih =>
   intro i M hi hM;obtain⟨M,rfl⟩:∃G,M=G+1:=⟨M-1,by omega⟩
   have n:=of.Stack.inner N r c l p q m hA hB hF (show i<A by omega) (fun j hj=>hp i j (by omega) hj) B 0 M N (by omega) (by omega);rw[xg,yJ,yF] at n;rw[Bc.of.Stack.B1,Bw,Ac (by omega),Aa];exact n.trans (ih (i+1) M (by omega) (by omega))
theorem Bc.of.Stack.Bi:Kq 55 Bc.of.Stack.Bk:=D6 Bc.of.Stack.E Tryz.func55 (kc Bc.G5.Bi .nil) fun a b r c l p q m hp=>by
 obtain⟨h12,hy⟩:=Bf.1 (show(((Ce a&&Ce b)&&(B5 r c l&&B5 p q m))&&decide (a=r+p/\b=c/\q=c))=wg from hp);obtain⟨h1,hx⟩:=Bf.1 h12;have h2:=Bf.2 ⟨hx,hy⟩;obtain⟨ha,hb⟩:=Bf.1 h1;obtain⟨A,rfl,hA⟩:=EF ha;obtain⟨B,rfl,hB⟩:=EF hb;obtain⟨h3,he⟩:=Bf.1 h2;obtain⟨hr,hm⟩:=Bf.1 h3;obtain⟨e1,e2,e3⟩:=A3 he;have hs:=Hg.1 hr
 have hp:∀i j:Nat,i<A->j<B->Ml r c l p q m (i:Int) (j:Int)=wg:=fun i j hi hj=>by
  refine Bt.2 ⟨by omega,by omega,by omega,by omega,?_⟩;by_cases h:(i:Int)<r
  ·rw[Az h]; exact HA hr (by omega) (by omega) (by omega) (by omega) r
  ·rw[Ay h]; exact HA hm (by omega) (by omega) (by omega) (by omega) p
 refine⟨8,.agg [.int .i64 (A:Int),.int .i64 (B:Int),.Bh (.own 108002 tB) .u64 (Cg A B fun(i j:Nat)=>HT r c l q m (i:Int) (j:Int))],[108002],?_,Wk.Gt (.cons .int (.cons .int (.cons (.drop _ _ _ _ (zh.2 rfl)) .nil)))⟩;rw[Bc.of.Stack.ev];have n:=of.Stack.outer 8 r c l p q m hA hB (by omega) (F:=fun(i j:Nat)=>HT r c l q m (i:Int) (j:Int)) (fun _ _=>rfl) hp A 0 8 (by omega) (by omega);rw[J0] at n;exact n
theorem of.Mul.inner(N:Nat)(r c:Int)(l:Bb)(p q:Int)(m:Bb){A B:Nat}(hA:A<=6)(hB:B<=6){F:Nat->Nat->Int}(hF:∀i j:Nat,F i j=Fu (Ee c l (i:Int)) (Hw p q m (j:Int))){i:Nat}(hi:i<A)(hp:∀j:Nat,j<B->RI r c l p q m (i:Int) (j:Int)=wg):∀(k j M0 M:Nat),j+k=B->k<M ->
 Bc.of.Mul.L1 N M0 M (A:Int) (B:Int) r c l p q m (i:Int) (i:Int) (j:Int) (Cg i B F++(zg j).map (F i))=Bc.of.Mul.L0 N M0 (A:Int) (B:Int) r c l p q m ((i+1:Nat):Int) (Cg (i+1) B F):=by
 intro k
 induction k with
 | zero =>
   intro j M0 M hj hM;obtain⟨M,rfl⟩:∃G,M=G+1:=⟨M-1,by omega⟩
   obtain rfl:j=B:=by omega
   rw[Bc.of.Mul.BZ,Bw,Ag (by omega),Af,Bq (by omega) (by omega),<- J1];rfl
 | succ k ih =>
   intro j M0 M hj hM;obtain⟨M,rfl⟩:∃G,M=G+1:=⟨M-1,by omega⟩
   have d:decide ((Cg i B F++(zg j).map (F i)).length+1<=GL)=wg:=by refine Ac ?_;have:=A9 (show i<=6 by omega) hB;rw[A5,Ca,AK,AH]; unfold GL; omega
   rw[Bc.of.Mul.BZ,Bw,Ac (by omega),Aa,hp j (by omega),Aa,d,Aa,Bq (by omega) (by omega),<- hF i j];have:=ih (j+1) M0 M (by omega) (by omega);rw[GY,<- yu] at this;exact this
theorem of.Mul.outer(N:Nat)(r c:Int)(l:Bb)(p q:Int)(m:Bb){A B:Nat}(hA:A<=6)(hB:B<=6)(hN:6<N){F:Nat->Nat->Int}(hF:∀i j:Nat,F i j=Fu (Ee c l (i:Int)) (Hw p q m (j:Int)))(hp:∀i j:Nat,i<A->j<B->RI r c l p q m (i:Int) (j:Int)=wg):∀(k i M:Nat),i+k=A->k<M ->
 Bc.of.Mul.L0 N M (A:Int) (B:Int) r c l p q m (i:Int) (Cg i B F)=xM (.agg [.int .i64 (A:Int),.int .i64 (B:Int),.Bh (.own 108002 tB) .u64 (Cg A B F)]):=by
 intro k
 induction k with
 | zero =>
   intro i M hi hM;obtain⟨M,rfl⟩:∃G,M=G+1:=⟨M-1,by omega⟩
   obtain rfl:i=A:=by omega
   rw[Bc.of.Mul.B1,Bw,Ag (by omega),Af]
 | succ k ih =>
   intro i M hi hM;obtain⟨M,rfl⟩:∃G,M=G+1:=⟨M-1,by omega⟩
   have n:=of.Mul.inner N r c l p q m hA hB hF (show i<A by omega) (fun j hj=>hp i j (by omega) hj) B 0 M N (by omega) (by omega);rw[xg,yJ,yF] at n;rw[Bc.of.Mul.B1,Bw,Ac (by omega),Aa];exact n.trans (ih (i+1) M (by omega) (by omega))
theorem Bc.of.Mul.Bi:Kq 55 Bc.of.Mul.Bk:=D6 Bc.of.Mul.E Tryz.func55 (kc Bc.Km.Bi .nil) fun a b r c l p q m hp=>by
 obtain⟨h12,hy⟩:=Bf.1 (show(((Ce a&&Ce b)&&((B5 r c l&&B5 p q m)&&(Bg l&&Bg m)))&&decide (a=r/\b=q/\c=p))=wg from hp);obtain⟨h1,hx⟩:=Bf.1 h12;have h2:=Bf.2 ⟨hx,hy⟩;obtain⟨ha,hb⟩:=Bf.1 h1;obtain⟨A,rfl,hA⟩:=EF ha;obtain⟨B,rfl,hB⟩:=EF hb;obtain⟨h3,he⟩:=Bf.1 h2;obtain⟨h4,h5⟩:=Bf.1 h3;obtain⟨hr,hm⟩:=Bf.1 h4;obtain⟨e1,e2,e3⟩:=A3 he
 have hp:∀i j:Nat,i<A->j<B->RI r c l p q m (i:Int) (j:Int)=wg:=fun i j hi hj =>
  Bf.2 ⟨Bf.2 ⟨Bf.2 ⟨hr,Bt.2 (by omega)⟩,Bf.2 ⟨hm,Bt.2 (by omega)⟩⟩,Bf.2 ⟨h5,Bt.2 e3⟩⟩
 refine⟨8,.agg [.int .i64 (A:Int),.int .i64 (B:Int),.Bh (.own 108002 tB) .u64 (Cg A B fun(i j:Nat)=>Fu (Ee c l (i:Int)) (Hw p q m (j:Int)))],[108002],?_,Wk.Gt (.cons .int (.cons .int (.cons (.drop _ _ _ _ (zh.2 rfl)) .nil)))⟩;rw[Bc.of.Mul.ev];have n:=of.Mul.outer 8 r c l p q m hA hB (by omega) (F:=fun(i j:Nat)=>Fu (Ee c l (i:Int)) (Hw p q m (j:Int))) (fun _ _=>rfl) hp A 0 8 (by omega) (by omega);rw[J0] at n;exact n
def PH(x:MX):DV:=.Cw [.agg [.int .i64 x.1,.int .i64 x.2.1,.Bh .BF .u64 x.2.2.1],.int .i64 x.2.2.2]
def AaT(e:Int):DV:=.Cw [.agg [.int .i64 0,.int .i64 0,.nil],.int .i64 e]
theorem LW{drops:List Nat}{x:MX}:Wk drops (PH x) (PH x) :=Wk.Gx (.cons (Wk.Gt (.cons .int (.cons .int (.cons .Na .nil)))) (.cons .int .nil))
theorem Ig{drops:List Nat}{e:Int}:Wk drops (AaT e) (PH (Gv e)) :=Wk.Gx (.cons (Wk.Gt (.cons .int (.cons .int (.cons (.nil _ _) .nil)))) (.cons .int .nil))
theorem Bc.FE.Bi:Kq 102 Bc.FE.Bk:=D6 Bc.FE.E Tryz.func102 (kc Bc.of.FE.Bi (kc Bc.size.Bi .nil)) fun n _=>by
 show ∃N dv drops,_=xM dv/\Wk drops dv (PH (Ng n));unfold Ng;by_cases h:Ce n=wg
 ·rw[Az h];exact⟨0,_,[],by rw[Bc.FE.ev,h]; rfl,LW⟩
 ·have e:Ce n=wy:=by simpa using h
  rw[Ay h];exact⟨0,_,[],by rw[Bc.FE.ev,e]; rfl,Ig⟩
theorem Fb{r c:Int}{l:Bb}(h:B5 r c l=wg):Ce r=wg/\Ce c=wg:=by obtain⟨h1,h2,_⟩:=Hg.1 h;exact⟨Hz.2 h1,Hz.2 h2⟩
theorem Bc.Du.Bi:Kq 50 Bc.Du.Bk:=D6 Bc.Du.E Tryz.func50 (kc Bc.Check.Bi (kc Bc.of.Du.Bi .nil)) fun r c l _=>by
 show ∃N dv drops,_=xM dv/\Wk drops dv (PH (CG r c l));unfold CG;by_cases h:B5 r c l=wg
 ·obtain⟨h1,h2⟩:=Fb h;rw[Az h];exact⟨0,_,[],by rw[Bc.Du.ev,PX,h,h1,h2,Ac ⟨rfl,rfl⟩]; rfl,LW⟩
 ·have e:B5 r c l=wy:=by simpa using h
  have ec:Ki r c l=1:=by unfold Ki; rw[e]; rfl
  rw[Ay h];exact⟨0,_,[],by rw[Bc.Du.ev,PX,e,ec]; rfl,Ig⟩
theorem VR{r c x y a b:Int}(hr:0<=r/\r<=6)(hc:0<=c/\c<=6):
 ((((((((BI x (0:Int))||(BI y (0:Int)))||(BI a (0:Int)))||(BI b (0:Int)))||(BI r x))||(BI c y))||(BI (Be (r-x)) a))||(BI (Be (c-y)) b))=!(GI r c x y a b):=by
 unfold GI;simp only[Bw];by_cases h:0<=x/\0<=y/\x<=r/\y<=c
 ·rw[Bq (x:=r-x) (by omega) (by omega),Bq (x:=c-y) (by omega) (by omega),Ar];simp only[zN,Ai,Bool.not_eq_true',Av];omega
 ·have e:decide (0<=x/\0<=y/\0<=a/\0<=b/\x<=r/\y<=c/\a<=r-x/\b<=c-y)=wy:=Ag (by omega);rw[e,Ar];simp only[zN,Ai,AZ,iff_true];omega
theorem TQ{r c x y a b:Int}{l:Bb}(h:B5 r c l=wg)(hp:GI r c x y a b=wg):Ce a=wg/\Ce b=wg:=by obtain⟨h1,h2,_⟩:=Hg.1 h;have:=A3 hp;exact⟨Hz.2 (by omega),Hz.2 (by omega)⟩
theorem Bc.Part.Bi:Kq 20 Bc.Part.Bk:=D6 Bc.Part.E Tryz.func20 (kc Bc.Check.Bi (kc Bc.of.Part.Bi .nil)) fun r c l x y a b _=>by
 show ∃N dv drops,_=xM dv/\Wk drops dv (PH (EW r c l x y a b));unfold EW;by_cases h:B5 r c l=wg
 ·obtain⟨h1,h2,_⟩:=Hg.1 h;by_cases hp:GI r c x y a b=wg
  ·obtain⟨s1,s2⟩:=TQ h hp;rw[Az h,Az hp];exact⟨0,_,[],by rw[Bc.Part.ev,PX,VR h1 h2,h,hp,s1,s2]; rfl,LW⟩
  ·have e:GI r c x y a b=wy:=by simpa using hp
   rw[Az h,Ay hp];exact⟨0,_,[],by rw[Bc.Part.ev,PX,VR h1 h2,h,e]; rfl,Ig⟩
 ·have e:B5 r c l=wy:=by simpa using h
  have ec:Ki r c l=1:=by unfold Ki; rw[e]; rfl
  rw[Ay h];exact⟨0,_,[],by rw[Bc.Part.ev,PX,e,ec]; rfl,Ig⟩
theorem KR(r c:Int)(l:Bb)(p q:Int)(m:Bb):((Ru r c l p q m) !=(0:Int))=!(B5 r c l&&B5 p q m):=by unfold Ru;cases B5 r c l&&B5 p q m<;>rfl
theorem Aav{r c:Int}{l:Bb}{p q:Int}{m:Bb}(h:(B5 r c l&&B5 p q m)=wy):Ru r c l p q m=1:=by unfold Ru; rw[h]; rfl
theorem Bc.Mul.Bi:Kq 19 Bc.Mul.Bk:=D6 Bc.Mul.E Tryz.func19 (kc Bc.of.Mul.Bi (kc Bc.two.Bi .nil)) fun r c l p q m hp=>by
 show ∃N dv drops,_=xM dv/\Wk drops dv (PH (E6 r c l p q m));unfold E6;have hp:(Bg l&&Bg m)=wg:=hp;by_cases h:(B5 r c l&&B5 p q m)=wg
 ·obtain⟨h1,h2⟩:=Bf.1 h;by_cases hc:c=p
  ·have e:(c !=p)=wy:=by rw[hc]; simp
   rw[Az h,Az hc];exact⟨0,_,[],by rw[Bc.Mul.ev,KR,h,e,(Fb h1).1,(Fb h2).2,hp,Ac ⟨rfl,rfl,hc⟩]; rfl,LW⟩
  ·have e:(c !=p)=wg:=by simpa using hc
   rw[Az h,Ay hc];exact⟨0,_,[],by rw[Bc.Mul.ev,KR,h,e]; rfl,Ig⟩
 ·have e:(B5 r c l&&B5 p q m)=wy:=by simpa using h
  rw[Ay h];exact⟨0,_,[],by rw[Bc.Mul.ev,KR,e,Aav e]; rfl,Ig⟩
theorem Bc.Stack.Bi:Kq 23 Bc.Stack.Bk:=D6 Bc.Stack.E Tryz.func23 (kc Bc.of.Stack.Bi (kc Bc.two.Bi .nil)) fun r c l p q m _=>by
 show ∃N dv drops,_=xM dv/\Wk drops dv (PH (C6 r c l p q m));unfold C6;by_cases h:(B5 r c l&&B5 p q m)=wg
 ·obtain⟨h1,h2⟩:=Bf.1 h;obtain⟨r1,c1,_⟩:=Hg.1 h1;obtain⟨p1,q1,_⟩:=Hg.1 h2;have ew:Be (r+p)=r+p:=Bq (by omega) (by omega);by_cases hc:c=q/\r+p<=6
  ·have e:((c !=q)||(BI (6:Int) (r+p)))=wy:=by rw[Bw,hc.1]; simp; omega
   rw[Az h,Az hc];exact⟨0,_,[],by rw[Bc.Stack.ev,ew,KR,h,e,(Fb h1).2,Hz.2 (show 0<=r+p/\r+p<=6 by omega),Ac ⟨rfl,rfl,hc.1.symm⟩]; rfl,LW⟩
  ·have e:((c !=q)||(BI (6:Int) (r+p)))=wg:=by rw[Bw]; simp; omega
   rw[Az h,Ay hc];exact⟨0,_,[],by rw[Bc.Stack.ev,ew,KR,h,e]; rfl,Ig⟩
 ·have e:(B5 r c l&&B5 p q m)=wy:=by simpa using h
  rw[Ay h];exact⟨0,_,[],by rw[Bc.Stack.ev,KR,e,Aav e]; rfl,Ig⟩
def B3.Js.E:=E0 []
theorem B3.Js.ev(N:Nat)(r c:Int)(l:Bb):BX B3.Js.E N f13 (Br f13) [.agg [.int .i64 r,.int .i64 c,.Bh .arg .u64 l]]=xM (.bool (cond (bif (cond (bif (Eu 0 r) then (Eu r 6) else wy) (Eu 0 c) wy) then (Eu c 6) else wy) ((vA l:Int)==(Be (r*c))) wy)) :=Et (B4 (L8 (Eu 0 r)) (B4 (Ka (Eu 0 r)) (B4 (Ka (Eu 0 r)) (B4 (Pp (Eu 0 r)) (B4 (AmM (Eu 0 r) (Eu r 6)) (B4 (AfI (Eu 0 r) (Eu r 6)) (B4 (AfI (Eu 0 r) (Eu r 6)) (B4 (AmN (Eu 0 r) (Eu r 6)) (B4 (Aov (Eu 0 r) (Eu r 6) (Eu 0 c)) (B4 (AmO (Eu 0 r) (Eu r 6) (Eu 0 c)) (B4 (AmO (Eu 0 r) (Eu r 6) (Eu 0 c)) (B4 (Aow (Eu 0 r) (Eu r 6) (Eu 0 c)) (B4 (Alm (Eu 0 r) (Eu r 6) (Eu 0 c) (Eu c 6)) (B4 (AiO (Eu 0 r) (Eu r 6) (Eu 0 c) (Eu c 6)) (B4 (AiO (Eu 0 r) (Eu r 6) (Eu 0 c) (Eu c 6)) (B4 (Alm (Eu 0 r) (Eu r 6) (Eu 0 c) (Eu c 6)) (B4 (AiO (Eu 0 r) (Eu r 6) (Eu 0 c) (Eu c 6)) (B4 (Alm (Eu 0 r) (Eu r 6) (Eu 0 c) (Eu c 6)) (B4 (AiO (Eu 0 r) (Eu r 6) (Eu 0 c) (Eu c 6)) (B4 (AmP (Eu 0 r) (Eu r 6) (Eu 0 c) (Eu c 6)) (B4 (AmP (Eu 0 r) (Eu r 6) (Eu 0 c) (Eu c 6)) (B4 (Aox (Eu 0 r) (Eu r 6) (Eu 0 c) (Eu c 6)) rfl))))))))))))))))))))))
def B3.At.E:=E0 []
theorem B3.At.ev(N:Nat)(r c:Int)(l:Bb)(i k:Int):BX B3.At.E N f44 (Br f44) [.agg [.int .i64 r,.int .i64 c,.Bh .arg .u64 l],.int .i64 i,.int .i64 k]=cond ((decide (0<=(Be ((Be (i*c))+k))))&&(decide ((Be ((Be (i*c))+k))<(vA l:Int)))) (xM (.int .u64 (vB l (wz (Be ((Be (i*c))+k))) 0))) xN:=by kernel_rfl
def B3.CF.E:=E0 []
theorem B3.CF.ev(N:Nat)(a b:Int):BX B3.CF.E N f77 (Br f77) [.int .i64 a,.int .i64 b]=cond (((decide ((0:Int)<=(Be (a*b))))&&(decide ((Be (a*b))<=(Be (a*b)))))&&(decide ((Be (a*b))<=GL))) (xM (.agg [.int .i64 a,.int .i64 b,.Bh (.own 10 47) .u64 (List.replicate (wz (Be (a*b))) 0)])) xN:=by kernel_rfl
def B3.Gy.E:=E0 []
theorem B3.Gy.ev(N:Nat)(r c:Int)(l:Bb)(i k b:Int):BX B3.Gy.E N f80 (Br f80) [.agg [.int .i64 r,.int .i64 c,.Bh .arg .u64 l],.int .i64 i,.int .i64 k,.int .u64 b]=cond (decide (0+(vA l)<=GL)) (bif ((decide (0<=(Be ((Be (i*c))+k))))&&(decide ((Be ((Be (i*c))+k))<(vA ([]++l):Int)))) then cond (decide ((wz (Be ((Be (i*c))+k)))<(vA ([]++l)))) (xM (.agg [.int .i64 r,.int .i64 c,.Bh (.own 13 47) .u64 (zw ([]++l) (wz (Be ((Be (i*c))+k))) b)])) xN else xN) xN:=by kernel_rfl
def B3.FE.hint:Nat->Option BH
 | 0=>xM { CH:=[0,2,3,4],BW:=[],Cf:=[2,3] }
 | _=>xN
def B3.FE.E:=CP (CC [(80,B3.Gy.Bk),(77,B3.CF.Bk)]) (fun _=>wy) B3.FE.hint (fun _=>xN)
section
variable(N M:Nat)(n p4:Int)(p3:Bb)
def B3.FE.L0:Option DV:=BU B3.FE.E N f123 (Br f123) [1,1,0,1,0] [] M ⟨EP 18 [(0,.int .i64 n),(2,.ptr 2 0 0),(3,.ptr 3 0 0),(4,.int .i64 p4)],[(2,wy,.box [.int .i64 0,.int .i64 0,.nil]),(3,wy,.box [.int .i64 n,.int .i64 n,.Bh .BF .u64 p3])]⟩
theorem B3.FE.B1:B3.FE.L0 N (M+1) n p4 p3=cond (BI p4 n) (bif (Db n n p3 p4 p4) then B3.FE.L0 N M n (Be (p4+1)) (zw p3 (wz (p4*n+p4)) 4607182418800017408) else xN) (xM (.agg [.int .i64 n,.int .i64 n,.Bh .BF .u64 p3])):=by kernel_rfl
theorem B3.FE.ev:BX B3.FE.E N f123 (Br f123) [.int .i64 n]=cond (Ce n&&Ce n) (B3.FE.L0 N N n 0 (Cg (wz n) (wz n) (fun _ _=>0))) xN:=by kernel_rfl
end
def B3.Row.E:=E0 []
theorem B3.Row.ev(N:Nat)(r c:Int)(l:Bb)(i:Int):BX B3.Row.E N f41 (Br f41) [.agg [.int .i64 r,.int .i64 c,.Bh .arg .u64 l],.int .i64 i]=cond (((decide ((0:Int)<=(Be (i*c))))&&(decide ((Be (i*c))<=(Be ((Be (i+1))*c)))))&&((decide ((0:Int)<=(Be ((Be (i+1))*c))))&&(decide ((Be ((Be (i+1))*c))<=(vA l:Int))))) (xM (.Bh .arg .u64 (zM (wz (Be (i*c))) (zC (wz (Be ((Be (i+1))*c))) l)))) xN :=Et (C0 (AmV _ _ _ _) rfl rfl)
def B3.P7.hint:Nat->Option BH
 | 0=>xM { CH:=[1,3,7,8],BW:=[(0,7,100007,.Bh 47 .u64 [])],Cf:=[3] }
 | _=>xN
def B3.P7.E:=CP (CC [(44,B3.At.Bk)]) (fun _=>wy) B3.P7.hint (fun _=>xN)
section
variable(N M:Nat)(r c:Int)(l:Bb)(k f p8:Int)(p7:Bb)
def B3.P7.L0:Option DV:=BU B3.P7.E N f42 (Br f42) [1,1,0,1,0] [] M ⟨EP 25 [(1,.int .i64 k),(3,.ptr 3 0 0),(7,.De 100007),(8,.int .i64 p8)],[(3,wy,.box [.int .i64 r,.int .i64 c,.Bh .arg .u64 l]),(100007,wy,.Bh 47 .u64 p7)]⟩
theorem B3.P7.B1:B3.P7.L0 N (M+1) r c l k p8 p7=cond (BI p8 r) (bif (Db r c l p8 k) then cond (decide ((vA p7)+1<=GL)) (B3.P7.L0 N M r c l k (Be (p8+1)) (p7++[(Cc c l p8 k)])) xN else xN) (xM (.Bh (.own 100007 47) .u64 p7)):=by kernel_rfl
theorem B3.P7.ev:BX B3.P7.E N f42 (Br f42) [.agg [.int .i64 r,.int .i64 c,.Bh .arg .u64 l],.int .i64 k,.int .i64 f]=
 B3.P7.L0 N N r c l k f []:=by kernel_rfl
end
def B3.Mul.hint:Nat->Option BH
 | 0=>xM { CH:=[2,3,4,5,6],BW:=[],Cf:=[2,3,4,5] }
 | 2=>xM { CH:=[2,3,4,5,6,7],BW:=[],Cf:=[2,3,4,5] }
 | _=>xN
def B3.Mul.E:=CP (CC [(83,Bv.FL.Bk),(42,B3.P7.Bk),(41,B3.Row.Bk),(80,B3.Gy.Bk),(77,B3.CF.Bk)]) (fun _=>wy) B3.Mul.hint (fun _=>xN)
section
variable(N M0 M:Nat)(r c:Int)(l:Bb)(p q:Int)(m:Bb)(p7:Int)(p5:Bb)(p6_1 p6:Int)(p5_1:Bb)
def B3.Mul.L0:Option DV:=BU B3.Mul.E N f28 (Br f28) [1,1,0,1,0] [] M ⟨EP 37 [(2,.ptr 2 0 0),(3,.ptr 3 0 0),(4,.ptr 4 0 0),(5,.ptr 5 0 0),(6,.int .i64 p6)],[(2,wy,.box [.int .i64 r,.int .i64 c,.Bh .arg .u64 l]),(3,wy,.box [.int .i64 p,.int .i64 q,.Bh .arg .u64 m]),(4,wy,.box [.int .i64 0,.int .i64 0,.nil]),(5,wy,.box [.int .i64 r,.int .i64 q,.Bh .BF .u64 p5_1])]⟩
def B3.Mul.L1:Option DV:=BU B3.Mul.E N f28 (Br f28) [1,1,0,1,0,0,1,0,0,1,0] [M0] M ⟨EP 37 [(2,.ptr 2 0 0),(3,.ptr 3 0 0),(4,.ptr 4 0 0),(5,.ptr 5 0 0),(6,.int .i64 p6_1),(7,.int .i64 p7)],[(2,wy,.box [.int .i64 r,.int .i64 c,.Bh .arg .u64 l]),(3,wy,.box [.int .i64 p,.int .i64 q,.Bh .arg .u64 m]),(4,wy,.box [.int .i64 0,.int .i64 0,.nil]),(5,wy,.box [.int .i64 r,.int .i64 q,.Bh .BF .u64 p5])]⟩
theorem B3.Mul.B1:B3.Mul.L0 N (M+1) r c l p q m p6 p5_1=cond (BI p6 r) (B3.Mul.L1 N M N r c l p q m 0 p5_1 p6) (xM (.agg [.int .i64 r,.int .i64 q,.Bh .BF .u64 p5_1])):=by kernel_rfl
theorem B3.Mul.BZ:B3.Mul.L1 N M0 (M+1) r c l p q m p7 p5 p6_1=cond (BI p7 q) (bif (KY r c l p6_1) then cond (EM p q m p7&&CE (0<=(0:Int)/\(0:Int)<=p)) (bif ((NA (Ee c l p6_1) (Cb q m p7 0 (wz (p-0)))&&Bg (Ee c l p6_1))&&Bg (Cb q m p7 0 (wz (p-0)))) then cond (Db r q p5 p6_1 p7) (B3.Mul.L1 N M0 M r c l p q m (Be (p7+1)) (zw p5 (wz (p6_1*q+p7)) (Fu (Ee c l p6_1) (Cb q m p7 0 (wz (p-0))))) p6_1) xN else xN) xN else xN) (B3.Mul.L0 N M0 r c l p q m (Be (p6_1+1)) p5) :=Et (DJ (C0 (Cp _) (C0 (Cp _) (C0 (Cp _) (C0 (Cp _) rfl rfl) rfl) rfl) rfl) rfl)
theorem B3.Mul.ev:BX B3.Mul.E N f28 (Br f28) [.agg [.int .i64 r,.int .i64 c,.Bh .arg .u64 l],.agg [.int .i64 p,.int .i64 q,.Bh .arg .u64 m]]=cond (Ce r&&Ce q) (B3.Mul.L0 N N r c l p q m 0 (Cg (wz r) (wz q) (fun _ _=>0))) xN:=by kernel_rfl
end
def B3.Du.hint:Nat->Option BH
 | 0=>xM { CH:=[1,2,3,4],BW:=[],Cf:=[1,2,3] }
 | 2=>xM { CH:=[1,2,3,4,5],BW:=[],Cf:=[1,2,3] }
 | _=>xN
def B3.Du.E:=CP (CC [(44,B3.At.Bk),(80,B3.Gy.Bk),(77,B3.CF.Bk)]) (fun _=>wy) B3.Du.hint (fun _=>xN)
section
variable(N M0 M:Nat)(r c:Int)(l:Bb)(p5:Int)(p3:Bb)(p4_1 p4:Int)(p3_1:Bb)
def B3.Du.L0:Option DV:=BU B3.Du.E N f29 (Br f29) [1,1,0,1,0] [] M ⟨EP 32 [(1,.ptr 1 0 0),(2,.ptr 2 0 0),(3,.ptr 3 0 0),(4,.int .i64 p4)],[(1,wy,.box [.int .i64 r,.int .i64 c,.Bh .arg .u64 l]),(2,wy,.box [.int .i64 0,.int .i64 0,.nil]),(3,wy,.box [.int .i64 c,.int .i64 r,.Bh .BF .u64 p3_1])]⟩
def B3.Du.L1:Option DV:=BU B3.Du.E N f29 (Br f29) [1,1,0,1,0,0,1,0,0,1,0] [M0] M ⟨EP 32 [(1,.ptr 1 0 0),(2,.ptr 2 0 0),(3,.ptr 3 0 0),(4,.int .i64 p4_1),(5,.int .i64 p5)],[(1,wy,.box [.int .i64 r,.int .i64 c,.Bh .arg .u64 l]),(2,wy,.box [.int .i64 0,.int .i64 0,.nil]),(3,wy,.box [.int .i64 c,.int .i64 r,.Bh .BF .u64 p3])]⟩
theorem B3.Du.B1:B3.Du.L0 N (M+1) r c l p4 p3_1=cond (BI p4 r) (B3.Du.L1 N M N r c l 0 p3_1 p4) (xM (.agg [.int .i64 c,.int .i64 r,.Bh .BF .u64 p3_1])):=by kernel_rfl
theorem B3.Du.BZ:B3.Du.L1 N M0 (M+1) r c l p5 p3 p4_1=cond (BI p5 c) (bif (Db r c l p4_1 p5) then cond (Db c r p3 p5 p4_1) (B3.Du.L1 N M0 M r c l (Be (p5+1)) (zw p3 (wz (p5*r+p4_1)) (Cc c l p4_1 p5)) p4_1) xN else xN) (B3.Du.L0 N M0 r c l (Be (p4_1+1)) p3) :=Et (DJ (C0 (Cp _) (C0 (Cp _) rfl rfl) rfl) rfl)
theorem B3.Du.ev:BX B3.Du.E N f29 (Br f29) [.agg [.int .i64 r,.int .i64 c,.Bh .arg .u64 l]]=cond (Ce c&&Ce r) (B3.Du.L0 N N r c l 0 (Cg (wz c) (wz r) (fun _ _=>0))) xN:=by kernel_rfl
end
def B3.Part.hint:Nat->Option BH
 | 0=>xM { CH:=[1,2,3,4,5,10,11,12],BW:=[],Cf:=[5,10,11] }
 | 2=>xM { CH:=[1,2,3,4,5,10,11,12,13],BW:=[],Cf:=[5,10,11] }
 | _=>xN
def B3.Part.E:=CP (CC [(44,B3.At.Bk),(80,B3.Gy.Bk),(77,B3.CF.Bk)]) (fun _=>wy) B3.Part.hint (fun _=>xN)
section
variable(N M0 M:Nat)(r c:Int)(l:Bb)(x y a b p13:Int)(p11:Bb)(p12_1 p12:Int)(p11_1:Bb)
def B3.Part.L0:Option DV:=BU B3.Part.E N f71 (Br f71) [1,1,0,1,0] [] M ⟨EP 40 [(1,.int .i64 x),(2,.int .i64 y),(3,.int .i64 a),(4,.int .i64 b),(5,.ptr 5 0 0),(10,.ptr 10 0 0),(11,.ptr 11 0 0),(12,.int .i64 p12)],[(5,wy,.box [.int .i64 r,.int .i64 c,.Bh .arg .u64 l]),(10,wy,.box [.int .i64 0,.int .i64 0,.nil]),(11,wy,.box [.int .i64 a,.int .i64 b,.Bh .BF .u64 p11_1])]⟩
def B3.Part.L1:Option DV:=BU B3.Part.E N f71 (Br f71) [1,1,0,1,0,0,1,0,0,1,0] [M0] M ⟨EP 40 [(1,.int .i64 x),(2,.int .i64 y),(3,.int .i64 a),(4,.int .i64 b),(5,.ptr 5 0 0),(10,.ptr 10 0 0),(11,.ptr 11 0 0),(12,.int .i64 p12_1),(13,.int .i64 p13)],[(5,wy,.box [.int .i64 r,.int .i64 c,.Bh .arg .u64 l]),(10,wy,.box [.int .i64 0,.int .i64 0,.nil]),(11,wy,.box [.int .i64 a,.int .i64 b,.Bh .BF .u64 p11])]⟩
theorem B3.Part.B1:B3.Part.L0 N (M+1) r c l x y a b p12 p11_1=cond (BI p12 a) (B3.Part.L1 N M N r c l x y a b 0 p11_1 p12) (xM (.agg [.int .i64 a,.int .i64 b,.Bh .BF .u64 p11_1])):=by kernel_rfl
theorem B3.Part.BZ:B3.Part.L1 N M0 (M+1) r c l x y a b p13 p11 p12_1=cond (BI p13 b) (bif (Db r c l (Be (x+p12_1)) (Be (y+p13))) then cond (Db a b p11 p12_1 p13) (B3.Part.L1 N M0 M r c l x y a b (Be (p13+1)) (zw p11 (wz (p12_1*b+p13)) (Cc c l (Be (x+p12_1)) (Be (y+p13)))) p12_1) xN else xN) (B3.Part.L0 N M0 r c l x y a b (Be (p12_1+1)) p11) :=Et (DJ (C0 (Cp _) (C0 (Cp _) rfl rfl) rfl) rfl)
theorem B3.Part.ev:BX B3.Part.E N f71 (Br f71) [.agg [.int .i64 r,.int .i64 c,.Bh .arg .u64 l],.int .i64 x,.int .i64 y,.int .i64 a,.int .i64 b]=cond (Ce a&&Ce b) (B3.Part.L0 N N r c l x y a b 0 (Cg (wz a) (wz b) (fun _ _=>0))) xN:=by kernel_rfl
end
abbrev B3.Gy.arg.Kn:Prop:=DR prog 80 B3.Gy.arg.Bk
abbrev B3.FE.arg.Kn:Prop:=DR prog 123 B3.FE.arg.Bk
theorem B3.Js.Bi:Kq 13 B3.Js.Bk:=D6 B3.Js.E Tryz.func13 .nil fun r c l _=>by
 refine⟨0,B3.Js.out [.i r,.i c,.l l],[],?_,.bool⟩
 have e:(cond (bif (cond (bif (Eu (0:Int) r) then (Eu r (6:Int)) else wy) (Eu (0:Int) c) wy) then (Eu c (6:Int)) else wy) ((vA l:Int)==(Be (r*c))) wy)=B5 r c l:=by
  have:=ZS r c l
  have h:(cond (bif (cond (bif (Eu (0:Int) r) then (Eu r (6:Int)) else wy) (Eu (0:Int) c) wy) then (Eu c (6:Int)) else wy) ((vA l:Int)==(Be (r*c))) wy)=!(((!(Ce r))||(!(Ce c)))||((vA l:Int) !=(Be (r*c)))):=by unfold Ce bne;rw[DX,DX,DX,DX];cases decide (0<=r)<;>cases decide (r<=6)<;>cases decide (0<=c)<;>cases decide (c<=6)<;>cases ((vA l:Int)==(Be (r*c)))<;>rfl
  rw[h,this,Bool.not_not]
 rw[B3.Js.ev,e]; rfl
theorem B3.At.Bi:Kq 44 B3.At.Bk:=D6 B3.At.E Tryz.func44 .nil fun r c l i k hp=>by obtain⟨e,h1,h2⟩:=GR (R:=r) (show Db r c l i k=wg from hp);refine⟨0,B3.At.out [.i r,.i c,.l l,.i i,.i k],[],?_,.int⟩;rw[B3.At.ev,e,Ac h1,Ac h2];rfl
theorem Tp{drops:List Nat}{i:Nat}{e:TypeId}{a b:Int}{l:Bb}(h:i∈drops):Wk drops (.agg [.int .i64 a,.int .i64 b,.Bh (.own i e) .u64 l]) (.agg [.int .i64 a,.int .i64 b,.Bh .BF .u64 l]) :=Wk.Gt (.cons .int (.cons .int (.cons (.drop _ _ _ _ h) .nil)))
theorem Qe{drops:List Nat}{a b:Int}{l:Bb}:Wk drops (.agg [.int .i64 a,.int .i64 b,.Bh .BF .u64 l]) (.agg [.int .i64 a,.int .i64 b,.Bh .BF .u64 l]) :=Wk.Gt (.cons .int (.cons .int (.cons .Na .nil)))
theorem B3.CF.Bi:Kq 77 B3.CF.Bk:=D6 B3.CF.E Tryz.func77 .nil fun a b hp=>by
 obtain⟨ha,hb⟩:=Bf.1 (show(Ce a&&Ce b)=wg from hp);obtain⟨A,rfl,hA⟩:=EF ha;obtain⟨B,rfl,hB⟩:=EF hb;have hm:=IB (a:=(A:Int)) (b:=(B:Int)) (by omega) (by omega) (by omega) (by omega);have e:((A:Int)*(B:Int)).toNat=A*B:=by rw[<- Ax,Ad]
 refine⟨0,.agg [.int .i64 (A:Int),.int .i64 (B:Int),.Bh (.own 10 tB) .u64 (Cg A B fun _ _=>0)],[10],?_,Tp (zh.2 rfl)⟩;rw[B3.CF.ev,Bq (by omega) (by omega),Ac hm.1,Ac (Int.le_refl _),Ac (show(A:Int)*(B:Int)<=(GL:Int) by unfold GL; omega),e,U5];rfl
theorem B3.Gy.Bi:Kq 80 B3.Gy.Bk:=D6 B3.Gy.E Tryz.func80 .nil fun r c l i k b hp=>by obtain⟨_,_,_,_,_,_,_,h8⟩:=Bt.1 (show Db r c l i k=wg from hp);obtain⟨e,g1,g2⟩:=GR (R:=r) (show Db r c l i k=wg from hp);refine⟨0,.agg [.int .i64 r,.int .i64 c,.Bh (.own 13 tB) .u64 (zw l (i*c+k).toNat b)],[13],?_,Tp (zh.2 rfl)⟩;rw[B3.Gy.ev,e,List.nil_append,Ac (show 0+l.length<=GL by unfold GL; omega),Ac g1,Ac g2,Ac (show(i*c+k).toNat<l.length by omega)];rfl
theorem UM{r c i k:Nat}(hk:k<c){d d':Nat->Nat->Bool}{f:Nat->Nat->Int}{x:Int}(hx:x=f i k)
 (h:∀a b,a<r->b<c->(d' a b=wg↔d a b=wg\/(a=i/\b=k))):
 zw (Cg r c fun a b=>if d a b=wg then f a b else 0) (wz ((i:Int)*(c:Int)+(k:Int))) x=Cg r c fun a b=>if d' a b=wg then f a b else 0:=by
 have e:((i:Int)*(c:Int)+(k:Int)).toNat=i*c+k:=by rw[<- Ax,<- Int.natCast_add,Ad]
 rw[e,QS hk];refine Dv fun a b ha hb=>?_
 have h:=h a b ha hb;by_cases hab:a=i/\b=k
 ·rw[Az hab,Az (h.2 (.inr hab)),hx,hab.1,hab.2]
 ·rw[Ay hab];by_cases hd:d a b=wg
  ·rw[Az hd,Az (h.2 (.inl hd))]
  ·rw[Ay hd,Ay (fun k=>(h.1 k).elim hd hab)]
theorem Xr(N:Nat){R C K f:Nat}{l:Bb}(r6:R<=6)(c6:C<=6)(hl:l.length=R*C)(hk:K<C):∀(k i F:Nat),f+i+k=R->k<F ->
 B3.P7.L0 N F (R:Int) (C:Int) l (K:Int) ((f+i:Nat):Int) (Cb (C:Int) l (K:Int) (f:Int) i)=xM (.Bh (.own 100007 tB) .u64 (Cb (C:Int) l (K:Int) (f:Int) (R-f))):=by
 intro k
 induction k with
 | zero =>
   intro i F hi hF;obtain⟨F,rfl⟩:∃G,F=G+1:=⟨F-1,by omega⟩
   rw[B3.P7.B1,Bw,Ag (by omega),Af,show R-f=i by omega]
 | succ k ih =>
   intro i F hi hF;obtain⟨F,rfl⟩:∃G,F=G+1:=⟨F-1,by omega⟩
   have d:decide ((Cb (C:Int) l (K:Int) (f:Int) i).length+1<=GL)=wg:=Ac (by rw[FO]; unfold GL; omega);rw[B3.P7.B1,Bw,Ac (by omega),Aa,Dl r6 c6 hl (show f+i<R by omega) hk,Aa,d,Aa,Bq (by omega) (by omega)];have:=ih (i+1) F (by omega) (by omega);unfold Cb at this ⊢;rw[List.range_succ,List.map_append] at this;exact this
theorem B3.P7.Bi:Kq 42 B3.P7.Bk:=D6 B3.P7.E Tryz.func42 (kc B3.At.Bi .nil) fun r c l k f hp=>by
 obtain⟨h0,hf⟩:=Bf.1 (show(EM r c l k&&CE (0<=f/\f<=r))=wg from hp);have hf:=Bt.1 hf;obtain⟨hr,hi⟩:=Bf.1 h0;have hi:=Bt.1 hi;obtain⟨R,C,rfl,rfl,r6,c6,hl⟩:=CU hr;obtain⟨K,rfl⟩:∃j:Nat,k=j:=⟨k.toNat,by omega⟩
 obtain⟨f,rfl⟩:∃j:Nat,f=j:=⟨f.toNat,by omega⟩
 refine⟨8,.Bh (.own 100007 tB) .u64 (Cb (C:Int) l (K:Int) (f:Int) (R-f)),[100007],?_,?_⟩
 ·rw[B3.P7.ev];exact Xr 8 r6 c6 hl (by omega) (R-f) 0 8 (by omega) (by omega)
 ·show Wk _ _ (DV.Bh .BF .u64 (Cb (C:Int) l (K:Int) (f:Int) (wz ((R:Int)-(f:Int)))));rw[show wz ((R:Int)-(f:Int))=R-f by omega];exact .drop _ _ _ _ (zh.2 rfl)
theorem B3.Row.Bi:Kq 41 B3.Row.Bk:=D6 B3.Row.E Tryz.func41 .nil fun r c l i hp=>by
 obtain⟨hr,hi⟩:=Bf.1 (show KY r c l i=wg from hp);have hi:=Bt.1 hi;obtain⟨R,C,rfl,rfl,r6,c6,hl⟩:=CU hr;obtain⟨I,rfl⟩:∃k:Nat,i=k:=⟨i.toNat,by omega⟩
 have hm:=IB (a:=(I:Int)) (b:=(C:Int)) (by omega) (by omega) (by omega) (by omega);have hm2:=IB (a:=(I:Int)+1) (b:=(C:Int)) (by omega) (by omega) (by omega) (by omega);have hle:(I+1)*C<=R*C:=An C (by omega);have hle2:I*C<=(I+1)*C:=An C (by omega);have e1:(I:Int)*(C:Int)=((I*C:Nat):Int):=(Ax _ _).symm;have e2:((I:Int)+1)*(C:Int)=(((I+1)*C:Nat):Int):=by rw[Ax]; rfl
 refine⟨0,B3.Row.out [.i (R:Int),.i (C:Int),.l l,.i (I:Int)],[],?_,.Sd⟩;rw[B3.Row.ev,Bq (x:=(I:Int)+1) (by omega) (by omega),Bq (x:=(I:Int)*(C:Int)) (by omega) (by omega),Bq (x:=((I:Int)+1)*(C:Int)) (by omega) (by omega)];have d1:decide ((0:Int)<=(I:Int)*(C:Int))=wg:=Ac (by omega);have d2:decide ((I:Int)*(C:Int)<=((I:Int)+1)*(C:Int))=wg:=Ac (by rw[e1,e2]; omega);have d3:decide ((0:Int)<=((I:Int)+1)*(C:Int))=wg:=Ac (by omega);have d4:decide (((I:Int)+1)*(C:Int)<=(l.length:Int))=wg:=Ac (by rw[e2]; omega);rw[d1,d2,d3,d4];rfl
def dR(i k a b:Nat):Bool:=decide (a<i\/(a=i/\b<k))
def dC(i k a b:Nat):Bool:=decide (b<i\/(b=i/\a<k))
def fill(r c:Nat)(f:Nat->Nat->Int)(d:Nat->Nat->Bool):Bb:=Cg r c fun a b=>if d a b=wg then f a b else 0
theorem LQ(r c:Nat)(f:Nat->Nat->Int)(d:Nat->Nat->Bool):(fill r c f d).length=r*c:=Ca _ _ _
theorem QW{r c i k:Nat}(hk:k<c){d d':Nat->Nat->Bool}{f:Nat->Nat->Int}{x:Int}(hx:x=f i k)(h:∀a b,a<r->b<c->(d' a b=wg↔d a b=wg\/(a=i/\b=k))):
 zw (fill r c f d) (wz ((i:Int)*(c:Int)+(k:Int))) x=fill r c f d':=UM hk hx h
theorem PS{r c:Nat}{f:Nat->Nat->Int}{d d':Nat->Nat->Bool}(h:∀a b,a<r->b<c->(d a b=wg↔d' a b=wg)):fill r c f d=fill r c f d':=by
 refine Dv fun a b ha hb=>?_
 have:=h a b ha hb;by_cases hd:d a b=wg
 ·rw[Az hd,Az (this.1 hd)]
 ·rw[Ay hd,Ay (fun k=>hd (this.2 k))]
theorem UB{r c:Nat}{f:Nat->Nat->Int}{d:Nat->Nat->Bool}(h:∀a b,a<r->b<c->d a b=wg):fill r c f d=Cg r c f :=Dv fun a b ha hb=>by rw[Az (h a b ha hb)]
theorem OU{r c:Nat}{f:Nat->Nat->Int}{d:Nat->Nat->Bool}(h:∀a b,a<r->b<c->¬d a b=wg):fill r c f d=Cg r c fun _ _=>0 :=Dv fun a b ha hb=>by rw[Ay (h a b ha hb)]
theorem XR.inner(N:Nat){R C Q:Nat}{l:Bb}{p:Int}{m:Bb}(h6:R<=6/\C<=6/\Q<=6)(hl:l.length=R*C)(hr:B5 (R:Int) (C:Int) l=wg)(hm:B5 p (Q:Int) m=wg)(ep:p=(C:Int))(al:Bg l=wg)(am:Bg m=wg){F:Nat->Nat->Int}(hF:F=fun(i j:Nat)=>Fu (Ee (C:Int) l (i:Int)) (Hw p (Q:Int) m (j:Int))){i:Nat}(hi:i<R):∀(k j M0 M:Nat),j+k=Q->k<M ->
 B3.Mul.L1 N M0 M (R:Int) (C:Int) l p (Q:Int) m (j:Int) (fill R Q F (dR i j)) (i:Int)=B3.Mul.L0 N M0 (R:Int) (C:Int) l p (Q:Int) m ((i+1:Nat):Int) (fill R Q F (dR (i+1) 0)):=by
 intro k
 induction k with
 | zero =>
   intro j M0 M hj hM;obtain⟨M,rfl⟩:∃G,M=G+1:=⟨M-1,by omega⟩
   have e:fill R Q F (dR i j)=fill R Q F (dR (i+1) 0):=PS fun a b ha hb=>by simp only[dR,Ai]; omega
   rw[B3.Mul.BZ,Bw,Ag (by omega),Af,Bq (by omega) (by omega),e];rfl
 | succ k ih =>
   intro j M0 M hj hM;obtain⟨M,rfl⟩:∃G,M=G+1:=⟨M-1,by omega⟩
   have c1:KY (R:Int) (C:Int) l (i:Int)=wg:=Bf.2 ⟨hr,Bt.2 (by omega)⟩;have c2:EM p (Q:Int) m (j:Int)=wg:=Bf.2 ⟨hm,Bt.2 (by omega)⟩;have c3:NA (Ee (C:Int) l (i:Int)) (Hw p (Q:Int) m (j:Int))=wg:=OT.2 ⟨by rw[KX hl hi,ep,UO],by rw[KX hl hi]; omega⟩;have c9:Db (R:Int) (Q:Int) (fill R Q F (dR i j)) (i:Int) (j:Int)=wg:=Dl (by omega) (by omega) (LQ _ _ _ _) (by omega) (by omega);rw[B3.Mul.BZ,Bw,Ac (by omega),Aa,c1,Aa,c2,Tn (show 0<=p by omega),Ah,Aa,Adk,c3,Acw al,Adl am,Ah,Ah,Aa,c9,Aa,Bq (x:=(j:Int)+1) (by omega) (by omega),QW (d':=dR i (j+1)) (by omega) (by rw[hF]) (fun a b ha hb=>by simp only[dR,Ai]; omega)];exact ih (j+1) M0 M (by omega) (by omega)
theorem XR.outer(N:Nat)(hN:6<N){R C Q:Nat}{l:Bb}{p:Int}{m:Bb}(h6:R<=6/\C<=6/\Q<=6)(hl:l.length=R*C)(hr:B5 (R:Int) (C:Int) l=wg)(hm:B5 p (Q:Int) m=wg)(ep:p=(C:Int))(al:Bg l=wg)(am:Bg m=wg){F:Nat->Nat->Int}(hF:F=fun(i j:Nat)=>Fu (Ee (C:Int) l (i:Int)) (Hw p (Q:Int) m (j:Int))):∀(k i M:Nat),i+k=R->k<M ->
 B3.Mul.L0 N M (R:Int) (C:Int) l p (Q:Int) m (i:Int) (fill R Q F (dR i 0))=xM (.agg [.int .i64 (R:Int),.int .i64 (Q:Int),.Bh .BF .u64 (Cg R Q F)]):=by
 intro k
 induction k with
 | zero =>
   intro i M hi hM;obtain⟨M,rfl⟩:∃G,M=G+1:=⟨M-1,by omega⟩
   rw[B3.Mul.B1,Bw,Ag (by omega),Af,UB (fun a b ha hb=>by simp only[dR,Ai]; omega)]
 | succ k ih =>
   intro i M hi hM;obtain⟨M,rfl⟩:∃G,M=G+1:=⟨M-1,by omega⟩
   have n:=XR.inner N h6 hl hr hm ep al am hF (show i<R by omega) Q 0 M N (by omega) (by omega);rw[B3.Mul.B1,Bw,Ac (by omega),Aa];exact n.trans (ih (i+1) M (by omega) (by omega))
theorem UD.inner(N:Nat){r c x y:Int}{l:Bb}{A B:Nat}(h6:A<=6/\B<=6)(hr:B5 r c l=wg)(hp:GI r c x y (A:Int) (B:Int)=wg){F:Nat->Nat->Int}(hF:F=fun(i j:Nat)=>Cc c l (x+(i:Int)) (y+(j:Int))){i:Nat}(hi:i<A):∀(k j M0 M:Nat),j+k=B->k<M ->
 B3.Part.L1 N M0 M r c l x y (A:Int) (B:Int) (j:Int) (fill A B F (dR i j)) (i:Int)=B3.Part.L0 N M0 r c l x y (A:Int) (B:Int) ((i+1:Nat):Int) (fill A B F (dR (i+1) 0)):=by
 intro k
 induction k with
 | zero =>
   intro j M0 M hj hM;obtain⟨M,rfl⟩:∃G,M=G+1:=⟨M-1,by omega⟩
   have e:fill A B F (dR i j)=fill A B F (dR (i+1) 0):=PS fun a b ha hb=>by simp only[dR,Ai]; omega
   rw[B3.Part.BZ,Bw,Ag (by omega),Af,Bq (by omega) (by omega),e];rfl
 | succ k ih =>
   intro j M0 M hj hM;obtain⟨M,rfl⟩:∃G,M=G+1:=⟨M-1,by omega⟩
   have hs:=Hg.1 hr;have hq:=A3 hp;have c1:Db r c l (x+(i:Int)) (y+(j:Int))=wg:=HA hr (by omega) (by omega) (by omega) (by omega) r;have c9:Db (A:Int) (B:Int) (fill A B F (dR i j)) (i:Int) (j:Int)=wg:=Dl (by omega) (by omega) (LQ _ _ _ _) (by omega) (by omega);rw[B3.Part.BZ,Bw,Ac (by omega),Aa,Bq (x:=x+(i:Int)) (by omega) (by omega),Bq (x:=y+(j:Int)) (by omega) (by omega),c1,Aa,c9,Aa,Bq (x:=(j:Int)+1) (by omega) (by omega),QW (d':=dR i (j+1)) (by omega) (by rw[hF]) (fun a b ha hb=>by simp only[dR,Ai]; omega)];exact ih (j+1) M0 M (by omega) (by omega)
theorem UD.outer(N:Nat)(hN:6<N){r c x y:Int}{l:Bb}{A B:Nat}(h6:A<=6/\B<=6)(hr:B5 r c l=wg)(hp:GI r c x y (A:Int) (B:Int)=wg){F:Nat->Nat->Int}(hF:F=fun(i j:Nat)=>Cc c l (x+(i:Int)) (y+(j:Int))):∀(k i M:Nat),i+k=A->k<M ->
 B3.Part.L0 N M r c l x y (A:Int) (B:Int) (i:Int) (fill A B F (dR i 0))=xM (.agg [.int .i64 (A:Int),.int .i64 (B:Int),.Bh .BF .u64 (Cg A B F)]):=by
 intro k
 induction k with
 | zero =>
   intro i M hi hM;obtain⟨M,rfl⟩:∃G,M=G+1:=⟨M-1,by omega⟩
   rw[B3.Part.B1,Bw,Ag (by omega),Af,UB (fun a b ha hb=>by simp only[dR,Ai]; omega)]
 | succ k ih =>
   intro i M hi hM;obtain⟨M,rfl⟩:∃G,M=G+1:=⟨M-1,by omega⟩
   have n:=UD.inner N h6 hr hp hF (show i<A by omega) B 0 M N (by omega) (by omega);rw[B3.Part.B1,Bw,Ac (by omega),Aa];exact n.trans (ih (i+1) M (by omega) (by omega))
theorem UC.inner(N:Nat){R C:Nat}{l:Bb}(h6:R<=6/\C<=6)(hl:l.length=R*C){F:Nat->Nat->Int}(hF:F=fun(i j:Nat)=>Cc (C:Int) l (j:Int) (i:Int)){i:Nat}(hi:i<R):∀(k j M0 M:Nat),j+k=C->k<M ->
 B3.Du.L1 N M0 M (R:Int) (C:Int) l (j:Int) (fill C R F (dC i j)) (i:Int)=B3.Du.L0 N M0 (R:Int) (C:Int) l ((i+1:Nat):Int) (fill C R F (dC (i+1) 0)):=by
 intro k
 induction k with
 | zero =>
   intro j M0 M hj hM;obtain⟨M,rfl⟩:∃G,M=G+1:=⟨M-1,by omega⟩
   have e:fill C R F (dC i j)=fill C R F (dC (i+1) 0):=PS fun a b ha hb=>by simp only[dC,Ai]; omega
   rw[B3.Du.BZ,Bw,Ag (by omega),Af,Bq (by omega) (by omega),e];rfl
 | succ k ih =>
   intro j M0 M hj hM;obtain⟨M,rfl⟩:∃G,M=G+1:=⟨M-1,by omega⟩
   have c1:Db (R:Int) (C:Int) l (i:Int) (j:Int)=wg:=Dl h6.1 h6.2 hl hi (by omega);have c9:Db (C:Int) (R:Int) (fill C R F (dC i j)) (j:Int) (i:Int)=wg:=Dl (by omega) (by omega) (LQ _ _ _ _) (by omega) (by omega);rw[B3.Du.BZ,Bw,Ac (by omega),Aa,c1,Aa,c9,Aa,Bq (x:=(j:Int)+1) (by omega) (by omega),QW (d':=dC i (j+1)) (by omega) (by rw[hF]) (fun a b ha hb=>by simp only[dC,Ai]; omega)];exact ih (j+1) M0 M (by omega) (by omega)
theorem UC.outer(N:Nat)(hN:6<N){R C:Nat}{l:Bb}(h6:R<=6/\C<=6)(hl:l.length=R*C){F:Nat->Nat->Int}(hF:F=fun(i j:Nat)=>Cc (C:Int) l (j:Int) (i:Int)):∀(k i M:Nat),i+k=R->k<M ->
 B3.Du.L0 N M (R:Int) (C:Int) l (i:Int) (fill C R F (dC i 0))=xM (.agg [.int .i64 (C:Int),.int .i64 (R:Int),.Bh .BF .u64 (Cg C R F)]):=by
 intro k
 induction k with
 | zero =>
   intro i M hi hM;obtain⟨M,rfl⟩:∃G,M=G+1:=⟨M-1,by omega⟩
   rw[B3.Du.B1,Bw,Ag (by omega),Af,UB (fun a b ha hb=>by simp only[dC,Ai]; omega)]
 | succ k ih =>
   intro i M hi hM;obtain⟨M,rfl⟩:∃G,M=G+1:=⟨M-1,by omega⟩
   have n:=UC.inner N h6 hl hF (show i<R by omega) C 0 M N (by omega) (by omega);rw[B3.Du.B1,Bw,Ac (by omega),Aa];exact n.trans (ih (i+1) M (by omega) (by omega))
theorem B3.Du.Bi:Kq 29 B3.Du.Bk:=D6 B3.Du.E Tryz.func29 (kc B3.At.Bi (kc B3.Gy.Bi (kc B3.CF.Bi .nil))) fun r c l hp=>by have hr:B5 r c l=wg:=hp;obtain⟨R,C,rfl,rfl,r6,c6,hl⟩:=CU hr;refine⟨8,.agg [.int .i64 (C:Int),.int .i64 (R:Int),.Bh .BF .u64 (Cg C R fun(i j:Nat)=>Cc (C:Int) l (j:Int) (i:Int))],[],?_,Qe⟩;have n:=UC.outer 8 (by omega) ⟨r6,c6⟩ hl rfl R 0 8 (by omega) (by omega);rw[OU (fun a b ha hb=>by simp only[dC,Ai]; omega)] at n;rw[B3.Du.ev,O3 r6,O3 c6,Ah,Aa,Ad,Ad];exact n
theorem B3.Part.Bi:Kq 71 B3.Part.Bk:=D6 B3.Part.E Tryz.func71 (kc B3.At.Bi (kc B3.Gy.Bi (kc B3.CF.Bi .nil))) fun r c l x y a b hp=>by obtain⟨hr,hq⟩:=Bf.1 (show(B5 r c l&&GI r c x y a b)=wg from hp);obtain⟨s1,s2⟩:=TQ hr hq;obtain⟨A,rfl,hA⟩:=EF s1;obtain⟨B,rfl,hB⟩:=EF s2;refine⟨8,.agg [.int .i64 (A:Int),.int .i64 (B:Int),.Bh .BF .u64 (Cg A B fun(i j:Nat)=>Cc c l (x+(i:Int)) (y+(j:Int)))],[],?_,Qe⟩;have n:=UD.outer 8 (by omega) ⟨hA,hB⟩ hr hq rfl A 0 8 (by omega) (by omega);rw[OU (fun a b ha hb=>by simp only[dR,Ai]; omega)] at n;rw[B3.Part.ev,s1,s2,Ah,Aa,Ad,Ad];exact n
theorem B3.Mul.Bi:Kq 28 B3.Mul.Bk:=D6 B3.Mul.E Tryz.func28 (kc Bv.FL.Bi (kc B3.P7.Bi (kc B3.Row.Bi (kc B3.Gy.Bi (kc B3.CF.Bi .nil))))) fun r c l p q m hp=>by obtain⟨h1,h2⟩:=Bf.1 (show((B5 r c l&&B5 p q m)&&((Bg l&&Bg m)&&decide (c=p)))=wg from hp);obtain⟨hr,hm⟩:=Bf.1 h1;obtain⟨h3,h4⟩:=Bf.1 h2;obtain⟨al,am⟩:=Bf.1 h3;have ec:=A3 h4;obtain⟨R,C,rfl,rfl,r6,c6,hl⟩:=CU hr;obtain⟨P,Q,rfl,rfl,p6,q6,_⟩:=CU hm;refine⟨8,.agg [.int .i64 (R:Int),.int .i64 (Q:Int),.Bh .BF .u64 (Cg R Q fun(i j:Nat)=>Fu (Ee (C:Int) l (i:Int)) (Hw (P:Int) (Q:Int) m (j:Int)))],[],?_,Qe⟩;have n:=XR.outer 8 (by omega) ⟨r6,c6,q6⟩ hl hr hm ec.symm al am rfl R 0 8 (by omega) (by omega);rw[OU (fun a b ha hb=>by simp only[dR,Ai]; omega)] at n;rw[B3.Mul.ev,O3 r6,O3 q6,Ah,Aa,Ad,Ad];exact n
theorem Akj(N:Nat){n:Nat}(h6:n<=6):∀(k i M:Nat),i+k=n->k<M ->
 B3.FE.L0 N M (n:Int) (i:Int) (fill n n (fun(a b:Nat)=>Hc (a:Int) (b:Int)) fun a b=>decide (a=b/\a<i))=xM (.agg [.int .i64 (n:Int),.int .i64 (n:Int),.Bh .BF .u64 (Cg n n fun(a b:Nat)=>Hc (a:Int) (b:Int))]):=by
 intro k
 induction k with
 | zero =>
   intro i M hi hM;obtain⟨M,rfl⟩:∃G,M=G+1:=⟨M-1,by omega⟩
   have e:fill n n (fun(a b:Nat)=>Hc (a:Int) (b:Int)) (fun a b=>decide (a=b/\a<i))=Cg n n fun(a b:Nat)=>Hc (a:Int) (b:Int):=by
    refine Dv fun a b ha hb=>?_
    by_cases h:a=b
    ·rw[Az (Ac ⟨h,by omega⟩)]
    ·rw[Ay (fun k=>h (A3 k).1)];unfold Hc;rw[Ay (by omega)]
   rw[B3.FE.B1,Bw,Ag (by omega),Af,e]
 | succ k ih =>
   intro i M hi hM;obtain⟨M,rfl⟩:∃G,M=G+1:=⟨M-1,by omega⟩
   have c9:Db (n:Int) (n:Int) (fill n n (fun(a b:Nat)=>Hc (a:Int) (b:Int)) fun a b=>decide (a=b/\a<i)) (i:Int) (i:Int)=wg:=Dl h6 h6 (LQ _ _ _ _) (by omega) (by omega);have one:(4607182418800017408:Int)=(fun(a b:Nat)=>Hc (a:Int) (b:Int)) i i:=(Az rfl).symm;rw[B3.FE.B1,Bw,Ac (by omega),Aa,c9,Aa,Bq (by omega) (by omega),QW (d':=fun a b=>decide (a=b/\a<i+1)) (by omega) one (fun a b ha hb=>by simp only[Ai]; omega)];exact ih (i+1) M (by omega) (by omega)
theorem B3.FE.Bi:Kq 123 B3.FE.Bk:=D6 B3.FE.E Tryz.func123 (kc B3.Gy.Bi (kc B3.CF.Bi .nil)) fun n hp=>by have hp:Ce n=wg:=hp;obtain⟨n,rfl,h6⟩:=EF hp;refine⟨8,.agg [.int .i64 (n:Int),.int .i64 (n:Int),.Bh .BF .u64 (Cg n n fun(a b:Nat)=>Hc (a:Int) (b:Int))],[],?_,Qe⟩;have e:=Akj 8 h6 n 0 8 (by omega) (by omega);rw[OU (fun a b ha hb=>by simp only[Ai]; omega)] at e;rw[B3.FE.ev,hp,Ah,Aa,Ad];exact e
def B7.Cy.hint:Nat->Option BH
 | 0=>xM { CH:=[5,6,7],BW:=[],Cf:=[] }
 | _=>xN
def B7.Cy.E:=CP (CC [(133,soft.Kind.Bk)]) (fun _=>wy) B7.Cy.hint (fun _=>xN)
section
variable(N M:Nat)(x:Bb)(p7:Int)
def B7.Cy.L0:Option DV:=BU B7.Cy.E N f153 (Br f153) [1,0,1,0] [] M ⟨EP 15 [(5,.Bh .arg .u64 x),(6,.int .i64 (vA x:Int)),(7,.int .i64 p7)],[]⟩
theorem B7.Cy.B1:B7.Cy.L0 N (M+1) x p7=cond (BI p7 (vA x:Int)) (bif ((decide (0<=p7))&&(decide (p7<(vA x:Int)))) then cond (Bo (vB x (wz p7) 0)) (bif ((B8 (vB x (wz p7) 0)) !=(0:Int)) then xM (.bool wy) else B7.Cy.L0 N M x (Be (p7+1))) xN else xN) (xM (.bool wg)):=by kernel_rfl
theorem B7.Cy.ev:BX B7.Cy.E N f153 (Br f153) [.Bh .arg .u64 x]=
 B7.Cy.L0 N N x 0:=by kernel_rfl
end
def B7.lead.hint:Nat->Option BH
 | 0=>xM { CH:=[5,6,7],BW:=[],Cf:=[] }
 | _=>xN
def B7.lead.E:=CP (CC [(133,soft.Kind.Bk)]) (fun _=>wy) B7.lead.hint (fun _=>xN)
section
variable(N M:Nat)(x:Bb)(p7:Int)
def B7.lead.L0:Option DV:=BU B7.lead.E N f160 (Br f160) [1,0,1,0] [] M ⟨EP 16 [(5,.Bh .arg .u64 x),(6,.int .i64 (vA x:Int)),(7,.int .i64 p7)],[]⟩
theorem B7.lead.B1:B7.lead.L0 N (M+1) x p7=cond (BI p7 (vA x:Int)) (bif ((decide (0<=p7))&&(decide (p7<(vA x:Int)))) then cond (Bo (vB x (wz p7) 0)) (bif ((B8 (vB x (wz p7) 0)) !=(0:Int)) then xM (.int .u64 (vB x (wz p7) 0)) else B7.lead.L0 N M x (Be (p7+1))) xN else xN) (xM (.int .u64 0)):=by kernel_rfl
theorem B7.lead.ev:BX B7.lead.E N f160 (Br f160) [.Bh .arg .u64 x]=
 B7.lead.L0 N N x 0:=by kernel_rfl
end
def B7.Eo.hint:Nat->Option BH
 | 0=>xM { CH:=[1,5,8,9,10],BW:=[(0,5,100005,.Bh 47 .u64 [])],Cf:=[] }
 | _=>xN
def B7.Eo.E:=CP (CC [(106,Bu.Ct.Bk)]) (fun _=>wy) B7.Eo.hint (fun _=>xN)
section
variable(N M:Nat)(x:Bb)(k p10:Int)(p5:Bb)
def B7.Eo.L0:Option DV:=BU B7.Eo.E N f157 (Br f157) [1,1,0,1,0] [] M ⟨EP 22 [(1,.int .i64 k),(5,.De 100005),(8,.Bh .arg .u64 x),(9,.int .i64 (vA x:Int)),(10,.int .i64 p10)],[(100005,wy,.Bh 47 .u64 p5)]⟩
theorem B7.Eo.B1:B7.Eo.L0 N (M+1) x k p10 p5=cond (BI p10 (vA x:Int)) (bif ((decide (0<=p10))&&(decide (p10<(vA x:Int)))) then cond (D1 (vB x (wz p10) 0) k) (bif (decide ((vA p5)+1<=GL)) then B7.Eo.L0 N M x k (Be (p10+1)) (p5++[(BP (vB x (wz p10) 0) k)]) else xN) xN else xN) (xM (.Bh (.own 100005 47) .u64 p5)):=by kernel_rfl
theorem B7.Eo.ev:BX B7.Eo.E N f157 (Br f157) [.Bh .arg .u64 x,.int .i64 k]=
 B7.Eo.L0 N N x k 0 []:=by kernel_rfl
end
def B7.Ic.E:=E0 []
theorem B7.Ic.ev(N:Nat)(i:Int):BX B7.Ic.E N f155 (Br f155) [.int .i64 i]=xM (.int .u64 0):=by kernel_rfl
def B7.Ib.E:=E0 [(139,Bu.Div.Bk)]
theorem B7.Ib.ev(N:Nat)(i:Int)(y:Bb)(d:Int):BX B7.Ib.E N f161 (Br f161) [.int .i64 i,.CQ [.Bh .arg .u64 y],.CQ [.int .u64 d]]=cond ((decide (0<=i))&&(decide (i<(vA y:Int)))) (bif (Bo (vB y (wz i) 0)&&Bo d) then xM (.int .u64 (El (vB y (wz i) 0) d)) else xN) xN :=Et (C0 (I1 _ _) (C0 (Cp _) rfl rfl) rfl)
def B7.row.Zero.hint:Nat->Option BH
 | 0=>xM { CH:=[0,1,5,6],BW:=[(0,5,100005,.Bh 47 .u64 [])],Cf:=[] }
 | _=>xN
def B7.row.Zero.E:=CP (CC [(155,B7.Ic.Bk)]) (fun _=>wy) B7.row.Zero.hint (fun _=>xN)
section
variable(N M:Nat)(n p6:Int)(p5:Bb)
def B7.row.Zero.L0:Option DV:=BU B7.row.Zero.E N f154 (Br f154) [1,1,0,1,0] [] M ⟨EP 23 [(0,.int .i64 n),(1,.fn 155 [] []),(5,.De 100005),(6,.int .i64 p6)],[(100005,wy,.Bh 47 .u64 p5)]⟩
theorem B7.row.Zero.B1:B7.row.Zero.L0 N (M+1) n p6 p5=cond (BI p6 n) (bif (decide ((vA p5)+1<=GL)) then B7.row.Zero.L0 N M n (Be (p6+1)) (p5++[(0:Int)]) else xN) (bif (((decide ((0:Int)<=n))&&(decide (n<=n)))&&((decide ((0:Int)<=n))&&(decide (n<=(vA p5:Int))))) then xM (.Bh .BF .u64 (zC (wz (n-0)) (zM 0 p5))) else xN) :=Et (DJ rfl (C0 (Alk _ _ _) rfl rfl))
theorem B7.row.Zero.ev:BX B7.row.Zero.E N f154 (Br f154) [.int .i64 n,.fn 155 [] []]=
 B7.row.Zero.L0 N N n 1 [(4607182418800017408:Int)]:=by kernel_rfl
end
def B7.row.Div.hint:Nat->Option BH
 | 0=>xM { CH:=[0,1,5,6],BW:=[(0,5,100005,.Bh 47 .u64 [])],Cf:=[] }
 | _=>xN
def B7.row.Div.E:=CP (CC [(161,B7.Ib.Bk)]) (fun _=>wy) B7.row.Div.hint (fun _=>xN)
section
variable(N M:Nat)(n:Int)(y:Bb)(d p6:Int)(p5:Bb)
def B7.row.Div.L0:Option DV:=BU B7.row.Div.E N f154 (Br f154) [1,1,0,1,0] [] M ⟨EP 23 [(0,.int .i64 n),(1,.fn 161 [] [.CQ [.Bh .arg .u64 y],.CQ [.int .u64 d]]),(5,.De 100005),(6,.int .i64 p6)],[(100005,wy,.Bh 47 .u64 p5)]⟩
theorem B7.row.Div.B1:B7.row.Div.L0 N (M+1) n y d p6 p5=cond (BI p6 n) (bif ((CE (0<=p6/\p6<vA y)&&Bg y)&&Bo d) then cond (decide ((vA p5)+1<=GL)) (B7.row.Div.L0 N M n y d (Be (p6+1)) (p5++[(El (vB y (wz p6) 0) d)])) xN else xN) (bif (((decide ((0:Int)<=n))&&(decide (n<=n)))&&((decide ((0:Int)<=n))&&(decide (n<=(vA p5:Int))))) then xM (.Bh .BF .u64 (zC (wz (n-0)) (zM 0 p5))) else xN) :=Et (DJ rfl (C0 (Alk _ _ _) rfl rfl))
theorem B7.row.Div.ev:BX B7.row.Div.E N f154 (Br f154) [.int .i64 n,.fn 161 [] [.CQ [.Bh .arg .u64 y],.CQ [.int .u64 d]]]=
 B7.row.Div.L0 N N n y d 1 [(4607182418800017408:Int)]:=by kernel_rfl
end
def B7.En.E:=E0 [(156,compare.N8.Bk),(160,B7.lead.Bk),(153,B7.Cy.Bk),(154,(Amr [.i .i64,.fn 155 []] B7.row.Zero.Bk B7.row.Div.Bk)),(157,B7.Eo.Bk),(99,soft.Finite.Bk),(142,soft.DO.Bk),(159,soft.Sign.Bk),(107,Bu.Cu.Bk),(139,Bu.Div.Bk),(104,Bu.Finite.Bk),(158,Bu.Norm.Bk),(106,Bu.Ct.Bk),(64,Bu.Sub.Bk)]
theorem B7.En.ev(N:Nat)(x:Bb):BX B7.En.E N f134 (Br f134) [.Bh .arg .u64 x]=cond (((vA x:Int)==(0:Int))||(BI 64 (vA x:Int))) (some (.Cw [.nil,.int .u64 0,.int .u64 0,.int .i64 3])) (bif (CW x) then cond (!(Dc x)) (some (.Cw [.nil,.int .u64 0,.int .u64 0,.int .i64 4])) (bif (decide ((1:Int)<=(vA x:Int))) then cond (CW (zM 1 x)) (bif (CX (zM 1 x)) then cond (CE (1<=(vA x:Int)/\(vA x:Int)<=64)) (bif (decide ((0:Int)<(vA x:Int))) then some (.Cw [.Bh .BF .u64 (Gc (wz (vA x:Int)) (fun _=>0)),.int .u64 0,.int .u64 (vB x 0 0),.int .i64 0]) else xN) xN else bif (CW x) then cond (Bo (BA x)) (bif (CW x&&CE (vA x<=1000/\-2300<=(Be (0-(BK (BA x))))/\(Be (0-(BK (BA x))))<=2300)) then cond (CW (BM x (Be (0-(BK (BA x)))))&&CE (vA (BM x (Be (0-(BK (BA x)))))<=64)) (bif (CW x) then cond (Bo (IK x)) (bif (!(DI (IK x))) then cond (Bo (CB (BM x (Be (0-(BK (BA x))))))) (bif (D1 (CM (CB (BM x (Be (0-(BK (BA x))))))) (BK (BA x))) then cond (Bo (BP (CM (CB (BM x (Be (0-(BK (BA x))))))) (BK (BA x)))) (bif (!(CO (BP (CM (CB (BM x (Be (0-(BK (BA x))))))) (BK (BA x))))) then xM (.Cw [.nil,.int .u64 0,.int .u64 0,.int .i64 2]) else bif (decide ((0:Int)<(vA (BM x (Be (0-(BK (BA x))))):Int))) then cond (Bo (vB (BM x (Be (0-(BK (BA x))))) 0 0)&&Bo (CM (CB (BM x (Be (0-(BK (BA x)))))))) (bif ((CE (1<=(vA (BM x (Be (0-(BK (BA x))))):Int)/\(vA (BM x (Be (0-(BK (BA x))))):Int)<=64/\(vA (BM x (Be (0-(BK (BA x))))):Int)=vA (BM x (Be (0-(BK (BA x))))))&&Bg (BM x (Be (0-(BK (BA x))))))&&Bo (CA (vB (BM x (Be (0-(BK (BA x))))) 0 0) (CM (CB (BM x (Be (0-(BK (BA x))))))))) then cond (decide ((0:Int)<(vA (BM x (Be (0-(BK (BA x))))):Int))) (bif (Bo (CM (CB (BM x (Be (0-(BK (BA x)))))))&&Bo (vB (BM x (Be (0-(BK (BA x))))) 0 0)) then cond (Bo (CA (CM (CB (BM x (Be (0-(BK (BA x))))))) (vB (BM x (Be (0-(BK (BA x))))) 0 0))&&Bo (CM (CB (BM x (Be (0-(BK (BA x)))))))) (xM (.Cw [.Bh .BF .u64 (Gc (wz (vA (BM x (Be (0-(BK (BA x))))):Int)) (fun j=>El (vB (BM x (Be (0-(BK (BA x))))) j 0) (CA (vB (BM x (Be (0-(BK (BA x))))) 0 0) (CM (CB (BM x (Be (0-(BK (BA x)))))))))),.int .u64 (El (CA (CM (CB (BM x (Be (0-(BK (BA x))))))) (vB (BM x (Be (0-(BK (BA x))))) 0 0)) (CM (CB (BM x (Be (0-(BK (BA x)))))))),.int .u64 (BP (CM (CB (BM x (Be (0-(BK (BA x))))))) (BK (BA x))),.int .i64 0])) xN else xN) xN else xN) xN else xN) xN else xN) xN else bif (D1 (CB (BM x (Be (0-(BK (BA x)))))) (BK (BA x))) then cond (Bo (BP (CB (BM x (Be (0-(BK (BA x)))))) (BK (BA x)))) (bif (!(CO (BP (CB (BM x (Be (0-(BK (BA x)))))) (BK (BA x))))) then xM (.Cw [.nil,.int .u64 0,.int .u64 0,.int .i64 2]) else bif (decide ((0:Int)<(vA (BM x (Be (0-(BK (BA x))))):Int))) then cond (Bo (vB (BM x (Be (0-(BK (BA x))))) 0 0)&&Bo (CB (BM x (Be (0-(BK (BA x))))))) (bif ((CE (1<=(vA (BM x (Be (0-(BK (BA x))))):Int)/\(vA (BM x (Be (0-(BK (BA x))))):Int)<=64/\(vA (BM x (Be (0-(BK (BA x))))):Int)=vA (BM x (Be (0-(BK (BA x))))))&&Bg (BM x (Be (0-(BK (BA x))))))&&Bo (CA (vB (BM x (Be (0-(BK (BA x))))) 0 0) (CB (BM x (Be (0-(BK (BA x)))))))) then cond (decide ((0:Int)<(vA (BM x (Be (0-(BK (BA x))))):Int))) (bif (Bo (CB (BM x (Be (0-(BK (BA x))))))&&Bo (vB (BM x (Be (0-(BK (BA x))))) 0 0)) then cond (Bo (CA (CB (BM x (Be (0-(BK (BA x)))))) (vB (BM x (Be (0-(BK (BA x))))) 0 0))&&Bo (CB (BM x (Be (0-(BK (BA x))))))) (xM (.Cw [.Bh .BF .u64 (Gc (wz (vA (BM x (Be (0-(BK (BA x))))):Int)) (fun j=>El (vB (BM x (Be (0-(BK (BA x))))) j 0) (CA (vB (BM x (Be (0-(BK (BA x))))) 0 0) (CB (BM x (Be (0-(BK (BA x))))))))),.int .u64 (El (CA (CB (BM x (Be (0-(BK (BA x)))))) (vB (BM x (Be (0-(BK (BA x))))) 0 0)) (CB (BM x (Be (0-(BK (BA x))))))),.int .u64 (BP (CB (BM x (Be (0-(BK (BA x)))))) (BK (BA x))),.int .i64 0])) xN else xN) xN else xN) xN else xN) xN else xN) xN else xN) xN else xN) xN else xN) xN else xN) else xN):=
 Et (B4 (O1 ((vA x:Int)==(0:Int))) (B4 (Nx ((vA x:Int)==(0:Int))) (B4 (Nx ((vA x:Int)==(0:Int))) (B4 (SM ((vA x:Int)==(0:Int))) (C0 (tt5 _ _) rfl (DJ (DJ rfl (C0 (Aou _) (DJ (DJ (C0 (Cp _) (C0 (Cp _) rfl rfl) rfl) rfl) rfl) rfl)) rfl))))))
def B7.Apply.hint:Nat->Option BH
 | 0=>xM { CH:=[1,3,4,5,10,13,14],BW:=[(14,2,114002,.Bh 47 .u64 [])],Cf:=[5,10,13] }
 | 2=>xM { CH:=[1,3,4,5,10,13,14,18,90,91,92],BW:=[(14,2,114002,.Bh 47 .u64 [])],Cf:=[5,10,13] }
 | _=>xN
def B7.Apply.E:=CP (CC [(60,Bc.Check.Bk),(59,Bc.EB.Bk),(57,Bu.FL.Bk),(115,Bu.Mul.Bk),(64,Bu.Sub.Bk)]) (fun _=>wy) B7.Apply.hint (fun _=>xN)
section
variable(N M0 M:Nat)(r c:Int)(l:Bb)(i k:Int)(v:Bb)(t p92:Int)(p2:Bb)(p14_1 p18:Int)(p90:Bb)(p91 p14:Int)(p2_1:Bb)
def B7.Apply.L0:Option DV:=BU B7.Apply.E N f103 (Br f103) [1,1,1,1,0,1,0] [] M ⟨EP 118 [(1,.int .i64 i),(3,.Bh .arg .u64 v),(4,.int .u64 t),(5,.ptr 5 0 0),(10,.ptr 10 0 0),(13,.ptr 13 0 0),(14,.int .i64 p14)],[(5,wy,.box [.int .i64 r,.int .i64 c,.Bh .arg .u64 l]),(10,wy,.box [.int .i64 0,.int .i64 0,.nil]),(13,wy,.box [.int .i64 r,.int .i64 c,.De 114002]),(114002,wy,.Bh 47 .u64 p2_1)]⟩
def B7.Apply.L1:Option DV:=BU B7.Apply.E N f103 (Br f103) [1,1,1,1,0,1,0,0,1,0,0,1,1,1,1,0] [M0] M ⟨EP 118 [(1,.int .i64 i),(3,.Bh .arg .u64 v),(4,.int .u64 t),(5,.ptr 5 0 0),(10,.ptr 10 0 0),(13,.ptr 13 0 0),(14,.int .i64 p14_1),(18,.int .u64 p18),(90,.Bh .BF .u64 p90),(91,.int .i64 p91),(92,.int .i64 p92)],[(5,wy,.box [.int .i64 r,.int .i64 c,.Bh .arg .u64 l]),(10,wy,.box [.int .i64 0,.int .i64 0,.nil]),(13,wy,.box [.int .i64 r,.int .i64 c,.De 114002]),(114002,wy,.Bh 47 .u64 p2)]⟩
theorem B7.Apply.B1:B7.Apply.L0 N (M+1) r c l i v t p14 p2_1=cond (BI p14 c) (bif (EM r c l p14&&CE (0<=i/\i<=r)) then cond (((decide ((0:Int)<=(vA v:Int)))&&(decide ((vA v:Int)<=(vA v:Int))))&&((decide ((0:Int)<=(vA v:Int)))&&(decide ((vA v:Int)<=(vA (Cb c l p14 i (wz (r-i))):Int))))) (bif ((NA v (zC (wz (vA v:Int)) (Cb c l p14 i (wz (r-i))))&&Bg v)&&Bg (zC (wz (vA v:Int)) (Cb c l p14 i (wz (r-i))))) then cond (Bo t&&Bo (Fu v (zC (wz (vA v:Int)) (Cb c l p14 i (wz (r-i)))))) (B7.Apply.L1 N M N r c l i v t 0 p2_1 p14 (CN t (Fu v (zC (wz (vA v:Int)) (Cb c l p14 i (wz (r-i)))))) (zC (wz (vA v:Int)) (Cb c l p14 i (wz (r-i)))) (vA (zC (wz (vA v:Int)) (Cb c l p14 i (wz (r-i)))):Int)) xN else xN) xN else xN) (xM (.Cw [.agg [.int .i64 r,.int .i64 c,.Bh (.own 114002 47) .u64 p2_1],.int .i64 0])) :=Et (DJ (DJ (C0 (Alk _ _ _) rfl rfl) rfl) rfl)
theorem B7.Apply.BZ:B7.Apply.L1 N M0 (M+1) r c l i v t p92 p2 p14_1 p18 p90 p91=cond (BI p92 p91) (bif ((decide (0<=p92))&&(decide (p92<(vA p90:Int)))) then cond ((decide (0<=p92))&&(decide (p92<(vA v:Int)))) (bif (Bo p18&&Bo (vB v (wz p92) 0)) then cond (Bo (vB p90 (wz p92) 0)&&Bo (CN p18 (vB v (wz p92) 0))) (bif ((decide (0<=(Be ((Be ((Be (i+p92))*c))+p14_1))))&&(decide ((Be ((Be ((Be (i+p92))*c))+p14_1))<(vA p2:Int)))) then cond (decide ((wz (Be ((Be ((Be (i+p92))*c))+p14_1)))<(vA p2))) (B7.Apply.L1 N M0 M r c l i v t (Be (p92+1)) (zw p2 (wz (Be ((Be ((Be (i+p92))*c))+p14_1))) (CA (vB p90 (wz p92) 0) (CN p18 (vB v (wz p92) 0)))) p14_1 p18 p90 p91) xN else xN) xN else xN) xN else xN) (B7.Apply.L0 N M0 r c l i v t (Be (p14_1+1)) p2) :=Et (DJ (DJ (C0 (I1 _ _) (C0 (Cp _) (C0 (Cp _) (C0 (I1 _ _) (C0 (Cp _) rfl rfl) rfl) rfl) rfl) rfl) rfl) rfl)
theorem B7.Apply.ev:BX B7.Apply.E N f103 (Br f103) [.agg [.int .i64 r,.int .i64 c,.Bh .arg .u64 l],.int .i64 i,.int .i64 k,.Bh .arg .u64 v,.int .u64 t]=cond ((Ki r c l) !=(0:Int)) (xM (.Cw [.agg [.int .i64 0,.int .i64 0,.nil],.int .i64 (Ki r c l)])) (bif (((((BI i 0)||(BI r (vA v:Int)))||(BI (Be (r-(vA v:Int))) i))||(BI k 0))||(BI c k)) then xM (.Cw [.agg [.int .i64 0,.int .i64 0,.nil],.int .i64 3]) else bif (decide (0+(vA l)<=GL)) then B7.Apply.L0 N N r c l i v t k ([]++l) else xN) :=Et (DJ rfl (B4 (O1 (BI i 0)) (B4 (Nx (BI i 0)) (B4 (O1 (BI i 0)) (B4 (Nx (BI i 0)) (B4 (tt8 (BI i 0)) (B4 (SM (BI i 0)) (B4 (Ad7 (BI i 0) (BI r (vA v:Int))) (B4 (Ad7 (BI i 0) (BI r (vA v:Int))) (B4 (AfJ (BI i 0) (BI r (vA v:Int))) (B4 (Ad7 (BI i 0) (BI r (vA v:Int))) (B4 (AfJ (BI i 0) (BI r (vA v:Int))) (B4 (Alj (BI i 0) (BI r (vA v:Int))) (B4 (Alj (BI i 0) (BI r (vA v:Int))) (B4 (Aln (BI i 0) (BI r (vA v:Int))) (B4 (Alo (BI i 0) (BI r (vA v:Int)) (BI (Be (r-(vA v:Int))) i)) (B4 (AfK (BI i 0) (BI r (vA v:Int)) (BI (Be (r-(vA v:Int))) i)) (B4 (Alp (BI i 0) (BI r (vA v:Int)) (BI (Be (r-(vA v:Int))) i)) (B4 (AfL (BI i 0) (BI r (vA v:Int)) (BI (Be (r-(vA v:Int))) i) (BI k 0)) (B4 (AfL (BI i 0) (BI r (vA v:Int)) (BI (Be (r-(vA v:Int))) i) (BI k 0)) (B4 (AfM (BI i 0) (BI r (vA v:Int)) (BI (Be (r-(vA v:Int))) i) (BI k 0)) (B4 (AmQ (BI i 0) (BI r (vA v:Int)) (BI (Be (r-(vA v:Int))) i) (BI k 0)) (B4 (Alq (BI i 0) (BI r (vA v:Int)) (BI (Be (r-(vA v:Int))) i) (BI k 0)) (C0 (Aot _ _ _ _ _) rfl (C0 (Cp _) rfl rfl)))))))))))))))))))))))))
end
end Go.Proofs.S1
end
