/- A verified evaluator of the program's form and its use for this seat: S1PRefB, S1PRefBa, S1EqRefC, S1PRefC, S1PRefCa, S1EqRefE, S1PRefV, S1EqCmp, S1PCmp, S1PDiv, S1EqRoot, S1PRoot, S1PRootA, LdxL, S1EqLdx, S1PLdx, S1PLdxA, S1EqRef08, S1EqRef13, S1PRef08, S1EqHouse, S1PHouse, S1PApply, S1EqSol, S1PTri, S1EqFew. -/
import Derived.Test.YthajngaadbanfaaGreatTI
import Derived.Test.YthajngaadbanfaaGreatTE
import Derived.Test.YthajngaadbanfaaGreatTF
set_option linter.unusedVariables false
set_option linter.unusedSimpArgs false
open Option renaming some->wM,none->wN
open Bool renaming true->wc,false->wh
open Int renaming toNat->wi
open List renaming length->wj,getD->vC
open List renaming length_cons->zj,replicate->zo,nil_append->zZ,length_drop->zO,drop->zL,all_cons->yV,take->zG,set->zJ,take_of_length_le->yB
open Nat renaming div_le_self->yx,pow_succ->zD,log2_self_le->zY,mul_zero->yk,div_one->yE,le_log2->zM,lt_trans->y5,mod_lt->zt,mul_div_mul_right->xV,mul_div_cancel->xW
open Int renaming tmod->zw,tdiv->zq,zero_mul->ym,mul_assoc->wL,natAbs_mul->yj,natAbs_natCast->zS,natAbs_neg->xm,lt_trichotomy->x6,lt_or_le->xB
open Bool renaming false_and->zV,and_eq_false_iff->xD,or_eq_false_iff->yD
noncomputable section
open Go.Proofs.Tryz
namespace Go.Proofs.S1
open Go Go.Den Go.Cn Go.Proofs
theorem Bo.Hv.Bp:Kq 161 Bo.Hv.Bu:=E1 Bo.Hv.E Tryz.func161 (kc Bo.Made.Bp (kc Bo.plus.Bp .nil)) fun n a hp=>by obtain⟨v,rfl,rfl,hv⟩:=HC hp;refine⟨0,Bo.Hv.out [.b (BB v),.l (Bk v)],[],?_,Vs⟩;have o1:G9 (Bk v)=wc:=Lr (by omega);have o3:G9 (HV (Bk v) (Bk v))=wc:=Ip (by rw[LG,CE]; omega) (SH _ _);rw[Bo.Hv.ev,o1,o3,Ah,Aa,Aa,Adz rfl];show _=wM (DV.agg [.bool (BB (2*wv (BB v) (Bk v))),.Bj .arg .u32 (Bk (2*wv (BB v) (Bk v)))]);rw[EB,Int.two_mul]
theorem Ajc(l:Bf)(y x:Int)(r:Bf):∀i,i=l.length->(l++y::r).set i x=l++x::r:=by
 induction l with
 | nil=>intro i h; subst h; rfl
 | cons z l ih =>
   intro i h;obtain⟨j,rfl⟩:∃j,i=j+1:=⟨i-1,by rw[zj] at h; omega⟩
   show z::(l++y::r).set j x=z::(l++x::r);rw[ih j (by rw[zj] at h; omega)]
theorem AcO(N:Nat){v:Int}(hv:D0 v.natAbs<268435456):∀(k i F:Nat),i+k=D0 v.natAbs->k<F ->
 Bo.I6.L0 N F (BB v) (Bk v) (i:Int) (digits i (v.natAbs / 2)++zo k 0)=wM (.agg [.bool (BB (IB v 1)),.Bj .arg .u32 (Bk (IB v 1))]):=by
 have o1:G9 (Bk v)=wc:=Lr (by omega);have ia:=Fy v;intro k
 induction k with
 | zero =>
   intro i F hi hF;obtain⟨F,rfl⟩:∃G,F=G+1:=⟨F-1,by omega⟩
   have t0:decide ((i:Int)<((Bk v).length:Int))=wh:=Ag (by rw[CE]; omega);rw[List.replicate_zero,List.append_nil,Bo.I6.B7,B8,t0,Af];have o3:G9 (digits i (v.natAbs / 2))=wc:=Ip (by rw[DZ]; omega) (JT _ _)
   have e:wv (BB v) (digits i (v.natAbs / 2))=IB v 1:=by unfold wv IB;rw[HR,Ao,Nat.pow_one];have:=It v.natAbs;rw[show i=D0 v.natAbs by omega];exact AK (yx _ _) this
   rw[o3,Aa,e]
 | succ k ih =>
   intro i F hi hF;obtain⟨F,rfl⟩:∃G,F=G+1:=⟨F-1,by omega⟩
   have hlen:(digits i (v.natAbs / 2)++zo (k+1) (0:Int)).length=i+(k+1):=by rw[A8,DZ,List.length_replicate]
   have t0:decide ((i:Int)<((Bk v).length:Int))=wc:=Ac (by rw[CE]; omega);have t1:decide ((0:Int)<=(i:Int))=wc:=Ac (by omega);have t2:decide ((i:Int)<((digits i (v.natAbs / 2)++zo (k+1) (0:Int)).length:Int))=wc:=Ac (by rw[hlen]; omega);have t3:decide (i<(digits i (v.natAbs / 2)++zo (k+1) (0:Int)).length)=wc:=Ac (by rw[hlen]; omega);have e0:Bh ((i:Int)+1)=((i+1:Nat):Int):=by rw[Bz (by omega) (by omega)]; omega
   rw[Bo.I6.B7,B8,t0,o1,Ad,t1,t2,t3,Ah];simp only[Aa];rw[e0,Gs ia,Gs ia,DQ];have ih:=ih (i+1) F (by omega) (by omega);rw[Ic,A9,A0 2,<- A9] at ih;rw[J0,A0 4294967296,<- A9,List.replicate_succ,Ajc _ _ _ _ i (DZ _ _).symm];rw[List.append_assoc] at ih;generalize v.natAbs / 2^(32*i)=x at *
   have e1:zw ((x / 4294967296%4294967296:Nat):Int) 2=((x / 4294967296%4294967296%2:Nat):Int):=H0 _ 2
   have e2:BU (BU (((x / 4294967296%4294967296%2:Nat):Int)*4294967296)+((x%4294967296:Nat):Int))=((x / 4294967296%4294967296%2*4294967296+x%4294967296:Nat):Int):=by rw[Dk (x:=((x / 4294967296%4294967296%2:Nat):Int)*4294967296) (by omega) (by omega),Dk (by omega) (by omega)]; omega
   have e3:zq ((x / 4294967296%4294967296%2*4294967296+x%4294967296:Nat):Int) 2=(((x / 4294967296%4294967296%2*4294967296+x%4294967296) / 2:Nat):Int):=H2 _ 2;have e4:(x / 4294967296%4294967296%2*4294967296+x%4294967296) / 2=x / 2%4294967296:=by omega
   rw[e1,e2,e3,e4,Dk (by omega) (by omega),Hx (by omega) (by omega)];exact ih
theorem Bo.I6.Bp:Kq 106 Bo.I6.Bu:=E1 Bo.I6.E Tryz.func106 (kc Bo.Made.Bp (kc Bo.Kl.Bp .nil)) fun n a hp=>by obtain⟨v,rfl,rfl,hv⟩:=HC hp;refine⟨D0 v.natAbs+1,Bo.I6.out [.b (BB v),.l (Bk v)],[],?_,Vs⟩;show _=wM (DV.agg [.bool (BB (IB (wv (BB v) (Bk v)) 1)),.Bj .arg .u32 (Bk (IB (wv (BB v) (Bk v)) 1))]);rw[Bo.I6.ev,EB,CE,Ac (by omega),Ac (by omega),Ac (by unfold GK; omega),Ah,Ah,Aa,Ad];have h:=AcO (D0 v.natAbs+1) hv (D0 v.natAbs) 0 (D0 v.natAbs+1) (by omega) (by omega);rw[digits,zZ] at h;exact h
def YB(v:Int):Option DV:=wM (.agg [.bool (BB v),.Bj .arg .u32 (Bk v)])
theorem PJ(v:Int):BH (0:Int) ((Bk v).length:Int)=decide (v≠0):=by
 rw[B8,CE,decide_eq_decide];constructor
 ·intro h e;rw[e] at h;exact absurd h (by decide)
 ·intro h;have:=H6 (n:=v.natAbs) (by omega);omega
theorem AiW(N:Nat):∀(j F:Nat) (v:Int),j<F->j<2000000->D0 v.natAbs<268435456->Bo.CF.L3 N F (-(j:Int)) (BB v) (Bk v)=YB (IB v j):=by
 intro j
 induction j with
 | zero =>
   intro F v hF _ hv;obtain⟨F,rfl⟩:∃G,F=G+1:=⟨F-1,by omega⟩
   rw[Bo.CF.Ob,B8,Ag (by omega),zV,Af,Xs];rfl
 | succ j ih =>
   intro F v hF hj hv;obtain⟨F,rfl⟩:∃G,F=G+1:=⟨F-1,by omega⟩
   rw[Bo.CF.Ob,B8,Ac (by omega),AW,PJ];by_cases h0:v=0
   ·rw[Ag (by omega),Af,h0,NC];rfl
   ·rw[Ac h0,Aa,Gq hv,Aa,EB,Bz (by omega) (by omega)];have e:-((j+1:Nat):Int)+1=-(j:Int):=by omega
    have hl:D0 (IB v 1).natAbs<268435456:=by rw[JA];exact AK (JS (yx _ _)) hv
    rw[e,ih F (IB v 1) (by omega) (by omega) hl,VG,Nat.add_comm]
theorem Aax(v:Int):wv (BB v) ((Bk v).drop 1)=IB v 32:=by unfold wv IB;rw[Ab8 (Fy v),DQ,two32]
theorem AiX(N:Nat):∀(F j:Nat) (v:Int),j<F->j<N->j<2000000->D0 v.natAbs<268435456->Bo.CF.L2 N F (-(j:Int)) (BB v) (Bk v)=YB (IB v j):=by
 intro F
 induction F with
 | zero=>intro j v h; omega
 | succ F ih =>
   intro j v hF hN hj hv;rw[Bo.CF.I5,Ei,PJ];by_cases hc:32<=j/\v≠0
   ·have o3:G9 ((Bk v).drop 1)=wc:=Ip (by rw[zO,CE]; omega) (Ye (Fy v))
    have t1:decide ((1:Int)<=((Bk v).length:Int))=wc:=Ac (by rw[CE];have:=H6 (n:=v.natAbs) (by omega);omega)
    have hl:D0 (IB v 32).natAbs<268435456:=by rw[JA];exact AK (JS (yx _ _)) hv
    rw[Ac (by omega),Ac hc.2,Ah,Aa,t1,Aa,o3,Aa,Aax,Bz (by omega) (by omega)];have e:-(j:Int)+32=-((j-32:Nat):Int):=by omega
    rw[e,ih (j-32) (IB v 32) (by omega) (by omega) (by omega) hl,VG];congr 2;omega
   ·have:(decide (-(j:Int)<=-32)&&decide (v≠0))=wh:=by rw[xD,Av,Av];omega
    rw[this,Af];exact AiW N j N v hN hj hv
theorem Ra(N F:Nat){k:Int}(hk:0<=k)(hN:0<N)(v:Int):Bo.CF.L2 N (F+1) k (BB v) (Bk v)=YB v:=by
 obtain⟨M,rfl⟩:∃M,N=M+1:=⟨N-1,by omega⟩
 rw[Bo.CF.I5,Ei,Ag (by omega),zV,Af,Bo.CF.Ob,B8,Ag (by omega),zV,Af];rfl
theorem AiY(N:Nat)(hN:0<N):∀(j F:Nat) (v:Int),j<F->j<2000000->D0 v.natAbs+j<268435456->Bo.CF.L1 N F (j:Int) (BB v) (Bk v)=YB (v*((2^j:Nat):Int)):=by
 obtain⟨M,rfl⟩:∃M,N=M+1:=⟨N-1,by omega⟩
 intro j
 induction j with
 | zero =>
   intro F v hF _ hv;obtain⟨F,rfl⟩:∃G,F=G+1:=⟨F-1,by omega⟩
   rw[Bo.CF.CU,B8,Ag (by omega),zV,Af,Ra _ _ (by omega) (by omega),AG];congr 1;omega
 | succ j ih =>
   intro F v hF hj hv;obtain⟨F,rfl⟩:∃G,F=G+1:=⟨F-1,by omega⟩
   rw[Bo.CF.CU,B8,Ac (by omega),AW,PJ];by_cases h0:v=0
   ·rw[Ag (by omega),Af,h0,ym,Ra _ _ (by omega) (by omega)]
   ·have hl:=Afm v.natAbs;have e2:(2*v).natAbs=2*v.natAbs:=by omega
    have e:((j+1:Nat):Int)-1=(j:Int):=by omega
    rw[Ac h0,Aa,Gq (by omega),Aa,EB,Bz (by omega) (by omega),e,ih F (2*v) (by omega) (by omega) (by rw[e2]; omega)];congr 1;rw[zD,Ax,Int.mul_comm 2 v,wL,Int.mul_comm ((2^j:Nat):Int)];rfl
theorem Akf(v:Int):wv (BB v) ([(0:Int)]++Bk v)=v*((2^32:Nat):Int):=by
 have e:C0 ([(0:Int)]++Bk v)=4294967296*v.natAbs:=by show C0 (0::Bk v)=_;rw[C0,DQ];exact AS _
 unfold wv;rw[e,two32];by_cases h:v<0
 ·rw[NF h]; omega
 ·rw[ND h]; omega
theorem AiZ(N:Nat):∀(F j:Nat) (v:Int),j<F->j<N->j<2000000->D0 v.natAbs+j<268435456->Bo.CF.L0 N F (j:Int) (BB v) (Bk v)=YB (v*((2^j:Nat):Int)):=by
 intro F
 induction F with
 | zero=>intro j v h; omega
 | succ F ih =>
   intro j v hF hN hj hv;rw[Bo.CF.B7,Ei,PJ];by_cases hc:32<=j/\v≠0
   ·have o3:G9 ([(0:Int)]++Bk v)=wc:=Ip (by rw[A8,CE]; show 1+_<_; omega) (Yd (Fy v));have t1:decide (1+(Bk v).length<=GK)=wc:=Ac (by rw[CE]; unfold GK; omega);have e2:(v*((2^32:Nat):Int)).natAbs=v.natAbs*4294967296:=by rw[yj,zS,two32]
    have hl:=Ah6 v.natAbs;rw[Ac (by omega),Ac hc.2,Ah,Aa,t1,Aa,o3,Aa,Akf,Bz (by omega) (by omega)];have e:(j:Int)-32=((j-32:Nat):Int):=by omega
    rw[e,ih (j-32) _ (by omega) (by omega) (by omega) (by rw[e2]; omega)];have e3:2^j=2^32*2^(j-32):=by rw[<- A5]; congr 1; omega
    rw[e3,Ax,wL]
   ·have:(decide ((32:Int)<=(j:Int))&&decide (v≠0))=wh:=by rw[xD,Av,Av];omega
    rw[this,Af];exact AiY N (by omega) j N v hN hj hv
theorem YX(N j:Nat)(v:Int)(hj:0<j)(hN:j<N)(hj2:j<2000000)(hv:D0 v.natAbs<268435456):Bo.CF.L0 N N (-(j:Int)) (BB v) (Bk v)=YB (IB v j):=by
 obtain⟨M,rfl⟩:∃M,N=M+1:=⟨N-1,by omega⟩
 rw[Bo.CF.B7,Ei,Ag (by omega),zV,Af,Bo.CF.CU,B8,Ag (by omega),zV,Af];exact AiX _ _ j v hN hN hj2 hv
theorem Bo.CF.Bp:Kq 113 Bo.CF.Bu:=E1 Bo.CF.E Tryz.func113 (kc Bo.Hv.Bp (kc Bo.I6.Bp (kc Bo.Made.Bp .nil))) fun n a k hp=>by
 obtain⟨h1,h2⟩:=Bi.1 hp;obtain⟨v,rfl,rfl,hv⟩:=LM h1;have h2:=Bv.1 h2;refine⟨k.natAbs+1,Bo.CF.out [.b (BB v),.l (Bk v),.i k],[],?_,Vs⟩;show _=wM (DV.agg [.bool (BB (GI (wv (BB v) (Bk v)) k)),.Bj .arg .u32 (Bk (GI (wv (BB v) (Bk v)) k))]);rw[Bo.CF.ev,EB];unfold GI;by_cases h:0<=k
 ·obtain⟨j,rfl⟩:∃j:Nat,k=j:=⟨k.toNat,by omega⟩
  rw[Az h,Ad,zS];exact AiZ _ _ j v (by omega) (by omega) (by omega) (by omega)
 ·obtain⟨j,rfl⟩:∃j:Nat,k=-(j:Int):=⟨(-k).toNat,by omega⟩
  have e:(-(-(j:Int))).toNat=j:=by omega
  rw[Ay h,e,xm,zS];exact YX _ j v (by omega) (by omega) (by omega) (by omega)
open Go Go.Den Go.Cn Go.Proofs
theorem AcH{t:Nat}(h:2<=t):(t / 2).log2+1=t.log2:=by have:=XO (n:=t) (m:=1) (by omega);rw[Nat.pow_one] at this;exact this
theorem Afj(N:Nat):∀(F:Nat) (t:Nat) (p:Int),t<2^32->0<t->t.log2+1<F->-1000<=p->p+t.log2<4611686018427387904 ->
 Bo.QS.L0 N F p (t:Int)=wM (.int .i64 (p+t.log2+1)):=by
 intro F
 induction F with
 | zero=>intro t p _ _ h; omega
 | succ F ih =>
   intro t p ht h0 hF hp1 hp2;have e2:zq (t:Int) 2=((t / 2:Nat):Int):=H2 t 2;rw[two32] at ht;rw[Bo.QS.B7,B8,Ac (by omega),Aa,e2,Hx (by omega) (by omega),Bz (by omega) (by omega)];by_cases h1:t=1
   ·subst h1;obtain⟨G,rfl⟩:∃G,F=G+1:=⟨F-1,by omega⟩
    rw[Bo.QS.B7,B8,Ag (by decide),Af];have:(1:Nat).log2=0:=by decide
    rw[this];congr 2;omega
   ·have hl:=AcH (t:=t) (by omega);rw[ih (t / 2) (p+1) (by rw[two32]; omega) (by omega) (by omega) (by omega) (by omega)];congr 2;omega
theorem Bo.QS.Bp:Kq 160 Bo.QS.Bu:=E1 Bo.QS.E Tryz.func160 .nil fun n a hp=>by
 obtain⟨v,rfl,rfl,hv⟩:=HC hp;refine⟨40,Bo.QS.out [.b (BB v),.l (Bk v)],[],?_,.int⟩;show _=wM (DV.int .i64 (Th (wv (BB v) (Bk v))));rw[Bo.QS.ev,EB,CE];unfold Th;by_cases h0:v=0
 ·rw[Az h0,h0]; rfl
 ·have hn:v.natAbs≠0:=by omega
  have hl:=H6 hn;have e0:((D0 v.natAbs:Int)==0)=wh:=by simp only[AD,ne_eq]; omega
  have e1:(D0 v.natAbs:Int)-1=((D0 v.natAbs-1:Nat):Int):=by omega
  have hlen:D0 v.natAbs=v.natAbs.log2 / 32+1:=by unfold D0; rw[Ay hn]
  have hge:2^(32*(D0 v.natAbs-1))<=v.natAbs:=AP (Aq (by decide) (by omega)) (zY hn)
  have hq:v.natAbs / 2^(32*(D0 v.natAbs-1))<2^32:=by
   rw[Nat.div_lt_iff_lt_mul (Cs _),<- A5];have:=It v.natAbs;have e:32+32*(D0 v.natAbs-1)=32*D0 v.natAbs:=by omega
   rw[e]; exact this
  have hlog:=XO hge;have hg:=KK (Fy v) (D0 v.natAbs-1);have hq':=hq;rw[two32] at hq';rw[DQ,Ao hq'] at hg;have hpos:=Nat.div_pos hge (Cs _);have h32:(v.natAbs / 2^(32*(D0 v.natAbs-1))).log2<32:=(AZ (by omega)).2 hq;rw[Ay h0,e0,Af,Bz (by omega) (by omega),e1,Ac (by omega),Ac (by omega),Ah,Aa,Ad,hg,Bz (by omega) (by omega)];rw[Afj 40 40 _ _ hq hpos (by omega) (by omega) (by omega)];congr 2;omega
theorem Bo.Y7.Bp:Kq 105 Bo.Y7.Bu:=E1 Bo.Y7.E Tryz.func105 .nil fun n a hp=>by
 obtain⟨v,rfl,rfl,hv⟩:=HC hp;refine⟨0,Bo.Y7.out [.b (BB v),.l (Bk v)],[],?_,.bool⟩;show _=wM (DV.bool (Acv (wv (BB v) (Bk v))));rw[Bo.Y7.ev,EB,PJ];have hg:=KK (Fy v) 0;rw[DQ,yk,AG,yE] at hg;have e2:zw ((v.natAbs%4294967296:Nat):Int) 2=((v.natAbs%4294967296%2:Nat):Int):=H0 _ 2;unfold Acv;by_cases h0:v=0
 ·rw[h0]; rfl
 ·have hl:=H6 (n:=v.natAbs) (by omega);rw[hg,e2,Ac h0,CE,Ac (by omega),AV,Aa,Aa];congr 2;rw[Ar];simp only[beq_iff_eq,Ai];omega
set_option maxRecDepth 100000
def B0.Of.hint:Nat->Option BK
 | 0=>wM { Da:=[1,2,4],Cg:=[],Cv:=[2,4] }
 | 2=>wM { Da:=[1,2,4],Cg:=[],Cv:=[2,4] }
 | _=>wN
def B0.Of.E:=Dr (CW [(106,Bo.I6.Bu),(104,Bo.Made.Bu),(105,Bo.Y7.Bu)]) (fun _=>wh) B0.Of.hint (fun _=>wN)
section
variable(N:Nat)(n:Bool)(a:Bf)(e:Int)(M:Nat)(p1_1:Int)(p2_2:Bool)(p2_3:Bf)(p1:Int)(p2:Bool)(p2_1:Bf)
def B0.Of.L0:Option DV:=C6 B0.Of.E N f39 (Bw f39) [1,1,0,0] [] M ⟨Fp 33 [(1,.int .i64 p1),(2,.ptr 2 0 0),(4,.ptr 4 0 0)],[(2,wh,.box [.bool p2,.Bj .arg .u32 p2_1]),(4,wh,.box [.bool wh,.nil,.int .i64 0])]⟩
def B0.Of.L1:Option DV:=C6 B0.Of.E N f39 (Bw f39) [1,1,1,0,0] [] M ⟨Fp 33 [(1,.int .i64 p1_1),(2,.ptr 2 0 0),(4,.ptr 4 0 0)],[(2,wh,.box [.bool p2_2,.Bj .arg .u32 p2_3]),(4,wh,.box [.bool wh,.nil,.int .i64 0])]⟩
theorem B0.Of.B7:B0.Of.L0 N (M+1) p1 p2 p2_1=cond (decide ((0:Int)<(wj p2_1:Int))) (bif ((vC p2_1 0 0)==(0:Int)) then cond (decide ((1:Int)<=(wj p2_1:Int))) (bif (G9 (zL 1 p2_1)) then B0.Of.L0 N M (Bh (p1+32)) (BB (wv p2 (zL 1 p2_1))) (Bk (wv p2 (zL 1 p2_1))) else wN) wN else B0.Of.L1 N N p1 p2 p2_1) wN :=Et (ET (ET (CQ (AkC _) (CQ (CD _) rfl rfl) rfl) rfl) rfl)
theorem B0.Of.CU:B0.Of.L1 N (M+1) p1_1 p2_2 p2_3=cond (HD p2_2 p2_3) (bif (!(Acv (wv p2_2 p2_3))) then cond (HD p2_2 p2_3) (B0.Of.L1 N M (Bh (p1_1+1)) (BB (IB (wv p2_2 p2_3) 1)) (Bk (IB (wv p2_2 p2_3) 1))) wN else wM (.agg [.bool p2_2,.Bj .arg .u32 p2_3,.int .i64 p1_1])) wN:=by kernel_rfl
theorem B0.Of.ev:Cz B0.Of.E N f39 (Bw f39) [.agg [.bool n,.Bj .arg .u32 a],.int .i64 e]=cond ((wj a:Int)==(0:Int)) (wM (.agg [.bool wh,.nil,.int .i64 0])) (B0.Of.L0 N N e n a):=by kernel_rfl
end
def B0.Neg.E:=E0 [(103,Bo.Neg.Bu)]
theorem B0.Neg.ev(N:Nat)(n:Bool)(a:Bf)(e:Int):Cz B0.Neg.E N f57 (Bw f57) [.agg [.bool n,.Bj .arg .u32 a,.int .i64 e]]=cond (HD n a) (wM (.agg [.bool (BB (- wv n a)),.Bj .arg .u32 (Bk (- wv n a)),.int .i64 e])) wN :=Et (CQ (CD _) rfl rfl)
def B0.Y8.E:=E0 []
theorem B0.Y8.ev(N:Nat)(n:Bool)(a:Bf)(e:Int)(m:Bool)(b:Bf)(f:Int):Cz B0.Y8.E N f47 (Bw f47) [.agg [.bool n,.Bj .arg .u32 a,.int .i64 e],.agg [.bool m,.Bj .arg .u32 b,.int .i64 f]]=cond ((wj a:Int)==(0:Int)) (wM (.int .i64 f)) (bif ((wj b:Int)==(0:Int)) then wM (.int .i64 e) else wM (.int .i64 (min e f))):=by kernel_rfl
def B0.Level.E:=E0 [(113,Bo.CF.Bu)]
theorem B0.Level.ev(N:Nat)(n:Bool)(a:Bf)(e f:Int):Cz B0.Level.E N f49 (Bw f49) [.agg [.bool n,.Bj .arg .u32 a,.int .i64 e],.int .i64 f]=cond ((wj a:Int)==(0:Int)) (wM (.agg [.bool n,.Bj .arg .u32 a])) (bif (Rg n a&&Ajl (Bh (e-f))) then wM (.agg [.bool (BB (GI (wv n a) (Bh (e-f)))),.Bj .arg .u32 (Bk (GI (wv n a) (Bh (e-f))))]) else wN):=by kernel_rfl
def B0.Add.E:=E0 [(48,Bo.Add.Bu),(49,B0.Level.Bu),(47,B0.Y8.Bu),(39,B0.Of.Bu)]
theorem B0.Add.ev(N:Nat)(n:Bool)(a:Bf)(e:Int)(m:Bool)(b:Bf)(f:Int):Cz B0.Add.E N f11 (Bw f11) [.agg [.bool n,.Bj .arg .u32 a,.int .i64 e],.agg [.bool m,.Bj .arg .u32 b,.int .i64 f]]=cond (HD n a&&HD m b) (bif (Rg n a&&Acu (wv n a) e (Dz (wv n a) e (wv m b) f)) then cond (Rg m b&&Acu (wv m b) f (Dz (wv n a) e (wv m b) f)) (bif (HD (BB (GI (wv n a) (e-(Dz (wv n a) e (wv m b) f)))) (Bk (GI (wv n a) (e-(Dz (wv n a) e (wv m b) f))))&&HD (BB (GI (wv m b) (f-(Dz (wv n a) e (wv m b) f)))) (Bk (GI (wv m b) (f-(Dz (wv n a) e (wv m b) f))))) then cond (HD (BB (wv (BB (GI (wv n a) (e-(Dz (wv n a) e (wv m b) f)))) (Bk (GI (wv n a) (e-(Dz (wv n a) e (wv m b) f))))+wv (BB (GI (wv m b) (f-(Dz (wv n a) e (wv m b) f)))) (Bk (GI (wv m b) (f-(Dz (wv n a) e (wv m b) f)))))) (Bk (wv (BB (GI (wv n a) (e-(Dz (wv n a) e (wv m b) f)))) (Bk (GI (wv n a) (e-(Dz (wv n a) e (wv m b) f))))+wv (BB (GI (wv m b) (f-(Dz (wv n a) e (wv m b) f)))) (Bk (GI (wv m b) (f-(Dz (wv n a) e (wv m b) f))))))&&OK (Dz (wv n a) e (wv m b) f)) (wM (.agg [.bool (BB (mD (wv (BB (wv (BB (GI (wv n a) (e-(Dz (wv n a) e (wv m b) f)))) (Bk (GI (wv n a) (e-(Dz (wv n a) e (wv m b) f))))+wv (BB (GI (wv m b) (f-(Dz (wv n a) e (wv m b) f)))) (Bk (GI (wv m b) (f-(Dz (wv n a) e (wv m b) f)))))) (Bk (wv (BB (GI (wv n a) (e-(Dz (wv n a) e (wv m b) f)))) (Bk (GI (wv n a) (e-(Dz (wv n a) e (wv m b) f))))+wv (BB (GI (wv m b) (f-(Dz (wv n a) e (wv m b) f)))) (Bk (GI (wv m b) (f-(Dz (wv n a) e (wv m b) f))))))))),.Bj .arg .u32 (Bk (mD (wv (BB (wv (BB (GI (wv n a) (e-(Dz (wv n a) e (wv m b) f)))) (Bk (GI (wv n a) (e-(Dz (wv n a) e (wv m b) f))))+wv (BB (GI (wv m b) (f-(Dz (wv n a) e (wv m b) f)))) (Bk (GI (wv m b) (f-(Dz (wv n a) e (wv m b) f)))))) (Bk (wv (BB (GI (wv n a) (e-(Dz (wv n a) e (wv m b) f)))) (Bk (GI (wv n a) (e-(Dz (wv n a) e (wv m b) f))))+wv (BB (GI (wv m b) (f-(Dz (wv n a) e (wv m b) f)))) (Bk (GI (wv m b) (f-(Dz (wv n a) e (wv m b) f))))))))),.int .i64 (eD (wv (BB (wv (BB (GI (wv n a) (e-(Dz (wv n a) e (wv m b) f)))) (Bk (GI (wv n a) (e-(Dz (wv n a) e (wv m b) f))))+wv (BB (GI (wv m b) (f-(Dz (wv n a) e (wv m b) f)))) (Bk (GI (wv m b) (f-(Dz (wv n a) e (wv m b) f)))))) (Bk (wv (BB (GI (wv n a) (e-(Dz (wv n a) e (wv m b) f)))) (Bk (GI (wv n a) (e-(Dz (wv n a) e (wv m b) f))))+wv (BB (GI (wv m b) (f-(Dz (wv n a) e (wv m b) f)))) (Bk (GI (wv m b) (f-(Dz (wv n a) e (wv m b) f))))))) (Dz (wv n a) e (wv m b) f))])) wN else wN) wN else wN) wN :=Et (ET (CQ (CD _) (CQ (CD _) (CQ (CD _) (CQ (CD _) rfl rfl) rfl) rfl) rfl) rfl)
def B0.Sub.E:=E0 [(11,B0.Add.Bu),(57,B0.Neg.Bu)]
theorem B0.Sub.ev(N:Nat)(n:Bool)(a:Bf)(e:Int)(m:Bool)(b:Bf)(f:Int):Cz B0.Sub.E N f56 (Bw f56) [.agg [.bool n,.Bj .arg .u32 a,.int .i64 e],.agg [.bool m,.Bj .arg .u32 b,.int .i64 f]]=cond (HD m b) (bif (((Rg n a&&Rg (BB (- wv m b)) (Bk (- wv m b)))&&Ms e)&&Ms f) then wM (.agg [.bool (BB (K6 (wv n a) e (wv (BB (- wv m b)) (Bk (- wv m b))) f)),.Bj .arg .u32 (Bk (K6 (wv n a) e (wv (BB (- wv m b)) (Bk (- wv m b))) f)),.int .i64 (Y6 (wv n a) e (wv (BB (- wv m b)) (Bk (- wv m b))) f)]) else wN) wN :=Et (CQ (CD _) (CQ (CD _) rfl rfl) rfl)
def B0.Dw.E:=E0 [(39,B0.Of.Bu)]
theorem B0.Dw.ev(N:Nat)(n:Bool)(a:Bf)(e k:Int):Cz B0.Dw.E N f41 (Bw f41) [.agg [.bool n,.Bj .arg .u32 a,.int .i64 e],.int .i64 k]=cond (HD n a&&OK (Bh (e+k))) (wM (.agg [.bool (BB (mD (wv n a))),.Bj .arg .u32 (Bk (mD (wv n a))),.int .i64 (eD (wv n a) (Bh (e+k)))])) wN:=by kernel_rfl
def B0.WQ.E:=E0 [(160,Bo.QS.Bu)]
theorem B0.WQ.ev(N:Nat)(n:Bool)(a:Bf)(e:Int):Cz B0.WQ.E N f109 (Bw f109) [.agg [.bool n,.Bj .arg .u32 a,.int .i64 e]]=cond ((wj a:Int)==(0:Int)) (wM (.int .i64 0)) (bif (HD n a) then wM (.int .i64 (Bh ((Th (wv n a))+e))) else wN) :=Et (ET rfl (CQ (CD _) rfl rfl))
def B0.Sign.E:=E0 []
theorem B0.Sign.ev(N:Nat)(n:Bool)(a:Bf)(e:Int):Cz B0.Sign.E N f108 (Bw f108) [.agg [.bool n,.Bj .arg .u32 a,.int .i64 e]]=cond n (wM (.int .i64 (-1:Int))) (wM (.int .i64 (min (wj a:Int) 1))):=by kernel_rfl
def B0.Compare.E:=E0 [(108,B0.Sign.Bu),(56,B0.Sub.Bu),(109,B0.WQ.Bu)]
theorem B0.Compare.ev(N:Nat)(n:Bool)(a:Bf)(e:Int)(m:Bool)(b:Bf)(f:Int):Cz B0.Compare.E N f43 (Bw f43) [.agg [.bool n,.Bj .arg .u32 a,.int .i64 e],.agg [.bool m,.Bj .arg .u32 b,.int .i64 f]]=cond (HD n a) (bif (HD m b) then cond ((Kz (wv n a)) !=(Kz (wv m b))) (bif (HD n a) then cond (HD m b) (wM (.int .i64 (min 1 (max (-1:Int) (Bh ((Kz (wv n a))-(Kz (wv m b)))))))) wN else wN) (bif (HD n a&&Ms e) then cond (HD m b&&Ms f) (bif ((GM (wv n a) e) !=(GM (wv m b) f)) then cond (HD n a&&Ms e) (bif (HD m b&&Ms f) then cond (HD n a) (bif ((BH (GM (wv m b) f) (GM (wv n a) e))==(BH 0 (Kz (wv n a)))) then wM (.int .i64 1) else wM (.int .i64 (-1:Int))) wN else wN) wN else bif (((Rg n a&&Rg m b)&&Ms e)&&Ms f) then cond (HD (BB (K6 (wv n a) e (- wv m b) f)) (Bk (K6 (wv n a) e (- wv m b) f))) (wM (.int .i64 (Kz (wv (BB (K6 (wv n a) e (- wv m b) f)) (Bk (K6 (wv n a) e (- wv m b) f)))))) wN else wN) wN else wN) else wN) wN :=Et (CQ (CD _) (CQ (CD _) (ET (CQ (CD _) (CQ (CD _) rfl rfl) rfl) (CQ (CD _) (CQ (CD _) (ET (CQ (CD _) (CQ (CD _) (CQ (CD _) rfl rfl) rfl) rfl) rfl) rfl) rfl)) rfl) rfl)
abbrev B0.Add.q.Kn:Prop:=Ev prog 11 B0.Add.q.Bu
abbrev B0.Sub.q.Kn:Prop:=Ev prog 56 B0.Sub.q.Bu
abbrev B0.Dw.q.Kn:Prop:=Ev prog 41 B0.Dw.q.Bu
abbrev B0.Compare.q.Kn:Prop:=Ev prog 43 B0.Compare.q.Bu
abbrev B0.Of.q.Kn:Prop:=Ev prog 39 B0.Of.q.Bu
def AcY(v e:Int):Option DV:=wM (.agg [.bool (BB v),.Bj .arg .u32 (Bk v),.int .i64 e])
theorem wdy{drops:List Nat}{b:Bool}{l:Bf}{e:Int}:Wk drops (.agg [.bool b,.Bj .arg .u32 l,.int .i64 e]) (.agg [.bool b,.Bj .arg .u32 l,.int .i64 e]):=Wk.GA (.cons .bool (.cons .WC (.cons .int .nil)))
theorem Af1(v:Int):(Bk v).getD 0 0=((v.natAbs%4294967296:Nat):Int):=by have hg:=KK (Fy v) 0;rw[DQ,yk,AG,yE] at hg;exact hg
theorem AaG{v:Int}{k:Nat}(h:D0 v.natAbs<268435456):D0 (IB v k).natAbs<268435456:=by rw[JA];exact AK (JS (yx _ _)) h
theorem Aeq{v:Int}{k:Nat}(h0:v≠0)(h:v.natAbs%2^k=0):IB v k≠0/\N6 (IB v k).natAbs+k=N6 v.natAbs:=by
 have hv:=Nat.div_add_mod v.natAbs (2^k);rw[h,AQ,A0] at hv
 have hq:v.natAbs / 2^k≠0:=by intro e; rw[e] at hv; omega
 have ht:=V1 hq k;rw[hv] at ht;have ha:=JA v k;refine⟨by omega,?_⟩;rw[ha];omega
theorem AeL(N:Nat):∀(F:Nat) (v e:Int),v≠0->N6 v.natAbs<F->D0 v.natAbs<268435456->-4000000000000<=e->e+N6 v.natAbs<=400000000000000 ->
 B0.Of.L1 N F e (BB v) (Bk v)=AcY (mD v) (eD v e):=by
 intro F
 induction F with
 | zero=>intro v e _ h; omega
 | succ F ih =>
   intro v e h0 hF hv h1 h2;rw[B0.Of.CU,Gq hv,Aa,EB];by_cases ho:v%2=1
   ·have:Acv v=wc:=Ac ho;rw[this,AH,Af,Ajs ho,AjD ho];rfl
   ·have:Acv v=wh:=Ag ho;have hm:v.natAbs%2^1=0:=by rw[Nat.pow_one]; omega
    obtain⟨n1,n2⟩:=Aeq h0 hm;rw[this,Bc,Aa,Aa,Bz (by omega) (by omega),ih (IB v 1) (e+1) n1 (by omega) (AaG hv) (by omega) (by omega),ZA hm];have:=ZS (e:=e) hm h0;rw[<- this];rfl
theorem AeM(N:Nat):∀(F:Nat) (v e:Int),v≠0->N6 v.natAbs<F->N6 v.natAbs<N->D0 v.natAbs<268435456->-4000000000000<=e->e+N6 v.natAbs<=400000000000000 ->
 B0.Of.L0 N F e (BB v) (Bk v)=AcY (mD v) (eD v e):=by
 intro F
 induction F with
 | zero=>intro v e _ h; omega
 | succ F ih =>
   intro v e h0 hF hN hv h1 h2;have hl:=H6 (n:=v.natAbs) (by omega);rw[B0.Of.B7,CE,Ac (by omega),Aa,Af1];by_cases hz:v.natAbs%4294967296=0
   ·have e0:(((v.natAbs%4294967296:Nat):Int)==0)=wc:=by rw[hz]; rfl
    have o3:G9 ((Bk v).drop 1)=wc:=Ip (by rw[zO,CE]; omega) (Ye (Fy v));have hm:v.natAbs%2^32=0:=by rw[two32]; exact hz
    obtain⟨n1,n2⟩:=Aeq h0 hm;rw[e0,Aa,Ac (by omega),Aa,o3,Aa,Aax,Bz (by omega) (by omega),ih (IB v 32) (e+32) n1 (by omega) (by omega) (AaG hv) (by omega) (by omega),ZA hm];have:=ZS (e:=e) hm h0;rw[<- this];rfl
   ·have e0:(((v.natAbs%4294967296:Nat):Int)==0)=wh:=by simp only[AD,ne_eq]; omega
    rw[e0,Af];exact AeL N N v e h0 hN hv h1 h2
theorem AdJ{v:Int}(h0:v≠0)(h:D0 v.natAbs<268435456):N6 v.natAbs<8589934592:=by have h1:=AdK (n:=v.natAbs) (by omega);have h2:=UM (n:=v.natAbs);omega
theorem B0.Of.Bp:Kq 39 B0.Of.Bu:=E1 B0.Of.E Tryz.func39 (kc Bo.I6.Bp (kc Bo.Made.Bp (kc Bo.Y7.Bp .nil))) fun n a e hp=>by
 obtain⟨h1,h2⟩:=Bi.1 hp;obtain⟨v,rfl,rfl,hv⟩:=HC h1;have h2:=Bv.1 h2;by_cases h0:v=0
 ·subst h0;refine⟨0,.agg [.bool wh,.nil,.int .i64 (0:Int)],[],?_,?_⟩
  ·rw[B0.Of.ev]; rfl
  ·show Wk [] _ (.agg [.bool (BB (mD (wv (BB 0) (Bk 0)))),.Bj .arg .u32 (Bk (mD (wv (BB 0) (Bk 0)))),.int .i64 (eD (wv (BB 0) (Bk 0)) e)]);rw[EB,KH.2 rfl];exact Wk.GA (.cons .bool (.cons (.nil _ _) (.cons .int .nil)))
 ·refine⟨N6 v.natAbs+1,B0.Of.out [.b (BB v),.l (Bk v),.i e],[],?_,wdy⟩;have ht:=AdJ h0 hv;have hl:=H6 (n:=v.natAbs) (by omega);have e0:(((Bk v).length:Int)==0)=wh:=by rw[CE]; simp only[AD,ne_eq]; omega
  show _=AcY (mD (wv (BB v) (Bk v))) (eD (wv (BB v) (Bk v)) e);rw[B0.Of.ev,e0,Af,EB];exact AeM _ _ v e h0 (by omega) (by omega) hv (by omega) (by omega)
theorem B0.Neg.Bp:Kq 57 B0.Neg.Bu:=E1 B0.Neg.E Tryz.func57 (kc Bo.Neg.Bp .nil) fun n a e hp=>by refine⟨0,B0.Neg.out [.b n,.l a,.i e],[],?_,wdy⟩;have hp:HD n a=wc:=hp;rw[B0.Neg.ev,hp,Aa];rfl
theorem PH(v:Int):(((Bk v).length:Int)==0)=decide (v=0):=by
 rw[CE,Ar];simp only[beq_iff_eq,Ai];constructor
 ·intro h;rcases x6 v 0 with k | k | k
  ·have:=H6 (n:=v.natAbs) (by omega); omega
  ·exact k
  ·have:=H6 (n:=v.natAbs) (by omega); omega
 ·intro h; rw[h]; rfl
theorem B0.Y8.Bp:Kq 47 B0.Y8.Bu:=E1 B0.Y8.E Tryz.func47 .nil fun n a e m b f hp=>by
 obtain⟨h1,h2⟩:=Bi.1 hp;obtain⟨v,rfl,rfl,hv⟩:=HC h1;obtain⟨w,rfl,rfl,hw⟩:=HC h2;refine⟨0,B0.Y8.out [.b (BB v),.l (Bk v),.i e,.b (BB w),.l (Bk w),.i f],[],?_,.int⟩;show _=wM (DV.int .i64 (Dz (wv (BB v) (Bk v)) e (wv (BB w) (Bk w)) f));rw[B0.Y8.ev,EB,EB,PH,PH];unfold Dz;by_cases h:v=0
 ·rw[Ac h,Aa,Az h]
 ·rw[Ag h,Af,Ay h];by_cases h':w=0
  ·rw[Ac h',Aa,Az h']
  ·rw[Ag h',Af,Ay h']
theorem S3(k:Int):GI 0 k=0:=by
 unfold GI;split
 ·exact ym _
 ·exact NC _
theorem B0.Level.Bp:Kq 49 B0.Level.Bu:=E1 B0.Level.E Tryz.func49 (kc Bo.CF.Bp .nil) fun n a e f hp=>by
 obtain⟨h1,h2⟩:=Bi.1 hp;obtain⟨v,rfl,rfl,hv⟩:=LM h1;refine⟨0,B0.Level.out [.b (BB v),.l (Bk v),.i e,.i f],[],?_,Vs⟩;show _=YB (GI (wv (BB v) (Bk v)) (e-f));unfold Acu at h2;rw[EB] at h2;obtain⟨h3,h4⟩:=Bi.1 h2;have h3:=Bv.1 h3;have h4:=Bv.1 h4;rw[B0.Level.ev,EB,PH];by_cases h:v=0
 ·rw[Ac h,Aa,h,S3]; rfl
 ·have o:Ajl (Bh (e-f))=wc:=by rw[Bz (by omega) (by omega)]; exact Bv.2 (by omega)
  rw[Ag h,Af,h1,o,Ah,Aa,Bz (by omega) (by omega)];rfl
theorem Afn(n k:Nat):D0 (n*2^k)<=D0 n+k:=by refine Ja ?_;have h1:=It n;have h2:n*2^k<2^(32*D0 n)*2^k:=(Nat.mul_lt_mul_right (Cs k)).2 h1;rw[<- A5] at h2;exact AU h2 (Aq (by decide) (by omega))
theorem Afo(v k:Int):D0 (GI v k).natAbs<=D0 v.natAbs+k.toNat:=by
 unfold GI;by_cases h:0<=k
 ·rw[Az h,yj,zS];exact Afn _ _
 ·rw[Ay h,JA];exact AP (JS (yx _ _)) (Nat.le_add_right _ _)
theorem XW(v w:Int):D0 (v+w).natAbs<=max (D0 v.natAbs) (D0 w.natAbs)+1:=by refine Ja ?_;have h1:=It v.natAbs;have h2:=It w.natAbs;have h3:2^(32*D0 v.natAbs)<=2^(32*max (D0 v.natAbs) (D0 w.natAbs)):=Aq (by decide) (by omega);have h4:2^(32*D0 w.natAbs)<=2^(32*max (D0 v.natAbs) (D0 w.natAbs)):=Aq (by decide) (by omega);rw[J0];omega
theorem Tb{v e w f:Int}(he:-400000<=e/\e<=400000)(hf:-400000<=f/\f<=400000):-400000<=Dz v e w f/\Dz v e w f<=400000:=by
 unfold Dz;split
 ·exact hf
 ·split
  ·exact he
  ·omega
theorem RK{v e l:Int}(hv:D0 v.natAbs<134217728)(h:e-l<=800000):D0 (GI v (e-l)).natAbs<140000000:=by have:=Afo v (e-l);omega
theorem B0.Add.Bp:Kq 11 B0.Add.Bu:=E1 B0.Add.E Tryz.func11 (kc Bo.Add.Bp (kc B0.Level.Bp (kc B0.Y8.Bp (kc B0.Of.Bp .nil)))) fun n a e m b f hp=>by obtain⟨h1,hf⟩:=Bi.1 hp;obtain⟨h2,he⟩:=Bi.1 h1;obtain⟨h3,h4⟩:=Bi.1 h2;obtain⟨v,rfl,rfl,hv⟩:=LM h3;obtain⟨w,rfl,rfl,hw⟩:=LM h4;have he:=Bv.1 he;have hf:=Bv.1 hf;refine⟨0,B0.Add.out [.b (BB v),.l (Bk v),.i e,.b (BB w),.l (Bk w),.i f],[],?_,wdy⟩;show _=AcY (K6 (wv (BB v) (Bk v)) e (wv (BB w) (Bk w)) f) (Y6 (wv (BB v) (Bk v)) e (wv (BB w) (Bk w)) f);have hlo:=Tb (v:=v) (w:=w) he hf;have l1:=RK (l:=Dz v e w f) hv (show e-Dz v e w f<=800000 by omega);have l2:=RK (l:=Dz v e w f) hw (show f-Dz v e w f<=800000 by omega);have l3:=XW (GI v (e-Dz v e w f)) (GI w (f-Dz v e w f));have o1:Acu v e (Dz v e w f)=wc:=Bi.2 ⟨Bv.2 (by omega),Bv.2 (by omega)⟩;have o2:Acu w f (Dz v e w f)=wc:=Bi.2 ⟨Bv.2 (by omega),Bv.2 (by omega)⟩;have o3:OK (Dz v e w f)=wc:=Bv.2 (by omega);rw[B0.Add.ev];simp only[EB];rw[Gq (v:=v) (by omega),Gq (v:=w) (by omega),h3,h4,o1,o2,Gq (v:=GI v (e-Dz v e w f)) (by omega),Gq (v:=GI w (f-Dz v e w f)) (by omega),Gq (v:=GI v (e-Dz v e w f)+GI w (f-Dz v e w f)) (by omega),o3];simp only[Ah,Aa];rfl
theorem B0.Sub.Bp:Kq 56 B0.Sub.Bu:=E1 B0.Sub.E Tryz.func56 (kc B0.Add.Bp (kc B0.Neg.Bp .nil)) fun n a e m b f hp=>by obtain⟨h1,hf⟩:=Bi.1 hp;obtain⟨h2,he⟩:=Bi.1 h1;obtain⟨h3,h4⟩:=Bi.1 h2;obtain⟨w,rfl,rfl,hw⟩:=LM h4;refine⟨0,B0.Sub.out [.b n,.l a,.i e,.b (BB w),.l (Bk w),.i f],[],?_,wdy⟩;show _=AcY (K6 (wv n a) e (- wv (BB w) (Bk w)) f) (Y6 (wv n a) e (- wv (BB w) (Bk w)) f);rw[B0.Sub.ev];simp only[EB];rw[Gq (v:=w) (by omega),h3,Zq (v:=-w) (by rw[xm]; exact hw),he,hf];rfl
theorem B0.Dw.Bp:Kq 41 B0.Dw.Bu:=E1 B0.Dw.E Tryz.func41 (kc B0.Of.Bp .nil) fun n a e k hp=>by obtain⟨h1,hk⟩:=Bi.1 hp;obtain⟨h2,he⟩:=Bi.1 h1;have he:=Bv.1 he;have hk:=Bv.1 hk;refine⟨0,B0.Dw.out [.b n,.l a,.i e,.i k],[],?_,wdy⟩;have o:OK (e+k)=wc:=Bv.2 (by omega);rw[B0.Dw.ev,Bz (by omega) (by omega),h2,o];rfl
theorem XX{v:Int}(h:D0 v.natAbs<268435456):0<=Th v/\Th v<=8589934593:=by
 have h2:=UM (n:=v.natAbs);unfold Th;split
 ·omega
 ·constructor<;>omega
theorem B0.WQ.Bp:Kq 109 B0.WQ.Bu:=E1 B0.WQ.E Tryz.func109 (kc Bo.QS.Bp .nil) fun n a e hp=>by
 obtain⟨h1,he⟩:=Bi.1 hp;obtain⟨v,rfl,rfl,hv⟩:=HC h1;have he:=Bv.1 he;refine⟨0,B0.WQ.out [.b (BB v),.l (Bk v),.i e],[],?_,.int⟩;show _=wM (DV.int .i64 (GM (wv (BB v) (Bk v)) e));have hb:=XX hv;rw[B0.WQ.ev,EB,PH,h1];unfold GM;by_cases h:v=0
 ·rw[Ac h,Aa,Az h]
 ·rw[Ag h,Af,Aa,Ay h,Bz (by omega) (by omega)]
theorem B0.Sign.Bp:Kq 108 B0.Sign.Bu:=E1 B0.Sign.E Tryz.func108 .nil fun n a e hp=>by
 obtain⟨v,rfl,rfl,hv⟩:=HC hp;refine⟨0,B0.Sign.out [.b (BB v),.l (Bk v),.i e],[],?_,.int⟩;show _=wM (DV.int .i64 (Kz (wv (BB v) (Bk v))));rw[B0.Sign.ev,EB,CE];unfold Kz BB;by_cases h:v<0
 ·rw[Ac h,Aa,Az h]
 ·rw[Ag h,Af,Ay h];by_cases h':v=0
  ·rw[Az h',h']; rfl
  ·have:=H6 (n:=v.natAbs) (by omega);rw[Ay h'];congr 2;omega
theorem ZB{v e w f:Int}:(v≠0->0<=e-Dz v e w f)/\(w≠0->0<=f-Dz v e w f):=by
 unfold Dz;constructor
 ·intro h;rw[Ay h];split<;>omega
 ·intro h;split
  ·omega
  ·omega
theorem S4{v k:Int}(h:v≠0->0<=k):∃j:Nat,GI v k=v*((2^j:Nat):Int)/\(v≠0->(j:Int)=k):=by
 by_cases h0:v=0
 ·exact⟨0,by rw[h0,S3,ym],fun k=>absurd h0 k⟩
 ·have hk:=h h0;refine⟨k.toNat,?_,fun _=>by omega⟩;unfold GI;rw[Az hk]
theorem SU(v:Int)(j:Nat):(v*((2^j:Nat):Int)<0↔v<0)/\(v*((2^j:Nat):Int)=0↔v=0):=by
 have hp:=Cs j;constructor
 ·constructor
  ·intro h;rcases xB v 0 with h1 | h1
   ·exact h1
   ·have:=Int.mul_nonneg h1 (Int.natCast_nonneg (2^j)); omega
  ·intro h;exact Int.mul_neg_of_neg_of_pos h (by omega)
 ·constructor
  ·intro h;rcases Int.mul_eq_zero.1 h with h | h
   ·exact h
   ·omega
  ·intro h; rw[h,ym]
theorem VI(v:Int)(j:Nat):Kz (v*((2^j:Nat):Int))=Kz v:=by obtain⟨h1,h2⟩:=SU v j;unfold Kz;simp only[h1,h2]
theorem Ajb(v:Int):Kz (mD v)=Kz v:=by have:=VI (mD v) (N6 v.natAbs);rw[<- RT] at this;exact this.symm
theorem AhW(x y:Int):Kz (x+-y)=R3 x y:=by
 unfold Kz R3;by_cases h:x<y
 ·rw[Az (by omega),Az h]
 ·rw[Ay (by omega),Ay h];by_cases h':y<x
  ·rw[Ay (by omega),Az h']
  ·rw[Az (by omega),Ay h']
theorem Ah2(v e w f:Int):Dz v e (-w) f=Dz v e w f:=by unfold Dz;have:(-w=0)=(w=0):=propext ⟨fun h=>by omega,fun h=>by omega⟩;simp only[this]
theorem Agd{x y:Int}(h:Kz x≠Kz y):R3 x y=min 1 (max (-1) (Kz x-Kz y)):=by
 unfold Kz at h ⊢;unfold R3;rcases x6 x 0 with h1 | h1 | h1<;>rcases x6 y 0 with h2 | h2 | h2
 all_goals
  first
  | (exfalso; apply h; simp[show x<0 by omega,show y<0 by omega]; done)
  | (exfalso; apply h; subst h1; subst h2; rfl)
  | (exfalso; apply h; rw[Ay (by omega),Ay (by omega),Ay (by omega),Ay (by omega)]; done)
  | skip
 ·rw[Az (by omega),Az (by omega),Ay (by omega),Az (by omega)]; decide
 ·rw[Az (by omega),Az (by omega),Ay (by omega),Ay (by omega)]; decide
 ·rw[Ay (by omega),Az (by omega),Ay (by omega),Az (by omega),Az (by omega)]; decide
 ·rw[Az (by omega),Ay (by omega),Az (by omega),Ay (by omega),Ay (by omega)]; decide
 ·rw[Ay (by omega),Az (by omega),Ay (by omega),Ay (by omega),Az (by omega)]; decide
 ·rw[Ay (by omega),Az (by omega),Ay (by omega),Ay (by omega),Ay (by omega),Az (by omega)]; decide
theorem Td{a b:Nat}(ha:a≠0)(h:a.log2<b.log2):a<b:=by
 rcases AF a b with k | k
 ·exact k
 ·have hb:b≠0:=by intro e; rw[e] at h;exact absurd h (by rw[show(0:Nat).log2=0 by decide]; omega)
  have:=(zM ha).2 (AP (zY hb) k);omega
theorem AhV{v e w f:Int}(hs:Kz v=Kz w)(ht:GM v e≠GM w f):
 R4 v e w f=if (decide (GM w f<GM v e)==decide (0<Kz v))=wc then 1 else -1:=by
 obtain⟨u1,u2⟩:=ZB (v:=v) (e:=e) (w:=w) (f:=f);obtain⟨j,hx,hj⟩:=S4 u1;obtain⟨k,hy,hk⟩:=S4 u2;unfold R4;rw[hx,hy]
 have z:v=0↔w=0:=by
  unfold Kz at hs;constructor
  ·intro h; subst h;revert hs;simp;split<;>simp_all
  ·intro h; subst h;revert hs;simp;split<;>simp_all
 by_cases v0:v=0
 ·exfalso;apply ht;unfold GM;rw[Az v0,Az (z.1 v0)]
 ·have w0:w≠0:=fun h=>v0 (z.2 h)
  have hj:=hj v0;have hk:=hk w0;have nv:v.natAbs≠0:=by omega
  have nw:w.natAbs≠0:=by omega
  have l1:=Kk v.natAbs j nv;have l2:=Kk w.natAbs k nw;have ax:(v*((2^j:Nat):Int)).natAbs=v.natAbs*2^j:=by rw[yj,zS]
  have ay:(w*((2^k:Nat):Int)).natAbs=w.natAbs*2^k:=by rw[yj,zS]
  have sx:=(SU v j).1;have sy:=(SU w k).1;have zx:=Zy v0 j;have zy:=Zy w0 k;have tv:GM v e=(v.natAbs.log2:Int)+1+e:=by unfold GM Th; rw[Ay v0,Ay v0]
  have tw:GM w f=(w.natAbs.log2:Int)+1+f:=by unfold GM Th; rw[Ay w0,Ay w0]
  have big:GM w f<GM v e->w.natAbs*2^k<v.natAbs*2^j:=fun h=>Td (HL nw) (by omega)
  have lit:GM v e<GM w f->v.natAbs*2^j<w.natAbs*2^k:=fun h=>Td (HL nv) (by omega)
  generalize v*((2^j:Nat):Int)=x at *
  generalize w*((2^k:Nat):Int)=y at *
  by_cases hv:v<0
  ·have sv:Kz v=-1:=by unfold Kz; rw[Az hv]
   have hw:w<0:=by
    rw[sv] at hs;unfold Kz at hs;rcases xB w 0 with q | q
    ·exact q
    ·rw[Ay (by omega),Ay w0] at hs; omega
   rw[sv];unfold R3;by_cases h:GM w f<GM v e
   ·have:=big h;rw[Ac h,Az (by omega)]; rfl
   ·have:=lit (by omega);rw[Ag h,Ay (by omega),Az (by omega)]; rfl
  ·have sv:Kz v=1:=by unfold Kz; rw[Ay hv,Ay v0]
   have hw:¬w<0:=by intro q;rw[sv] at hs;unfold Kz at hs;rw[Az q] at hs; omega
   rw[sv];unfold R3;by_cases h:GM w f<GM v e
   ·have:=big h;rw[Ac h,Ay (by omega),Az (by omega)]; rfl
   ·have:=lit (by omega);rw[Ag h,Az (by omega)]; rfl
theorem AgR(v e w f:Int):Kz (K6 v e (-w) f)=R4 v e w f:=by
 obtain⟨u1,u2⟩:=ZB (v:=v) (e:=e) (w:=w) (f:=f);obtain⟨k,hy,hk⟩:=S4 u2
 have hy':GI (-w) (f-Dz v e w f)=-(GI w (f-Dz v e w f)):=by
  by_cases w0:w=0
  ·rw[w0]; show GI 0 _=_; rw[S3]; rfl
  ·unfold GI;rw[Az (u2 w0),Az (u2 w0),Int.neg_mul]
 unfold K6 Aaq R4;rw[Ajb,Ah2,hy',AhW]
theorem Adc{v e w f:Int}(h:Kz v≠Kz w):R4 v e w f=min 1 (max (-1) (Kz v-Kz w)):=by obtain⟨u1,u2⟩:=ZB (v:=v) (e:=e) (w:=w) (f:=f);obtain⟨j,hx,hj⟩:=S4 u1;obtain⟨k,hy,hk⟩:=S4 u2;have e1:=VI v j;have e2:=VI w k;unfold R4;rw[hx,hy,<- e1,<- e2];exact Agd (by rw[e1,e2]; exact h)
theorem S5(v:Int):-1<=Kz v/\Kz v<=1:=by unfold Kz; split<;>(try split)<;>omega
theorem Agw{v e w f:Int}(hv:D0 v.natAbs<134217728)(hw:D0 w.natAbs<134217728)(he:-400000<=e/\e<=400000)(hf:-400000<=f/\f<=400000):D0 (K6 v e w f).natAbs<140000001:=by have hlo:=Tb (v:=v) (w:=w) he hf;have l1:=RK (l:=Dz v e w f) hv (show e-Dz v e w f<=800000 by omega);have l2:=RK (l:=Dz v e w f) hw (show f-Dz v e w f<=800000 by omega);have l3:=XW (GI v (e-Dz v e w f)) (GI w (f-Dz v e w f));have l4:=JS (QC (Aaq v e w f));unfold K6;unfold Aaq at l4 ⊢;omega
theorem B0.Compare.Bp:Kq 43 B0.Compare.Bu:=E1 B0.Compare.E Tryz.func43 (kc B0.Sign.Bp (kc B0.Sub.Bp (kc B0.WQ.Bp .nil))) fun n a e m b f hp=>by
 obtain⟨h1,hf⟩:=Bi.1 hp;obtain⟨h2,he⟩:=Bi.1 h1;obtain⟨h3,h4⟩:=Bi.1 h2;obtain⟨v,rfl,rfl,hv⟩:=LM h3;obtain⟨w,rfl,rfl,hw⟩:=LM h4;refine⟨0,B0.Compare.out [.b (BB v),.l (Bk v),.i e,.b (BB w),.l (Bk w),.i f],[],?_,.int⟩;show _=wM (DV.int .i64 (R4 (wv (BB v) (Bk v)) e (wv (BB w) (Bk w)) f));have bv:=S5 v;have bw:=S5 w;have hm:=Agw (v:=v) (w:=-w) hv (by rw[xm]; exact hw) (Bv.1 he) (Bv.1 hf);rw[B0.Compare.ev];simp only[EB];rw[Gq (v:=v) (by omega),Gq (v:=w) (by omega),Gq (v:=K6 v e (-w) f) (by omega),h3,h4,he,hf,B8,B8];simp only[Ah,Aa];by_cases hs:Kz v=Kz w
 ·have e0:(Kz v !=Kz w)=wh:=by simp[hs]
  rw[e0,Af];by_cases ht:GM v e=GM w f
  ·have e1:(GM v e !=GM w f)=wh:=by simp[ht]
   rw[e1,Af,AgR]
  ·have e1:(GM v e !=GM w f)=wc:=by simp[ht]
   rw[e1,Aa,AhV hs ht];cases (decide (GM w f<GM v e)==decide (0<Kz v))<;>rfl
 ·have e0:(Kz v !=Kz w)=wc:=by simp[hs]
  rw[e0,Aa,Adc hs,Bz (by omega) (by omega)]
def Cc.Value.E:=E0 [(103,Bo.Neg.Bu),(40,Bo.Of.Bu),(39,B0.Of.Bu),(100,Cc.Mz.Bu),(102,Cc.Neg.Bu),(101,Cc.Power.Bu)]
theorem Cc.Value.ev(N:Nat)(x:Int):Cz Cc.Value.E N f38 (Bw f38) [.int .u64 x]=cond (MW x) (bif (Oy (Bh (Db x))) then cond (MW x) (bif (BH 0 (JC x)) then cond (MW x) (bif (Oy (Bh (BU ((Db x)+4503599627370496)))) then cond (MW x) (bif (Br x) then cond (DN x) (bif (HD (BB ((Bh (BU ((Db x)+4503599627370496))))) (Bk ((Bh (BU ((Db x)+4503599627370496)))))) then cond (HD (BB (- wv (BB ((Bh (BU ((Db x)+4503599627370496))))) (Bk ((Bh (BU ((Db x)+4503599627370496))))))) (Bk (- wv (BB ((Bh (BU ((Db x)+4503599627370496))))) (Bk ((Bh (BU ((Db x)+4503599627370496)))))))&&OK (Bh ((JC x)-1075))) (wM (.agg [.bool (BB (mD (wv (BB (- wv (BB ((Bh (BU ((Db x)+4503599627370496))))) (Bk ((Bh (BU ((Db x)+4503599627370496))))))) (Bk (- wv (BB ((Bh (BU ((Db x)+4503599627370496))))) (Bk ((Bh (BU ((Db x)+4503599627370496)))))))))),.Bj .arg .u32 (Bk (mD (wv (BB (- wv (BB ((Bh (BU ((Db x)+4503599627370496))))) (Bk ((Bh (BU ((Db x)+4503599627370496))))))) (Bk (- wv (BB ((Bh (BU ((Db x)+4503599627370496))))) (Bk ((Bh (BU ((Db x)+4503599627370496)))))))))),.int .i64 (eD (wv (BB (- wv (BB ((Bh (BU ((Db x)+4503599627370496))))) (Bk ((Bh (BU ((Db x)+4503599627370496))))))) (Bk (- wv (BB ((Bh (BU ((Db x)+4503599627370496))))) (Bk ((Bh (BU ((Db x)+4503599627370496)))))))) (Bh ((JC x)-1075)))])) wN else wN) (bif (HD (BB ((Bh (BU ((Db x)+4503599627370496))))) (Bk ((Bh (BU ((Db x)+4503599627370496)))))&&OK (Bh ((JC x)-1075))) then wM (.agg [.bool (BB (mD (wv (BB ((Bh (BU ((Db x)+4503599627370496))))) (Bk ((Bh (BU ((Db x)+4503599627370496)))))))),.Bj .arg .u32 (Bk (mD (wv (BB ((Bh (BU ((Db x)+4503599627370496))))) (Bk ((Bh (BU ((Db x)+4503599627370496)))))))),.int .i64 (eD (wv (BB ((Bh (BU ((Db x)+4503599627370496))))) (Bk ((Bh (BU ((Db x)+4503599627370496)))))) (Bh ((JC x)-1075)))]) else wN) else wN) wN else wN) wN else bif (Br x) then cond (DN x) (bif (HD (BB ((Bh (Db x)))) (Bk ((Bh (Db x))))) then cond (HD (BB (- wv (BB ((Bh (Db x)))) (Bk ((Bh (Db x)))))) (Bk (- wv (BB ((Bh (Db x)))) (Bk ((Bh (Db x))))))&&OK (-1074:Int)) (wM (.agg [.bool (BB (mD (wv (BB (- wv (BB ((Bh (Db x)))) (Bk ((Bh (Db x)))))) (Bk (- wv (BB ((Bh (Db x)))) (Bk ((Bh (Db x))))))))),.Bj .arg .u32 (Bk (mD (wv (BB (- wv (BB ((Bh (Db x)))) (Bk ((Bh (Db x)))))) (Bk (- wv (BB ((Bh (Db x)))) (Bk ((Bh (Db x))))))))),.int .i64 (eD (wv (BB (- wv (BB ((Bh (Db x)))) (Bk ((Bh (Db x)))))) (Bk (- wv (BB ((Bh (Db x)))) (Bk ((Bh (Db x))))))) (-1074:Int))])) wN else wN) (bif (HD (BB ((Bh (Db x)))) (Bk ((Bh (Db x))))&&OK (-1074:Int)) then wM (.agg [.bool (BB (mD (wv (BB ((Bh (Db x)))) (Bk ((Bh (Db x))))))),.Bj .arg .u32 (Bk (mD (wv (BB ((Bh (Db x)))) (Bk ((Bh (Db x))))))),.int .i64 (eD (wv (BB ((Bh (Db x)))) (Bk ((Bh (Db x))))) (-1074:Int))]) else wN) else wN) wN else wN) wN:=by kernel_rfl
abbrev Cc.Value.q.Kn:Prop:=Ev prog 38 Cc.Value.q.Bu
theorem Abd{n k:Nat}(h:n<2^(32*k)){m:Nat}(hk:k<m):D0 n<m:=AK (Ja h) hk
theorem Pp(m:Nat):Gx wh m=(m:Int):=rfl
theorem Xt(m:Nat):Gx wc m=-(m:Int):=rfl
theorem Cc.Value.Bp:Kq 38 Cc.Value.Bu:=E1 Cc.Value.E Tryz.func38 (kc Bo.Neg.Bp (kc Bo.Of.Bp (kc B0.Of.Bp (kc Cc.Mz.Bp (kc Cc.Neg.Bp (kc Cc.Power.Bp .nil)))))) fun x hp=>by
 obtain⟨n,rfl,hn⟩:=C3 (x:=x) hp;refine⟨0,Cc.Value.out [.i n],[],?_,wdy⟩;show _=AcY (mD (Gj n)) (eD (Gj n) (BR n));have hf:=Jm n;have hw:=Il n;have small:∀k:Nat,k<2^54->D0 k<268435456:=fun k hk=>Abd (k:=2) (y5 hk (by decide)) (by omega)
 have o1:∀k:Nat,k<2^54->HD (BB (k:Int)) (Bk (k:Int))=wc:=fun k hk=>Gq (by rw[zS]; exact small k hk)
 have o2:∀k:Nat,k<2^54->HD (BB (-(k:Int))) (Bk (-(k:Int)))=wc:=fun k hk=>Gq (by rw[xm,zS]; exact small k hk)
 rw[Cc.Value.ev];unfold Db JC DN Gj BR;simp only[EB,Ad];have e1:Bh ((Df n:Nat):Int)=((Df n:Nat):Int):=Bz (by omega) (by omega)
 have e2:Bh (BU (((Df n:Nat):Int)+4503599627370496))=((Df n+2^52:Nat):Int):=by rw[Dk (by omega) (by omega),Bz (by omega) (by omega)]; omega
 have i1:∀k:Nat,k<2^54->Oy (k:Int)=wc:=fun k hk=>Bv.2 (by omega)
 rw[MV,CI hn,e1,e2,i1 _ (by omega),i1 _ (by omega),B8,Bz (by omega) (by omega)];simp only[Aa];unfold Bx B6;by_cases h:DH n=0
 ·have o3:OK (-1074)=wc:=Bv.2 (by omega);rw[Az h,Az h,Ag (by omega),Af,o1 _ (by omega),o2 _ (by omega),o3];cases Ce n
  ·rw[Af,Pp]; rfl
  ·rw[Aa,Xt]; rfl
 ·have o3:OK ((DH n:Int)-1075)=wc:=Bv.2 (by omega);rw[Ay h,Ay h,Ac (by omega),Aa,o1 _ (by omega),o2 _ (by omega),o3];cases Ce n
  ·rw[Af,Pp]; rfl
  ·rw[Aa,Xt]; rfl
theorem AdL{m t:Nat}(h:m<2^t)(h0:m≠0):N6 m<t:=AK (AdK h0) ((AZ h0).2 h)
theorem Vv(b:Nat):(Gj (b:Int)).natAbs=Bx b:=by unfold Gj Gx;rw[Ad];split<;>omega
theorem AiB(b:Nat):D0 (Gj (b:Int)).natAbs<3/\-400000<=eD (Gj (b:Int)) (B6 b)/\eD (Gj (b:Int)) (B6 b)<=400000:=by
 have hm:=EJ b;have he:=CH b;have ha:=Vv b;refine⟨Abd (k:=2) (by rw[ha]; exact y5 hm (by decide)) (by omega),?_⟩;unfold eD;by_cases h:Gj (b:Int)=0
 ·rw[Az h]; omega
 ·rw[Ay h];have:=AdL (m:=(Gj (b:Int)).natAbs) (t:=53) (by rw[ha]; exact hm) (by omega);omega
def compare.Og.E:=E0 [(181,soft.Sign.Bu)]
theorem compare.Og.ev(N:Nat)(b:Int):Cz compare.Og.E N f172 (Bw f172) [.int .u64 b]=cond (Br b) (bif (DN b) then wM (.int .i64 (Bh (0-(Bh (NX .u64 b 9223372036854775808))))) else wM (.int .i64 (Bh b))) wN:=by kernel_rfl
def compare.Order.E:=E0 [(172,compare.Og.Bu),(165,soft.Kind.Bu)]
theorem compare.Order.ev(N:Nat)(a b:Int):Cz compare.Order.E N f131 (Bw f131) [.int .u64 a,.int .u64 b]=cond (Br a) (bif ((BF a)==(4:Int)) then wM (.CJ [.int .i64 0,.bool wh]) else bif (Br b) then cond ((BF b)==(4:Int)) (wM (.CJ [.int .i64 0,.bool wh])) (bif (Br a) then cond (Br b) (bif (BH (UA a) (UA b)) then wM (.CJ [.int .i64 (-1:Int),.bool wc]) else bif (Br a) then cond (Br b) (bif (BH (UA b) (UA a)) then wM (.CJ [.int .i64 1,.bool wc]) else wM (.CJ [.int .i64 0,.bool wc])) wN else wN) wN else wN) else wN) wN:=by kernel_rfl
def compare.Mw.E:=E0 [(131,compare.Order.Bu)]
theorem compare.Mw.ev(N:Nat)(a b:Int):Cz compare.Mw.E N f78 (Bw f78) [.int .u64 a,.int .u64 b]=cond (Br a&&Br b) (wM (.bool (BH (Gk a b) 0))) wN:=by kernel_rfl
def compare.WR.E:=E0 []
theorem compare.WR.ev(N:Nat)(a:Int):Cz compare.WR.E N f80 (Bw f80) [.int .u64 a]=wM (.int .u64 (NX .u64 a 9223372036854775808)):=by kernel_rfl
def compare.Dw.hint:Nat->Option BK
 | 1=>wM { Da:=[0,6,7,8],Cg:=[],Cv:=[] }
 | _=>wN
def compare.Dw.E:=Dr (CW [(165,soft.Kind.Bu),(180,soft.DA.Bu),(166,soft.EX.Bu),(181,soft.Sign.Bu)]) (fun _=>wh) compare.Dw.hint (fun _=>wN)
section
variable(N M:Nat)(a n p6 p7:Int)(p8:Bool)
def compare.Dw.L0:Option DV:=C6 compare.Dw.E N f143 (Bw f143) [1,1,1,1,1,1,0,0] [] M ⟨Fp 59 [(0,.int .u64 a),(6,.int .u64 p6),(7,.int .i64 p7),(8,.bool p8)],[]⟩
theorem compare.Dw.B7:compare.Dw.L0 N (M+1) a p6 p7 p8=cond ((BH p7 (-1130:Int))&&(BH 1 p6)) (compare.Dw.L0 N M a (DL .u64 p6 1) (Bh (p7+1)) (cond p8 wc ((F9 .u64 p6 1)==(1:Int)))) (bif (BH p7 (-1130:Int)) then cond (Br a) (bif (El 0 (-1074:Int) wc) then wM (.CJ [.int .u64 (E9 (DN a) 0 (-1074:Int) wc),.int .u8 (E8 (DN a) 0 (-1074:Int) wc)]) else wN) wN else bif (Br a) then cond (El p6 p7 p8) (wM (.CJ [.int .u64 (E9 (DN a) p6 p7 p8),.int .u8 (E8 (DN a) p6 p7 p8)])) wN else wN) :=Et (B4 (M3 (BH p7 (-1130:Int))) (B4 (J7 (BH p7 (-1130:Int))) (B4 (Qk (BH p7 (-1130:Int))) (CQ (tt1 _ _) (B4 (TO p8) (B4 (Rw p8) (B4 (Rw p8) (B4 (Xb p8) rfl)))) rfl))))
theorem compare.Dw.ev:Cz compare.Dw.E N f143 (Bw f143) [.int .u64 a,.int .i64 n]=cond (Br a) (bif ((BF a)==(4:Int)) then wM (.CJ [.int .u64 9221120237041090560,.int .u8 0]) else bif ((BF a)==(3:Int)) then cond ((BF a)==(3:Int)) (wM (.CJ [.int .u64 a,.int .u8 0])) (bif (Br a) then compare.Dw.L0 N N a (Cf a) (Bh ((BR a)+(max (-2300:Int) (min 2300 n)))) wh else wN) else bif ((BF a)==(0:Int)) then wM (.CJ [.int .u64 a,.int .u8 0]) else bif (Br a) then compare.Dw.L0 N N a (Cf a) (Bh ((BR a)+(max (-2300:Int) (min 2300 n)))) wh else wN) wN:=by kernel_rfl
end
def Bs.CF.E:=E0 [(143,compare.Dw.Bu)]
theorem Bs.CF.ev(N:Nat)(a n:Int):Cz Bs.CF.E N f79 (Bw f79) [.int .u64 a,.int .i64 n]=cond (Eg a n) (wM (.int .u64 (BV a n))) wN:=by kernel_rfl
def Bs.Div.E:=E0 [(144,times.Div.Bu)]
theorem Bs.Div.ev(N:Nat)(a b:Int):Cz Bs.Div.E N f82 (Bw f82) [.int .u64 a,.int .u64 b]=cond (Br a&&Br b) (wM (.int .u64 (EV a b))) wN:=by kernel_rfl
def Bs.DJ.hint:Nat->Option BK
 | 0=>wM { Da:=[3,6,7,8],Cg:=[],Cv:=[] }
 | _=>wN
def Bs.DJ.E:=Dr (CW [(80,compare.WR.Bu),(165,soft.Kind.Bu)]) (fun _=>wh) Bs.DJ.hint (fun _=>wN)
section
variable(N M:Nat)(x:Bf)(p3 p8:Int)
def Bs.DJ.L0:Option DV:=C6 Bs.DJ.E N f124 (Bw f124) [1,1,0,1,0] [] M ⟨Fp 21 [(3,.int .u64 p3),(6,.Bj .arg .u64 x),(7,.int .i64 (wj x:Int)),(8,.int .i64 p8)],[]⟩
theorem Bs.DJ.B7:Bs.DJ.L0 N (M+1) x p3 p8=cond (BH p8 (wj x:Int)) (bif ((decide (0<=p8))&&(decide (p8<(wj x:Int)))) then cond (Br (vC x (wi p8) 0)) (bif ((BF (vC x (wi p8) 0))==(4:Int)) then wM (.int .u64 9221120237041090560) else bif (Br (vC x (wi p8) 0)) then Bs.DJ.L0 N M x (max p3 (K3 (vC x (wi p8) 0))) (Bh (p8+1)) else wN) wN else wN) (wM (.int .u64 p3)):=by kernel_rfl
theorem Bs.DJ.ev:Cz Bs.DJ.E N f124 (Bw f124) [.Bj .arg .u64 x]=
 Bs.DJ.L0 N N x 0 0:=by kernel_rfl
end
def Bs.Finite.hint:Nat->Option BK
 | 0=>wM { Da:=[5,6,7],Cg:=[],Cv:=[] }
 | _=>wN
def Bs.Finite.E:=Dr (CW [(136,soft.Finite.Bu)]) (fun _=>wh) Bs.Finite.hint (fun _=>wN)
section
variable(N M:Nat)(x:Bf)(p7:Int)
def Bs.Finite.L0:Option DV:=C6 Bs.Finite.E N f66 (Bw f66) [1,0,1,0] [] M ⟨Fp 15 [(5,.Bj .arg .u64 x),(6,.int .i64 (wj x:Int)),(7,.int .i64 p7)],[]⟩
theorem Bs.Finite.B7:Bs.Finite.L0 N (M+1) x p7=cond (BH p7 (wj x:Int)) (bif ((decide (0<=p7))&&(decide (p7<(wj x:Int)))) then cond (Br (vC x (wi p7) 0)) (bif (!(Du (vC x (wi p7) 0))) then wM (.bool wh) else Bs.Finite.L0 N M x (Bh (p7+1))) wN else wN) (wM (.bool wc)):=by kernel_rfl
theorem Bs.Finite.ev:Cz Bs.Finite.E N f66 (Bw f66) [.Bj .arg .u64 x]=
 Bs.Finite.L0 N N x 0:=by kernel_rfl
end
def DI.Check.hint:Nat->Option BK
 | 0=>wM { Da:=[9,10,11],Cg:=[],Cv:=[] }
 | _=>wN
def DI.Check.E:=Dr (CW [(121,Bg.Check.Bu),(136,soft.Finite.Bu)]) (fun _=>wh) DI.Check.hint (fun _=>wN)
section
variable(N:Nat)(r c:Int)(M:Nat)(l:Bf)(p11:Int)
def DI.Check.L0:Option DV:=C6 DI.Check.E N f69 (Bw f69) [1,1,0,1,0] [] M ⟨Fp 19 [(9,.Bj .arg .u64 l),(10,.int .i64 (wj l:Int)),(11,.int .i64 p11)],[]⟩
theorem DI.Check.B7:DI.Check.L0 N (M+1) l p11=cond (BH p11 (wj l:Int)) (bif ((decide (0<=p11))&&(decide (p11<(wj l:Int)))) then cond (Br (vC l (wi p11) 0)) (bif (!(Du (vC l (wi p11) 0))) then wM (.int .i64 4) else DI.Check.L0 N M l (Bh (p11+1))) wN else wN) (wM (.int .i64 0)):=by kernel_rfl
theorem DI.Check.ev:Cz DI.Check.E N f69 (Bw f69) [.agg [.int .i64 r,.int .i64 c,.Bj .arg .u64 l]]=cond ((Iy r c l) !=(0:Int)) (wM (.int .i64 1)) (DI.Check.L0 N N l 0):=by kernel_rfl
end
theorem NN{k j:Nat}(h:k≠j):(((k:Nat):Int)==((j:Nat):Int))=wh:=by rw[AD]; omega
theorem Vp(n:Nat):n%2^63<2^63:=zt _ (by decide)
theorem Y2{n:Nat}(h:n<2^64):NX .u64 (n:Int) (9223372036854775808:Int)=((n%2^63:Nat):Int):=by have:=Mg (Ce n) (Vp n);rw[Uz h] at this;exact this
theorem compare.WR.Bp:Kq 80 compare.WR.Bu:=E1 compare.WR.E Tryz.func80 .nil fun a hp=>by obtain⟨n,rfl,hn⟩:=C3 (show Br a=wc from hp);refine⟨0,compare.WR.out [.i (n:Int)],[],?_,.int⟩;show _=wM (DV.int .u64 (((n:Int).toNat%2^63:Nat):Int));rw[compare.WR.ev,Y2 hn,Ad]
theorem compare.Og.Bp:Kq 172 compare.Og.Bu:=E1 compare.Og.E Tryz.func172 (kc soft.Sign.Bp .nil) fun b hp=>by
 have hp:Br b=wc:=hp;obtain⟨n,rfl,hn⟩:=C3 hp;refine⟨0,compare.Og.out [.i (n:Int)],[],?_,.int⟩;show _=wM (DV.int .i64 (Gt (n:Int).toNat));have h63:=Vp n;rw[compare.Og.ev,hp,Aa,Y2 hn,Ad];unfold Gt Gx DN;rw[Ad];cases hs:Ce n with
 | true =>rw[Aa,Az rfl,Bz (x:=((n%2^63:Nat):Int)) (by omega) (by omega),Bz (by omega) (by omega)];congr 2; omega
 | false =>
   have:n<2^63:=by unfold Ce at hs;have:=of_decide_eq_false hs;omega
   rw[Af,Ay (by decide),Ao this,Bz (by omega) (by omega)]
theorem compare.Order.Bp:Kq 131 compare.Order.Bu:=E1 compare.Order.E Tryz.func131 (kc compare.Og.Bp (kc soft.Kind.Bp .nil)) fun a b hp=>by
 obtain⟨ha,hb⟩:=Bi.1 (show(Br a&&Br b)=wc from hp);refine⟨0,compare.Order.out [.i a,.i b],[],?_,Wk.FQ (.cons .int (.cons .bool .nil))⟩;show _=wM (DV.CJ [.int .i64 (Acr a.toNat b.toNat),.bool (Aji a.toNat b.toNat)]);rw[compare.Order.ev,ha,hb,Aa,Aa,Aa,Aa,Aa,Aa,B8,B8];unfold Acr Aji UA BF;by_cases h1:Bn a.toNat=4
 ·have e:(((Bn a.toNat:Nat):Int)==(4:Int))=wc:=by rw[h1]; rfl
  rw[e,Aa,Az (.inl h1),Ac (.inl h1)]; rfl
 ·have e:(((Bn a.toNat:Nat):Int)==(4:Int))=wh:=NN h1;rw[e,Af];by_cases h2:Bn b.toNat=4
  ·have e:(((Bn b.toNat:Nat):Int)==(4:Int))=wc:=by rw[h2]; rfl
   rw[e,Aa,Az (.inr h2),Ac (.inr h2)]; rfl
  ·have e:(((Bn b.toNat:Nat):Int)==(4:Int))=wh:=NN h2;have hn:¬(Bn a.toNat=4\/Bn b.toNat=4):=fun h=>h.elim h1 h2
   rw[e,Af,Ay hn,Ag hn];by_cases h3:Gt a.toNat<Gt b.toNat
   ·rw[Ac h3,Az h3]; rfl
   ·rw[Ag h3,Ay h3];by_cases h4:Gt b.toNat<Gt a.toNat
    ·rw[Ac h4,Az h4]; rfl
    ·rw[Ag h4,Ay h4]; rfl
theorem compare.Mw.Bp:Kq 78 compare.Mw.Bu:=E1 compare.Mw.E Tryz.func78 (kc compare.Order.Bp .nil) fun a b hp=>by have hp:(Br a&&Br b)=wc:=hp;refine⟨0,compare.Mw.out [.i a,.i b],[],?_,.bool⟩;rw[compare.Mw.ev,hp,B8]; rfl
theorem Zc(N:Nat){a:Int}(ha:Br a=wc):∀(k F m:Nat) (e:Int) (b:Bool),e=-1130-(k:Int)->k<F->m<2^53->(m≠0\/b=wc)->-9000<e ->
 compare.Dw.L0 N F a (m:Int) e b=wM (.CJ [.int .u64 (((Cq (Ce a.toNat) 0,3):Nat × Nat).1:Nat),.int .u8 (((Cq (Ce a.toNat) 0,3):Nat × Nat).2:Nat)]):=by
 have pre1:El (0:Int) (-1074:Int) wc=wc:=Bv.2 (by omega);intro k
 induction k with
 | zero =>
   intro F m e b he hF hm h0 _;obtain⟨F,rfl⟩:∃G,F=G+1:=⟨F-1,by omega⟩
   have hlt:BH e (-1130:Int)=wh:=by rw[B8]; exact Ag (by omega)
   have Oh:El (m:Int) e b=wc:=Bv.2 (by omega);rw[compare.Dw.B7,hlt,zV,Af,Af,ha,Aa,Oh,Aa];unfold E9 E8 DN;rw[Ad,Ac1 _ hm h0 (by omega)]
 | succ k ih =>
   intro F m e b he hF hm h0 hb;obtain⟨F,rfl⟩:∃G,F=G+1:=⟨F-1,by omega⟩
   have hlt:BH e (-1130:Int)=wc:=by rw[B8]; exact Ac (by omega)
   rw[compare.Dw.B7,hlt,AW,Aa,B8];by_cases h1:(1:Int)<(m:Int)
   ·have em:DL .u64 (m:Int) (1:Int)=((m / 2^1:Nat):Int):=G3 .u64 m 1 (by decide);rw[Ac h1,Aa,em,Bz (by omega) (by omega)];exact ih F (m / 2^1) (e+1) _ (by omega) (by omega) (by omega) (.inl (by omega)) (by omega)
   ·rw[Ag h1,Af,ha,Aa,pre1,Aa];unfold E9 E8 DN;rw[show(0:Int).toNat=0 from rfl,AeS]
theorem compare.Dw.Bp:Kq 143 compare.Dw.Bu:=E1 compare.Dw.E Tryz.func143 (kc soft.Kind.Bp (kc soft.DA.Bp (kc soft.EX.Bp (kc soft.Sign.Bp .nil)))) fun a n hp=>by
 obtain⟨ha,hn⟩:=Bi.1 (show Eg a n=wc from hp);have hn:=Bv.1 hn;refine⟨3000,compare.Dw.out [.i a,.i n],[],?_,Wk.FQ (.cons .int (.cons .int .nil))⟩;show _=wM (DV.CJ [.int .u64 ((Cj a.toNat n).1:Nat),.int .u8 ((Cj a.toNat n).2:Nat)]);have em:max (-2300:Int) (min (2300:Int) n)=n:=by omega
 have pE:=CH a.toNat;have pM:=EJ a.toNat;have ee:Bh (BR a+n)=B6 a.toNat+n:=by unfold BR; exact Bz (by omega) (by omega)
 rw[compare.Dw.ev,ha,Aa,Aa,em,ee];unfold BF;by_cases h4:Bn a.toNat=4
 ·have e:(((Bn a.toNat:Nat):Int)==(4:Int))=wc:=by rw[h4]; rfl
  rw[e,Aa];unfold Cj;rw[Az h4]; rfl
 have e4:(((Bn a.toNat:Nat):Int)==(4:Int))=wh:=NN h4;rw[e4,Af];by_cases h3:Bn a.toNat=3
 ·have e:(((Bn a.toNat:Nat):Int)==(3:Int))=wc:=by rw[h3]; rfl
  obtain⟨k,rfl,hk⟩:=C3 ha;rw[e,Aa,Aa];unfold Cj;rw[Ay h4,Az (.inl h3),Ad]; rfl
 have e3:(((Bn a.toNat:Nat):Int)==(3:Int))=wh:=NN h3;rw[e3,Af];by_cases h0:Bn a.toNat=0
 ·have e:(((Bn a.toNat:Nat):Int)==(0:Int))=wc:=by rw[h0]; rfl
  obtain⟨k,rfl,hk⟩:=C3 ha;rw[e,Aa];unfold Cj;rw[Ay h4,Az (.inr h0),Ad]; rfl
 have e0:(((Bn a.toNat:Nat):Int)==(0:Int))=wh:=NN h0;have hk:¬(Bn a.toNat=3\/Bn a.toNat=0):=fun h=>h.elim h3 h0
 have hm:Bx a.toNat≠0:=fun h=>h0 ((CZ h3 h4).1 h)
 rw[e0,Af];show compare.Dw.L0 3000 3000 a (Bx a.toNat:Nat) (B6 a.toNat+n) wh=_;by_cases ht:B6 a.toNat+n<=-1130
 ·rw[Zb h4 hk ht];exact Zc 3000 ha (-1130-(B6 a.toNat+n)).toNat 3000 _ _ wh (by omega) (by omega) (by omega) (.inl hm) (by omega)
 ·have hlt:BH (B6 a.toNat+n) (-1130:Int)=wh:=by rw[B8]; exact Ag (by omega)
  have Oh:El ((Bx a.toNat:Nat):Int) (B6 a.toNat+n) wh=wc:=Bv.2 ⟨by omega,by omega,by omega,by omega,fun h=>by cases h⟩;rw[G4 h4 hk,show(3000:Nat)=2999+1 from rfl,compare.Dw.B7,hlt,zV,Af,Af,ha,Aa,Oh,Aa];unfold E9 E8 DN;rw[Ad,Ri]
theorem Bs.CF.Bp:Kq 79 Bs.CF.Bu:=E1 Bs.CF.E Tryz.func79 (kc compare.Dw.Bp .nil) fun a n hp=>by have hp:Eg a n=wc:=hp;refine⟨0,Bs.CF.out [.i a,.i n],[],?_,.int⟩;rw[Bs.CF.ev,hp]; rfl
theorem Bs.Div.Bp:Kq 82 Bs.Div.Bu:=E1 Bs.Div.E Tryz.func82 (kc times.Div.Bp .nil) fun a b hp=>by have hp:(Br a&&Br b)=wc:=hp;refine⟨0,Bs.Div.out [.i a,.i b],[],?_,.int⟩;rw[Bs.Div.ev,hp]; rfl
theorem IT{l:Bf}{i:Nat}(h:i<l.length):l.drop i=l.getD i 0::l.drop (i+1):=by rw[List.drop_eq_getElem_cons h,Al,As h]; rfl
theorem Io{l:Bf}(h:Cw l=wc):l.length<4611686018427387904/\∀j,j<l.length->Br (l.getD j 0)=wc:=by obtain⟨h1,h2⟩:=Bv.1 h;exact⟨h1,fun j hj=>by rw[Al,As hj]; exact h2 _ (List.getElem_mem hj)⟩
theorem FO{l:Bf}(h:Bq l=wc)(hl:l.length<=1000):Cw l=wc:=Bv.2 ⟨by omega,Bv.1 h⟩
theorem Yk(N:Nat){x:Bf}(hx:Cw x=wc):∀(k i F:Nat),i+k=x.length->k<F->Bs.Finite.L0 N F x (i:Int)=wM (.bool ((x.drop i).all Du)):=by
 obtain⟨hl,hu⟩:=Io hx;intro k
 induction k with
 | zero =>
   intro i F hi hF;obtain⟨F,rfl⟩:∃G,F=G+1:=⟨F-1,by omega⟩
   rw[Bs.Finite.B7,B8,Ag (by omega),Af,Ap (by omega)]; rfl
 | succ k ih =>
   intro i F hi hF;obtain⟨F,rfl⟩:∃G,F=G+1:=⟨F-1,by omega⟩
   rw[Bs.Finite.B7,B8,Ac (show(i:Int)<(x.length:Int) by omega),Aa,Ac (show(0:Int)<=(i:Int) by omega),Ah,Aa,Ad,hu i (by omega),Aa,IT (by omega),yV];cases Du (x.getD i 0) with
   | false=>rfl
   | true =>rw[AH,Af,Bz (by omega) (by omega),AW];exact ih (i+1) F (by omega) (by omega)
theorem Bs.Finite.Bp:Kq 66 Bs.Finite.Bu:=E1 Bs.Finite.E Tryz.func66 (kc soft.Finite.Bp .nil) fun x hp=>by have hp:Cw x=wc:=hp;refine⟨x.length+1,Bs.Finite.out [.l x],[],?_,.bool⟩;show _=wM (DV.bool (x.all Du));rw[Bs.Finite.ev];exact Yk _ hp x.length 0 (x.length+1) (by omega) (by omega)
theorem Adj{x:Bf}{i:Nat}(h:i<x.length)(m:Nat):Iz (x.drop i) m=if Bn (x.getD i 0).toNat=4 then N2 else Iz (x.drop (i+1)) (max m (DP (x.getD i 0).toNat)):=by rw[IT h]; rfl
theorem W7(N:Nat){x:Bf}(hx:Cw x=wc):∀(k i F m:Nat),i+k=x.length->k<F->Bs.DJ.L0 N F x (m:Int) (i:Int)=wM (.int .u64 ((Iz (x.drop i) m:Nat):Int)):=by
 obtain⟨hl,hu⟩:=Io hx;intro k
 induction k with
 | zero =>
   intro i F m hi hF;obtain⟨F,rfl⟩:∃G,F=G+1:=⟨F-1,by omega⟩
   rw[Bs.DJ.B7,B8,Ag (by omega),Af,Ap (by omega)]; rfl
 | succ k ih =>
   intro i F m hi hF;obtain⟨F,rfl⟩:∃G,F=G+1:=⟨F-1,by omega⟩
   rw[Bs.DJ.B7,B8,Ac (show(i:Int)<(x.length:Int) by omega),Aa,Ac (show(0:Int)<=(i:Int) by omega),Ah,Aa,Ad,hu i (by omega),Aa,Adj (by omega)];unfold BF;by_cases h4:Bn (x.getD i 0).toNat=4
   ·have e:(((Bn (x.getD i 0).toNat:Nat):Int)==(4:Int))=wc:=by rw[h4]; rfl
    rw[e,Aa,Az h4]; rfl
   ·have e:(((Bn (x.getD i 0).toNat:Nat):Int)==(4:Int))=wh:=NN h4;have em:max (m:Int) (K3 (x.getD i 0))=((max m (DP (x.getD i 0).toNat):Nat):Int):=by unfold K3; omega
    rw[e,Af,Aa,Ay h4,em,Bz (by omega) (by omega)];exact ih (i+1) F _ (by omega) (by omega)
theorem Bs.DJ.Bp:Kq 124 Bs.DJ.Bu:=E1 Bs.DJ.E Tryz.func124 (kc compare.WR.Bp (kc soft.Kind.Bp .nil)) fun x hp=>by have hp:Cw x=wc:=hp;refine⟨x.length+1,Bs.DJ.out [.l x],[],?_,.int⟩;rw[Bs.DJ.ev];exact W7 _ hp x.length 0 (x.length+1) 0 (by omega) (by omega)
theorem W5(N:Nat){x:Bf}(hx:Cw x=wc):∀(k i F:Nat),i+k=x.length->k<F->DI.Check.L0 N F x (i:Int)=wM (.int .i64 (if (x.drop i).all Du=wc then 0 else 4)):=by
 obtain⟨hl,hu⟩:=Io hx;intro k
 induction k with
 | zero =>
   intro i F hi hF;obtain⟨F,rfl⟩:∃G,F=G+1:=⟨F-1,by omega⟩
   rw[DI.Check.B7,B8,Ag (by omega),Af,Ap (by omega)]; rfl
 | succ k ih =>
   intro i F hi hF;obtain⟨F,rfl⟩:∃G,F=G+1:=⟨F-1,by omega⟩
   rw[DI.Check.B7,B8,Ac (show(i:Int)<(x.length:Int) by omega),Aa,Ac (show(0:Int)<=(i:Int) by omega),Ah,Aa,Ad,hu i (by omega),Aa,IT (by omega),yV];cases Du (x.getD i 0) with
   | false=>rfl
   | true =>rw[AH,Af,Bz (by omega) (by omega),AW];exact ih (i+1) F (by omega) (by omega)
theorem Ll{r c:Int}{l:Bf}(h:BD r c l=wc):l.length<=36:=by obtain⟨R,C,rfl,rfl,r6,c6,hl⟩:=DF h;have:=AE r6 c6;omega
theorem DI.Check.Bp:Kq 69 DI.Check.Bu:=E1 DI.Check.E Tryz.func69 (kc Bg.Check.Bp (kc soft.Finite.Bp .nil)) fun r c l hp=>by
 have hp:Bq l=wc:=hp;refine⟨l.length+1,DI.Check.out [.i r,.i c,.l l],[],?_,.int⟩;show _=wM (DV.int .i64 (BT r c l));rw[DI.Check.ev];unfold Iy BT Dx;by_cases h:BD r c l=wc
 ·have:=Ll h;rw[Az h,Az h];have e:((0:Int) !=(0:Int))=wh:=by decide
  rw[e,Af];exact W5 _ (FO hp (by omega)) l.length 0 (l.length+1) (by omega) (by omega)
 ·rw[Ay h,Ay h]; rfl
open Go Go.Den Go.Cn Go.Proofs Ieee
def root.Hc.hint:Nat->Option BK
 | 0=>wM { Da:=[0,4,5,6,14],Cg:=[],Cv:=[] }
 | _=>wN
def root.Hc.E:=Dr (CW []) (fun _=>wh) root.Hc.hint (fun _=>wN)
section
variable(N M:Nat)(m p4 p5 p6 p14:Int)
def root.Hc.L0:Option DV:=C6 root.Hc.E N f211 (Bw f211) [1,1,0,1,0] [] M ⟨Fp 68 [(0,.int .u64 m),(4,.int .u64 p4),(5,.int .u64 p5),(6,.int .u64 p6),(14,.int .i64 p14)],[]⟩
theorem root.Hc.B7:root.Hc.L0 N (M+1) m p4 p5 p6 p14=cond (BH p14 64) (bif (BH p14 32) then cond (decide (0<=(Bh ((62:Int)-(Bh ((2:Int)*p14)))))) (bif (decide ((FZ (Hw .u64 (Cr .u64 p6 2) (F9 .u64 (DL .u64 m (Bh ((62:Int)-(Bh ((2:Int)*p14))))) 3)) (Hw .u64 (Cr .u64 p4 2) 1) 0)<=1)) then cond ((FZ (Hw .u64 (Cr .u64 p5 2) (DL .u64 p6 62)) (DL .u64 p4 62) (FZ (Hw .u64 (Cr .u64 p6 2) (F9 .u64 (DL .u64 m (Bh ((62:Int)-(Bh ((2:Int)*p14))))) 3)) (Hw .u64 (Cr .u64 p4 2) 1) 0))==(0:Int)) (root.Hc.L0 N M m (Hw .u64 (Cr .u64 p4 1) 1) (KA (Hw .u64 (Cr .u64 p5 2) (DL .u64 p6 62)) (DL .u64 p4 62) (FZ (Hw .u64 (Cr .u64 p6 2) (F9 .u64 (DL .u64 m (Bh ((62:Int)-(Bh ((2:Int)*p14))))) 3)) (Hw .u64 (Cr .u64 p4 2) 1) 0)) (KA (Hw .u64 (Cr .u64 p6 2) (F9 .u64 (DL .u64 m (Bh ((62:Int)-(Bh ((2:Int)*p14))))) 3)) (Hw .u64 (Cr .u64 p4 2) 1) 0) (Bh (p14+1))) (root.Hc.L0 N M m (Cr .u64 p4 1) (Hw .u64 (Cr .u64 p5 2) (DL .u64 p6 62)) (Hw .u64 (Cr .u64 p6 2) (F9 .u64 (DL .u64 m (Bh ((62:Int)-(Bh ((2:Int)*p14))))) 3)) (Bh (p14+1))) else wN) wN else bif (decide ((FZ (Hw .u64 (Cr .u64 p6 2) 0) (Hw .u64 (Cr .u64 p4 2) 1) 0)<=1)) then cond ((FZ (Hw .u64 (Cr .u64 p5 2) (DL .u64 p6 62)) (DL .u64 p4 62) (FZ (Hw .u64 (Cr .u64 p6 2) 0) (Hw .u64 (Cr .u64 p4 2) 1) 0))==(0:Int)) (root.Hc.L0 N M m (Hw .u64 (Cr .u64 p4 1) 1) (KA (Hw .u64 (Cr .u64 p5 2) (DL .u64 p6 62)) (DL .u64 p4 62) (FZ (Hw .u64 (Cr .u64 p6 2) 0) (Hw .u64 (Cr .u64 p4 2) 1) 0)) (KA (Hw .u64 (Cr .u64 p6 2) 0) (Hw .u64 (Cr .u64 p4 2) 1) 0) (Bh (p14+1))) (root.Hc.L0 N M m (Cr .u64 p4 1) (Hw .u64 (Cr .u64 p5 2) (DL .u64 p6 62)) (Hw .u64 (Cr .u64 p6 2) 0) (Bh (p14+1))) else wN) (wM (.CJ [.int .u64 p4,.bool (cond (p5==(0:Int)) (p6==(0:Int)) wh)])) :=Et (ET rfl (B4 (M3 (p5==(0:Int))) (B4 (J7 (p5==(0:Int))) (B4 (Qk (p5==(0:Int))) rfl))))
theorem root.Hc.ev:Cz root.Hc.E N f211 (Bw f211) [.int .u64 m]=
 root.Hc.L0 N N m 0 0 0 0:=by kernel_rfl
end
def root.Sqrt.hint:Nat->Option BK
 | 5=>wM { Da:=[5,7,9],Cg:=[],Cv:=[] }
 | _=>wN
def root.Sqrt.E:=Dr (CW [(210,D8.CV.Bu),(211,root.Hc.Bu),(165,soft.Kind.Bu),(180,soft.DA.Bu),(166,soft.EX.Bu),(181,soft.Sign.Bu)]) (fun _=>wh) root.Sqrt.hint (fun _=>wN)
section
variable(N:Nat)(a:Int)(M:Nat)(p5 p7:Int)(p9:Bool)
def root.Sqrt.L0:Option DV:=C6 root.Sqrt.E N f176 (Bw f176) [1,1,1,1,1,1,1,1,1,0,0] [] M ⟨Fp 73 [(5,.int .i64 p5),(7,.int .u64 p7),(9,.bool p9)],[]⟩
theorem root.Sqrt.B7:root.Sqrt.L0 N (M+1) p5 p7 p9=cond (DT 4611686018427387904 p7) (root.Sqrt.L0 N M (Bh (p5+2)) (DL .u64 p7 1) (cond p9 wc ((F9 .u64 p7 1)==(1:Int)))) (bif (El p7 (Bh ((Bh (zq p5 2))-32)) p9) then wM (.CJ [.int .u64 (E9 wh p7 (Bh ((Bh (zq p5 2))-32)) p9),.int .u8 (E8 wh p7 (Bh ((Bh (zq p5 2))-32)) p9)]) else wN) :=Et (ET (B4 (TO p9) (B4 (Rw p9) (B4 (Rw p9) (B4 (Xb p9) rfl)))) rfl)
theorem root.Sqrt.ev:Cz root.Sqrt.E N f176 (Bw f176) [.int .u64 a]=cond (Br a) (bif ((BF a)==(4:Int)) then wM (.CJ [.int .u64 9221120237041090560,.int .u8 0]) else bif (Br a) then cond ((BF a)==(0:Int)) (wM (.CJ [.int .u64 a,.int .u8 0])) (bif (a==(9218868437227405312:Int)) then wM (.CJ [.int .u64 a,.int .u8 0]) else bif (Br a) then cond (DN a) (wM (.CJ [.int .u64 9221120237041090560,.int .u8 16])) (bif (Br a) then cond (Br (Cf a)) (bif ((zw (Bh ((BR a)-(Bh ((64-EA (Cf a))-2)))) 2) !=(0:Int)) then cond (decide (0<=(Bh ((Bh ((64-EA (Cf a))-2))-1)))) (bif (Ci (0<=(Cr .u64 (Cf a) (Bh ((Bh ((64-EA (Cf a))-2))-1)))/\(Cr .u64 (Cf a) (Bh ((Bh ((64-EA (Cf a))-2))-1)))<9223372036854775808)) then root.Sqrt.L0 N N (Bh ((BR a)-(Bh ((Bh ((64-EA (Cf a))-2))-1)))) (PE (Cr .u64 (Cf a) (Bh ((Bh ((64-EA (Cf a))-2))-1)))) (!(PF (Cr .u64 (Cf a) (Bh ((Bh ((64-EA (Cf a))-2))-1))))) else wN) wN else bif (decide (0<=(Bh ((64-EA (Cf a))-2)))) then cond (Ci (0<=(Cr .u64 (Cf a) (Bh ((64-EA (Cf a))-2)))/\(Cr .u64 (Cf a) (Bh ((64-EA (Cf a))-2)))<9223372036854775808)) (root.Sqrt.L0 N N (Bh ((BR a)-(Bh ((64-EA (Cf a))-2)))) (PE (Cr .u64 (Cf a) (Bh ((64-EA (Cf a))-2)))) (!(PF (Cr .u64 (Cf a) (Bh ((64-EA (Cf a))-2)))))) wN else wN) wN else wN) else wN) else wN) wN:=by kernel_rfl
end
def Bs.Sqrt.E:=E0 [(176,root.Sqrt.Bu)]
theorem Bs.Sqrt.ev(N:Nat)(a:Int):Cz Bs.Sqrt.E N f139 (Bw f139) [.int .u64 a]=cond (Br a) (wM (.int .u64 (DG a))) wN:=by kernel_rfl
def compare.M7.E:=E0 [(167,D8.I4.Bu),(136,soft.Finite.Bu),(165,soft.Kind.Bu),(166,soft.EX.Bu)]
theorem compare.M7.ev(N:Nat)(a:Int):Cz compare.M7.E N f123 (Bw f123) [.int .u64 a]=cond (Br a) (bif ((!(Du a))||(Br a)) then cond ((!(Du a))||((BF a)==(0:Int))) (wM (.int .i64 0)) (bif (Br a) then cond (Br (Cf a)) (wM (.int .i64 (Bh ((Bh ((EA (Cf a))-1))+(BR a))))) wN else wN) else wN) wN :=Et (ET (B4 (Sn (Du a)) (CQ (AbJ _ _) (B4 (O6 (Du a)) (B4 (TQ (Du a)) (CQ (AiQ _ _) rfl rfl))) rfl)) rfl)
def Bs.Norm.hint:Nat->Option BK
 | 0=>wM { Da:=[5,6,25,26,27],Cg:=[],Cv:=[] }
 | _=>wN
def Bs.Norm.E:=Dr (CW [(123,compare.M7.Bu),(136,soft.Finite.Bu),(137,Bs.Add.Bu),(124,Bs.DJ.Bu),(138,Bs.Mul.Bu),(79,Bs.CF.Bu),(139,Bs.Sqrt.Bu)]) (fun _=>wh) Bs.Norm.hint (fun _=>wN)
section
variable(N M:Nat)(x:Bf)(p6 p27:Int)
def Bs.Norm.L0:Option DV:=C6 Bs.Norm.E N f67 (Bw f67) [1,1,1,1,1,1,0,1,0] [] M ⟨Fp 45 [(5,.int .i64 (BO (BI x))),(6,.int .u64 p6),(25,.Bj .arg .u64 x),(26,.int .i64 (wj x:Int)),(27,.int .i64 p27)],[]⟩
theorem Bs.Norm.B7:Bs.Norm.L0 N (M+1) x p6 p27=cond (BH p27 (wj x:Int)) (bif ((decide (0<=p27))&&(decide (p27<(wj x:Int)))) then cond (Eg (vC x (wi p27) 0) (Bh (0-(BO (BI x))))) (bif (Br (BV (vC x (wi p27) 0) (Bh (0-(BO (BI x)))))&&Br (BV (vC x (wi p27) 0) (Bh (0-(BO (BI x)))))) then cond (Br p6&&Br (Cx (BV (vC x (wi p27) 0) (Bh (0-(BO (BI x))))) (BV (vC x (wi p27) 0) (Bh (0-(BO (BI x))))))) (Bs.Norm.L0 N M x (DD p6 (Cx (BV (vC x (wi p27) 0) (Bh (0-(BO (BI x))))) (BV (vC x (wi p27) 0) (Bh (0-(BO (BI x))))))) (Bh (p27+1))) wN else wN) wN else wN) (bif (Br p6) then cond (Eg (DG p6) (BO (BI x))) (wM (.CJ [.int .u64 (BV (DG p6) (BO (BI x))),.int .i64 0])) wN else wN):=by kernel_rfl
theorem Bs.Norm.ev:Cz Bs.Norm.E N f67 (Bw f67) [.Bj .arg .u64 x]=cond (BH 64 (wj x:Int)) (wM (.CJ [.int .u64 0,.int .i64 3])) (bif (Cw x) then cond (((BI x)==(0:Int))||(Br (BI x))) (bif (((BI x)==(0:Int))||(!(Du (BI x)))) then wM (.CJ [.int .u64 (BI x),.int .i64 0]) else bif (Br (BI x)) then Bs.Norm.L0 N N x 0 (0:Int) else wN) wN else wN) :=Et (ET rfl (ET (B4 (TO ((BI x)==(0:Int))) (CQ (Amt _ _) (B4 (Rw ((BI x)==(0:Int))) (B4 (Xb ((BI x)==(0:Int))) (CQ (Ams _ _) rfl rfl))) rfl)) rfl))
end
theorem PZ(n s:Nat)(h:s<=64):DL .u64 (n:Int) (s:Int)=((n / 2^s:Nat):Int):=G3 .u64 n s h
theorem sh2{n t:Nat}(ht:t<4):Hw .u64 (Cr .u64 (n:Int) (2:Int)) (t:Int)=((n%2^62*4+t:Nat):Int):=by rw[show(2:Int)=((2:Nat):Int) from rfl,Fj n 2 (by decide),show n*2^2%2^64=(n%2^62)*2^2 by omega];exact Kt ht (by omega)
theorem sh1{n:Nat}(h:n<2^63):Cr .u64 (n:Int) (1:Int)=((2*n:Nat):Int):=by rw[show(1:Int)=((1:Nat):Int) from rfl,Fj n 1 (by decide)];congr 1; omega
theorem AmE{n:Nat}(h:n<2^63):Hw .u64 (Cr .u64 (n:Int) (1:Int)) (1:Int)=((2*n+1:Nat):Int):=by rw[show(1:Int)=((1:Nat):Int) from rfl,Fj n 1 (by decide),show n*2^1%2^64=n*2^1 by omega,A0 2 n];exact Kt (k:=1) (by decide) (by omega)
theorem AdO{m i:Nat}(hi:i<32):F9 .u64 (DL .u64 (m:Int) (Bh ((62:Int)-(Bh ((2:Int)*(i:Int)))))) (3:Int)=((m / 2^(62-2*i)%2^64%4:Nat):Int)\/2^64<=m:=by
 by_cases hm:m<2^64
 ·left;rw[Bz (x:=(2:Int)*(i:Int)) (by omega) (by omega),Bz (x:=(62:Int)-2*(i:Int)) (by omega) (by omega),show(62:Int)-2*(i:Int)=((62-2*i:Nat):Int) by omega,PZ _ _ (by omega)];have hd:m / 2^(62-2*i)<2^64:=AK (yx _ _) hm;rw[show(3:Int)=((2^2-1:Nat):Int) from rfl,Hh 2 hd (by decide)];congr 1;omega
 ·right; omega
def Oh(m i:Nat):Nat:=m*2^64 / 2^(128-2*i)
theorem AeE{m i:Nat}(hi:i<32):Oh m (i+1)=4*Oh m i+m / 2^(62-2*i)%4:=by
 unfold Oh;have e1:128-2*i=64+(64-2*i):=by omega
 have e2:128-2*(i+1)=64+(62-2*i):=by omega
 rw[e1,e2,A5,A5,A0 (2^64),A0 (2^64),xV _ _ (by decide),xV _ _ (by decide),show 64-2*i=(62-2*i)+2 by omega,A5,<- A9];omega
theorem Acp{m i:Nat}(hi:32<=i)(h:i<64):Oh m (i+1)=4*Oh m i:=by
 unfold Oh;have e1:(2:Nat)^64=2^(2*i-64)*2^(128-2*i):=by rw[<- A5]; congr 1; omega
 have e2:(2:Nat)^64=2^(2*i-64)*4*2^(128-2*(i+1)):=by rw[show(4:Nat)=2^2 from rfl,<- A5,<- A5]; congr 1; omega
 have a1:m*2^64 / 2^(128-2*i)=m*2^(2*i-64):=by rw[e1,<- A7,xW _ (Cs _)]
 have a2:m*2^64 / 2^(128-2*(i+1))=m*(2^(2*i-64)*4):=by rw[e2,<- A7,xW _ (Cs _)]
 rw[a1,a2,<- A7,A0 4]
theorem AgS{A B tl th:Nat}(hA:A<2^64)(htl:tl<2^64)(hB:B<2^64)(hth:th<4):
 (FZ (A:Int) (tl:Int) (0:Int)=0\/FZ (A:Int) (tl:Int) (0:Int)=1) /\
 (th*2^64+tl<=B*2^64+A->(FZ (B:Int) (th:Int) (FZ (A:Int) (tl:Int) (0:Int))==(0:Int))=wc /\
  ∃h l:Nat,KA (B:Int) (th:Int) (FZ (A:Int) (tl:Int) (0:Int))=(h:Int)/\KA (A:Int) (tl:Int) (0:Int)=(l:Int)/\l<2^64/\h*2^64+l=B*2^64+A-(th*2^64+tl)) /\
 (B*2^64+A<th*2^64+tl->(FZ (B:Int) (th:Int) (FZ (A:Int) (tl:Int) (0:Int))==(0:Int))=wh):=by
 have e1:FZ (A:Int) (tl:Int) (0:Int)=((if A<tl then 1 else 0:Nat):Int):=by unfold FZ;rw[Ad,Ad];rfl
 by_cases h:A<tl
 ·rw[Az h] at e1;rw[e1]
  have e2:FZ (B:Int) (th:Int) ((1:Nat):Int)=((if B<th+1 then 1 else 0:Nat):Int):=by unfold FZ;rw[Ad,Ad];rfl
  refine⟨.inr rfl,fun hle=>?_,fun hlt=>?_⟩
  ·rw[Ay (by omega)] at e2;rw[e2];refine⟨rfl,B-th-1,A+2^64-tl,?_,?_,by omega,by omega⟩
   ·unfold KA;rw[Ad,Ad,Ad];congr 1; omega
   ·unfold KA;rw[Ad,Ad];show((_:Nat):Int)=_;congr 1;show(A+18446744073709551616-tl-0)%18446744073709551616=_;omega
  ·rw[Az (by omega)] at e2;rw[e2]; rfl
 ·rw[Ay h] at e1;rw[e1]
  have e2:FZ (B:Int) (th:Int) ((0:Nat):Int)=((if B<th then 1 else 0:Nat):Int):=by unfold FZ;rw[Ad,Ad];rfl
  refine⟨.inl rfl,fun hle=>?_,fun hlt=>?_⟩
  ·rw[Ay (by omega)] at e2;rw[e2];refine⟨rfl,B-th,A-tl,?_,?_,by omega,by omega⟩
   ·unfold KA;rw[Ad,Ad,Ad];congr 1; omega
   ·unfold KA;rw[Ad,Ad];show((_:Nat):Int)=_;congr 1;show(A+18446744073709551616-tl-0)%18446744073709551616=_;omega
  ·rw[Az (by omega)] at e2;rw[e2]; rfl
theorem glue(n t:Nat):n / 2^62*2^64+(n%2^62*4+t)=4*n+t:=by omega
theorem AcE(N:Nat){m:Nat}(hm:m<2^63):∀(k i F rt rest:Nat),i+k=64->k<F->Oh m i=rt*rt+rest->rest<=2*rt->rt<2^i->∀hi lo:Nat,hi*2^64+lo=rest->lo<2^64 ->
 root.Hc.L0 N F (m:Int) (rt:Int) (hi:Int) (lo:Int) (i:Int)=wM (.CJ [.int .u64 (PE m),.bool (PF m)]):=by
 intro k
 induction k with
 | zero =>
   intro i F rt rest hi hF hP hr hb h l e hl;obtain⟨F,rfl⟩:∃G,F=G+1:=⟨F-1,by omega⟩
   obtain rfl:i=64:=by omega
   have hP':m*2^64=rt*rt+rest:=by rw[<- hP]; unfold Oh;rw[show 128-2*64=0 from rfl,AG,yE]
   have hroot:=Ahe hP' hr;rw[root.Hc.B7,B8,Ag (by omega),Af];have e1:PE (m:Int)=(rt:Int):=by unfold PE; rw[Ad,<- hroot]
   have e2:PF (m:Int)=(cond ((h:Int)==(0:Int)) ((l:Int)==(0:Int)) wh):=by
    unfold PF;rw[Ad,<- hroot,hP'];by_cases h0:h=0
    ·subst h0;rw[show(((0:Nat):Int)==(0:Int))=wc from rfl,Aa,Ar,Ai,beq_iff_eq];omega
    ·rw[show((h:Int)==(0:Int))=wh by rw[AD]; omega,Af,Ag];omega
   rw[e1,e2]
 | succ k ih =>
   intro i F rt rest hi hF hP hr hb h l e hl;obtain⟨F,rfl⟩:∃G,F=G+1:=⟨F-1,by omega⟩
   have hp:2^i<=2^63:=Aq (by decide) (by omega);have hi63:2^(i+1)=2*2^i:=by rw[zD,A0]
   have f1:2*rt+1<2^(i+1):=by rw[hi63]; omega
   have f2:2*rt<2^(i+1):=by omega
   have hh:h=0:=by omega
   subst hh;have hrest:rest=l:=by omega
   subst hrest
   obtain⟨two,t4,hP',hcode⟩:∃two:Nat,two<4/\Oh m (i+1)=4*Oh m i+two /\
    root.Hc.L0 N (F+1) (m:Int) (rt:Int) ((0:Nat):Int) (rest:Int) (i:Int)=
    (bif (decide ((FZ (Hw .u64 (Cr .u64 (rest:Int) (2:Int)) (two:Int)) (Hw .u64 (Cr .u64 (rt:Int) (2:Int)) (1:Int)) (0:Int))<=1)) then
     bif ((FZ (Hw .u64 (Cr .u64 ((0:Nat):Int) (2:Int)) (DL .u64 (rest:Int) (62:Int))) (DL .u64 (rt:Int) (62:Int)) (FZ (Hw .u64 (Cr .u64 (rest:Int) (2:Int)) (two:Int)) (Hw .u64 (Cr .u64 (rt:Int) (2:Int)) (1:Int)) (0:Int)))==(0:Int)) then
      root.Hc.L0 N F (m:Int) (Hw .u64 (Cr .u64 (rt:Int) (1:Int)) (1:Int)) (KA (Hw .u64 (Cr .u64 ((0:Nat):Int) (2:Int)) (DL .u64 (rest:Int) (62:Int))) (DL .u64 (rt:Int) (62:Int)) (FZ (Hw .u64 (Cr .u64 (rest:Int) (2:Int)) (two:Int)) (Hw .u64 (Cr .u64 (rt:Int) (2:Int)) (1:Int)) (0:Int))) (KA (Hw .u64 (Cr .u64 (rest:Int) (2:Int)) (two:Int)) (Hw .u64 (Cr .u64 (rt:Int) (2:Int)) (1:Int)) (0:Int)) (Bh ((i:Int)+(1:Int)))
     else root.Hc.L0 N F (m:Int) (Cr .u64 (rt:Int) (1:Int)) (Hw .u64 (Cr .u64 ((0:Nat):Int) (2:Int)) (DL .u64 (rest:Int) (62:Int))) (Hw .u64 (Cr .u64 (rest:Int) (2:Int)) (two:Int)) (Bh ((i:Int)+(1:Int)))
    else wN):=by
    by_cases h32:i<32
    ·refine⟨m / 2^(62-2*i)%4,zt _ (by decide),AeE h32,?_⟩;have ht:=(AdO (m:=m) h32).resolve_right (by omega);have hq:m / 2^(62-2*i)%2^64%4=m / 2^(62-2*i)%4:=by omega
     rw[hq] at ht;rw[root.Hc.B7,B8,Ac (show(i:Int)<64 by omega),Aa,B8,Ac (show(i:Int)<32 by omega),Aa,ht,Bz (x:=(2:Int)*(i:Int)) (by omega) (by omega),Bz (x:=(62:Int)-2*(i:Int)) (by omega) (by omega),Ac (show(0:Int)<=62-2*(i:Int) by omega),Aa]
    ·refine⟨0,by decide,by rw[Acp (by omega) (by omega),AQ],?_⟩;rw[root.Hc.B7,B8,Ac (show(i:Int)<64 by omega),Aa,B8,Ag (show ¬(i:Int)<32 by omega),Af];rfl
   obtain⟨s1,s2⟩:=ZV hP hr t4;have eA:=sh2 (n:=rest) t4;have eT:=sh2 (n:=rt) (t:=1) (by decide)
   have eB:Hw .u64 (Cr .u64 ((0:Nat):Int) (2:Int)) (DL .u64 (rest:Int) (62:Int))=((rest / 2^62:Nat):Int):=by rw[show(62:Int)=((62:Nat):Int) from rfl,PZ _ _ (by decide),sh2 (n:=0) (t:=rest / 2^62) (by omega)];congr 1; omega
   have eH:DL .u64 (rt:Int) (62:Int)=((rt / 2^62:Nat):Int):=by rw[show(62:Int)=((62:Nat):Int) from rfl,PZ _ _ (by decide)]
   have eT':Hw .u64 (Cr .u64 (rt:Int) (2:Int)) (1:Int)=((rt%2^62*4+1:Nat):Int):=eT;obtain⟨b1,b2,b3⟩:=AgS (A:=rest%2^62*4+two) (B:=rest / 2^62) (tl:=rt%2^62*4+1) (th:=rt / 2^62) (by omega) (by omega) (by omega) (by omega);rw[hcode,eA,eT',eB,eH,Ac (by rcases b1 with b | b<;>rw[b]<;>decide),Aa,Bz (by omega) (by omega)];by_cases hc:4*rt+1<=4*rest+two
   ·obtain⟨c1,hh,ll,c2,c3,c4,c5⟩:=b2 (by rw[glue,glue]; exact hc);obtain⟨d1,d2⟩:=s1 hc;rw[c1,Aa,c2,c3,AmE (by omega)];refine ih (i+1) F (2*rt+1) (4*rest+two-(4*rt+1)) (by omega) (by omega) (hP'.trans d1) d2 f1 hh ll ?_ c4;rw[c5,glue,glue]
   ·rw[b3 (by rw[glue,glue]; omega),Af,sh1 (by omega)];obtain⟨d1,d2⟩:=s2 (by omega);refine ih (i+1) F (2*rt) (4*rest+two) (by omega) (by omega) (hP'.trans d1) d2 f2 _ _ (glue _ _) ?_;clear hcode;omega
theorem root.Hc.Bp:Kq 211 root.Hc.Bu:=E1 root.Hc.E Tryz.func211 .nil fun m hp=>by
 have hp:=Bv.1 hp;obtain⟨n,rfl⟩:∃n:Nat,m=n:=⟨m.toNat,by omega⟩
 refine⟨65,root.Hc.out [.i n],[],?_,Wk.FQ (.cons .int (.cons .bool .nil))⟩;rw[root.Hc.ev]
 have h0:Oh n 0=0*0+0:=by unfold Oh;rw[Nat.div_eq_of_lt];show n*18446744073709551616<340282366920938463463374607431768211456;omega
 exact AcE 65 (by omega) 64 0 65 0 0 rfl (by omega) h0 (AB 0) Nat.one_pos 0 0 rfl (Nat.pow_pos (by decide))
theorem Ti{b:Nat}(h:Bx b≠0):EA (Bx b:Int)=((Bx b).log2:Int)+1:=by unfold EA;rw[Ay (by omega),Ad]
theorem AbV{w:Nat}{E:Int}{s:Bool}(hw:2^62<=w)(n:Nat)(h:I9 n=w)(hs:s=decide (w*w≠n)):
 FA wh (w / 2) (E+2) (cond s wc (decide (w%2=1)))=(Cu (Ec n) E,flagsOf (Ec n) E):=by
 have e1:Ec n / 2^2=w / 2:=by unfold Ec; rw[h]; split<;>omega
 have e2:(cond s wc (decide (w%2=1)))=decide (Ec n%2^2≠0):=by
  rw[hs];unfold Ec;rw[h];by_cases h0:w*w=n
  ·rw[Ag (by omega),Af,Az h0,decide_eq_decide]; omega
  ·rw[Ac h0,Aa,Ay h0]; symm; exact Ac (by omega)
 rw[<- e1];have:=P6 wh (V:=Ec n) (k:=2) (E:=E) (e:=E+2) rfl e2 (by rw[e1]; omega) (by left; rw[e1]; omega);rw[F2] at this;exact this
theorem root.Sqrt.num{b:Nat}(hb:b<2^64)(h4:Bn b≠4)(h:¬(Bn b=0\/b=Er))(hn:Ce b=wh){z:Nat}(hz:2^60<=Bx b*2^z)(hz2:Bx b*2^z<2^62)(he:(B6 b-(z:Int))%2=0)(z60:z<=62):
 root.Sqrt.L0 2 2 (B6 b-(z:Int)) (PE ((Bx b*2^z:Nat):Int)) (!(PF ((Bx b*2^z:Nat):Int)))=wM (.CJ [.int .u64 (DG (b:Int)),.int .u8 (MI (b:Int))]):=by
 have hE:=CH b;have hM:=EJ b
 have h3:Bn b≠3:=fun h3=>by
  refine h (.inr ?_);have hpn:Ce b=wh:=hn;unfold Ce at hpn;have hlt:b<2^63:=by simpa using hpn
  unfold Bn at h3;have hp:=Il b;unfold DH at h3;unfold Df at h3;unfold Er;split at h3
  ·split at h3
   ·omega
   ·omega
  ·split at h3
   ·omega
   ·split at h3<;>omega
 have hm:Bx b≠0:=fun h0=>h (.inl ((CZ h3 h4).1 h0))
 have eN:Bx b*2^z*2^64=Bx b*2^(z+64):=by rw[A7,<- A5]
 have i1:2^62<=I9 (Bx b*2^z*2^64):=PL (t:=62) (by omega);have i2:=(Jk (Bx b*2^z*2^64)).1
 have i3:I9 (Bx b*2^z*2^64)<2^63:=by refine Xm (AK i2 ?_);show _<9223372036854775808*9223372036854775808;omega
 have r1:PE ((Bx b*2^z:Nat):Int)=(I9 (Bx b*2^z*2^64):Int):=by unfold PE; rw[Ad]
 have r2:(!(PF ((Bx b*2^z:Nat):Int)))=decide (I9 (Bx b*2^z*2^64)*I9 (Bx b*2^z*2^64)≠Bx b*2^z*2^64):=by unfold PF; rw[Ad,<- decide_not]
 obtain⟨k1,k2⟩:=Pv hm;have same:=Aci (m:=Bx b) (k:=z+64) (l:=E6 b) (E:=(B6 b-(z:Int)) / 2-33) (F:=(B6 b-(E6 b:Int)) / 2-1) (by rw[<- eN]; omega) k1 (by omega);rw[<- eN] at same;have near:=AbV (E:=(B6 b-(z:Int)) / 2-33) i1 _ rfl r2;rw[same.1,same.2] at near;have sq:Ek b=_:=MH h4 h hn;rw[r1,r2];rw[r2] at near;generalize I9 (Bx b*2^z*2^64)=w at *
 have w1:DT (4611686018427387904:Int) (w:Int)=wc:=by rw[Ei]; exact Ac (by omega)
 have w2:DL .u64 (w:Int) (1:Int)=((w / 2:Nat):Int):=by rw[show(1:Int)=((1:Nat):Int) from rfl,PZ _ _ (by decide)]
 have w3:((F9 .u64 (w:Int) (1:Int))==(1:Int))=decide (w%2=1):=by rw[show F9 .u64 (w:Int) (1:Int)=((w%2^1:Nat):Int) from Hh 1 (by omega) (by decide),Ar,beq_iff_eq,Ai];omega
 have w4:DT (4611686018427387904:Int) ((w / 2:Nat):Int)=wh:=by rw[Ei]; exact Ag (by omega)
 have w5:Bh (Bh (zq (B6 b-(z:Int)+2) 2)-32)=(B6 b-(z:Int)) / 2-33+2:=by
  have:zq (B6 b-(z:Int)+2) 2=(B6 b-(z:Int)) / 2+1:=by rw[Int.tdiv_eq_ediv];split<;>omega
  rw[this,Bz (x:=(B6 b-(z:Int)) / 2+1) (by omega) (by omega),Bz (by omega) (by omega)];omega
 have w6:Bh (B6 b-(z:Int)+2)=B6 b-(z:Int)+2:=Bz (by omega) (by omega);generalize hs:decide (w*w≠Bx b*2^z*2^64)=s at *
 have pre:El ((w / 2:Nat):Int) ((B6 b-(z:Int)) / 2-33+2) (cond s wc (decide (w%2=1)))=wc:=Bv.2 ⟨by omega,by omega,by omega,by omega,fun _=>.inl (by omega)⟩;rw[show(2:Nat)=1+1 from rfl,root.Sqrt.B7,w1,Aa,w2,w3,w6,show(1:Nat)=0+1 from rfl,root.Sqrt.B7,w4,Af,w5,pre,Aa];unfold E9 E8 DG MI;rw[Ad,Ad,near,sq]
theorem root.Sqrt.Bp:Kq 176 root.Sqrt.Bu:=E1 root.Sqrt.E Tryz.func176 (kc D8.CV.Bp (kc root.Hc.Bp (kc soft.Kind.Bp (kc soft.DA.Bp (kc soft.EX.Bp (kc soft.Sign.Bp .nil)))))) fun a hp=>by
 obtain⟨b,rfl,hb⟩:=C3 (x:=a) hp;refine⟨2,root.Sqrt.out [.i b],[],?_,Wk.FQ (.cons .int (.cons .int .nil))⟩;show _=wM (DV.CJ [.int .u64 (DG (b:Int)),.int .u8 (MI (b:Int))]);have hk:BF (b:Int)=(Bn b:Int):=rfl;rw[root.Sqrt.ev,CI hb,Aa,Aa,Aa,Aa,hk];by_cases h4:Bn b=4
 ·rw[h4,show(((4:Nat):Int)==(4:Int))=wc from rfl,Aa];unfold DG MI;rw[Ad,Sv h4]; rfl
 have k4:(((Bn b:Nat):Int)==(4:Int))=wh:=by rw[AD]; omega
 rw[k4,Af];by_cases h0:Bn b=0
 ·rw[h0,show(((0:Nat):Int)==(0:Int))=wc from rfl,Aa];unfold DG MI;rw[Ad,IF h4 (.inl h0)]; rfl
 have k0:(((Bn b:Nat):Int)==(0:Int))=wh:=by rw[AD]; omega
 rw[k0,Af];by_cases hi:b=Er
 ·rw[show(((b:Nat):Int)==(9218868437227405312:Int))=wc by rw[hi]; rfl,Aa];unfold DG MI;rw[Ad,IF h4 (.inr hi)]; rfl
 have ki:(((b:Nat):Int)==(9218868437227405312:Int))=wh:=by rw[AD]; intro hh; refine hi (show b=9218868437227405312 from ?_); omega
 rw[ki,Af];have hh:¬(Bn b=0\/b=Er):=by rintro (h | h); exact h0 h; exact hi h
 have hneg:DN (b:Int)=Ce b:=rfl;rw[hneg];cases hn:Ce b with
 | true =>rw[Aa];unfold DG MI;rw[Ad,Xl h4 hh hn]; rfl
 | false =>
   rw[Af]
   have hm:Bx b≠0:=fun hz=>by
    have h3:Bn b≠3:=fun h3=>by
     rcases HN b with ⟨p,_,_⟩ | ⟨_,_,q⟩ | ⟨_,q,_⟩
     ·unfold Bx at hz;rw[Ay (by omega)] at hz;omega
     ·omega
     ·exact q h3
    exact hh (.inl ((CZ h3 h4).1 hz))
   have hM:=EJ b;have hE:=CH b;have hl:(Bx b).log2<=52:=by have:=(AZ hm).2 (show Bx b<2^53 by omega); omega
   have e1:Cf (b:Int)=(Bx b:Int):=rfl;have e2:BR (b:Int)=B6 b:=rfl
   have l1:∀z:Nat,(Bx b).log2+z=60\/(Bx b).log2+z=61->2^60<=Bx b*2^z/\Bx b*2^z<2^62:=by
    intro z hz;have hlz:=Kk (Bx b) z hm;have hne:Bx b*2^z≠0:=HL hm;constructor
    ·rw[<- zM hne]; omega
    ·rw[<- AZ hne]; omega
   have ez:Bh ((64-(((Bx b).log2:Int)+1))-(2:Int))=((61-(Bx b).log2:Nat):Int):=by rw[Bz (by omega) (by omega)]; omega
   have ez':Bh (((61-(Bx b).log2:Nat):Int)-(1:Int))=((60-(Bx b).log2:Nat):Int):=by rw[Bz (by omega) (by omega)]; omega
   rw[e1,e2,CI (n:=Bx b) (by omega),Aa,Ti hm,ez,ez',Bz (x:=B6 b-((61-(Bx b).log2:Nat):Int)) (by omega) (by omega),Bz (x:=B6 b-((60-(Bx b).log2:Nat):Int)) (by omega) (by omega)];by_cases hp2:(B6 b-((61-(Bx b).log2:Nat):Int))%2=0
   ·have t0:(zw (B6 b-((61-(Bx b).log2:Nat):Int)) (2:Int) !=(0:Int))=wh:=by rw[bne_eq_false_iff_eq]; exact Int.tmod_eq_zero_of_dvd (Int.dvd_of_emod_eq_zero hp2)
    obtain⟨m1,m2⟩:=l1 (61-(Bx b).log2) (by omega);rw[t0,Af,Ac (by omega),Aa,Fj _ _ (by omega),Ao (by omega),Bv.2 (by omega),Aa];exact root.Sqrt.num hb h4 hh hn m1 m2 hp2 (by omega)
   ·have t0:(zw (B6 b-((61-(Bx b).log2:Nat):Int)) (2:Int) !=(0:Int))=wc:=by rw[bne_iff_ne]; intro hz; exact hp2 (Int.emod_eq_zero_of_dvd (Int.dvd_of_tmod_eq_zero hz))
    obtain⟨m1,m2⟩:=l1 (60-(Bx b).log2) (by omega);rw[t0,Aa,Ac (by omega),Aa,Fj _ _ (by omega),Ao (by omega),Bv.2 (by omega),Aa];exact root.Sqrt.num hb h4 hh hn m1 m2 (by omega) (by omega)
theorem Bs.Sqrt.Bp:Kq 139 Bs.Sqrt.Bu:=E1 Bs.Sqrt.E Tryz.func139 (kc root.Sqrt.Bp .nil) fun a hp=>by have hp:Br a=wc:=hp;refine⟨0,Bs.Sqrt.out [.i a],[],?_,.int⟩;rw[Bs.Sqrt.ev,hp]; rfl
theorem compare.M7.Bp:Kq 123 compare.M7.Bu:=E1 compare.M7.E Tryz.func123 (kc D8.I4.Bp (kc soft.Finite.Bp (kc soft.Kind.Bp (kc soft.EX.Bp .nil)))) fun a hp=>by
 obtain⟨b,rfl,hb⟩:=C3 (x:=a) hp;refine⟨0,compare.M7.out [.i b],[],?_,.int⟩;show _=wM (DV.int .i64 (BO (b:Int)));have hk:BF (b:Int)=(Bn b:Int):=rfl;have hf:Du (b:Int)=GJ b:=rfl;have hE:=CH b;have hM:=EJ b;rw[compare.M7.ev,CI hb,Aa,AV,Aa,hk,hf];unfold BO;rw[Ad];unfold Em;cases hfin:GJ b with
 | false=>rfl
 | true =>
   by_cases h0:Bn b=0
   ·rw[h0]; rfl
   ·have k0:(((Bn b:Nat):Int)==(0:Int))=wh:=by rw[AD]; omega
    have hm:Bx b≠0:=fun hz=>by obtain⟨f4,f3⟩:=H8 hfin;exact h0 ((CZ f3 f4).1 hz)
    have hl:(Bx b).log2<=52:=by have:=(AZ hm).2 (show Bx b<2^53 by omega); omega
    have e1:Cf (b:Int)=(Bx b:Int):=rfl;have e2:BR (b:Int)=B6 b:=rfl;rw[k0,Az ⟨rfl,h0⟩,AH,Bool.false_or,Af,Aa,e1,e2,CI (n:=Bx b) (by omega),Aa,Ti hm,Bz (x:=((Bx b).log2:Int)+1-1) (by omega) (by omega),Bz (by omega) (by omega)];congr 2; omega
theorem Ael{x:Bf}{i:Nat}(h:i<x.length)(k s:Int):F8 k s (x.drop i)=F8 k (DD s (Cx (BV (x.getD i 0) k) (BV (x.getD i 0) k))) (x.drop (i+1)):=by rw[IT h,F8]
theorem Acx(N:Nat){x:Bf}(hx:Cw x=wc)(hl:x.length<=1000):∀(k i F:Nat) (s:Int),i+k=x.length->k<F->Br s=wc ->
 Bs.Norm.L0 N F x s (i:Int)=wM (.CJ [.int .u64 (BV (DG (F8 (-BO (BI x)) s (x.drop i))) (BO (BI x))),.int .i64 0]):=by
 obtain⟨_,hu⟩:=Io hx;have he:=Wu (BI x);intro k
 induction k with
 | zero =>
   intro i F s hi hF hs;obtain⟨F,rfl⟩:∃G,F=G+1:=⟨F-1,by omega⟩
   rw[Bs.Norm.B7,B8,Ag (by omega),Af,hs,Aa,show Eg (DG s) (BO (BI x))=wc from Bi.2 ⟨RI hs,Bv.2 (by omega)⟩,Aa,Ap (by omega)];rfl
 | succ k ih =>
   intro i F s hi hF hs;obtain⟨F,rfl⟩:∃G,F=G+1:=⟨F-1,by omega⟩
   rw[Bs.Norm.B7,B8,Ac (show(i:Int)<(x.length:Int) by omega),Aa,Ac (show(0:Int)<=(i:Int) by omega),Ah,Aa,Ad,Bz (x:=0-BO (BI x)) (by omega) (by omega),show(0:Int)-BO (BI x)=-BO (BI x) by omega,
    show Eg (vC x i 0) (-BO (BI x))=wc from Bi.2 ⟨hu i (by omega),Bv.2 (by omega)⟩,Aa,FD (hu i (by omega)),Ah,Aa,hs,Fo,Ah,Aa,Ael (by omega),Bz (by omega) (by omega)]
   exact ih (i+1) F _ (by omega) (by omega) (Pc hs (Fo _ _))
theorem Bs.Norm.Bp:Kq 67 Bs.Norm.Bu:=E1 Bs.Norm.E Tryz.func67 (kc compare.M7.Bp (kc soft.Finite.Bp (kc Bs.Add.Bp (kc Bs.DJ.Bp (kc Bs.Mul.Bp (kc Bs.CF.Bp (kc Bs.Sqrt.Bp .nil))))))) fun x hp=>by
 obtain⟨hx,hl⟩:=Bi.1 (show(Cw x&&Ci (wj x<=64))=wc from hp);have hl:=Bv.1 hl;refine⟨65,Bs.Norm.out [.l x],[],?_,Wk.FQ (.cons .int (.cons .int .nil))⟩;show _=wM (DV.CJ [.int .u64 (Cb x),.int .i64 0]);rw[Bs.Norm.ev,B8,Ag (by omega),Af,hx,Aa,QP,AV,Aa];unfold Cb;by_cases h:BI x=0\/Du (BI x)=wh
 ·have:((BI x==(0:Int))||(!(Du (BI x))))=wc:=by
   rcases h with h | h
   ·rw[h]; rfl
   ·rw[h,Bc,AV]
  rw[this,Aa,Az h]
 ·have:((BI x==(0:Int))||(!(Du (BI x))))=wh:=by
   rw[yD,AD,Bool.not_eq_false'];refine⟨fun h0=>h (.inl h0),?_⟩;cases hf:Du (BI x) with
   | true=>rfl
   | false=>exact absurd (.inr hf) h
  rw[this,Af,Aa,Ay h];exact Acx 65 hx (by omega) x.length 0 65 0 (by omega) (by omega) J5
end Go.Proofs.S1
namespace Go.Cn
open Go.Den
end Go.Cn
namespace Go.Proofs.S1
open Go Go.Den Go.Cn Go.Proofs
set_option maxRecDepth 100000
open Go Go.Den Go.Cn Go.Proofs
theorem Aiq(x:Nat):DP x<2^64:=y5 (Qe x) (by decide)
theorem Aft(x:Nat):Bn (DP x)=Bn x:=by
 have e1:DH (DP x)=DH x:=by unfold DH DP; omega
 have e2:Df (DP x)=Df x:=by unfold Df DP; omega
 unfold Bn;rw[e1,e2]
theorem Agc(x y:Int):(compare x y=.lt↔x<y)/\(compare x y=.gt↔y<x)/\(compare x y=.eq↔x=y):=by
 rcases x6 x y with h | h | h
 ·rw[ZZ h]; refine⟨by simp[h],?_,?_⟩<;>simp<;>omega
 ·subst h;have:compare x x=.eq:=by simp[compare,compareOfLessAndEq]
  rw[this]; simp
 ·rw[Aaa h]; refine⟨?_,by simp[h],?_⟩<;>simp<;>omega
theorem PX{x:Nat}(hx:x<2^64)(h4:Bn x≠4):(Ieee.double.order (DP x) 9218868437227405311==wM .gt)=decide (Bn x=3):=by
 have k1:Bn 9218868437227405311≠4:=by decide +kernel
 have k2:Gt 9218868437227405311=9218868437227405311:=by decide +kernel
 have ka:Gt (DP x)=((DP x:Nat):Int):=by have:=Tl wh (r:=DP x) (Qe x);exact this
 rw[Acq (Aiq x) (by decide) (by rw[Aft]; exact h4) k1,k2,ka];have hl:=Afu h4;rw[Ar,beq_iff_eq,Ae,(Agc _ _).2.1,Ai];constructor
 ·intro h;refine Decidable.byContradiction fun h3=>?_
  have:=RW h3 h4;rw[Ex] at this;unfold DP at h;omega
 ·intro h3;have:=NU h3;rw[Ex] at this;unfold DP;omega
set_option maxRecDepth 100000
def Ke.M7.E:=E0 [(109,B0.WQ.Bu),(114,Cc.Finite.Bu),(58,Cc.Kind.Bu),(38,Cc.Value.Bu)]
theorem Ke.M7.ev(N:Nat)(a:Int):Cz Ke.M7.E N f92 (Bw f92) [.int .u64 a]=cond (Br a) (bif ((!(Du a))||(MW a)) then cond ((!(Du a))||((BF a)==(0:Int))) (wM (.int .i64 0)) (bif (Br a) then cond (HD (BB (mD (Gj a))) (Bk (mD (Gj a)))&&Ms (eD (Gj a) (BR a))) (wM (.int .i64 (Bh ((GM (wv (BB (mD (Gj a))) (Bk (mD (Gj a)))) (eD (Gj a) (BR a)))-1)))) wN else wN) else wN) wN :=Et (ET (B4 (Sn (Du a)) (CQ (AbJ _ _) (B4 (O6 (Du a)) (B4 (TQ (Du a)) (CQ (AiQ _ _) rfl rfl))) rfl)) rfl)
theorem Aht(b:Nat):Rg (BB (mD (Gj (b:Int)))) (Bk (mD (Gj (b:Int))))=wc/\HD (BB (mD (Gj (b:Int)))) (Bk (mD (Gj (b:Int))))=wc/\Ms (eD (Gj (b:Int)) (B6 b))=wc:=by obtain⟨v1,v2,v3⟩:=AiB b;have hl:D0 (mD (Gj (b:Int))).natAbs<3:=AK (JS (QC _)) v1;exact⟨Zq (by omega),Gq (by omega),Bv.2 ⟨v2,v3⟩⟩
theorem Ke.M7.Bp:Kq 92 Ke.M7.Bu:=E1 Ke.M7.E Tryz.func92 (kc B0.WQ.Bp (kc Cc.Finite.Bp (kc Cc.Kind.Bp (kc Cc.Value.Bp .nil)))) fun a hp=>by
 obtain⟨b,rfl,hb⟩:=C3 (x:=a) hp;refine⟨0,.int .i64 (BO (b:Int)),[],?_,.int⟩;have kk:BF (b:Int)=(Bn b:Int):=rfl;have hf:Du (b:Int)=GJ b:=rfl;have pe:BR (b:Int)=B6 b:=rfl;obtain⟨_,o2,o3⟩:=Aht b;have hE:=CH b;have hM:=EJ b;rw[Ke.M7.ev,CI hb,Aa,MV,AV,Aa,kk,hf,pe,o2,o3,EB,Ah,Aa,Aa];unfold BO;rw[Ad];unfold Em;cases hfin:GJ b with
 | false=>rfl
 | true =>
   by_cases h0:Bn b=0
   ·rw[h0]; rfl
   ·have k0:(((Bn b:Nat):Int)==(0:Int))=wh:=by rw[AD]; omega
    obtain⟨f4,f3⟩:=H8 hfin;have hm:Bx b≠0:=fun hz=>h0 ((CZ f3 f4).1 hz)
    have hv:Gj (b:Int)≠0:=by intro h;have:=Vv b;rw[h] at this;exact hm this.symm
    have hl:(Bx b).log2<=52:=by have:=(AZ hm).2 (show Bx b<2^53 by omega); omega
    have ht:GM (mD (Gj (b:Int))) (eD (Gj (b:Int)) (B6 b))=((Bx b).log2:Int)+1+B6 b:=by
     unfold GM Th;rw[Ay (fun h=>hv (KH.1 h)),Ay (fun h=>hv (KH.1 h))];unfold eD;rw[Ay hv];have hs:=RT (Gj (b:Int))
     have ha:Bx b=(mD (Gj (b:Int))).natAbs*2^N6 (Gj (b:Int)).natAbs:=by have e:=congrArg Int.natAbs hs;rw[yj,zS] at e;rw[<- Vv b];exact e
     have hmd:(mD (Gj (b:Int))).natAbs≠0:=fun h=>hv (KH.1 (Int.natAbs_eq_zero.1 h))
     have hlog:=Kk (mD (Gj (b:Int))).natAbs (N6 (Gj (b:Int)).natAbs) hmd;rw[<- ha] at hlog;rw[hlog];omega
    rw[k0,Az ⟨rfl,h0⟩,ht,Bz (by omega) (by omega)];show wM (DV.int .i64 _)=_;congr 2; omega
def BA.Ed.hint:Nat->Option BK
 | 0=>wM { Da:=[5,6,7],Cg:=[],Cv:=[] }
 | _=>wN
def BA.Ed.E:=Dr (CW [(165,soft.Kind.Bu)]) (fun _=>wh) BA.Ed.hint (fun _=>wN)
section
variable(N M:Nat)(x:Bf)(p7:Int)
def BA.Ed.L0:Option DV:=C6 BA.Ed.E N f225 (Bw f225) [1,0,1,0] [] M ⟨Fp 15 [(5,.Bj .arg .u64 x),(6,.int .i64 (wj x:Int)),(7,.int .i64 p7)],[]⟩
theorem BA.Ed.B7:BA.Ed.L0 N (M+1) x p7=cond (BH p7 (wj x:Int)) (bif ((decide (0<=p7))&&(decide (p7<(wj x:Int)))) then cond (Br (vC x (wi p7) 0)) (bif ((BF (vC x (wi p7) 0)) !=(0:Int)) then wM (.bool wh) else BA.Ed.L0 N M x (Bh (p7+1))) wN else wN) (wM (.bool wc)):=by kernel_rfl
theorem BA.Ed.ev:Cz BA.Ed.E N f225 (Bw f225) [.Bj .arg .u64 x]=
 BA.Ed.L0 N N x 0:=by kernel_rfl
end
def BA.lead.hint:Nat->Option BK
 | 0=>wM { Da:=[5,6,7],Cg:=[],Cv:=[] }
 | _=>wN
def BA.lead.E:=Dr (CW [(165,soft.Kind.Bu)]) (fun _=>wh) BA.lead.hint (fun _=>wN)
section
variable(N M:Nat)(x:Bf)(p7:Int)
def BA.lead.L0:Option DV:=C6 BA.lead.E N f229 (Bw f229) [1,0,1,0] [] M ⟨Fp 16 [(5,.Bj .arg .u64 x),(6,.int .i64 (wj x:Int)),(7,.int .i64 p7)],[]⟩
theorem BA.lead.B7:BA.lead.L0 N (M+1) x p7=cond (BH p7 (wj x:Int)) (bif ((decide (0<=p7))&&(decide (p7<(wj x:Int)))) then cond (Br (vC x (wi p7) 0)) (bif ((BF (vC x (wi p7) 0)) !=(0:Int)) then wM (.int .u64 (vC x (wi p7) 0)) else BA.lead.L0 N M x (Bh (p7+1))) wN else wN) (wM (.int .u64 0)):=by kernel_rfl
theorem BA.lead.ev:Cz BA.lead.E N f229 (Bw f229) [.Bj .arg .u64 x]=
 BA.lead.L0 N N x 0:=by kernel_rfl
end
def BA.CB.hint:Nat->Option BK
 | 0=>wM { Da:=[1,5,8,9,10],Cg:=[(0,5,100005,.Bj 43 .u64 [])],Cv:=[] }
 | _=>wN
def BA.CB.E:=Dr (CW [(79,Bs.CF.Bu)]) (fun _=>wh) BA.CB.hint (fun _=>wN)
section
variable(N M:Nat)(x:Bf)(k p10:Int)(p5:Bf)
def BA.CB.L0:Option DV:=C6 BA.CB.E N f228 (Bw f228) [1,1,0,1,0] [] M ⟨Fp 22 [(1,.int .i64 k),(5,.Dh 100005),(8,.Bj .arg .u64 x),(9,.int .i64 (wj x:Int)),(10,.int .i64 p10)],[(100005,wh,.Bj 43 .u64 p5)]⟩
theorem BA.CB.B7:BA.CB.L0 N (M+1) x k p10 p5=cond (BH p10 (wj x:Int)) (bif ((decide (0<=p10))&&(decide (p10<(wj x:Int)))) then cond (Eg (vC x (wi p10) 0) k) (bif (decide ((wj p5)+1<=GK)) then BA.CB.L0 N M x k (Bh (p10+1)) (p5++[(BV (vC x (wi p10) 0) k)]) else wN) wN else wN) (wM (.Bj (.own 100005 43) .u64 p5)):=by kernel_rfl
theorem BA.CB.ev:Cz BA.CB.E N f228 (Bw f228) [.Bj .arg .u64 x,.int .i64 k]=
 BA.CB.L0 N N x k 0 []:=by kernel_rfl
end
def BA.Ht.E:=E0 []
theorem BA.Ht.ev(N:Nat)(i:Int):Cz BA.Ht.E N f227 (Bw f227) [.int .i64 i]=wM (.int .u64 0):=by kernel_rfl
def BA.Hs.E:=E0 [(82,Bs.Div.Bu)]
theorem BA.Hs.ev(N:Nat)(i:Int)(y:Bf)(d:Int):Cz BA.Hs.E N f230 (Bw f230) [.int .i64 i,.CL [.Bj .arg .u64 y],.CL [.int .u64 d]]=cond ((decide (0<=i))&&(decide (i<(wj y:Int)))) (bif (Br (vC y (wi i) 0)&&Br d) then wM (.int .u64 (EV (vC y (wi i) 0) d)) else wN) wN :=Et (CQ (JZ _ _) (CQ (CD _) rfl rfl) rfl)
def BA.row.Zero.hint:Nat->Option BK
 | 0=>wM { Da:=[0,1,5,6],Cg:=[(0,5,100005,.Bj 43 .u64 [])],Cv:=[] }
 | _=>wN
def BA.row.Zero.E:=Dr (CW [(227,BA.Ht.Bu)]) (fun _=>wh) BA.row.Zero.hint (fun _=>wN)
section
variable(N M:Nat)(n p6:Int)(p5:Bf)
def BA.row.Zero.L0:Option DV:=C6 BA.row.Zero.E N f226 (Bw f226) [1,1,0,1,0] [] M ⟨Fp 23 [(0,.int .i64 n),(1,.fn 227 [] []),(5,.Dh 100005),(6,.int .i64 p6)],[(100005,wh,.Bj 43 .u64 p5)]⟩
theorem BA.row.Zero.B7:BA.row.Zero.L0 N (M+1) n p6 p5=cond (BH p6 n) (bif (decide ((wj p5)+1<=GK)) then BA.row.Zero.L0 N M n (Bh (p6+1)) (p5++[(0:Int)]) else wN) (bif (((decide ((0:Int)<=n))&&(decide (n<=n)))&&((decide ((0:Int)<=n))&&(decide (n<=(wj p5:Int))))) then wM (.Bj .BE .u64 (zG (wi (n-0)) (zL 0 p5))) else wN) :=Et (ET rfl (CQ (AiH _ _ _) rfl rfl))
theorem BA.row.Zero.ev:Cz BA.row.Zero.E N f226 (Bw f226) [.int .i64 n,.fn 227 [] []]=
 BA.row.Zero.L0 N N n 1 [(4607182418800017408:Int)]:=by kernel_rfl
end
def BA.row.Div.hint:Nat->Option BK
 | 0=>wM { Da:=[0,1,5,6],Cg:=[(0,5,100005,.Bj 43 .u64 [])],Cv:=[] }
 | _=>wN
def BA.row.Div.E:=Dr (CW [(230,BA.Hs.Bu)]) (fun _=>wh) BA.row.Div.hint (fun _=>wN)
section
variable(N M:Nat)(n:Int)(y:Bf)(d p6:Int)(p5:Bf)
def BA.row.Div.L0:Option DV:=C6 BA.row.Div.E N f226 (Bw f226) [1,1,0,1,0] [] M ⟨Fp 23 [(0,.int .i64 n),(1,.fn 230 [] [.CL [.Bj .arg .u64 y],.CL [.int .u64 d]]),(5,.Dh 100005),(6,.int .i64 p6)],[(100005,wh,.Bj 43 .u64 p5)]⟩
theorem BA.row.Div.B7:BA.row.Div.L0 N (M+1) n y d p6 p5=cond (BH p6 n) (bif ((Ci (0<=p6/\p6<wj y)&&Bq y)&&Br d) then cond (decide ((wj p5)+1<=GK)) (BA.row.Div.L0 N M n y d (Bh (p6+1)) (p5++[(EV (vC y (wi p6) 0) d)])) wN else wN) (bif (((decide ((0:Int)<=n))&&(decide (n<=n)))&&((decide ((0:Int)<=n))&&(decide (n<=(wj p5:Int))))) then wM (.Bj .BE .u64 (zG (wi (n-0)) (zL 0 p5))) else wN) :=Et (ET rfl (CQ (AiH _ _ _) rfl rfl))
theorem BA.row.Div.ev:Cz BA.row.Div.E N f226 (Bw f226) [.int .i64 n,.fn 230 [] [.CL [.Bj .arg .u64 y],.CL [.int .u64 d]]]=
 BA.row.Div.L0 N N n y d 1 [(4607182418800017408:Int)]:=by kernel_rfl
end
def BA.CY.E:=E0 [(123,compare.M7.Bu),(229,BA.lead.Bu),(225,BA.Ed.Bu),(226,(AjP [.i .i64,.fn 227 []] BA.row.Zero.Bu BA.row.Div.Bu)),(228,BA.CB.Bu),(136,soft.Finite.Bu),(81,soft.EK.Bu),(181,soft.Sign.Bu),(124,Bs.DJ.Bu),(82,Bs.Div.Bu),(66,Bs.Finite.Bu),(67,Bs.Norm.Bu),(79,Bs.CF.Bu),(201,Bs.Sub.Bu)]
theorem BA.CY.ev(N:Nat)(x:Bf):Cz BA.CY.E N f200 (Bw f200) [.Bj .arg .u64 x]=cond (((wj x:Int)==(0:Int))||(BH 64 (wj x:Int))) (some (.CJ [.nil,.int .u64 0,.int .u64 0,.int .i64 3])) (bif (Cw x) then cond (!(Dx x)) (some (.CJ [.nil,.int .u64 0,.int .u64 0,.int .i64 4])) (bif (decide ((1:Int)<=(wj x:Int))) then cond (Cw (zL 1 x)) (bif (Fg (zL 1 x)) then cond (Ci (1<=(wj x:Int)/\(wj x:Int)<=64)) (bif (decide ((0:Int)<(wj x:Int))) then some (.CJ [.Bj .BE .u64 (G8 (wi (wj x:Int)) (fun _=>0)),.int .u64 0,.int .u64 (vC x 0 0),.int .i64 0]) else wN) wN else bif (Cw x) then cond (Br (BI x)) (bif (Cw x&&Ci (wj x<=1000/\-2300<=(Bh (0-(BO (BI x))))/\(Bh (0-(BO (BI x))))<=2300)) then cond (Cw (B5 x (Bh (0-(BO (BI x)))))&&Ci (wj (B5 x (Bh (0-(BO (BI x)))))<=64)) (bif (Cw x) then cond (Br (KJ x)) (bif (!(DN (KJ x))) then cond (Br (Cb (B5 x (Bh (0-(BO (BI x))))))) (bif (Eg (Cy (Cb (B5 x (Bh (0-(BO (BI x))))))) (BO (BI x))) then cond (Br (BV (Cy (Cb (B5 x (Bh (0-(BO (BI x))))))) (BO (BI x)))) (bif (!(Du (BV (Cy (Cb (B5 x (Bh (0-(BO (BI x))))))) (BO (BI x))))) then wM (.CJ [.nil,.int .u64 0,.int .u64 0,.int .i64 2]) else bif (decide ((0:Int)<(wj (B5 x (Bh (0-(BO (BI x))))):Int))) then cond (Br (vC (B5 x (Bh (0-(BO (BI x))))) 0 0)&&Br (Cy (Cb (B5 x (Bh (0-(BO (BI x)))))))) (bif ((Ci (1<=(wj (B5 x (Bh (0-(BO (BI x))))):Int)/\(wj (B5 x (Bh (0-(BO (BI x))))):Int)<=64/\(wj (B5 x (Bh (0-(BO (BI x))))):Int)=wj (B5 x (Bh (0-(BO (BI x))))))&&Bq (B5 x (Bh (0-(BO (BI x))))))&&Br (DW (vC (B5 x (Bh (0-(BO (BI x))))) 0 0) (Cy (Cb (B5 x (Bh (0-(BO (BI x))))))))) then cond (decide ((0:Int)<(wj (B5 x (Bh (0-(BO (BI x))))):Int))) (bif (Br (Cy (Cb (B5 x (Bh (0-(BO (BI x)))))))&&Br (vC (B5 x (Bh (0-(BO (BI x))))) 0 0)) then cond (Br (DW (Cy (Cb (B5 x (Bh (0-(BO (BI x))))))) (vC (B5 x (Bh (0-(BO (BI x))))) 0 0))&&Br (Cy (Cb (B5 x (Bh (0-(BO (BI x)))))))) (wM (.CJ [.Bj .BE .u64 (G8 (wi (wj (B5 x (Bh (0-(BO (BI x))))):Int)) (fun j=>EV (vC (B5 x (Bh (0-(BO (BI x))))) j 0) (DW (vC (B5 x (Bh (0-(BO (BI x))))) 0 0) (Cy (Cb (B5 x (Bh (0-(BO (BI x)))))))))),.int .u64 (EV (DW (Cy (Cb (B5 x (Bh (0-(BO (BI x))))))) (vC (B5 x (Bh (0-(BO (BI x))))) 0 0)) (Cy (Cb (B5 x (Bh (0-(BO (BI x)))))))),.int .u64 (BV (Cy (Cb (B5 x (Bh (0-(BO (BI x))))))) (BO (BI x))),.int .i64 0])) wN else wN) wN else wN) wN else wN) wN else wN) wN else bif (Eg (Cb (B5 x (Bh (0-(BO (BI x)))))) (BO (BI x))) then cond (Br (BV (Cb (B5 x (Bh (0-(BO (BI x)))))) (BO (BI x)))) (bif (!(Du (BV (Cb (B5 x (Bh (0-(BO (BI x)))))) (BO (BI x))))) then wM (.CJ [.nil,.int .u64 0,.int .u64 0,.int .i64 2]) else bif (decide ((0:Int)<(wj (B5 x (Bh (0-(BO (BI x))))):Int))) then cond (Br (vC (B5 x (Bh (0-(BO (BI x))))) 0 0)&&Br (Cb (B5 x (Bh (0-(BO (BI x))))))) (bif ((Ci (1<=(wj (B5 x (Bh (0-(BO (BI x))))):Int)/\(wj (B5 x (Bh (0-(BO (BI x))))):Int)<=64/\(wj (B5 x (Bh (0-(BO (BI x))))):Int)=wj (B5 x (Bh (0-(BO (BI x))))))&&Bq (B5 x (Bh (0-(BO (BI x))))))&&Br (DW (vC (B5 x (Bh (0-(BO (BI x))))) 0 0) (Cb (B5 x (Bh (0-(BO (BI x)))))))) then cond (decide ((0:Int)<(wj (B5 x (Bh (0-(BO (BI x))))):Int))) (bif (Br (Cb (B5 x (Bh (0-(BO (BI x))))))&&Br (vC (B5 x (Bh (0-(BO (BI x))))) 0 0)) then cond (Br (DW (Cb (B5 x (Bh (0-(BO (BI x)))))) (vC (B5 x (Bh (0-(BO (BI x))))) 0 0))&&Br (Cb (B5 x (Bh (0-(BO (BI x))))))) (wM (.CJ [.Bj .BE .u64 (G8 (wi (wj (B5 x (Bh (0-(BO (BI x))))):Int)) (fun j=>EV (vC (B5 x (Bh (0-(BO (BI x))))) j 0) (DW (vC (B5 x (Bh (0-(BO (BI x))))) 0 0) (Cb (B5 x (Bh (0-(BO (BI x))))))))),.int .u64 (EV (DW (Cb (B5 x (Bh (0-(BO (BI x)))))) (vC (B5 x (Bh (0-(BO (BI x))))) 0 0)) (Cb (B5 x (Bh (0-(BO (BI x))))))),.int .u64 (BV (Cb (B5 x (Bh (0-(BO (BI x)))))) (BO (BI x))),.int .i64 0])) wN else wN) wN else wN) wN else wN) wN else wN) wN else wN) wN else wN) wN else wN) wN else wN) else wN):=
 Et (B4 (TO ((wj x:Int)==(0:Int))) (B4 (Rw ((wj x:Int)==(0:Int))) (B4 (Rw ((wj x:Int)==(0:Int))) (B4 (Xb ((wj x:Int)==(0:Int))) (CQ (tt5 _ _) rfl (ET (ET rfl (CQ (Amr _) (ET (ET (CQ (CD _) (CQ (CD _) rfl rfl) rfl) rfl) rfl) rfl)) rfl))))))
def BA.Apply.hint:Nat->Option BK
 | 0=>wM { Da:=[1,3,4,5,10,13,14],Cg:=[(14,2,114002,.Bj 43 .u64 [])],Cv:=[5,10,13] }
 | 2=>wM { Da:=[1,3,4,5,10,13,14,18,90,91,92],Cg:=[(14,2,114002,.Bj 43 .u64 [])],Cv:=[5,10,13] }
 | _=>wN
def BA.Apply.E:=Dr (CW [(121,Bg.Check.Bu),(68,Bg.DU.Bu),(134,Bs.GY.Bu),(138,Bs.Mul.Bu),(201,Bs.Sub.Bu)]) (fun _=>wh) BA.Apply.hint (fun _=>wN)
section
variable(N M0 M:Nat)(r c:Int)(l:Bf)(i k:Int)(v:Bf)(t p92:Int)(p2:Bf)(p14_1 p18:Int)(p90:Bf)(p91 p14:Int)(p2_1:Bf)
def BA.Apply.L0:Option DV:=C6 BA.Apply.E N f163 (Bw f163) [1,1,1,1,0,1,0] [] M ⟨Fp 118 [(1,.int .i64 i),(3,.Bj .arg .u64 v),(4,.int .u64 t),(5,.ptr 5 0 0),(10,.ptr 10 0 0),(13,.ptr 13 0 0),(14,.int .i64 p14)],[(5,wh,.box [.int .i64 r,.int .i64 c,.Bj .arg .u64 l]),(10,wh,.box [.int .i64 0,.int .i64 0,.nil]),(13,wh,.box [.int .i64 r,.int .i64 c,.Dh 114002]),(114002,wh,.Bj 43 .u64 p2_1)]⟩
def BA.Apply.L1:Option DV:=C6 BA.Apply.E N f163 (Bw f163) [1,1,1,1,0,1,0,0,1,0,0,1,1,1,1,0] [M0] M ⟨Fp 118 [(1,.int .i64 i),(3,.Bj .arg .u64 v),(4,.int .u64 t),(5,.ptr 5 0 0),(10,.ptr 10 0 0),(13,.ptr 13 0 0),(14,.int .i64 p14_1),(18,.int .u64 p18),(90,.Bj .BE .u64 p90),(91,.int .i64 p91),(92,.int .i64 p92)],[(5,wh,.box [.int .i64 r,.int .i64 c,.Bj .arg .u64 l]),(10,wh,.box [.int .i64 0,.int .i64 0,.nil]),(13,wh,.box [.int .i64 r,.int .i64 c,.Dh 114002]),(114002,wh,.Bj 43 .u64 p2)]⟩
theorem BA.Apply.B7:BA.Apply.L0 N (M+1) r c l i v t p14 p2_1=cond (BH p14 c) (bif (EG r c l p14&&Ci (0<=i/\i<=r)) then cond (((decide ((0:Int)<=(wj v:Int)))&&(decide ((wj v:Int)<=(wj v:Int))))&&((decide ((0:Int)<=(wj v:Int)))&&(decide ((wj v:Int)<=(wj (BQ c l p14 i (wi (r-i))):Int))))) (bif ((Nl v (zG (wi (wj v:Int)) (BQ c l p14 i (wi (r-i))))&&Bq v)&&Bq (zG (wi (wj v:Int)) (BQ c l p14 i (wi (r-i))))) then cond (Br t&&Br (EU v (zG (wi (wj v:Int)) (BQ c l p14 i (wi (r-i)))))) (BA.Apply.L1 N M N r c l i v t 0 p2_1 p14 (Cx t (EU v (zG (wi (wj v:Int)) (BQ c l p14 i (wi (r-i)))))) (zG (wi (wj v:Int)) (BQ c l p14 i (wi (r-i)))) (wj (zG (wi (wj v:Int)) (BQ c l p14 i (wi (r-i)))):Int)) wN else wN) wN else wN) (wM (.CJ [.agg [.int .i64 r,.int .i64 c,.Bj (.own 114002 43) .u64 p2_1],.int .i64 0])) :=Et (ET (ET (CQ (AiH _ _ _) rfl rfl) rfl) rfl)
theorem BA.Apply.CU:BA.Apply.L1 N M0 (M+1) r c l i v t p92 p2 p14_1 p18 p90 p91=cond (BH p92 p91) (bif ((decide (0<=p92))&&(decide (p92<(wj p90:Int)))) then cond ((decide (0<=p92))&&(decide (p92<(wj v:Int)))) (bif (Br p18&&Br (vC v (wi p92) 0)) then cond (Br (vC p90 (wi p92) 0)&&Br (Cx p18 (vC v (wi p92) 0))) (bif ((decide (0<=(Bh ((Bh ((Bh (i+p92))*c))+p14_1))))&&(decide ((Bh ((Bh ((Bh (i+p92))*c))+p14_1))<(wj p2:Int)))) then cond (decide ((wi (Bh ((Bh ((Bh (i+p92))*c))+p14_1)))<(wj p2))) (BA.Apply.L1 N M0 M r c l i v t (Bh (p92+1)) (zJ p2 (wi (Bh ((Bh ((Bh (i+p92))*c))+p14_1))) (DW (vC p90 (wi p92) 0) (Cx p18 (vC v (wi p92) 0)))) p14_1 p18 p90 p91) wN else wN) wN else wN) wN else wN) (BA.Apply.L0 N M0 r c l i v t (Bh (p14_1+1)) p2) :=Et (ET (ET (CQ (JZ _ _) (CQ (CD _) (CQ (CD _) (CQ (JZ _ _) (CQ (CD _) rfl rfl) rfl) rfl) rfl) rfl) rfl) rfl)
theorem BA.Apply.ev:Cz BA.Apply.E N f163 (Bw f163) [.agg [.int .i64 r,.int .i64 c,.Bj .arg .u64 l],.int .i64 i,.int .i64 k,.Bj .arg .u64 v,.int .u64 t]=cond ((Iy r c l) !=(0:Int)) (wM (.CJ [.agg [.int .i64 0,.int .i64 0,.nil],.int .i64 (Iy r c l)])) (bif (((((BH i 0)||(BH r (wj v:Int)))||(BH (Bh (r-(wj v:Int))) i))||(BH k 0))||(BH c k)) then wM (.CJ [.agg [.int .i64 0,.int .i64 0,.nil],.int .i64 3]) else bif (decide (0+(wj l)<=GK)) then BA.Apply.L0 N N r c l i v t k ([]++l) else wN) :=Et (ET rfl (B4 (TO (BH i 0)) (B4 (Rw (BH i 0)) (B4 (TO (BH i 0)) (B4 (Rw (BH i 0)) (B4 (tt8 (BH i 0)) (B4 (Xb (BH i 0)) (B4 (Xa (BH i 0) (BH r (wj v:Int))) (B4 (Xa (BH i 0) (BH r (wj v:Int))) (B4 (YN (BH i 0) (BH r (wj v:Int))) (B4 (Xa (BH i 0) (BH r (wj v:Int))) (B4 (YN (BH i 0) (BH r (wj v:Int))) (B4 (AgK (BH i 0) (BH r (wj v:Int))) (B4 (AgK (BH i 0) (BH r (wj v:Int))) (B4 (AgM (BH i 0) (BH r (wj v:Int))) (B4 (AbG (BH i 0) (BH r (wj v:Int)) (BH (Bh (r-(wj v:Int))) i)) (B4 (AbH (BH i 0) (BH r (wj v:Int)) (BH (Bh (r-(wj v:Int))) i)) (B4 (AgN (BH i 0) (BH r (wj v:Int)) (BH (Bh (r-(wj v:Int))) i)) (B4 (AbI (BH i 0) (BH r (wj v:Int)) (BH (Bh (r-(wj v:Int))) i) (BH k 0)) (B4 (AbI (BH i 0) (BH r (wj v:Int)) (BH (Bh (r-(wj v:Int))) i) (BH k 0)) (B4 (AkG (BH i 0) (BH r (wj v:Int)) (BH (Bh (r-(wj v:Int))) i) (BH k 0)) (B4 (AiM (BH i 0) (BH r (wj v:Int)) (BH (Bh (r-(wj v:Int))) i) (BH k 0)) (B4 (AiN (BH i 0) (BH r (wj v:Int)) (BH (Bh (r-(wj v:Int))) i) (BH k 0)) (CQ (Ak9 _ _ _ _ _) rfl (CQ (CD _) rfl rfl)))))))))))))))))))))))))
end
theorem Abe(x:Int):((BF x) !=(0:Int))=!(decide (BF x=0)):=by rw[Ar]; simp
theorem VY(N:Nat){x:Bf}(hx:Cw x=wc):∀(k i F:Nat),i+k=x.length->k<F->BA.Ed.L0 N F x (i:Int)=wM (.bool (Fg (x.drop i))):=by
 obtain⟨hl,hu⟩:=Io hx;intro k
 induction k with
 | zero =>
   intro i F hi hF;obtain⟨F,rfl⟩:∃G,F=G+1:=⟨F-1,by omega⟩
   rw[BA.Ed.B7,B8,Ag (by omega),Af,Ap (by omega)]; rfl
 | succ k ih =>
   intro i F hi hF;obtain⟨F,rfl⟩:∃G,F=G+1:=⟨F-1,by omega⟩
   rw[BA.Ed.B7,B8,Ac (show(i:Int)<(x.length:Int) by omega),Aa,Ac (show(0:Int)<=(i:Int) by omega),Ah,Aa,Ad,hu i (by omega),Aa,Abe,IT (by omega)];unfold Fg;rw[yV];cases decide (BF (x.getD i 0)=0) with
   | false=>rfl
   | true =>rw[AH,Af,AW,Bz (by omega) (by omega)];exact ih (i+1) F (by omega) (by omega)
theorem BA.Ed.Bp:Kq 225 BA.Ed.Bu:=E1 BA.Ed.E Tryz.func225 (kc soft.Kind.Bp .nil) fun x hp=>by refine⟨x.length+1,BA.Ed.out [.l x],[],?_,.bool⟩;rw[BA.Ed.ev];exact VY (x.length+1) hp x.length 0 (x.length+1) (by omega) (by omega)
theorem AcI(N:Nat){x:Bf}(hx:Cw x=wc):∀(k i F:Nat),i+k=x.length->k<F->BA.lead.L0 N F x (i:Int)=wM (.int .u64 (KJ (x.drop i))):=by
 obtain⟨hl,hu⟩:=Io hx;intro k
 induction k with
 | zero =>
   intro i F hi hF;obtain⟨F,rfl⟩:∃G,F=G+1:=⟨F-1,by omega⟩
   rw[BA.lead.B7,B8,Ag (by omega),Af,Ap (by omega)]; rfl
 | succ k ih =>
   intro i F hi hF;obtain⟨F,rfl⟩:∃G,F=G+1:=⟨F-1,by omega⟩
   rw[BA.lead.B7,B8,Ac (show(i:Int)<(x.length:Int) by omega),Aa,Ac (show(0:Int)<=(i:Int) by omega),Ah,Aa,Ad,hu i (by omega),Aa,Abe,IT (by omega),KJ];by_cases h:BF (x.getD i 0)=0
   ·rw[Ac h,Az h,AH,Af,Bz (by omega) (by omega)];exact ih (i+1) F (by omega) (by omega)
   ·rw[Ag h,Ay h]; rfl
theorem BA.lead.Bp:Kq 229 BA.lead.Bu:=E1 BA.lead.E Tryz.func229 (kc soft.Kind.Bp .nil) fun x hp=>by refine⟨x.length+1,BA.lead.out [.l x],[],?_,.int⟩;rw[BA.lead.ev];exact AcI (x.length+1) hp x.length 0 (x.length+1) (by omega) (by omega)
theorem Sq{x:Bf}{i:Nat}(h:i<x.length)(f:Int->Int):(x.take (i+1)).map f=(x.take i).map f++[f (x.getD i 0)]:=by rw[List.take_succ_eq_append_getElem h,List.map_append,Al,As h]; rfl
theorem VE(N:Nat){x:Bf}{e:Int}(hx:Cw x=wc)(hl:x.length<=1000)(he:-2300<=e/\e<=2300):∀(k i F:Nat),i+k=x.length->k<F ->
 BA.CB.L0 N F x e (i:Int) ((x.take i).map fun b=>BV b e)=wM (.Bj (.own 100005 tB) .u64 (B5 x e)):=by
 obtain⟨_,hu⟩:=Io hx;intro k
 induction k with
 | zero =>
   intro i F hi hF;obtain⟨F,rfl⟩:∃G,F=G+1:=⟨F-1,by omega⟩
   rw[BA.CB.B7,B8,Ag (by omega),Af,yB (by omega)]; rfl
 | succ k ih =>
   intro i F hi hF;obtain⟨F,rfl⟩:∃G,F=G+1:=⟨F-1,by omega⟩
   rw[BA.CB.B7,B8,Ac (show(i:Int)<(x.length:Int) by omega),Aa,Ac (show(0:Int)<=(i:Int) by omega),Ah,Aa,Ad,
    show Eg (vC x i 0) e=wc from Bi.2 ⟨hu i (by omega),Bv.2 he⟩,Aa,Ac (by rw[AO,List.length_take]; unfold GK; omega),Aa,Bz (by omega) (by omega)]
   have:=ih (i+1) F (by omega) (by omega);rw[Sq (by omega)] at this;exact this
theorem BA.CB.Bp:Kq 228 BA.CB.Bu:=E1 BA.CB.E Tryz.func228 (kc Bs.CF.Bp .nil) fun x k hp=>by obtain⟨h1,h2⟩:=Bi.1 hp;have h2:=Bv.1 h2;refine⟨x.length+1,.Bj (.own 100005 tB) .u64 (B5 x k),[100005],?_,.drop _ _ _ _ (List.mem_singleton.2 rfl)⟩;rw[BA.CB.ev];exact VE (x.length+1) h1 h2.1 h2.2 x.length 0 (x.length+1) (by omega) (by omega)
theorem BA.Ht.Bp:Kq 227 BA.Ht.Bu:=E1 BA.Ht.E Tryz.func227 .nil fun i _=>⟨0,BA.Ht.out [.i i],[],by rw[BA.Ht.ev]; rfl,.int⟩
theorem BA.Hs.Bp:Kq 230 BA.Hs.Bu:=E1 BA.Hs.E Tryz.func230 (kc Bs.Div.Bp .nil) fun i y d hp=>by obtain⟨h1,h2⟩:=Bi.1 (show((Ci (0<=i/\i<wj y)&&Bq y)&&Br d)=wc from hp);obtain⟨h3,h4⟩:=Bi.1 h1;have h3:=Bv.1 h3;refine⟨0,BA.Hs.out [.i i,.l y,.i d],[],?_,.int⟩;rw[BA.Hs.ev,Ac h3.1,Ac h3.2,Jp h4,h2]; rfl
theorem NJ(n i:Nat)(f:Nat->Int)(h:i+1=n):G8 n f=SM::(List.range i).map fun j=>f (j+1):=by unfold G8; rw[show n-1=i by omega]
theorem AaK{n:Nat}(f:Nat->Int)(h:n≠0):(((decide ((0:Int)<=(n:Int)))&&(decide ((n:Int)<=(n:Int))))&&((decide ((0:Int)<=(n:Int)))&&(decide ((n:Int)<=(wj (G8 n f):Int)))))=wc /\
 zG (wi ((n:Int)-(0:Int))) (zL 0 (G8 n f))=G8 n f:=by
 have:=LF h f;refine⟨?_,?_⟩
 ·rw[Ac (by omega),Ac (by omega),Ac (by omega)]; rfl
 ·rw[List.drop_zero,yB (by omega)]
theorem TU(N:Nat){n:Nat}(h64:n<=64)(h0:n≠0):∀(k i F:Nat),i+1+k=n->k<F ->
 BA.row.Zero.L0 N F (n:Int) ((i+1:Nat):Int) (G8 (i+1) fun _=>0)=wM (.Bj .BE .u64 (G8 n fun _=>0)):=by
 intro k
 induction k with
 | zero =>
   intro i F hi hF;obtain⟨F,rfl⟩:∃G,F=G+1:=⟨F-1,by omega⟩
   obtain rfl:i+1=n:=by omega
   obtain⟨e1,e2⟩:=AaK (fun _=>0) h0;rw[BA.row.Zero.B7,B8,Ag (by omega),Af,e1,Aa,e2]
 | succ k ih =>
   intro i F hi hF;obtain⟨F,rfl⟩:∃G,F=G+1:=⟨F-1,by omega⟩
   rw[BA.row.Zero.B7,B8,Ac (by omega),Aa,Ac (by rw[LF (by omega)]; unfold GK; omega),Aa,Bz (by omega) (by omega)];have:=ih (i+1) F (by omega) (by omega);rw[NJ (i+1+1) (i+1) _ rfl,Kd] at this;rw[NJ (i+1) i _ rfl];exact this
theorem BA.row.Zero.Bp:Kq 226 BA.row.Zero.Bu:=E1 BA.row.Zero.E Tryz.func226 (kc BA.Ht.Bp .nil) fun n hp=>by
 have hp:=Bv.1 (show Ci (1<=n/\n<=64)=wc from hp);obtain⟨m,rfl⟩:∃m:Nat,n=m:=⟨n.toNat,by omega⟩
 refine⟨65,BA.row.Zero.out [.i m],[],?_,.IP⟩;show _=wM (DV.Bj .BE .u64 (G8 (wi (m:Int)) fun _=>0));rw[BA.row.Zero.ev,Ad];exact TU 65 (by omega) (by omega) (m-1) 0 65 (by omega) (by omega)
theorem VK(N:Nat){n:Nat}{y:Bf}{d:Int}(h64:n<=64)(h0:n≠0)(hy:n=y.length)(al:Bq y=wc)(hd:Br d=wc):∀(k i F:Nat),i+1+k=n->k<F ->
 BA.row.Div.L0 N F (n:Int) y d ((i+1:Nat):Int) (G8 (i+1) fun j=>EV (y.getD j 0) d)=wM (.Bj .BE .u64 (G8 n fun j=>EV (y.getD j 0) d)):=by
 intro k
 induction k with
 | zero =>
   intro i F hi hF;obtain⟨F,rfl⟩:∃G,F=G+1:=⟨F-1,by omega⟩
   obtain rfl:i+1=n:=by omega
   obtain⟨e1,e2⟩:=AaK (fun j=>EV (y.getD j 0) d) h0;rw[BA.row.Div.B7,B8,Ag (by omega),Af,e1,Aa,e2]
 | succ k ih =>
   intro i F hi hF;obtain⟨F,rfl⟩:∃G,F=G+1:=⟨F-1,by omega⟩
   rw[BA.row.Div.B7,B8,Ac (by omega),Aa,Bv.2 (show 0<=((i+1:Nat):Int)/\((i+1:Nat):Int)<(y.length:Int) by omega),al,hd,Ah,Ah,Aa,Ac (by rw[LF (by omega)]; unfold GK; omega),Aa,Bz (by omega) (by omega),Ad];have:=ih (i+1) F (by omega) (by omega);rw[NJ (i+1+1) (i+1) _ rfl,Kd] at this;rw[NJ (i+1) i _ rfl];exact this
theorem BA.row.Div.Bp:Kq 226 BA.row.Div.Bu:=E1 BA.row.Div.E Tryz.func226 (kc BA.Hs.Bp .nil) fun n y d hp=>by
 obtain⟨h1,h2⟩:=Bi.1 (show((Ci (1<=n/\n<=64/\n=wj y)&&Bq y)&&Br d)=wc from hp);obtain⟨h3,h4⟩:=Bi.1 h1;have h3:=Bv.1 h3;obtain⟨m,rfl⟩:∃m:Nat,n=m:=⟨n.toNat,by omega⟩
 refine⟨65,BA.row.Div.out [.i m,.l y,.i d],[],?_,.IP⟩;show _=wM (DV.Bj .BE .u64 (G8 (wi (m:Int)) fun j=>EV (vC y j 0) d));rw[BA.row.Div.ev,Ad];exact VK 65 (by omega) (by omega) (by omega) h4 h2 (m-1) 0 65 (by omega) (by omega)
theorem U0{x:Bf}{k:Int}{j:Nat}(h:j<x.length):(B5 x k).getD j 0=BV (x.getD j 0) k:=by unfold B5;rw[Al,Ba,As h,Al,As h]; rfl
theorem AbY(x:Bf)(k:Int):(B5 x k).length=x.length:=by unfold B5; rw[AO]
theorem AbZ{x:Bf}(k:Int)(h:Bq x=wc):Bq (B5 x k)=wc:=NY fun y hy=>by obtain⟨b,hb,rfl⟩:=List.mem_map.1 hy;exact FD (Bv.1 h b hb)
theorem Wg:∀{x:Bf},Bq x=wc->Br (KJ x)=wc
 | [],_=>J5
 | b::l,h=>by
   unfold KJ;split
   ·exact Wg (NY fun y hy=>Bv.1 h y (AN _ hy))
   ·exact Bv.1 h b AY
theorem Vm{x:Bf}(h:Cw x=wc):Bq x=wc:=Bv.2 (Bv.1 h).2
theorem N4{drops:List Nat}{g:QT}:Wk drops .nil (.Bj g .u64 []):=.nil g .u64
theorem Ace{n:Nat}{f g:Nat->Int}(h:∀j,j<n->f j=g j):G8 n f=G8 n g:=by unfold G8;congr 1;exact List.map_congr_left fun j hj=>h _ (by have:=List.mem_range.1 hj; omega)
theorem BA.CY.Bp:Kq 200 BA.CY.Bu:=E1 BA.CY.E Tryz.func200 (kc compare.M7.Bp (kc BA.lead.Bp (kc BA.Ed.Bp (.cons (Ev.alt BA.row.Zero.Bp BA.row.Div.Bp) (kc BA.CB.Bp (kc soft.Finite.Bp (kc soft.EK.Bp (kc soft.Sign.Bp (kc Bs.DJ.Bp (kc Bs.Div.Bp (kc Bs.Finite.Bp (kc Bs.Norm.Bp (kc Bs.CF.Bp (kc Bs.Sub.Bp .nil)))))))))))))) fun x hp=>by
 have hx:Cw x=wc:=hp;have al:=Vm hx;have he:=Wu (BI x);show ∃N dv drops,_=wM dv/\Wk drops dv (DV.CJ [.Bj .BE .u64 (Cm x).1,.int .u64 (Cm x).2.1,.int .u64 (Cm x).2.2.1,.int .i64 (Cm x).2.2.2]);unfold Cm;by_cases h1:x.length=0\/64<x.length
 ·rw[Az h1];refine⟨0,.CJ [.nil,.int .u64 0,.int .u64 0,.int .i64 3],[],?_,Wk.FQ (.cons N4 (.cons .int (.cons .int (.cons .int .nil))))⟩
  have:(((wj x:Int)==(0:Int))||(BH (64:Int) (wj x:Int)))=wc:=by rw[B8,Bool.or_eq_true,beq_iff_eq,Ai]; omega
  rw[BA.CY.ev,this,Aa]
 have c1:(((wj x:Int)==(0:Int))||(BH (64:Int) (wj x:Int)))=wh:=by rw[B8,yD,AD,Av]; omega
 rw[Ay h1];by_cases h2:Dx x=wc
 ·rw[Az h2];unfold Z0;have ok1:Cw (x.drop 1)=wc:=FO (NY fun y hy=>Bv.1 al y (List.mem_of_mem_drop hy)) (by rw[zO]; omega);have d1:decide ((1:Int)<=(x.length:Int))=wc:=Ac (by omega);have d0:decide ((0:Int)<(x.length:Int))=wc:=Ac (by omega);by_cases h3:Fg (x.drop 1)=wc
  ·rw[Az h3];refine⟨0,.CJ [.Bj .BE .u64 (G8 x.length fun _=>0),.int .u64 0,.int .u64 (x.getD 0 0),.int .i64 0],[],?_,Wk.FQ (.cons .IP (.cons .int (.cons .int (.cons .int .nil))))⟩;rw[BA.CY.ev,c1,Af,hx,Aa,h2,AH,Af,d1,Aa,ok1,Aa,h3,Aa,Bv.2 (show 1<=(x.length:Int)/\(x.length:Int)<=64 by omega),Aa,d0,Aa,Ad]
  ·rw[Ay h3];have h3:Fg (x.drop 1)=wh:=by simpa using h3
   have ew:Bh (0-BO (BI x))=-BO (BI x):=by rw[Bz (by omega) (by omega)]; omega
   have ly:=AbY x (-BO (BI x));have ay:=AbZ (-BO (BI x)) al;have oky:Cw (B5 x (-BO (BI x)))=wc:=FO ay (by omega);have gy:=U0 (x:=x) (k:=-BO (BI x)) (j:=0) (by omega);have iy:=Jp ay 0
   have key:∀mu:Int,KU x=mu->Br mu=wc->∀b:Bool,Du (FC x)=b->∃dv:DV,(bif (!b) then
    wM (.CJ [.nil,.int .u64 (0:Int),.int .u64 (0:Int),.int .i64 (2:Int)])
    else wM (.CJ [.Bj .BE .u64 (G8 (wi (wj (B5 x (-BO (BI x))):Int)) (fun j=>EV (vC (B5 x (-BO (BI x))) j 0) (DW (vC (B5 x (-BO (BI x))) 0 0) mu))),.int .u64 (EV (DW mu (vC (B5 x (-BO (BI x))) 0 0)) mu),.int .u64 (BV mu (BO (BI x))),.int .i64 (0:Int)]))=wM dv /\
    Wk [] dv (DV.CJ [.Bj .BE .u64 (if Du (FC x)=wc then (Q9 x,SX x,FC x,(0:Int)) else ([],0,0,2)).1,.int .u64 (if Du (FC x)=wc then (Q9 x,SX x,FC x,(0:Int)) else ([],0,0,2)).2.1,.int .u64 (if Du (FC x)=wc then (Q9 x,SX x,FC x,(0:Int)) else ([],0,0,2)).2.2.1,.int .i64 (if Du (FC x)=wc then (Q9 x,SX x,FC x,(0:Int)) else ([],0,0,2)).2.2.2]):=by
    intro mu hmu _ b hb;rw[hb];cases b with
    | false=>exact⟨_,rfl,Wk.FQ (.cons N4 (.cons .int (.cons .int (.cons .int .nil))))⟩
    | true =>
      refine⟨_,rfl,?_⟩;rw[Az rfl];dsimp only
      have e1:G8 (wi (wj (B5 x (-BO (BI x))):Int)) (fun j=>EV (vC (B5 x (-BO (BI x))) j 0) (DW (vC (B5 x (-BO (BI x))) 0 0) mu))=Q9 x:=by unfold Q9;rw[Ad,ly,gy,<- hmu];exact Ace fun j hj=>by rw[U0 hj]; rfl
      have e2:EV (DW mu (vC (B5 x (-BO (BI x))) 0 0)) mu=SX x:=by unfold SX;rw[gy,hmu]; rfl
      have e3:BV mu (BO (BI x))=FC x:=by unfold FC; rw[hmu]
      rw[e1,e2,e3];exact Wk.FQ (.cons .IP (.cons .int (.cons .int (.cons .int .nil))))
   have dz:decide ((0:Int)<((B5 x (-BO (BI x))).length:Int))=wc:=Ac (by omega);have cz':Ci (1<=((B5 x (-BO (BI x))).length:Int)/\((B5 x (-BO (BI x))).length:Int)<=64/\True)=wc:=Bv.2 ⟨by omega,by omega,trivial⟩;have p1:Ci (x.length<=1000/\-2300<=-BO (BI x)/\-BO (BI x)<=2300)=wc:=Bv.2 (by omega);have p2:Ci ((B5 x (-BO (BI x))).length<=64)=wc:=Bv.2 (by omega);have sp:∀mu:Int,Br mu=wc->Eg mu (BO (BI x))=wc:=fun mu h=>Bi.2 ⟨h,Bv.2 (by omega)⟩
   have ny:=JF (B5 x (-BO (BI x)));cases hn:DN (KJ x) with
   | true =>
     have hm:KU x=Cb (B5 x (-BO (BI x))):=by unfold KU; rw[Az hn]
     obtain⟨dv,k1,k2⟩:=key _ hm ny (Du (FC x)) rfl;refine⟨0,dv,[],?_,k2⟩;rw[<- k1];have eb:FC x=BV (Cb (B5 x (-BO (BI x)))) (BO (BI x)):=by unfold FC; rw[hm]
     rw[BA.CY.ev,ew,eb];simp only[c1,Af,hx,Aa,h2,AH,d1,ok1,h3,QP,p1,oky,p2,Ah,Wg al,hn,sp _ ny,FD ny,dz,cz',ay,iy,ny,O8 iy ny,O8 ny iy]
   | false =>
     have hm:KU x=Cy (Cb (B5 x (-BO (BI x)))):=by unfold KU; rw[Ay (by rw[hn]; decide)]
     have my:=P8 ny;obtain⟨dv,k1,k2⟩:=key _ hm my (Du (FC x)) rfl;refine⟨0,dv,[],?_,k2⟩;rw[<- k1];have eb:FC x=BV (Cy (Cb (B5 x (-BO (BI x))))) (BO (BI x)):=by unfold FC; rw[hm]
     rw[BA.CY.ev,ew,eb];simp only[c1,Af,hx,Aa,h2,AH,d1,ok1,h3,QP,p1,oky,p2,Ah,Wg al,hn,Bc,sp _ my,FD my,dz,cz',ay,iy,ny,my,O8 iy my,O8 my iy]
 ·rw[Ay h2];have h2:Dx x=wh:=by simpa using h2
  refine⟨0,.CJ [.nil,.int .u64 0,.int .u64 0,.int .i64 4],[],?_,Wk.FQ (.cons N4 (.cons .int (.cons .int (.cons .int .nil))))⟩;rw[BA.CY.ev,c1,Af,hx,Aa,h2,Bc,Aa]
def apD(i k c j a b:Nat):Bool:=decide (k<=b/\i<=a/\(b<c\/(b=c/\a<i+j)))
def apS(R C:Nat)(l:Bf)(i k:Nat)(v:Bf)(t:Int)(c j:Nat):Bf :=Dj R C fun a b=>if apD i k c j a b=wc/\a<i+v.length then Gv (C:Int) l (i:Int) (k:Int) v t (a:Int) (b:Int) else Dy (C:Int) l (a:Int) (b:Int)
section
variable{R C i k:Nat}{l v:Bf}{t:Int}
theorem Ail(c j:Nat):(apS R C l i k v t c j).length=R*C:=Ch _ _ _
theorem Agp(h:l.length=R*C):apS R C l i k v t k 0=l:=by
 unfold apS
 conv=>rhs; rw[<- NW h]
 refine EN fun a b ha hb=>?_
 rw[Ay]
 rintro ⟨h,_⟩
 have:=A6 h;omega
theorem Agq(c:Nat):apS R C l i k v t c v.length=apS R C l i k v t (c+1) 0:=by
 unfold apS;refine EN fun a b ha hb=>?_
 have:(apD i k c v.length a b=wc/\a<i+v.length)↔(apD i k (c+1) 0 a b=wc/\a<i+v.length):=by unfold apD;rw[Ai,Ai];omega
 by_cases h:apD i k c v.length a b=wc/\a<i+v.length
 ·rw[Az h,Az (this.1 h)]
 ·rw[Ay h,Ay (fun hh=>h (this.2 hh))]
theorem Aim:apS R C l i k v t C 0=F5 R C l (i:Int) (k:Int) v t:=by
 unfold apS F5;refine EN fun a b ha hb=>?_
 by_cases h:apD i k C 0 a b=wc/\a<i+v.length
 ·rw[Az h]
 ·rw[Ay h];unfold Gv;rw[Ay];intro hh;refine h ⟨?_,by omega⟩;unfold apD;rw[Ai]; omega
theorem Aik{c j:Nat}(hc:c<C)(hk:k<=c)(hj:j<v.length){x:Int}(hx:x=Gv (C:Int) l (i:Int) (k:Int) v t ((i+j:Nat):Int) (c:Int)):
 zJ (apS R C l i k v t c j) ((i+j)*C+c) x=apS R C l i k v t c (j+1):=by
 unfold apS;rw[Nj hc];refine EN fun a b ha hb=>?_
 by_cases h:a=i+j/\b=c
 ·obtain⟨rfl,rfl⟩:=h;rw[Az ⟨rfl,rfl⟩,Az ⟨by unfold apD; rw[Ai]; omega,by omega⟩,hx]
 ·rw[Ay h]
  have:(apD i k c j a b=wc/\a<i+v.length)↔(apD i k c (j+1) a b=wc/\a<i+v.length):=by unfold apD;rw[Ai,Ai];omega
  by_cases h2:apD i k c j a b=wc/\a<i+v.length
  ·rw[Az h2,Az (this.1 h2)]
  ·rw[Ay h2,Ay (fun hh=>h2 (this.2 hh))]
theorem Ago{c j:Nat}(hk:k<=c)(hj:j<v.length):Gv (C:Int) l (i:Int) (k:Int) v t ((i+j:Nat):Int) (c:Int)=
 DW ((BQ (C:Int) l (c:Int) (i:Int) v.length).getD j 0) (Cx (IU (C:Int) l (i:Int) v t (c:Int)) (v.getD j 0)):=by
 unfold Gv;rw[Az ⟨by omega,by omega,by omega⟩];have e1:(((i+j:Nat):Int)-(i:Int)).toNat=j:=by omega
 have e2:(BQ (C:Int) l (c:Int) (i:Int) v.length).getD j 0=Dy (C:Int) l ((i+j:Nat):Int) (c:Int):=by unfold BQ;rw[Al,Ba,List.getElem?_range hj];show Dy (C:Int) l ((i:Int)+(j:Int)) (c:Int)=_;rw[<- Int.natCast_add]
 rw[e1,e2]
theorem Aes{c b i:Int}{l:Bf}{m n:Nat}(h:m<=n):zG m (BQ c l b i n)=BQ c l b i m:=by unfold BQ;rw[<- List.map_take,List.take_range,Nat.min_eq_left h]
theorem Aal(N M0:Nat)(r6:R<=6)(c6:C<=6)(al:Bq l=wc)(av:Bq v=wc)(hv:i+v.length<=R){c:Nat}(hc:c<C)(hk:k<=c):∀(cnt j F:Nat),j+cnt=v.length->cnt<F ->
 BA.Apply.L1 N M0 F (R:Int) (C:Int) l (i:Int) v t (j:Int) (apS R C l i k v t c j) (c:Int) (IU (C:Int) l (i:Int) v t (c:Int)) (BQ (C:Int) l (c:Int) (i:Int) v.length) (v.length:Int)=
 BA.Apply.L0 N M0 (R:Int) (C:Int) l (i:Int) v t ((c+1:Nat):Int) (apS R C l i k v t (c+1) 0):=by
 intro cnt
 induction cnt with
 | zero =>
   intro j F hj hF;obtain⟨F,rfl⟩:∃G,F=G+1:=⟨F-1,by omega⟩
   obtain rfl:j=v.length:=by omega
   rw[BA.Apply.CU,B8,Ag (by omega),Af,Bz (by omega) (by omega),Agq];rfl
 | succ cnt ih =>
   intro j F hj hF;obtain⟨F,rfl⟩:∃G,F=G+1:=⟨F-1,by omega⟩
   have hm:=Lh (a:=((i+j:Nat):Int)) (b:=(C:Int)) (by omega) (by omega) (by omega) (by omega);have hpl:=Fx (show i+j<R by omega) hc;have e1:Bh ((i:Int)+(j:Int))=((i+j:Nat):Int):=by rw[Bz (by omega) (by omega)]; omega
   have e2:Bh (((i+j:Nat):Int)*(C:Int))=(((i+j)*C:Nat):Int):=by rw[Bz (by omega) (by omega)]; exact(Ax _ _).symm
   have h36:=AE r6 c6;have e3:Bh ((((i+j)*C:Nat):Int)+(c:Int))=(((i+j)*C+c:Nat):Int):=by rw[Bz (by omega) (by omega)]; omega
   have hlen:=Ail (R:=R) (C:=C) (l:=l) (i:=i) (k:=k) (v:=v) (t:=t) c j;have sl:=HI (C:Int) (c:Int) (i:Int) v.length l;rw[BA.Apply.CU,B8,Ac (show(j:Int)<(v.length:Int) by omega),Aa,e1,e2,e3,sl,Ac (show(0:Int)<=(j:Int) by omega),Ac (show(j:Int)<(v.length:Int) by omega),Ah,Aa,Ad,Ad];have a1:=Jp av j;have a2:=Jp (HJ (c:=(C:Int)) (b:=(c:Int)) (i:=(i:Int)) (n:=v.length) al) j;have a3:Br (IU (C:Int) l (i:Int) v t (c:Int))=wc:=Fo _ _
   rw[Aa,a3,a1,Ah,Aa,a2,Fo,Ah,Aa,Ac (by omega),Ac (by omega),Ah,Aa,Ac (by omega),Aa,
    Aik hc hk (by omega) (Ago hk (by omega)).symm,Bz (by omega) (by omega)]
   exact ih (j+1) F (by omega) (by omega)
theorem Aam(N:Nat)(r6:R<=6)(c6:C<=6)(hN:7<N)(hr:BD (R:Int) (C:Int) l=wc)(al:Bq l=wc)(av:Bq v=wc)(ht:Br t=wc)(hv:i+v.length<=R):∀(cnt c F:Nat),c+cnt=C->k<=c->cnt<F ->
 BA.Apply.L0 N F (R:Int) (C:Int) l (i:Int) v t (c:Int) (apS R C l i k v t c 0)=
 wM (.CJ [.agg [.int .i64 (R:Int),.int .i64 (C:Int),.Bj (.own 114002 tB) .u64 (F5 R C l (i:Int) (k:Int) v t)],.int .i64 (0:Int)]):=by
 intro cnt
 induction cnt with
 | zero =>
   intro c F hc hk hF;obtain⟨F,rfl⟩:∃G,F=G+1:=⟨F-1,by omega⟩
   obtain rfl:c=C:=by omega
   rw[BA.Apply.B7,B8,Ag (by omega),Af,Aim]
 | succ cnt ih =>
   intro c F hc hk hF;obtain⟨F,rfl⟩:∃G,F=G+1:=⟨F-1,by omega⟩
   have cp:EG (R:Int) (C:Int) l (c:Int)=wc:=Bi.2 ⟨hr,Bv.2 (by omega)⟩;have e0:wi ((R:Int)-(i:Int))=R-i:=by omega
   have st:=Aes (c:=(C:Int)) (b:=(c:Int)) (i:=(i:Int)) (l:=l) (m:=v.length) (n:=R-i) (by omega);have sl:=HI (C:Int) (c:Int) (i:Int) v.length l;have sl2:=HI (C:Int) (c:Int) (i:Int) (R-i) l;have sa:=HJ (c:=(C:Int)) (b:=(c:Int)) (i:=(i:Int)) (n:=v.length) al;have ft:Nl v (BQ (C:Int) l (c:Int) (i:Int) v.length)=wc:=Wp.2 ⟨by omega,by omega⟩
   rw[BA.Apply.B7,B8,Ac (by omega),Aa,cp,Bv.2 (show 0<=(i:Int)/\(i:Int)<=(R:Int) by omega),Ah,Aa,e0,Ad,st,sl2,sl,
    Ac (show(0:Int)<=(v.length:Int) by omega),Ac (show(v.length:Int)<=(v.length:Int) by omega),Ac (show(v.length:Int)<=((R-i:Nat):Int) by omega),Ah,Ah,Aa,ft,av,sa,Ah,Ah,Aa,ht,HG,Ah,Aa]
   have:=Aal (t:=t) N F r6 c6 al av hv (show c<C by omega) hk v.length 0 N (by omega) (by omega);exact this.trans (ih (c+1) F (by omega) (by omega) (by omega))
end
theorem BA.Apply.Bp:Kq 163 BA.Apply.Bu:=E1 BA.Apply.E Tryz.func163 (kc Bg.Check.Bp (kc Bg.DU.Bp (kc Bs.GY.Bp (kc Bs.Mul.Bp (kc Bs.Sub.Bp .nil))))) fun r c l i k v t hp=>by
 obtain⟨h1,ht⟩:=Bi.1 (show(((BD r c l&&Md r c i k v)&&(Bq l&&Bq v))&&Br t)=wc from hp);obtain⟨h2,h3⟩:=Bi.1 h1;obtain⟨hr,hb⟩:=Bi.1 h2;obtain⟨al,av⟩:=Bi.1 h3;have hb:=A6 hb;have hc:Iy r c l=0:=by unfold Iy; rw[Az hr]
 have h36:=Ll hr;obtain⟨R,C,rfl,rfl,r6,c6,hl⟩:=DF hr;obtain⟨i,rfl⟩:∃j:Nat,i=j:=⟨i.toNat,by omega⟩
 obtain⟨k,rfl⟩:∃j:Nat,k=j:=⟨k.toNat,by omega⟩
 refine⟨8,BA.Apply.out [.i (R:Int),.i (C:Int),.l l,.i (i:Int),.i (k:Int),.l v,.i t],[],?_,Wk.FQ (.cons (Wk.GA (.cons .int (.cons .int (.cons (.Da _ _ _ _ List.not_mem_nil) .nil)))) (.cons .int .nil))⟩;show _=wM (DV.CJ [.agg [.int .i64 (R:Int),.int .i64 (C:Int),.Bj (.own 114002 tB) .u64 (F5 (wi (R:Int)) (wi (C:Int)) l (i:Int) (k:Int) v t)],.int .i64 0])
 have hlt:(((((BH (i:Int) (0:Int))||(BH (R:Int) (wj v:Int)))||(BH (Bh ((R:Int)-(wj v:Int))) (i:Int)))||(BH (k:Int) (0:Int)))||(BH (C:Int) (k:Int)))=wh:=by rw[B8,B8,B8,B8,B8,Bz (by omega) (by omega),Ag (by omega),Ag (by omega),Ag (by omega),Ag (by omega),Ag (by omega)]; rfl
 rw[BA.Apply.ev,hc,show((0:Int) !=(0:Int))=wh from rfl,Af,hlt,Af,Ac (show 0+l.length<=GK by unfold GK; omega),Aa,zZ,Ad,Ad];have:=Aam (R:=R) (C:=C) (i:=i) (k:=k) (l:=l) (v:=v) (t:=t) 8 r6 c6 (by omega) hr al av ht (by omega) (C-k) k 8 (by omega) (by omega) (by omega);rw[Agp hl] at this;exact this
section
variable{n Q:Nat}{l m:Bf}
end
end Go.Proofs.S1
end
