/- A verified evaluator of the program's form and its use for this seat: S1EqRefB, S1PRefB, S1PRefBa, S1EqRefC, S1PRefC, S1PRefCa, S1EqRefE, S1PRefV, S1EqCmp, S1PCmp, S1PDiv, S1EqRoot, S1PRoot, S1PRootA, LdxL, S1EqLdx, S1PLdx, S1PLdxA, S1EqRef08, S1EqRef13, S1PRef08, S1EqHouse, S1PHouse. -/
import Derived.Test.YthajngaadbanfaaGreatTE
import Derived.Test.YthajngaadbanfaaGreatTF
import Derived.Test.YthajngaadbanfaaGreatTI
set_option linter.unusedVariables false
set_option linter.unusedSimpArgs false
open Option renaming some->xQ,none->xY
open Bool renaming true->xZ,false->x5
open Int renaming toNat->wQ
open List renaming length->wj,getD->wt
open List renaming set->zv,replicate->zp,drop->zN,length_cons->zj,length_drop->zP,all_cons->yY,take->zL,take_of_length_le->yD
open Int renaming tdiv->zw,tmod->zD,zero_mul->yu,mul_assoc->wP,natAbs_mul->yt,natAbs_natCast->zV,natAbs_neg->xp,lt_trichotomy->x9,lt_or_le->xD
open Nat renaming div_le_self->yz,pow_succ->zH,log2_self_le->z6,mul_zero->yd,div_one->yH,le_log2->zO,lt_trans->y7,mod_lt->zu,mul_div_mul_right->xW,mul_div_cancel->xX
open Bool renaming false_and->zZ,and_eq_false_iff->xF,or_eq_false_iff->yF
noncomputable section
open Go.Proofs.Tryz
namespace Go.Proofs.S1
open Go Go.Den Go.Ck Go.Proofs
set_option maxRecDepth 100000
def Bq.HJ.E:=E0 [(104,Bq.Made.Bt),(110,Bq.plus.Bt)]
theorem Bq.HJ.ev(N:Nat)(n:Bool)(a:Bf):Cz Bq.HJ.E N f161 (Bw f161) [.agg [.bool n,.Bj .arg .u32 a]]=cond (GZ a&&GZ a) (bif (GZ (Ix a a)) then xQ (.agg [.bool (BG (wv n (Ix a a))),.Bj .arg .u32 (Bo (wv n (Ix a a)))]) else xY) xY :=Et (CQ (CF _) (CQ (CF _) rfl rfl) rfl)
def Bq.IU.hint:Nat->Option BN
 | 0=>xQ { Df:=[1,2,3,4],Cg:=[(0,3,100003,.Bj 121 .u32 [])],Cr:=[1,2] }
 | _=>xY
def Bq.IU.E:=D6 (Db [(104,Bq.Made.Bt),(159,Bq.KE.Bt)]) (fun _=>x5) Bq.IU.hint (fun _=>xY)
section
variable(N M:Nat)(n:Bool)(a:Bf)(p4:Int)(p3:Bf)
def Bq.IU.L0:Option DV:=C6 Bq.IU.E N f106 (Bw f106) [1,1,0,1,0] [] M ⟨Fz 37 [(1,.ptr 1 0 0),(2,.ptr 2 0 0),(3,.Dh 100003),(4,.int .i64 p4)],[(1,x5,.box [.bool n,.Bj .arg .u32 a]),(2,x5,.box [.bool x5,.nil]),(100003,x5,.Bj 121 .u32 p3)]⟩
theorem Bq.IU.B8:Bq.IU.L0 N (M+1) n a p4 p3=cond (BI p4 (wj a:Int)) (bif (GZ a) then cond (GZ a) (bif ((decide (0<=p4))&&(decide (p4<(wj p3:Int)))) then cond (decide ((wQ p4)<(wj p3))) (Bq.IU.L0 N M n a (Bg (p4+1)) (zv p3 (wQ p4) (HM (BV (zw (BV ((BV ((zD (Gx a (Bg (p4+1))) 2)*4294967296))+(Gx a p4))) 2))))) xY else xY) xY else xY) (bif (GZ p3) then xQ (.agg [.bool (BG (wv n p3)),.Bj .arg .u32 (Bo (wv n p3))]) else xY) :=Et (EY (CQ (CF _) (CQ (CF _) (CQ (IW _ _) (CQ (CF _) rfl rfl) rfl) rfl) rfl) rfl)
theorem Bq.IU.ev:Cz Bq.IU.E N f106 (Bw f106) [.agg [.bool n,.Bj .arg .u32 a]]=cond (((decide ((0:Int)<=(wj a:Int)))&&(decide ((wj a:Int)<=(wj a:Int))))&&(decide ((wj a:Int)<=G2))) (Bq.IU.L0 N N n a 0 (zp (wQ (wj a:Int)) 0)) xY:=by kernel_rfl
end
def Bq.CM.hint:Nat->Option BN
 | 0=>xQ { Df:=[1,2,4],Cg:=[],Cr:=[2,4] }
 | 2=>xQ { Df:=[1,2,4],Cg:=[],Cr:=[2,4] }
 | 4=>xQ { Df:=[1,2,4],Cg:=[],Cr:=[2,4] }
 | 6=>xQ { Df:=[1,2,4],Cg:=[],Cr:=[2,4] }
 | _=>xY
def Bq.CM.E:=D6 (Db [(161,Bq.HJ.Bt),(106,Bq.IU.Bt),(104,Bq.Made.Bt)]) (fun _=>x5) Bq.CM.hint (fun _=>xY)
section
variable(N:Nat)(n:Bool)(a:Bf)(k:Int)(M:Nat)(p1_3:Int)(p2_6:Bool)(p2_7:Bf)(p1_2:Int)(p2_4:Bool)(p2_5:Bf)(p1_1:Int)(p2_2:Bool)(p2_3:Bf)(p1:Int)(p2:Bool)(p2_1:Bf)
def Bq.CM.L0:Option DV:=C6 Bq.CM.E N f113 (Bw f113) [1,0,0] [] M ⟨Fz 63 [(1,.int .i64 p1),(2,.ptr 2 0 0),(4,.ptr 4 0 0)],[(2,x5,.box [.bool p2,.Bj .arg .u32 p2_1]),(4,x5,.box [.bool x5,.nil])]⟩
def Bq.CM.L1:Option DV:=C6 Bq.CM.E N f113 (Bw f113) [1,1,0,0] [] M ⟨Fz 63 [(1,.int .i64 p1_1),(2,.ptr 2 0 0),(4,.ptr 4 0 0)],[(2,x5,.box [.bool p2_2,.Bj .arg .u32 p2_3]),(4,x5,.box [.bool x5,.nil])]⟩
def Bq.CM.L2:Option DV:=C6 Bq.CM.E N f113 (Bw f113) [1,1,1,0,0] [] M ⟨Fz 63 [(1,.int .i64 p1_2),(2,.ptr 2 0 0),(4,.ptr 4 0 0)],[(2,x5,.box [.bool p2_4,.Bj .arg .u32 p2_5]),(4,x5,.box [.bool x5,.nil])]⟩
def Bq.CM.L3:Option DV:=C6 Bq.CM.E N f113 (Bw f113) [1,1,1,1,0,0] [] M ⟨Fz 63 [(1,.int .i64 p1_3),(2,.ptr 2 0 0),(4,.ptr 4 0 0)],[(2,x5,.box [.bool p2_6,.Bj .arg .u32 p2_7]),(4,x5,.box [.bool x5,.nil])]⟩
theorem Bq.CM.B8:Bq.CM.L0 N (M+1) p1 p2 p2_1=cond ((Eg 32 p1)&&(BI 0 (wj p2_1:Int))) (bif (decide (1+(wj p2_1)<=G2)) then cond (GZ ([(0:Int)]++p2_1)) (Bq.CM.L0 N M (Bg (p1-32)) (BG (wv p2 ([(0:Int)]++p2_1))) (Bo (wv p2 ([(0:Int)]++p2_1)))) xY else xY) (Bq.CM.L1 N N p1 p2 p2_1) :=Et (B5 (MH (Eg 32 p1)) (B5 (JV (Eg 32 p1)) (B5 (JV (Eg 32 p1)) (B5 (JV (Eg 32 p1)) (B5 (QG (Eg 32 p1)) (CQ (tt1 _ _) (CQ (CF _) (CQ (CF _) rfl rfl) rfl) rfl))))))
theorem Bq.CM.CT:Bq.CM.L1 N (M+1) p1_1 p2_2 p2_3=cond ((BI 0 p1_1)&&(BI 0 (wj p2_3:Int))) (bif (I8 p2_2 p2_3) then Bq.CM.L1 N M (Bg (p1_1-1)) (BG (2*wv p2_2 p2_3)) (Bo (2*wv p2_2 p2_3)) else xY) (Bq.CM.L2 N N p1_1 p2_2 p2_3) :=Et (B5 (MH (BI 0 p1_1)) (B5 (JV (BI 0 p1_1)) (B5 (JV (BI 0 p1_1)) (B5 (JV (BI 0 p1_1)) (B5 (QG (BI 0 p1_1)) (CQ (tt1 _ _) rfl rfl))))))
theorem Bq.CM.IT:Bq.CM.L2 N (M+1) p1_2 p2_4 p2_5=cond ((Eg p1_2 (-32:Int))&&(BI 0 (wj p2_5:Int))) (bif (decide ((1:Int)<=(wj p2_5:Int))) then cond (GZ (zN 1 p2_5)) (Bq.CM.L2 N M (Bg (p1_2+32)) (BG (wv p2_4 (zN 1 p2_5))) (Bo (wv p2_4 (zN 1 p2_5)))) xY else xY) (Bq.CM.L3 N N p1_2 p2_4 p2_5) :=Et (B5 (MH (Eg p1_2 (-32:Int))) (B5 (JV (Eg p1_2 (-32:Int))) (B5 (JV (Eg p1_2 (-32:Int))) (B5 (JV (Eg p1_2 (-32:Int))) (B5 (QG (Eg p1_2 (-32:Int))) (CQ (tt1 _ _) (CQ (AlD _) (CQ (CF _) rfl rfl) rfl) rfl))))))
theorem Bq.CM.O4:Bq.CM.L3 N (M+1) p1_3 p2_6 p2_7=cond ((BI p1_3 0)&&(BI 0 (wj p2_7:Int))) (bif (I8 p2_6 p2_7) then Bq.CM.L3 N M (Bg (p1_3+1)) (BG (Jb (wv p2_6 p2_7) 1)) (Bo (Jb (wv p2_6 p2_7) 1)) else xY) (xQ (.agg [.bool p2_6,.Bj .arg .u32 p2_7])) :=Et (B5 (MH (BI p1_3 0)) (B5 (JV (BI p1_3 0)) (B5 (JV (BI p1_3 0)) (B5 (JV (BI p1_3 0)) (B5 (QG (BI p1_3 0)) (CQ (tt1 _ _) rfl rfl))))))
theorem Bq.CM.ev:Cz Bq.CM.E N f113 (Bw f113) [.agg [.bool n,.Bj .arg .u32 a],.int .i64 k]=
 Bq.CM.L0 N N k n a:=by kernel_rfl
end
def Bq.Rz.hint:Nat->Option BN
 | 0=>xQ { Df:=[3,4],Cg:=[],Cr:=[] }
 | _=>xY
def Bq.Rz.E:=D6 (Db []) (fun _=>x5) Bq.Rz.hint (fun _=>xY)
def Bq.Rz.L0(N M:Nat)(p3 p4:Int):Option DV:=C6 Bq.Rz.E N f160 (Bw f160) [1,1,1,0,1,0] [] M ⟨Fz 29 [(3,.int .i64 p3),(4,.int .u32 p4)],[]⟩
theorem Bq.Rz.B8(N M:Nat)(p3 p4:Int):Bq.Rz.L0 N (M+1) p3 p4=cond (BI 0 p4) (Bq.Rz.L0 N M (Bg (p3+1)) (HM (zw p4 2))) (xQ (.int .i64 p3)):=by kernel_rfl
theorem Bq.Rz.ev(N:Nat)(n:Bool)(a:Bf):Cz Bq.Rz.E N f160 (Bw f160) [.agg [.bool n,.Bj .arg .u32 a]]=cond ((wj a:Int)==(0:Int)) (xQ (.int .i64 0)) (bif ((decide (0<=(Bg ((wj a:Int)-1))))&&(decide ((Bg ((wj a:Int)-1))<(wj a:Int)))) then Bq.Rz.L0 N N (Bg ((32:Int)*(Bg ((wj a:Int)-1)))) (wt a (wQ (Bg ((wj a:Int)-1))) 0) else xY):=by kernel_rfl
def Bq.ZA.E:=E0 []
theorem Bq.ZA.ev(N:Nat)(n:Bool)(a:Bf):Cz Bq.ZA.E N f105 (Bw f105) [.agg [.bool n,.Bj .arg .u32 a]]=cond ((!(BI 0 (wj a:Int)))||(decide ((0:Int)<(wj a:Int)))) (xQ (.bool (cond (BI 0 (wj a:Int)) ((zD (wt a 0 0) 2)==(1:Int)) x5))) xY :=Et (B5 (MH (BI 0 (wj a:Int))) (B5 (JV (BI 0 (wj a:Int))) (CQ (AlB _ _) (B5 (JV (BI 0 (wj a:Int))) (B5 (JV (BI 0 (wj a:Int))) (B5 (JV (BI 0 (wj a:Int))) (B5 (QG (BI 0 (wj a:Int))) rfl)))) rfl)))
open Go Go.Den Go.Ck Go.Proofs
theorem Bq.HJ.Bn:Kq 161 Bq.HJ.Bt:=ED Bq.HJ.E Tryz.func161 (kc Bq.Made.Bn (kc Bq.plus.Bn .nil)) fun n a hp=>by obtain⟨v,rfl,rfl,hv⟩:=Ia hp;refine⟨0,Bq.HJ.out [.b (BG v),.l (Bo v)],[],?_,Wi⟩;have o1:GZ (Bo v)=xZ:=LN (by omega);have o3:GZ (Ix (Bo v) (Bo v))=xZ:=IF (by rw[Mj,CL]; omega) (Tv _ _);rw[Bq.HJ.ev,o1,o3,Ah,Aa,Aa,Aez rfl];show _=xQ (DV.agg [.bool (BG (2*wv (BG v) (Bo v))),.Bj .arg .u32 (Bo (2*wv (BG v) (Bo v)))]);rw[EV,Int.two_mul]
theorem Akd(l:Bf)(y x:Int)(r:Bf):∀i,i=l.length->(l++y::r).set i x=l++x::r:=by
 induction l with
 | nil=>intro i h; subst h; rfl
 | cons z l ih =>
   intro i h;obtain⟨j,rfl⟩:∃j,i=j+1:=⟨i-1,by rw[zj] at h; omega⟩
   show z::(l++y::r).set j x=z::(l++x::r);rw[ih j (by rw[zj] at h; omega)]
theorem AdN(N:Nat){v:Int}(hv:DC v.natAbs<268435456):∀(k i F:Nat),i+k=DC v.natAbs->k<F ->
 Bq.IU.L0 N F (BG v) (Bo v) (i:Int) (digits i (v.natAbs / 2)++zp k 0)=xQ (.agg [.bool (BG (Jb v 1)),.Bj .arg .u32 (Bo (Jb v 1))]):=by
 have o1:GZ (Bo v)=xZ:=LN (by omega);have ia:=FK v;intro k
 induction k with
 | zero =>
   intro i F hi hF;obtain⟨F,rfl⟩:∃G,F=G+1:=⟨F-1,by omega⟩
   have t0:decide ((i:Int)<((Bo v).length:Int))=x5:=Ag (by rw[CL]; omega);rw[List.replicate_zero,List.append_nil,Bq.IU.B8,B9,t0,Af];have o3:GZ (digits i (v.natAbs / 2))=xZ:=IF (by rw[Er]; omega) (Kv _ _)
   have e:wv (BG v) (digits i (v.natAbs / 2))=Jb v 1:=by unfold wv Jb;rw[Is,Ao,Nat.pow_one];have:=II v.natAbs;rw[show i=DC v.natAbs by omega];exact AK (yz _ _) this
   rw[o3,Aa,e]
 | succ k ih =>
   intro i F hi hF;obtain⟨F,rfl⟩:∃G,F=G+1:=⟨F-1,by omega⟩
   have hlen:(digits i (v.natAbs / 2)++zp (k+1) (0:Int)).length=i+(k+1):=by rw[A8,Er,List.length_replicate]
   have t0:decide ((i:Int)<((Bo v).length:Int))=xZ:=Ac (by rw[CL]; omega);have t1:decide ((0:Int)<=(i:Int))=xZ:=Ac (by omega);have t2:decide ((i:Int)<((digits i (v.natAbs / 2)++zp (k+1) (0:Int)).length:Int))=xZ:=Ac (by rw[hlen]; omega);have t3:decide (i<(digits i (v.natAbs / 2)++zp (k+1) (0:Int)).length)=xZ:=Ac (by rw[hlen]; omega);have e0:Bg ((i:Int)+1)=((i+1:Nat):Int):=by rw[Bz (by omega) (by omega)]; omega
   rw[Bq.IU.B8,B9,t0,o1,Ad,t1,t2,t3,Ah];simp only[Aa];rw[e0,GF ia,GF ia,Eb];have ih:=ih (i+1) F (by omega) (by omega);rw[I4,A9,A0 2,<- A9] at ih;rw[JO,A0 4294967296,<- A9,List.replicate_succ,Akd _ _ _ _ i (Er _ _).symm];rw[List.append_assoc] at ih;generalize v.natAbs / 2^(32*i)=x at *
   have e1:zD ((x / 4294967296%4294967296:Nat):Int) 2=((x / 4294967296%4294967296%2:Nat):Int):=HP _ 2
   have e2:BV (BV (((x / 4294967296%4294967296%2:Nat):Int)*4294967296)+((x%4294967296:Nat):Int))=((x / 4294967296%4294967296%2*4294967296+x%4294967296:Nat):Int):=by rw[Dr (x:=((x / 4294967296%4294967296%2:Nat):Int)*4294967296) (by omega) (by omega),Dr (by omega) (by omega)]; omega
   have e3:zw ((x / 4294967296%4294967296%2*4294967296+x%4294967296:Nat):Int) 2=(((x / 4294967296%4294967296%2*4294967296+x%4294967296) / 2:Nat):Int):=HQ _ 2;have e4:(x / 4294967296%4294967296%2*4294967296+x%4294967296) / 2=x / 2%4294967296:=by omega
   rw[e1,e2,e3,e4,Dr (by omega) (by omega),HL (by omega) (by omega)];exact ih
theorem Bq.IU.Bn:Kq 106 Bq.IU.Bt:=ED Bq.IU.E Tryz.func106 (kc Bq.Made.Bn (kc Bq.KE.Bn .nil)) fun n a hp=>by obtain⟨v,rfl,rfl,hv⟩:=Ia hp;refine⟨DC v.natAbs+1,Bq.IU.out [.b (BG v),.l (Bo v)],[],?_,Wi⟩;show _=xQ (DV.agg [.bool (BG (Jb (wv (BG v) (Bo v)) 1)),.Bj .arg .u32 (Bo (Jb (wv (BG v) (Bo v)) 1))]);rw[Bq.IU.ev,EV,CL,Ac (by omega),Ac (by omega),Ac (by unfold G2; omega),Ah,Ah,Aa,Ad];have h:=AdN (DC v.natAbs+1) hv (DC v.natAbs) 0 (DC v.natAbs+1) (by omega) (by omega);rw[digits,List.nil_append] at h;exact h
def ZE(v:Int):Option DV:=xQ (.agg [.bool (BG v),.Bj .arg .u32 (Bo v)])
theorem Qp(v:Int):BI (0:Int) ((Bo v).length:Int)=decide (v≠0):=by
 rw[B9,CL,decide_eq_decide];constructor
 ·intro h e;rw[e] at h;exact absurd h (by decide)
 ·intro h;have:=HU (n:=v.natAbs) (by omega);omega
theorem AjX(N:Nat):∀(j F:Nat) (v:Int),j<F->j<2000000->DC v.natAbs<268435456->Bq.CM.L3 N F (-(j:Int)) (BG v) (Bo v)=ZE (Jb v j):=by
 intro j
 induction j with
 | zero =>
   intro F v hF _ hv;obtain⟨F,rfl⟩:∃G,F=G+1:=⟨F-1,by omega⟩
   rw[Bq.CM.O4,B9,Ag (by omega),zZ,Af,Yh];rfl
 | succ j ih =>
   intro F v hF hj hv;obtain⟨F,rfl⟩:∃G,F=G+1:=⟨F-1,by omega⟩
   rw[Bq.CM.O4,B9,Ac (by omega),AW,Qp];by_cases h0:v=0
   ·rw[Ag (by omega),Af,h0,Oe];rfl
   ·rw[Ac h0,Aa,GY hv,Aa,EV,Bz (by omega) (by omega)];have e:-((j+1:Nat):Int)+1=-(j:Int):=by omega
    have hl:DC (Jb v 1).natAbs<268435456:=by rw[JY];exact AK (Kt (yz _ _)) hv
    rw[e,ih F (Jb v 1) (by omega) (by omega) hl,WB,Nat.add_comm]
theorem Abz(v:Int):wv (BG v) ((Bo v).drop 1)=Jb v 32:=by unfold wv Jb;rw[Ac8 (FK v),Eb,two32]
theorem AjY(N:Nat):∀(F j:Nat) (v:Int),j<F->j<N->j<2000000->DC v.natAbs<268435456->Bq.CM.L2 N F (-(j:Int)) (BG v) (Bo v)=ZE (Jb v j):=by
 intro F
 induction F with
 | zero=>intro j v h; omega
 | succ F ih =>
   intro j v hF hN hj hv;rw[Bq.CM.IT,E1,Qp];by_cases hc:32<=j/\v≠0
   ·have o3:GZ ((Bo v).drop 1)=xZ:=IF (by rw[zP,CL]; omega) (YQ (FK v))
    have t1:decide ((1:Int)<=((Bo v).length:Int))=xZ:=Ac (by rw[CL];have:=HU (n:=v.natAbs) (by omega);omega)
    have hl:DC (Jb v 32).natAbs<268435456:=by rw[JY];exact AK (Kt (yz _ _)) hv
    rw[Ac (by omega),Ac hc.2,Ah,Aa,t1,Aa,o3,Aa,Abz,Bz (by omega) (by omega)];have e:-(j:Int)+32=-((j-32:Nat):Int):=by omega
    rw[e,ih (j-32) (Jb v 32) (by omega) (by omega) (by omega) hl,WB];congr 2;omega
   ·have:(decide (-(j:Int)<=-32)&&decide (v≠0))=x5:=by rw[xF,Av,Av];omega
    rw[this,Af];exact AjX N j N v hN hj hv
theorem R9(N F:Nat){k:Int}(hk:0<=k)(hN:0<N)(v:Int):Bq.CM.L2 N (F+1) k (BG v) (Bo v)=ZE v:=by
 obtain⟨M,rfl⟩:∃M,N=M+1:=⟨N-1,by omega⟩
 rw[Bq.CM.IT,E1,Ag (by omega),zZ,Af,Bq.CM.O4,B9,Ag (by omega),zZ,Af];rfl
theorem AjZ(N:Nat)(hN:0<N):∀(j F:Nat) (v:Int),j<F->j<2000000->DC v.natAbs+j<268435456->Bq.CM.L1 N F (j:Int) (BG v) (Bo v)=ZE (v*((2^j:Nat):Int)):=by
 obtain⟨M,rfl⟩:∃M,N=M+1:=⟨N-1,by omega⟩
 intro j
 induction j with
 | zero =>
   intro F v hF _ hv;obtain⟨F,rfl⟩:∃G,F=G+1:=⟨F-1,by omega⟩
   rw[Bq.CM.CT,B9,Ag (by omega),zZ,Af,R9 _ _ (by omega) (by omega),AG];congr 1;omega
 | succ j ih =>
   intro F v hF hj hv;obtain⟨F,rfl⟩:∃G,F=G+1:=⟨F-1,by omega⟩
   rw[Bq.CM.CT,B9,Ac (by omega),AW,Qp];by_cases h0:v=0
   ·rw[Ag (by omega),Af,h0,yu,R9 _ _ (by omega) (by omega)]
   ·have hl:=Agg v.natAbs;have e2:(2*v).natAbs=2*v.natAbs:=by omega
    have e:((j+1:Nat):Int)-1=(j:Int):=by omega
    rw[Ac h0,Aa,GY (by omega),Aa,EV,Bz (by omega) (by omega),e,ih F (2*v) (by omega) (by omega) (by rw[e2]; omega)];congr 1;rw[zH,Ax,Int.mul_comm 2 v,wP,Int.mul_comm ((2^j:Nat):Int)];rfl
theorem Alh(v:Int):wv (BG v) ([(0:Int)]++Bo v)=v*((2^32:Nat):Int):=by
 have e:C3 ([(0:Int)]++Bo v)=4294967296*v.natAbs:=by show C3 (0::Bo v)=_;rw[C3,Eb];exact AS _
 unfold wv;rw[e,two32];by_cases h:v<0
 ·rw[Oh h]; omega
 ·rw[Og h]; omega
theorem Aka(N:Nat):∀(F j:Nat) (v:Int),j<F->j<N->j<2000000->DC v.natAbs+j<268435456->Bq.CM.L0 N F (j:Int) (BG v) (Bo v)=ZE (v*((2^j:Nat):Int)):=by
 intro F
 induction F with
 | zero=>intro j v h; omega
 | succ F ih =>
   intro j v hF hN hj hv;rw[Bq.CM.B8,E1,Qp];by_cases hc:32<=j/\v≠0
   ·have o3:GZ ([(0:Int)]++Bo v)=xZ:=IF (by rw[A8,CL]; show 1+_<_; omega) (YP (FK v));have t1:decide (1+(Bo v).length<=G2)=xZ:=Ac (by rw[CL]; unfold G2; omega);have e2:(v*((2^32:Nat):Int)).natAbs=v.natAbs*4294967296:=by rw[yt,zV,two32]
    have hl:=Ai7 v.natAbs;rw[Ac (by omega),Ac hc.2,Ah,Aa,t1,Aa,o3,Aa,Alh,Bz (by omega) (by omega)];have e:(j:Int)-32=((j-32:Nat):Int):=by omega
    rw[e,ih (j-32) _ (by omega) (by omega) (by omega) (by rw[e2]; omega)];have e3:2^j=2^32*2^(j-32):=by rw[<- A5]; congr 1; omega
    rw[e3,Ax,wP]
   ·have:(decide ((32:Int)<=(j:Int))&&decide (v≠0))=x5:=by rw[xF,Av,Av];omega
    rw[this,Af];exact AjZ N (by omega) j N v hN hj hv
theorem Aaf(N j:Nat)(v:Int)(hj:0<j)(hN:j<N)(hj2:j<2000000)(hv:DC v.natAbs<268435456):Bq.CM.L0 N N (-(j:Int)) (BG v) (Bo v)=ZE (Jb v j):=by
 obtain⟨M,rfl⟩:∃M,N=M+1:=⟨N-1,by omega⟩
 rw[Bq.CM.B8,E1,Ag (by omega),zZ,Af,Bq.CM.CT,B9,Ag (by omega),zZ,Af];exact AjY _ _ j v hN hN hj2 hv
theorem Bq.CM.Bn:Kq 113 Bq.CM.Bt:=ED Bq.CM.E Tryz.func113 (kc Bq.HJ.Bn (kc Bq.IU.Bn (kc Bq.Made.Bn .nil))) fun n a k hp=>by
 obtain⟨h1,h2⟩:=Bi.1 hp;obtain⟨v,rfl,rfl,hv⟩:=Mp h1;have h2:=Bv.1 h2;refine⟨k.natAbs+1,Bq.CM.out [.b (BG v),.l (Bo v),.i k],[],?_,Wi⟩;show _=xQ (DV.agg [.bool (BG (Hf (wv (BG v) (Bo v)) k)),.Bj .arg .u32 (Bo (Hf (wv (BG v) (Bo v)) k))]);rw[Bq.CM.ev,EV];unfold Hf;by_cases h:0<=k
 ·obtain⟨j,rfl⟩:∃j:Nat,k=j:=⟨k.toNat,by omega⟩
  rw[Az h,Ad,zV];exact Aka _ _ j v (by omega) (by omega) (by omega) (by omega)
 ·obtain⟨j,rfl⟩:∃j:Nat,k=-(j:Int):=⟨(-k).toNat,by omega⟩
  have e:(-(-(j:Int))).toNat=j:=by omega
  rw[Ay h,e,xp,zV];exact Aaf _ j v (by omega) (by omega) (by omega) (by omega)
theorem AdF{t:Nat}(h:2<=t):(t / 2).log2+1=t.log2:=by have:=YB (n:=t) (m:=1) (by omega);rw[Nat.pow_one] at this;exact this
theorem Age(N:Nat):∀(F:Nat) (t:Nat) (p:Int),t<2^32->0<t->t.log2+1<F->-1000<=p->p+t.log2<4611686018427387904 ->
 Bq.Rz.L0 N F p (t:Int)=xQ (.int .i64 (p+t.log2+1)):=by
 intro F
 induction F with
 | zero=>intro t p _ _ h; omega
 | succ F ih =>
   intro t p ht h0 hF hp1 hp2;have e2:zw (t:Int) 2=((t / 2:Nat):Int):=HQ t 2;rw[two32] at ht;rw[Bq.Rz.B8,B9,Ac (by omega),Aa,e2,HL (by omega) (by omega),Bz (by omega) (by omega)];by_cases h1:t=1
   ·subst h1;obtain⟨G,rfl⟩:∃G,F=G+1:=⟨F-1,by omega⟩
    rw[Bq.Rz.B8,B9,Ag (by decide),Af];have:(1:Nat).log2=0:=by decide
    rw[this];congr 2;omega
   ·have hl:=AdF (t:=t) (by omega);rw[ih (t / 2) (p+1) (by rw[two32]; omega) (by omega) (by omega) (by omega) (by omega)];congr 2;omega
theorem Bq.Rz.Bn:Kq 160 Bq.Rz.Bt:=ED Bq.Rz.E Tryz.func160 .nil fun n a hp=>by
 obtain⟨v,rfl,rfl,hv⟩:=Ia hp;refine⟨40,Bq.Rz.out [.b (BG v),.l (Bo v)],[],?_,.int⟩;show _=xQ (DV.int .i64 (TP (wv (BG v) (Bo v))));rw[Bq.Rz.ev,EV,CL];unfold TP;by_cases h0:v=0
 ·rw[Az h0,h0]; rfl
 ·have hn:v.natAbs≠0:=by omega
  have hl:=HU hn;have e0:((DC v.natAbs:Int)==0)=x5:=by simp only[AD,ne_eq]; omega
  have e1:(DC v.natAbs:Int)-1=((DC v.natAbs-1:Nat):Int):=by omega
  have hlen:DC v.natAbs=v.natAbs.log2 / 32+1:=by unfold DC; rw[Ay hn]
  have hge:2^(32*(DC v.natAbs-1))<=v.natAbs:=AP (Aq (by decide) (by omega)) (z6 hn)
  have hq:v.natAbs / 2^(32*(DC v.natAbs-1))<2^32:=by
   rw[Nat.div_lt_iff_lt_mul (Cv _),<- A5];have:=II v.natAbs;have e:32+32*(DC v.natAbs-1)=32*DC v.natAbs:=by omega
   rw[e]; exact this
  have hlog:=YB hge;have hg:=Ll (FK v) (DC v.natAbs-1);have hq':=hq;rw[two32] at hq';rw[Eb,Ao hq'] at hg;have hpos:=Nat.div_pos hge (Cv _);have h32:(v.natAbs / 2^(32*(DC v.natAbs-1))).log2<32:=(AZ (by omega)).2 hq;rw[Ay h0,e0,Af,Bz (by omega) (by omega),e1,Ac (by omega),Ac (by omega),Ah,Aa,Ad,hg,Bz (by omega) (by omega)];rw[Age 40 40 _ _ hq hpos (by omega) (by omega) (by omega)];congr 2;omega
theorem Bq.ZA.Bn:Kq 105 Bq.ZA.Bt:=ED Bq.ZA.E Tryz.func105 .nil fun n a hp=>by
 obtain⟨v,rfl,rfl,hv⟩:=Ia hp;refine⟨0,Bq.ZA.out [.b (BG v),.l (Bo v)],[],?_,.bool⟩;show _=xQ (DV.bool (Adr (wv (BG v) (Bo v))));rw[Bq.ZA.ev,EV,Qp];have hg:=Ll (FK v) 0;rw[Eb,yd,AG,yH] at hg;have e2:zD ((v.natAbs%4294967296:Nat):Int) 2=((v.natAbs%4294967296%2:Nat):Int):=HP _ 2;unfold Adr;by_cases h0:v=0
 ·rw[h0]; rfl
 ·have hl:=HU (n:=v.natAbs) (by omega);rw[hg,e2,Ac h0,CL,Ac (by omega),AV,Aa,Aa];congr 2;rw[Ar];simp only[beq_iff_eq,Ai];omega
set_option maxRecDepth 100000
def B4.Of.hint:Nat->Option BN
 | 0=>xQ { Df:=[1,2,4],Cg:=[],Cr:=[2,4] }
 | 2=>xQ { Df:=[1,2,4],Cg:=[],Cr:=[2,4] }
 | _=>xY
def B4.Of.E:=D6 (Db [(106,Bq.IU.Bt),(104,Bq.Made.Bt),(105,Bq.ZA.Bt)]) (fun _=>x5) B4.Of.hint (fun _=>xY)
section
variable(N:Nat)(n:Bool)(a:Bf)(e:Int)(M:Nat)(p1_1:Int)(p2_2:Bool)(p2_3:Bf)(p1:Int)(p2:Bool)(p2_1:Bf)
def B4.Of.L0:Option DV:=C6 B4.Of.E N f39 (Bw f39) [1,1,0,0] [] M ⟨Fz 33 [(1,.int .i64 p1),(2,.ptr 2 0 0),(4,.ptr 4 0 0)],[(2,x5,.box [.bool p2,.Bj .arg .u32 p2_1]),(4,x5,.box [.bool x5,.nil,.int .i64 0])]⟩
def B4.Of.L1:Option DV:=C6 B4.Of.E N f39 (Bw f39) [1,1,1,0,0] [] M ⟨Fz 33 [(1,.int .i64 p1_1),(2,.ptr 2 0 0),(4,.ptr 4 0 0)],[(2,x5,.box [.bool p2_2,.Bj .arg .u32 p2_3]),(4,x5,.box [.bool x5,.nil,.int .i64 0])]⟩
theorem B4.Of.B8:B4.Of.L0 N (M+1) p1 p2 p2_1=cond (decide ((0:Int)<(wj p2_1:Int))) (bif ((wt p2_1 0 0)==(0:Int)) then cond (decide ((1:Int)<=(wj p2_1:Int))) (bif (GZ (zN 1 p2_1)) then B4.Of.L0 N M (Bg (p1+32)) (BG (wv p2 (zN 1 p2_1))) (Bo (wv p2 (zN 1 p2_1))) else xY) xY else B4.Of.L1 N N p1 p2 p2_1) xY :=Et (EY (EY (CQ (AlD _) (CQ (CF _) rfl rfl) rfl) rfl) rfl)
theorem B4.Of.CT:B4.Of.L1 N (M+1) p1_1 p2_2 p2_3=cond (I8 p2_2 p2_3) (bif (!(Adr (wv p2_2 p2_3))) then cond (I8 p2_2 p2_3) (B4.Of.L1 N M (Bg (p1_1+1)) (BG (Jb (wv p2_2 p2_3) 1)) (Bo (Jb (wv p2_2 p2_3) 1))) xY else xQ (.agg [.bool p2_2,.Bj .arg .u32 p2_3,.int .i64 p1_1])) xY:=by kernel_rfl
theorem B4.Of.ev:Cz B4.Of.E N f39 (Bw f39) [.agg [.bool n,.Bj .arg .u32 a],.int .i64 e]=cond ((wj a:Int)==(0:Int)) (xQ (.agg [.bool x5,.nil,.int .i64 0])) (B4.Of.L0 N N e n a):=by kernel_rfl
end
def B4.Neg.E:=E0 [(103,Bq.Neg.Bt)]
theorem B4.Neg.ev(N:Nat)(n:Bool)(a:Bf)(e:Int):Cz B4.Neg.E N f57 (Bw f57) [.agg [.bool n,.Bj .arg .u32 a,.int .i64 e]]=cond (I8 n a) (xQ (.agg [.bool (BG (- wv n a)),.Bj .arg .u32 (Bo (- wv n a)),.int .i64 e])) xY :=Et (CQ (CF _) rfl rfl)
def B4.ZB.E:=E0 []
theorem B4.ZB.ev(N:Nat)(n:Bool)(a:Bf)(e:Int)(m:Bool)(b:Bf)(f:Int):Cz B4.ZB.E N f47 (Bw f47) [.agg [.bool n,.Bj .arg .u32 a,.int .i64 e],.agg [.bool m,.Bj .arg .u32 b,.int .i64 f]]=cond ((wj a:Int)==(0:Int)) (xQ (.int .i64 f)) (bif ((wj b:Int)==(0:Int)) then xQ (.int .i64 e) else xQ (.int .i64 (min e f))):=by kernel_rfl
def B4.Level.E:=E0 [(113,Bq.CM.Bt)]
theorem B4.Level.ev(N:Nat)(n:Bool)(a:Bf)(e f:Int):Cz B4.Level.E N f49 (Bw f49) [.agg [.bool n,.Bj .arg .u32 a,.int .i64 e],.int .i64 f]=cond ((wj a:Int)==(0:Int)) (xQ (.agg [.bool n,.Bj .arg .u32 a])) (bif (RF n a&&Akn (Bg (e-f))) then xQ (.agg [.bool (BG (Hf (wv n a) (Bg (e-f)))),.Bj .arg .u32 (Bo (Hf (wv n a) (Bg (e-f))))]) else xY):=by kernel_rfl
def B4.Add.E:=E0 [(48,Bq.Add.Bt),(49,B4.Level.Bt),(47,B4.ZB.Bt),(39,B4.Of.Bt)]
theorem B4.Add.ev(N:Nat)(n:Bool)(a:Bf)(e:Int)(m:Bool)(b:Bf)(f:Int):Cz B4.Add.E N f11 (Bw f11) [.agg [.bool n,.Bj .arg .u32 a,.int .i64 e],.agg [.bool m,.Bj .arg .u32 b,.int .i64 f]]=cond (I8 n a&&I8 m b) (bif (RF n a&&Adq (wv n a) e (DB (wv n a) e (wv m b) f)) then cond (RF m b&&Adq (wv m b) f (DB (wv n a) e (wv m b) f)) (bif (I8 (BG (Hf (wv n a) (e-(DB (wv n a) e (wv m b) f)))) (Bo (Hf (wv n a) (e-(DB (wv n a) e (wv m b) f))))&&I8 (BG (Hf (wv m b) (f-(DB (wv n a) e (wv m b) f)))) (Bo (Hf (wv m b) (f-(DB (wv n a) e (wv m b) f))))) then cond (I8 (BG (wv (BG (Hf (wv n a) (e-(DB (wv n a) e (wv m b) f)))) (Bo (Hf (wv n a) (e-(DB (wv n a) e (wv m b) f))))+wv (BG (Hf (wv m b) (f-(DB (wv n a) e (wv m b) f)))) (Bo (Hf (wv m b) (f-(DB (wv n a) e (wv m b) f)))))) (Bo (wv (BG (Hf (wv n a) (e-(DB (wv n a) e (wv m b) f)))) (Bo (Hf (wv n a) (e-(DB (wv n a) e (wv m b) f))))+wv (BG (Hf (wv m b) (f-(DB (wv n a) e (wv m b) f)))) (Bo (Hf (wv m b) (f-(DB (wv n a) e (wv m b) f))))))&&Pn (DB (wv n a) e (wv m b) f)) (xQ (.agg [.bool (BG (mD (wv (BG (wv (BG (Hf (wv n a) (e-(DB (wv n a) e (wv m b) f)))) (Bo (Hf (wv n a) (e-(DB (wv n a) e (wv m b) f))))+wv (BG (Hf (wv m b) (f-(DB (wv n a) e (wv m b) f)))) (Bo (Hf (wv m b) (f-(DB (wv n a) e (wv m b) f)))))) (Bo (wv (BG (Hf (wv n a) (e-(DB (wv n a) e (wv m b) f)))) (Bo (Hf (wv n a) (e-(DB (wv n a) e (wv m b) f))))+wv (BG (Hf (wv m b) (f-(DB (wv n a) e (wv m b) f)))) (Bo (Hf (wv m b) (f-(DB (wv n a) e (wv m b) f))))))))),.Bj .arg .u32 (Bo (mD (wv (BG (wv (BG (Hf (wv n a) (e-(DB (wv n a) e (wv m b) f)))) (Bo (Hf (wv n a) (e-(DB (wv n a) e (wv m b) f))))+wv (BG (Hf (wv m b) (f-(DB (wv n a) e (wv m b) f)))) (Bo (Hf (wv m b) (f-(DB (wv n a) e (wv m b) f)))))) (Bo (wv (BG (Hf (wv n a) (e-(DB (wv n a) e (wv m b) f)))) (Bo (Hf (wv n a) (e-(DB (wv n a) e (wv m b) f))))+wv (BG (Hf (wv m b) (f-(DB (wv n a) e (wv m b) f)))) (Bo (Hf (wv m b) (f-(DB (wv n a) e (wv m b) f))))))))),.int .i64 (eD (wv (BG (wv (BG (Hf (wv n a) (e-(DB (wv n a) e (wv m b) f)))) (Bo (Hf (wv n a) (e-(DB (wv n a) e (wv m b) f))))+wv (BG (Hf (wv m b) (f-(DB (wv n a) e (wv m b) f)))) (Bo (Hf (wv m b) (f-(DB (wv n a) e (wv m b) f)))))) (Bo (wv (BG (Hf (wv n a) (e-(DB (wv n a) e (wv m b) f)))) (Bo (Hf (wv n a) (e-(DB (wv n a) e (wv m b) f))))+wv (BG (Hf (wv m b) (f-(DB (wv n a) e (wv m b) f)))) (Bo (Hf (wv m b) (f-(DB (wv n a) e (wv m b) f))))))) (DB (wv n a) e (wv m b) f))])) xY else xY) xY else xY) xY :=Et (EY (CQ (CF _) (CQ (CF _) (CQ (CF _) (CQ (CF _) rfl rfl) rfl) rfl) rfl) rfl)
def B4.Sub.E:=E0 [(11,B4.Add.Bt),(57,B4.Neg.Bt)]
theorem B4.Sub.ev(N:Nat)(n:Bool)(a:Bf)(e:Int)(m:Bool)(b:Bf)(f:Int):Cz B4.Sub.E N f56 (Bw f56) [.agg [.bool n,.Bj .arg .u32 a,.int .i64 e],.agg [.bool m,.Bj .arg .u32 b,.int .i64 f]]=cond (I8 m b) (bif (((RF n a&&RF (BG (- wv m b)) (Bo (- wv m b)))&&MQ e)&&MQ f) then xQ (.agg [.bool (BG (KT (wv n a) e (wv (BG (- wv m b)) (Bo (- wv m b))) f)),.Bj .arg .u32 (Bo (KT (wv n a) e (wv (BG (- wv m b)) (Bo (- wv m b))) f)),.int .i64 (Z7 (wv n a) e (wv (BG (- wv m b)) (Bo (- wv m b))) f)]) else xY) xY :=Et (CQ (CF _) (CQ (CF _) rfl rfl) rfl)
def B4.D7.E:=E0 [(39,B4.Of.Bt)]
theorem B4.D7.ev(N:Nat)(n:Bool)(a:Bf)(e k:Int):Cz B4.D7.E N f41 (Bw f41) [.agg [.bool n,.Bj .arg .u32 a,.int .i64 e],.int .i64 k]=cond (I8 n a&&Pn (Bg (e+k))) (xQ (.agg [.bool (BG (mD (wv n a))),.Bj .arg .u32 (Bo (mD (wv n a))),.int .i64 (eD (wv n a) (Bg (e+k)))])) xY:=by kernel_rfl
def B4.XH.E:=E0 [(160,Bq.Rz.Bt)]
theorem B4.XH.ev(N:Nat)(n:Bool)(a:Bf)(e:Int):Cz B4.XH.E N f109 (Bw f109) [.agg [.bool n,.Bj .arg .u32 a,.int .i64 e]]=cond ((wj a:Int)==(0:Int)) (xQ (.int .i64 0)) (bif (I8 n a) then xQ (.int .i64 (Bg ((TP (wv n a))+e))) else xY) :=Et (EY rfl (CQ (CF _) rfl rfl))
def B4.Sign.E:=E0 []
theorem B4.Sign.ev(N:Nat)(n:Bool)(a:Bf)(e:Int):Cz B4.Sign.E N f108 (Bw f108) [.agg [.bool n,.Bj .arg .u32 a,.int .i64 e]]=cond n (xQ (.int .i64 (-1:Int))) (xQ (.int .i64 (min (wj a:Int) 1))):=by kernel_rfl
def B4.Compare.E:=E0 [(108,B4.Sign.Bt),(56,B4.Sub.Bt),(109,B4.XH.Bt)]
theorem B4.Compare.ev(N:Nat)(n:Bool)(a:Bf)(e:Int)(m:Bool)(b:Bf)(f:Int):Cz B4.Compare.E N f43 (Bw f43) [.agg [.bool n,.Bj .arg .u32 a,.int .i64 e],.agg [.bool m,.Bj .arg .u32 b,.int .i64 f]]=cond (I8 n a) (bif (I8 m b) then cond ((KO (wv n a)) !=(KO (wv m b))) (bif (I8 n a) then cond (I8 m b) (xQ (.int .i64 (min 1 (max (-1:Int) (Bg ((KO (wv n a))-(KO (wv m b)))))))) xY else xY) (bif (I8 n a&&MQ e) then cond (I8 m b&&MQ f) (bif ((Hi (wv n a) e) !=(Hi (wv m b) f)) then cond (I8 n a&&MQ e) (bif (I8 m b&&MQ f) then cond (I8 n a) (bif ((BI (Hi (wv m b) f) (Hi (wv n a) e))==(BI 0 (KO (wv n a)))) then xQ (.int .i64 1) else xQ (.int .i64 (-1:Int))) xY else xY) xY else bif (((RF n a&&RF m b)&&MQ e)&&MQ f) then cond (I8 (BG (KT (wv n a) e (- wv m b) f)) (Bo (KT (wv n a) e (- wv m b) f))) (xQ (.int .i64 (KO (wv (BG (KT (wv n a) e (- wv m b) f)) (Bo (KT (wv n a) e (- wv m b) f)))))) xY else xY) xY else xY) else xY) xY :=Et (CQ (CF _) (CQ (CF _) (EY (CQ (CF _) (CQ (CF _) rfl rfl) rfl) (CQ (CF _) (CQ (CF _) (EY (CQ (CF _) (CQ (CF _) (CQ (CF _) rfl rfl) rfl) rfl) rfl) rfl) rfl)) rfl) rfl)
abbrev B4.Add.q.Kn:Prop:=Ey prog 11 B4.Add.q.Bt
abbrev B4.Sub.q.Kn:Prop:=Ey prog 56 B4.Sub.q.Bt
abbrev B4.D7.q.Kn:Prop:=Ey prog 41 B4.D7.q.Bt
abbrev B4.Compare.q.Kn:Prop:=Ey prog 43 B4.Compare.q.Bt
abbrev B4.Of.q.Kn:Prop:=Ey prog 39 B4.Of.q.Bt
def Aea(v e:Int):Option DV:=xQ (.agg [.bool (BG v),.Bj .arg .u32 (Bo v),.int .i64 e])
theorem wdy{drops:List Nat}{b:Bool}{l:Bf}{e:Int}:Wk drops (.agg [.bool b,.Bj .arg .u32 l,.int .i64 e]) (.agg [.bool b,.Bj .arg .u32 l,.int .i64 e]):=Wk.GQ (.cons .bool (.cons .X5 (.cons .int .nil)))
theorem Agv(v:Int):(Bo v).getD 0 0=((v.natAbs%4294967296:Nat):Int):=by have hg:=Ll (FK v) 0;rw[Eb,yd,AG,yH] at hg;exact hg
theorem AbJ{v:Int}{k:Nat}(h:DC v.natAbs<268435456):DC (Jb v k).natAbs<268435456:=by rw[JY];exact AK (Kt (yz _ _)) h
theorem Afm{v:Int}{k:Nat}(h0:v≠0)(h:v.natAbs%2^k=0):Jb v k≠0/\NZ (Jb v k).natAbs+k=NZ v.natAbs:=by
 have hv:=Nat.div_add_mod v.natAbs (2^k);rw[h,AQ,A0] at hv
 have hq:v.natAbs / 2^k≠0:=by intro e; rw[e] at hv; omega
 have ht:=Wu hq k;rw[hv] at ht;have ha:=JY v k;refine⟨by omega,?_⟩;rw[ha];omega
theorem AfG(N:Nat):∀(F:Nat) (v e:Int),v≠0->NZ v.natAbs<F->DC v.natAbs<268435456->-4000000000000<=e->e+NZ v.natAbs<=400000000000000 ->
 B4.Of.L1 N F e (BG v) (Bo v)=Aea (mD v) (eD v e):=by
 intro F
 induction F with
 | zero=>intro v e _ h; omega
 | succ F ih =>
   intro v e h0 hF hv h1 h2;rw[B4.Of.CT,GY hv,Aa,EV];by_cases ho:v%2=1
   ·have:Adr v=xZ:=Ac ho;rw[this,AH,Af,Akt ho,AkG ho];rfl
   ·have:Adr v=x5:=Ag ho;have hm:v.natAbs%2^1=0:=by rw[Nat.pow_one]; omega
    obtain⟨n1,n2⟩:=Afm h0 hm;rw[this,Bc,Aa,Aa,Bz (by omega) (by omega),ih (Jb v 1) (e+1) n1 (by omega) (AbJ hv) (by omega) (by omega),AaA hm];have:=AaS (e:=e) hm h0;rw[<- this];rfl
theorem AfH(N:Nat):∀(F:Nat) (v e:Int),v≠0->NZ v.natAbs<F->NZ v.natAbs<N->DC v.natAbs<268435456->-4000000000000<=e->e+NZ v.natAbs<=400000000000000 ->
 B4.Of.L0 N F e (BG v) (Bo v)=Aea (mD v) (eD v e):=by
 intro F
 induction F with
 | zero=>intro v e _ h; omega
 | succ F ih =>
   intro v e h0 hF hN hv h1 h2;have hl:=HU (n:=v.natAbs) (by omega);rw[B4.Of.B8,CL,Ac (by omega),Aa,Agv];by_cases hz:v.natAbs%4294967296=0
   ·have e0:(((v.natAbs%4294967296:Nat):Int)==0)=xZ:=by rw[hz]; rfl
    have o3:GZ ((Bo v).drop 1)=xZ:=IF (by rw[zP,CL]; omega) (YQ (FK v));have hm:v.natAbs%2^32=0:=by rw[two32]; exact hz
    obtain⟨n1,n2⟩:=Afm h0 hm;rw[e0,Aa,Ac (by omega),Aa,o3,Aa,Abz,Bz (by omega) (by omega),ih (Jb v 32) (e+32) n1 (by omega) (by omega) (AbJ hv) (by omega) (by omega),AaA hm];have:=AaS (e:=e) hm h0;rw[<- this];rfl
   ·have e0:(((v.natAbs%4294967296:Nat):Int)==0)=x5:=by simp only[AD,ne_eq]; omega
    rw[e0,Af];exact AfG N N v e h0 hN hv h1 h2
theorem AeC{v:Int}(h0:v≠0)(h:DC v.natAbs<268435456):NZ v.natAbs<8589934592:=by have h1:=AeD (n:=v.natAbs) (by omega);have h2:=V7 (n:=v.natAbs);omega
theorem B4.Of.Bn:Kq 39 B4.Of.Bt:=ED B4.Of.E Tryz.func39 (kc Bq.IU.Bn (kc Bq.Made.Bn (kc Bq.ZA.Bn .nil))) fun n a e hp=>by
 obtain⟨h1,h2⟩:=Bi.1 hp;obtain⟨v,rfl,rfl,hv⟩:=Ia h1;have h2:=Bv.1 h2;by_cases h0:v=0
 ·subst h0;refine⟨0,.agg [.bool x5,.nil,.int .i64 (0:Int)],[],?_,?_⟩
  ·rw[B4.Of.ev]; rfl
  ·show Wk [] _ (.agg [.bool (BG (mD (wv (BG 0) (Bo 0)))),.Bj .arg .u32 (Bo (mD (wv (BG 0) (Bo 0)))),.int .i64 (eD (wv (BG 0) (Bo 0)) e)]);rw[EV,Li.2 rfl];exact Wk.GQ (.cons .bool (.cons (.nil _ _) (.cons .int .nil)))
 ·refine⟨NZ v.natAbs+1,B4.Of.out [.b (BG v),.l (Bo v),.i e],[],?_,wdy⟩;have ht:=AeC h0 hv;have hl:=HU (n:=v.natAbs) (by omega);have e0:(((Bo v).length:Int)==0)=x5:=by rw[CL]; simp only[AD,ne_eq]; omega
  show _=Aea (mD (wv (BG v) (Bo v))) (eD (wv (BG v) (Bo v)) e);rw[B4.Of.ev,e0,Af,EV];exact AfH _ _ v e h0 (by omega) (by omega) hv (by omega) (by omega)
theorem B4.Neg.Bn:Kq 57 B4.Neg.Bt:=ED B4.Neg.E Tryz.func57 (kc Bq.Neg.Bn .nil) fun n a e hp=>by refine⟨0,B4.Neg.out [.b n,.l a,.i e],[],?_,wdy⟩;have hp:I8 n a=xZ:=hp;rw[B4.Neg.ev,hp,Aa];rfl
theorem Qo(v:Int):(((Bo v).length:Int)==0)=decide (v=0):=by
 rw[CL,Ar];simp only[beq_iff_eq,Ai];constructor
 ·intro h;rcases x9 v 0 with k | k | k
  ·have:=HU (n:=v.natAbs) (by omega); omega
  ·exact k
  ·have:=HU (n:=v.natAbs) (by omega); omega
 ·intro h; rw[h]; rfl
theorem B4.ZB.Bn:Kq 47 B4.ZB.Bt:=ED B4.ZB.E Tryz.func47 .nil fun n a e m b f hp=>by
 obtain⟨h1,h2⟩:=Bi.1 hp;obtain⟨v,rfl,rfl,hv⟩:=Ia h1;obtain⟨w,rfl,rfl,hw⟩:=Ia h2;refine⟨0,B4.ZB.out [.b (BG v),.l (Bo v),.i e,.b (BG w),.l (Bo w),.i f],[],?_,.int⟩;show _=xQ (DV.int .i64 (DB (wv (BG v) (Bo v)) e (wv (BG w) (Bo w)) f));rw[B4.ZB.ev,EV,EV,Qo,Qo];unfold DB;by_cases h:v=0
 ·rw[Ac h,Aa,Az h]
 ·rw[Ag h,Af,Ay h];by_cases h':w=0
  ·rw[Ac h',Aa,Az h']
  ·rw[Ag h',Af,Ay h']
theorem Tj(k:Int):Hf 0 k=0:=by
 unfold Hf;split
 ·exact yu _
 ·exact Oe _
theorem B4.Level.Bn:Kq 49 B4.Level.Bt:=ED B4.Level.E Tryz.func49 (kc Bq.CM.Bn .nil) fun n a e f hp=>by
 obtain⟨h1,h2⟩:=Bi.1 hp;obtain⟨v,rfl,rfl,hv⟩:=Mp h1;refine⟨0,B4.Level.out [.b (BG v),.l (Bo v),.i e,.i f],[],?_,Wi⟩;show _=ZE (Hf (wv (BG v) (Bo v)) (e-f));unfold Adq at h2;rw[EV] at h2;obtain⟨h3,h4⟩:=Bi.1 h2;have h3:=Bv.1 h3;have h4:=Bv.1 h4;rw[B4.Level.ev,EV,Qo];by_cases h:v=0
 ·rw[Ac h,Aa,h,Tj]; rfl
 ·have o:Akn (Bg (e-f))=xZ:=by rw[Bz (by omega) (by omega)]; exact Bv.2 (by omega)
  rw[Ag h,Af,h1,o,Ah,Aa,Bz (by omega) (by omega)];rfl
theorem Agh(n k:Nat):DC (n*2^k)<=DC n+k:=by refine Jy ?_;have h1:=II n;have h2:n*2^k<2^(32*DC n)*2^k:=(Nat.mul_lt_mul_right (Cv k)).2 h1;rw[<- A5] at h2;exact AU h2 (Aq (by decide) (by omega))
theorem Agi(v k:Int):DC (Hf v k).natAbs<=DC v.natAbs+k.toNat:=by
 unfold Hf;by_cases h:0<=k
 ·rw[Az h,yt,zV];exact Agh _ _
 ·rw[Ay h,JY];exact AP (Kt (yz _ _)) (Nat.le_add_right _ _)
theorem YI(v w:Int):DC (v+w).natAbs<=max (DC v.natAbs) (DC w.natAbs)+1:=by refine Jy ?_;have h1:=II v.natAbs;have h2:=II w.natAbs;have h3:2^(32*DC v.natAbs)<=2^(32*max (DC v.natAbs) (DC w.natAbs)):=Aq (by decide) (by omega);have h4:2^(32*DC w.natAbs)<=2^(32*max (DC v.natAbs) (DC w.natAbs)):=Aq (by decide) (by omega);rw[JO];omega
theorem TG{v e w f:Int}(he:-400000<=e/\e<=400000)(hf:-400000<=f/\f<=400000):-400000<=DB v e w f/\DB v e w f<=400000:=by
 unfold DB;split
 ·exact hf
 ·split
  ·exact he
  ·omega
theorem Sv{v e l:Int}(hv:DC v.natAbs<134217728)(h:e-l<=800000):DC (Hf v (e-l)).natAbs<140000000:=by have:=Agi v (e-l);omega
theorem B4.Add.Bn:Kq 11 B4.Add.Bt:=ED B4.Add.E Tryz.func11 (kc Bq.Add.Bn (kc B4.Level.Bn (kc B4.ZB.Bn (kc B4.Of.Bn .nil)))) fun n a e m b f hp=>by obtain⟨h1,hf⟩:=Bi.1 hp;obtain⟨h2,he⟩:=Bi.1 h1;obtain⟨h3,h4⟩:=Bi.1 h2;obtain⟨v,rfl,rfl,hv⟩:=Mp h3;obtain⟨w,rfl,rfl,hw⟩:=Mp h4;have he:=Bv.1 he;have hf:=Bv.1 hf;refine⟨0,B4.Add.out [.b (BG v),.l (Bo v),.i e,.b (BG w),.l (Bo w),.i f],[],?_,wdy⟩;show _=Aea (KT (wv (BG v) (Bo v)) e (wv (BG w) (Bo w)) f) (Z7 (wv (BG v) (Bo v)) e (wv (BG w) (Bo w)) f);have hlo:=TG (v:=v) (w:=w) he hf;have l1:=Sv (l:=DB v e w f) hv (show e-DB v e w f<=800000 by omega);have l2:=Sv (l:=DB v e w f) hw (show f-DB v e w f<=800000 by omega);have l3:=YI (Hf v (e-DB v e w f)) (Hf w (f-DB v e w f));have o1:Adq v e (DB v e w f)=xZ:=Bi.2 ⟨Bv.2 (by omega),Bv.2 (by omega)⟩;have o2:Adq w f (DB v e w f)=xZ:=Bi.2 ⟨Bv.2 (by omega),Bv.2 (by omega)⟩;have o3:Pn (DB v e w f)=xZ:=Bv.2 (by omega);rw[B4.Add.ev];simp only[EV];rw[GY (v:=v) (by omega),GY (v:=w) (by omega),h3,h4,o1,o2,GY (v:=Hf v (e-DB v e w f)) (by omega),GY (v:=Hf w (f-DB v e w f)) (by omega),GY (v:=Hf v (e-DB v e w f)+Hf w (f-DB v e w f)) (by omega),o3];simp only[Ah,Aa];rfl
theorem B4.Sub.Bn:Kq 56 B4.Sub.Bt:=ED B4.Sub.E Tryz.func56 (kc B4.Add.Bn (kc B4.Neg.Bn .nil)) fun n a e m b f hp=>by obtain⟨h1,hf⟩:=Bi.1 hp;obtain⟨h2,he⟩:=Bi.1 h1;obtain⟨h3,h4⟩:=Bi.1 h2;obtain⟨w,rfl,rfl,hw⟩:=Mp h4;refine⟨0,B4.Sub.out [.b n,.l a,.i e,.b (BG w),.l (Bo w),.i f],[],?_,wdy⟩;show _=Aea (KT (wv n a) e (- wv (BG w) (Bo w)) f) (Z7 (wv n a) e (- wv (BG w) (Bo w)) f);rw[B4.Sub.ev];simp only[EV];rw[GY (v:=w) (by omega),h3,Aav (v:=-w) (by rw[xp]; exact hw),he,hf];rfl
theorem B4.D7.Bn:Kq 41 B4.D7.Bt:=ED B4.D7.E Tryz.func41 (kc B4.Of.Bn .nil) fun n a e k hp=>by obtain⟨h1,hk⟩:=Bi.1 hp;obtain⟨h2,he⟩:=Bi.1 h1;have he:=Bv.1 he;have hk:=Bv.1 hk;refine⟨0,B4.D7.out [.b n,.l a,.i e,.i k],[],?_,wdy⟩;have o:Pn (e+k)=xZ:=Bv.2 (by omega);rw[B4.D7.ev,Bz (by omega) (by omega),h2,o];rfl
theorem YJ{v:Int}(h:DC v.natAbs<268435456):0<=TP v/\TP v<=8589934593:=by
 have h2:=V7 (n:=v.natAbs);unfold TP;split
 ·omega
 ·constructor<;>omega
theorem B4.XH.Bn:Kq 109 B4.XH.Bt:=ED B4.XH.E Tryz.func109 (kc Bq.Rz.Bn .nil) fun n a e hp=>by
 obtain⟨h1,he⟩:=Bi.1 hp;obtain⟨v,rfl,rfl,hv⟩:=Ia h1;have he:=Bv.1 he;refine⟨0,B4.XH.out [.b (BG v),.l (Bo v),.i e],[],?_,.int⟩;show _=xQ (DV.int .i64 (Hi (wv (BG v) (Bo v)) e));have hb:=YJ hv;rw[B4.XH.ev,EV,Qo,h1];unfold Hi;by_cases h:v=0
 ·rw[Ac h,Aa,Az h]
 ·rw[Ag h,Af,Aa,Ay h,Bz (by omega) (by omega)]
theorem B4.Sign.Bn:Kq 108 B4.Sign.Bt:=ED B4.Sign.E Tryz.func108 .nil fun n a e hp=>by
 obtain⟨v,rfl,rfl,hv⟩:=Ia hp;refine⟨0,B4.Sign.out [.b (BG v),.l (Bo v),.i e],[],?_,.int⟩;show _=xQ (DV.int .i64 (KO (wv (BG v) (Bo v))));rw[B4.Sign.ev,EV,CL];unfold KO BG;by_cases h:v<0
 ·rw[Ac h,Aa,Az h]
 ·rw[Ag h,Af,Ay h];by_cases h':v=0
  ·rw[Az h',h']; rfl
  ·have:=HU (n:=v.natAbs) (by omega);rw[Ay h'];congr 2;omega
theorem AaB{v e w f:Int}:(v≠0->0<=e-DB v e w f)/\(w≠0->0<=f-DB v e w f):=by
 unfold DB;constructor
 ·intro h;rw[Ay h];split<;>omega
 ·intro h;split
  ·omega
  ·omega
theorem Tk{v k:Int}(h:v≠0->0<=k):∃j:Nat,Hf v k=v*((2^j:Nat):Int)/\(v≠0->(j:Int)=k):=by
 by_cases h0:v=0
 ·exact⟨0,by rw[h0,Tj,yu],fun k=>absurd h0 k⟩
 ·have hk:=h h0;refine⟨k.toNat,?_,fun _=>by omega⟩;unfold Hf;rw[Az hk]
theorem T7(v:Int)(j:Nat):(v*((2^j:Nat):Int)<0↔v<0)/\(v*((2^j:Nat):Int)=0↔v=0):=by
 have hp:=Cv j;constructor
 ·constructor
  ·intro h;rcases xD v 0 with h1 | h1
   ·exact h1
   ·have:=Int.mul_nonneg h1 (Int.natCast_nonneg (2^j)); omega
  ·intro h;exact Int.mul_neg_of_neg_of_pos h (by omega)
 ·constructor
  ·intro h;rcases Int.mul_eq_zero.1 h with h | h
   ·exact h
   ·omega
  ·intro h; rw[h,yu]
theorem WD(v:Int)(j:Nat):KO (v*((2^j:Nat):Int))=KO v:=by obtain⟨h1,h2⟩:=T7 v j;unfold KO;simp only[h1,h2]
theorem Akc(v:Int):KO (mD v)=KO v:=by have:=WD (mD v) (NZ v.natAbs);rw[<- S9] at this;exact this.symm
theorem AiW(x y:Int):KO (x+-y)=Sc x y:=by
 unfold KO Sc;by_cases h:x<y
 ·rw[Az (by omega),Az h]
 ·rw[Ay (by omega),Ay h];by_cases h':y<x
  ·rw[Ay (by omega),Az h']
  ·rw[Az (by omega),Ay h']
theorem Ai3(v e w f:Int):DB v e (-w) f=DB v e w f:=by unfold DB;have:(-w=0)=(w=0):=propext ⟨fun h=>by omega,fun h=>by omega⟩;simp only[this]
theorem Ahb{x y:Int}(h:KO x≠KO y):Sc x y=min 1 (max (-1) (KO x-KO y)):=by
 unfold KO at h ⊢;unfold Sc;rcases x9 x 0 with h1 | h1 | h1<;>rcases x9 y 0 with h2 | h2 | h2
 all_goals
  first
  | (exfalso; apply h; simp[show x<0 by omega,show y<0 by omega]; done)
  | (exfalso; apply h; subst h1; subst h2; rfl)
  | (exfalso; apply h; rw[Ay (by omega),Ay (by omega),Ay (by omega),Ay (by omega)]; done)
  | skip
 ·rw[Az (by omega),Az (by omega),Ay (by omega),Az (by omega)]; decide
 ·rw[Az (by omega),Az (by omega),Ay (by omega),Ay (by omega)]; decide
 ·rw[Ay (by omega),Az (by omega),Ay (by omega),Az (by omega),Az (by omega)]; decide
 ·rw[Az (by omega),Ay (by omega),Az (by omega),Ay (by omega),Ay (by omega)]; decide
 ·rw[Ay (by omega),Az (by omega),Ay (by omega),Ay (by omega),Az (by omega)]; decide
 ·rw[Ay (by omega),Az (by omega),Ay (by omega),Ay (by omega),Ay (by omega),Az (by omega)]; decide
theorem TJ{a b:Nat}(ha:a≠0)(h:a.log2<b.log2):a<b:=by
 rcases AF a b with k | k
 ·exact k
 ·have hb:b≠0:=by intro e; rw[e] at h;exact absurd h (by rw[show(0:Nat).log2=0 by decide]; omega)
  have:=(zO ha).2 (AP (z6 hb) k);omega
theorem AiV{v e w f:Int}(hs:KO v=KO w)(ht:Hi v e≠Hi w f):
 Sd v e w f=if (decide (Hi w f<Hi v e)==decide (0<KO v))=xZ then 1 else -1:=by
 obtain⟨u1,u2⟩:=AaB (v:=v) (e:=e) (w:=w) (f:=f);obtain⟨j,hx,hj⟩:=Tk u1;obtain⟨k,hy,hk⟩:=Tk u2;unfold Sd;rw[hx,hy]
 have z:v=0↔w=0:=by
  unfold KO at hs;constructor
  ·intro h; subst h;revert hs;simp;split<;>simp_all
  ·intro h; subst h;revert hs;simp;split<;>simp_all
 by_cases v0:v=0
 ·exfalso;apply ht;unfold Hi;rw[Az v0,Az (z.1 v0)]
 ·have w0:w≠0:=fun h=>v0 (z.2 h)
  have hj:=hj v0;have hk:=hk w0;have nv:v.natAbs≠0:=by omega
  have nw:w.natAbs≠0:=by omega
  have l1:=KD v.natAbs j nv;have l2:=KD w.natAbs k nw;have ax:(v*((2^j:Nat):Int)).natAbs=v.natAbs*2^j:=by rw[yt,zV]
  have ay:(w*((2^k:Nat):Int)).natAbs=w.natAbs*2^k:=by rw[yt,zV]
  have sx:=(T7 v j).1;have sy:=(T7 w k).1;have zx:=Aa3 v0 j;have zy:=Aa3 w0 k;have tv:Hi v e=(v.natAbs.log2:Int)+1+e:=by unfold Hi TP; rw[Ay v0,Ay v0]
  have tw:Hi w f=(w.natAbs.log2:Int)+1+f:=by unfold Hi TP; rw[Ay w0,Ay w0]
  have big:Hi w f<Hi v e->w.natAbs*2^k<v.natAbs*2^j:=fun h=>TJ (Ii nw) (by omega)
  have lit:Hi v e<Hi w f->v.natAbs*2^j<w.natAbs*2^k:=fun h=>TJ (Ii nv) (by omega)
  generalize v*((2^j:Nat):Int)=x at *
  generalize w*((2^k:Nat):Int)=y at *
  by_cases hv:v<0
  ·have sv:KO v=-1:=by unfold KO; rw[Az hv]
   have hw:w<0:=by
    rw[sv] at hs;unfold KO at hs;rcases xD w 0 with q | q
    ·exact q
    ·rw[Ay (by omega),Ay w0] at hs; omega
   rw[sv];unfold Sc;by_cases h:Hi w f<Hi v e
   ·have:=big h;rw[Ac h,Az (by omega)]; rfl
   ·have:=lit (by omega);rw[Ag h,Ay (by omega),Az (by omega)]; rfl
  ·have sv:KO v=1:=by unfold KO; rw[Ay hv,Ay v0]
   have hw:¬w<0:=by intro q;rw[sv] at hs;unfold KO at hs;rw[Az q] at hs; omega
   rw[sv];unfold Sc;by_cases h:Hi w f<Hi v e
   ·have:=big h;rw[Ac h,Ay (by omega),Az (by omega)]; rfl
   ·have:=lit (by omega);rw[Ag h,Az (by omega)]; rfl
theorem AhS(v e w f:Int):KO (KT v e (-w) f)=Sd v e w f:=by
 obtain⟨u1,u2⟩:=AaB (v:=v) (e:=e) (w:=w) (f:=f);obtain⟨k,hy,hk⟩:=Tk u2
 have hy':Hf (-w) (f-DB v e w f)=-(Hf w (f-DB v e w f)):=by
  by_cases w0:w=0
  ·rw[w0]; show Hf 0 _=_; rw[Tj]; rfl
  ·unfold Hf;rw[Az (u2 w0),Az (u2 w0),Int.neg_mul]
 unfold KT Abr Sd;rw[Akc,Ai3,hy',AiW]
theorem Aed{v e w f:Int}(h:KO v≠KO w):Sd v e w f=min 1 (max (-1) (KO v-KO w)):=by obtain⟨u1,u2⟩:=AaB (v:=v) (e:=e) (w:=w) (f:=f);obtain⟨j,hx,hj⟩:=Tk u1;obtain⟨k,hy,hk⟩:=Tk u2;have e1:=WD v j;have e2:=WD w k;unfold Sd;rw[hx,hy,<- e1,<- e2];exact Ahb (by rw[e1,e2]; exact h)
theorem Tl(v:Int):-1<=KO v/\KO v<=1:=by unfold KO; split<;>(try split)<;>omega
theorem Ahu{v e w f:Int}(hv:DC v.natAbs<134217728)(hw:DC w.natAbs<134217728)(he:-400000<=e/\e<=400000)(hf:-400000<=f/\f<=400000):DC (KT v e w f).natAbs<140000001:=by have hlo:=TG (v:=v) (w:=w) he hf;have l1:=Sv (l:=DB v e w f) hv (show e-DB v e w f<=800000 by omega);have l2:=Sv (l:=DB v e w f) hw (show f-DB v e w f<=800000 by omega);have l3:=YI (Hf v (e-DB v e w f)) (Hf w (f-DB v e w f));have l4:=Kt (Rh (Abr v e w f));unfold KT;unfold Abr at l4 ⊢;omega
theorem B4.Compare.Bn:Kq 43 B4.Compare.Bt:=ED B4.Compare.E Tryz.func43 (kc B4.Sign.Bn (kc B4.Sub.Bn (kc B4.XH.Bn .nil))) fun n a e m b f hp=>by
 obtain⟨h1,hf⟩:=Bi.1 hp;obtain⟨h2,he⟩:=Bi.1 h1;obtain⟨h3,h4⟩:=Bi.1 h2;obtain⟨v,rfl,rfl,hv⟩:=Mp h3;obtain⟨w,rfl,rfl,hw⟩:=Mp h4;refine⟨0,B4.Compare.out [.b (BG v),.l (Bo v),.i e,.b (BG w),.l (Bo w),.i f],[],?_,.int⟩;show _=xQ (DV.int .i64 (Sd (wv (BG v) (Bo v)) e (wv (BG w) (Bo w)) f));have bv:=Tl v;have bw:=Tl w;have hm:=Ahu (v:=v) (w:=-w) hv (by rw[xp]; exact hw) (Bv.1 he) (Bv.1 hf);rw[B4.Compare.ev];simp only[EV];rw[GY (v:=v) (by omega),GY (v:=w) (by omega),GY (v:=KT v e (-w) f) (by omega),h3,h4,he,hf,B9,B9];simp only[Ah,Aa];by_cases hs:KO v=KO w
 ·have e0:(KO v !=KO w)=x5:=by simp[hs]
  rw[e0,Af];by_cases ht:Hi v e=Hi w f
  ·have e1:(Hi v e !=Hi w f)=x5:=by simp[ht]
   rw[e1,Af,AhS]
  ·have e1:(Hi v e !=Hi w f)=xZ:=by simp[ht]
   rw[e1,Aa,AiV hs ht];cases (decide (Hi w f<Hi v e)==decide (0<KO v))<;>rfl
 ·have e0:(KO v !=KO w)=xZ:=by simp[hs]
  rw[e0,Aa,Aed hs,Bz (by omega) (by omega)]
def Ca.Value.E:=E0 [(103,Bq.Neg.Bt),(40,Bq.Of.Bt),(39,B4.Of.Bt),(100,Ca.MU.Bt),(102,Ca.Neg.Bt),(101,Ca.Power.Bt)]
theorem Ca.Value.ev(N:Nat)(x:Int):Cz Ca.Value.E N f38 (Bw f38) [.int .u64 x]=cond (N4 x) (bif (VF (Bg (Dk x))) then cond (N4 x) (bif (BI 0 (Ka x)) then cond (N4 x) (bif (VF (Bg (BV ((Dk x)+4503599627370496)))) then cond (N4 x) (bif (Br x) then cond (DX x) (bif (I8 (BG ((Bg (BV ((Dk x)+4503599627370496))))) (Bo ((Bg (BV ((Dk x)+4503599627370496)))))) then cond (I8 (BG (- wv (BG ((Bg (BV ((Dk x)+4503599627370496))))) (Bo ((Bg (BV ((Dk x)+4503599627370496))))))) (Bo (- wv (BG ((Bg (BV ((Dk x)+4503599627370496))))) (Bo ((Bg (BV ((Dk x)+4503599627370496)))))))&&Pn (Bg ((Ka x)-1075))) (xQ (.agg [.bool (BG (mD (wv (BG (- wv (BG ((Bg (BV ((Dk x)+4503599627370496))))) (Bo ((Bg (BV ((Dk x)+4503599627370496))))))) (Bo (- wv (BG ((Bg (BV ((Dk x)+4503599627370496))))) (Bo ((Bg (BV ((Dk x)+4503599627370496)))))))))),.Bj .arg .u32 (Bo (mD (wv (BG (- wv (BG ((Bg (BV ((Dk x)+4503599627370496))))) (Bo ((Bg (BV ((Dk x)+4503599627370496))))))) (Bo (- wv (BG ((Bg (BV ((Dk x)+4503599627370496))))) (Bo ((Bg (BV ((Dk x)+4503599627370496)))))))))),.int .i64 (eD (wv (BG (- wv (BG ((Bg (BV ((Dk x)+4503599627370496))))) (Bo ((Bg (BV ((Dk x)+4503599627370496))))))) (Bo (- wv (BG ((Bg (BV ((Dk x)+4503599627370496))))) (Bo ((Bg (BV ((Dk x)+4503599627370496)))))))) (Bg ((Ka x)-1075)))])) xY else xY) (bif (I8 (BG ((Bg (BV ((Dk x)+4503599627370496))))) (Bo ((Bg (BV ((Dk x)+4503599627370496)))))&&Pn (Bg ((Ka x)-1075))) then xQ (.agg [.bool (BG (mD (wv (BG ((Bg (BV ((Dk x)+4503599627370496))))) (Bo ((Bg (BV ((Dk x)+4503599627370496)))))))),.Bj .arg .u32 (Bo (mD (wv (BG ((Bg (BV ((Dk x)+4503599627370496))))) (Bo ((Bg (BV ((Dk x)+4503599627370496)))))))),.int .i64 (eD (wv (BG ((Bg (BV ((Dk x)+4503599627370496))))) (Bo ((Bg (BV ((Dk x)+4503599627370496)))))) (Bg ((Ka x)-1075)))]) else xY) else xY) xY else xY) xY else bif (Br x) then cond (DX x) (bif (I8 (BG ((Bg (Dk x)))) (Bo ((Bg (Dk x))))) then cond (I8 (BG (- wv (BG ((Bg (Dk x)))) (Bo ((Bg (Dk x)))))) (Bo (- wv (BG ((Bg (Dk x)))) (Bo ((Bg (Dk x))))))&&Pn (-1074:Int)) (xQ (.agg [.bool (BG (mD (wv (BG (- wv (BG ((Bg (Dk x)))) (Bo ((Bg (Dk x)))))) (Bo (- wv (BG ((Bg (Dk x)))) (Bo ((Bg (Dk x))))))))),.Bj .arg .u32 (Bo (mD (wv (BG (- wv (BG ((Bg (Dk x)))) (Bo ((Bg (Dk x)))))) (Bo (- wv (BG ((Bg (Dk x)))) (Bo ((Bg (Dk x))))))))),.int .i64 (eD (wv (BG (- wv (BG ((Bg (Dk x)))) (Bo ((Bg (Dk x)))))) (Bo (- wv (BG ((Bg (Dk x)))) (Bo ((Bg (Dk x))))))) (-1074:Int))])) xY else xY) (bif (I8 (BG ((Bg (Dk x)))) (Bo ((Bg (Dk x))))&&Pn (-1074:Int)) then xQ (.agg [.bool (BG (mD (wv (BG ((Bg (Dk x)))) (Bo ((Bg (Dk x))))))),.Bj .arg .u32 (Bo (mD (wv (BG ((Bg (Dk x)))) (Bo ((Bg (Dk x))))))),.int .i64 (eD (wv (BG ((Bg (Dk x)))) (Bo ((Bg (Dk x))))) (-1074:Int))]) else xY) else xY) xY else xY) xY:=by kernel_rfl
abbrev Ca.Value.q.Kn:Prop:=Ey prog 38 Ca.Value.q.Bt
theorem Acf{n k:Nat}(h:n<2^(32*k)){m:Nat}(hk:k<m):DC n<m:=AK (Jy h) hk
theorem PO(m:Nat):GI x5 m=(m:Int):=rfl
theorem Yi(m:Nat):GI xZ m=-(m:Int):=rfl
theorem Ca.Value.Bn:Kq 38 Ca.Value.Bt:=ED Ca.Value.E Tryz.func38 (kc Bq.Neg.Bn (kc Bq.Of.Bn (kc B4.Of.Bn (kc Ca.MU.Bn (kc Ca.Neg.Bn (kc Ca.Power.Bn .nil)))))) fun x hp=>by
 obtain⟨n,rfl,hn⟩:=C9 (x:=x) hp;refine⟨0,Ca.Value.out [.i n],[],?_,wdy⟩;show _=Aea (mD (G3 n)) (eD (G3 n) (BT n));have hf:=JA n;have hw:=IC n;have small:∀k:Nat,k<2^54->DC k<268435456:=fun k hk=>Acf (k:=2) (y7 hk (by decide)) (by omega)
 have o1:∀k:Nat,k<2^54->I8 (BG (k:Int)) (Bo (k:Int))=xZ:=fun k hk=>GY (by rw[zV]; exact small k hk)
 have o2:∀k:Nat,k<2^54->I8 (BG (-(k:Int))) (Bo (-(k:Int)))=xZ:=fun k hk=>GY (by rw[xp,zV]; exact small k hk)
 rw[Ca.Value.ev];unfold Dk Ka DX G3 BT;simp only[EV,Ad];have e1:Bg ((Dn n:Nat):Int)=((Dn n:Nat):Int):=Bz (by omega) (by omega)
 have e2:Bg (BV (((Dn n:Nat):Int)+4503599627370496))=((Dn n+2^52:Nat):Int):=by rw[Dr (by omega) (by omega),Bz (by omega) (by omega)]; omega
 have i1:∀k:Nat,k<2^54->VF (k:Int)=xZ:=fun k hk=>Bv.2 (by omega)
 rw[N3,CP hn,e1,e2,i1 _ (by omega),i1 _ (by omega),B9,Bz (by omega) (by omega)];simp only[Aa];unfold By B7;by_cases h:DR n=0
 ·have o3:Pn (-1074)=xZ:=Bv.2 (by omega);rw[Az h,Az h,Ag (by omega),Af,o1 _ (by omega),o2 _ (by omega),o3];cases Cd n
  ·rw[Af,PO]; rfl
  ·rw[Aa,Yi]; rfl
 ·have o3:Pn ((DR n:Int)-1075)=xZ:=Bv.2 (by omega);rw[Ay h,Ay h,Ac (by omega),Aa,o1 _ (by omega),o2 _ (by omega),o3];cases Cd n
  ·rw[Af,PO]; rfl
  ·rw[Aa,Yi]; rfl
theorem AeE{m t:Nat}(h:m<2^t)(h0:m≠0):NZ m<t:=AK (AeD h0) ((AZ h0).2 h)
theorem Wm(b:Nat):(G3 (b:Int)).natAbs=By b:=by unfold G3 GI;rw[Ad];split<;>omega
theorem AjE(b:Nat):DC (G3 (b:Int)).natAbs<3/\-400000<=eD (G3 (b:Int)) (B7 b)/\eD (G3 (b:Int)) (B7 b)<=400000:=by
 have hm:=EX b;have he:=CO b;have ha:=Wm b;refine⟨Acf (k:=2) (by rw[ha]; exact y7 hm (by decide)) (by omega),?_⟩;unfold eD;by_cases h:G3 (b:Int)=0
 ·rw[Az h]; omega
 ·rw[Ay h];have:=AeE (m:=(G3 (b:Int)).natAbs) (t:=53) (by rw[ha]; exact hm) (by omega);omega
def compare.O9.E:=E0 [(181,soft.Sign.Bt)]
theorem compare.O9.ev(N:Nat)(b:Int):Cz compare.O9.E N f172 (Bw f172) [.int .u64 b]=cond (Br b) (bif (DX b) then xQ (.int .i64 (Bg (0-(Bg (O0 .u64 b 9223372036854775808))))) else xQ (.int .i64 (Bg b))) xY:=by kernel_rfl
def compare.Order.E:=E0 [(172,compare.O9.Bt),(165,soft.Kind.Bt)]
theorem compare.Order.ev(N:Nat)(a b:Int):Cz compare.Order.E N f131 (Bw f131) [.int .u64 a,.int .u64 b]=cond (Br a) (bif ((BH a)==(4:Int)) then xQ (.CR [.int .i64 0,.bool x5]) else bif (Br b) then cond ((BH b)==(4:Int)) (xQ (.CR [.int .i64 0,.bool x5])) (bif (Br a) then cond (Br b) (bif (BI (Vu a) (Vu b)) then xQ (.CR [.int .i64 (-1:Int),.bool xZ]) else bif (Br a) then cond (Br b) (bif (BI (Vu b) (Vu a)) then xQ (.CR [.int .i64 1,.bool xZ]) else xQ (.CR [.int .i64 0,.bool xZ])) xY else xY) xY else xY) else xY) xY:=by kernel_rfl
def compare.MT.E:=E0 [(131,compare.Order.Bt)]
theorem compare.MT.ev(N:Nat)(a b:Int):Cz compare.MT.E N f78 (Bw f78) [.int .u64 a,.int .u64 b]=cond (Br a&&Br b) (xQ (.bool (BI (G4 a b) 0))) xY:=by kernel_rfl
def compare.XI.E:=E0 []
theorem compare.XI.ev(N:Nat)(a:Int):Cz compare.XI.E N f80 (Bw f80) [.int .u64 a]=xQ (.int .u64 (O0 .u64 a 9223372036854775808)):=by kernel_rfl
def compare.D7.hint:Nat->Option BN
 | 1=>xQ { Df:=[0,6,7,8],Cg:=[],Cr:=[] }
 | _=>xY
def compare.D7.E:=D6 (Db [(165,soft.Kind.Bt),(180,soft.DI.Bt),(166,soft.Fo.Bt),(181,soft.Sign.Bt)]) (fun _=>x5) compare.D7.hint (fun _=>xY)
section
variable(N M:Nat)(a n p6 p7:Int)(p8:Bool)
def compare.D7.L0:Option DV:=C6 compare.D7.E N f143 (Bw f143) [1,1,1,1,1,1,0,0] [] M ⟨Fz 59 [(0,.int .u64 a),(6,.int .u64 p6),(7,.int .i64 p7),(8,.bool p8)],[]⟩
theorem compare.D7.B8:compare.D7.L0 N (M+1) a p6 p7 p8=cond ((BI p7 (-1130:Int))&&(BI 1 p6)) (compare.D7.L0 N M a (DU .u64 p6 1) (Bg (p7+1)) (cond p8 xZ ((FZ .u64 p6 1)==(1:Int)))) (bif (BI p7 (-1130:Int)) then cond (Br a) (bif (E5 0 (-1074:Int) xZ) then xQ (.CR [.int .u64 (EM (DX a) 0 (-1074:Int) xZ),.int .u8 (EL (DX a) 0 (-1074:Int) xZ)]) else xY) xY else bif (Br a) then cond (E5 p6 p7 p8) (xQ (.CR [.int .u64 (EM (DX a) p6 p7 p8),.int .u8 (EL (DX a) p6 p7 p8)])) xY else xY) :=Et (B5 (MH (BI p7 (-1130:Int))) (B5 (JV (BI p7 (-1130:Int))) (B5 (QG (BI p7 (-1130:Int))) (CQ (tt1 _ _) (B5 (U5 p8) (B5 (RW p8) (B5 (RW p8) (B5 (XT p8) rfl)))) rfl))))
theorem compare.D7.ev:Cz compare.D7.E N f143 (Bw f143) [.int .u64 a,.int .i64 n]=cond (Br a) (bif ((BH a)==(4:Int)) then xQ (.CR [.int .u64 9221120237041090560,.int .u8 0]) else bif ((BH a)==(3:Int)) then cond ((BH a)==(3:Int)) (xQ (.CR [.int .u64 a,.int .u8 0])) (bif (Br a) then compare.D7.L0 N N a (Cf a) (Bg ((BT a)+(max (-2300:Int) (min 2300 n)))) x5 else xY) else bif ((BH a)==(0:Int)) then xQ (.CR [.int .u64 a,.int .u8 0]) else bif (Br a) then compare.D7.L0 N N a (Cf a) (Bg ((BT a)+(max (-2300:Int) (min 2300 n)))) x5 else xY) xY:=by kernel_rfl
end
def Bs.CM.E:=E0 [(143,compare.D7.Bt)]
theorem Bs.CM.ev(N:Nat)(a n:Int):Cz Bs.CM.E N f79 (Bw f79) [.int .u64 a,.int .i64 n]=cond (Ew a n) (xQ (.int .u64 (BX a n))) xY:=by kernel_rfl
def Bs.Div.E:=E0 [(144,times.Div.Bt)]
theorem Bs.Div.ev(N:Nat)(a b:Int):Cz Bs.Div.E N f82 (Bw f82) [.int .u64 a,.int .u64 b]=cond (Br a&&Br b) (xQ (.int .u64 (Fl a b))) xY:=by kernel_rfl
def Bs.DT.hint:Nat->Option BN
 | 0=>xQ { Df:=[3,6,7,8],Cg:=[],Cr:=[] }
 | _=>xY
def Bs.DT.E:=D6 (Db [(80,compare.XI.Bt),(165,soft.Kind.Bt)]) (fun _=>x5) Bs.DT.hint (fun _=>xY)
section
variable(N M:Nat)(x:Bf)(p3 p8:Int)
def Bs.DT.L0:Option DV:=C6 Bs.DT.E N f124 (Bw f124) [1,1,0,1,0] [] M ⟨Fz 21 [(3,.int .u64 p3),(6,.Bj .arg .u64 x),(7,.int .i64 (wj x:Int)),(8,.int .i64 p8)],[]⟩
theorem Bs.DT.B8:Bs.DT.L0 N (M+1) x p3 p8=cond (BI p8 (wj x:Int)) (bif ((decide (0<=p8))&&(decide (p8<(wj x:Int)))) then cond (Br (wt x (wQ p8) 0)) (bif ((BH (wt x (wQ p8) 0))==(4:Int)) then xQ (.int .u64 9221120237041090560) else bif (Br (wt x (wQ p8) 0)) then Bs.DT.L0 N M x (max p3 (KQ (wt x (wQ p8) 0))) (Bg (p8+1)) else xY) xY else xY) (xQ (.int .u64 p3)):=by kernel_rfl
theorem Bs.DT.ev:Cz Bs.DT.E N f124 (Bw f124) [.Bj .arg .u64 x]=
 Bs.DT.L0 N N x 0 0:=by kernel_rfl
end
def Bs.Finite.hint:Nat->Option BN
 | 0=>xQ { Df:=[5,6,7],Cg:=[],Cr:=[] }
 | _=>xY
def Bs.Finite.E:=D6 (Db [(136,soft.Finite.Bt)]) (fun _=>x5) Bs.Finite.hint (fun _=>xY)
section
variable(N M:Nat)(x:Bf)(p7:Int)
def Bs.Finite.L0:Option DV:=C6 Bs.Finite.E N f66 (Bw f66) [1,0,1,0] [] M ⟨Fz 15 [(5,.Bj .arg .u64 x),(6,.int .i64 (wj x:Int)),(7,.int .i64 p7)],[]⟩
theorem Bs.Finite.B8:Bs.Finite.L0 N (M+1) x p7=cond (BI p7 (wj x:Int)) (bif ((decide (0<=p7))&&(decide (p7<(wj x:Int)))) then cond (Br (wt x (wQ p7) 0)) (bif (!(D5 (wt x (wQ p7) 0))) then xQ (.bool x5) else Bs.Finite.L0 N M x (Bg (p7+1))) xY else xY) (xQ (.bool xZ)):=by kernel_rfl
theorem Bs.Finite.ev:Cz Bs.Finite.E N f66 (Bw f66) [.Bj .arg .u64 x]=
 Bs.Finite.L0 N N x 0:=by kernel_rfl
end
def DS.Check.hint:Nat->Option BN
 | 0=>xQ { Df:=[9,10,11],Cg:=[],Cr:=[] }
 | _=>xY
def DS.Check.E:=D6 (Db [(121,Bh.Check.Bt),(136,soft.Finite.Bt)]) (fun _=>x5) DS.Check.hint (fun _=>xY)
section
variable(N:Nat)(r c:Int)(M:Nat)(l:Bf)(p11:Int)
def DS.Check.L0:Option DV:=C6 DS.Check.E N f69 (Bw f69) [1,1,0,1,0] [] M ⟨Fz 19 [(9,.Bj .arg .u64 l),(10,.int .i64 (wj l:Int)),(11,.int .i64 p11)],[]⟩
theorem DS.Check.B8:DS.Check.L0 N (M+1) l p11=cond (BI p11 (wj l:Int)) (bif ((decide (0<=p11))&&(decide (p11<(wj l:Int)))) then cond (Br (wt l (wQ p11) 0)) (bif (!(D5 (wt l (wQ p11) 0))) then xQ (.int .i64 4) else DS.Check.L0 N M l (Bg (p11+1))) xY else xY) (xQ (.int .i64 0)):=by kernel_rfl
theorem DS.Check.ev:Cz DS.Check.E N f69 (Bw f69) [.agg [.int .i64 r,.int .i64 c,.Bj .arg .u64 l]]=cond ((IL r c l) !=(0:Int)) (xQ (.int .i64 1)) (DS.Check.L0 N N l 0):=by kernel_rfl
end
theorem Oq{k j:Nat}(h:k≠j):(((k:Nat):Int)==((j:Nat):Int))=x5:=by rw[AD]; omega
theorem We(n:Nat):n%2^63<2^63:=zu _ (by decide)
theorem Zy{n:Nat}(h:n<2^64):O0 .u64 (n:Int) (9223372036854775808:Int)=((n%2^63:Nat):Int):=by have:=ME (Cd n) (We n);rw[Vi h] at this;exact this
theorem compare.XI.Bn:Kq 80 compare.XI.Bt:=ED compare.XI.E Tryz.func80 .nil fun a hp=>by obtain⟨n,rfl,hn⟩:=C9 (show Br a=xZ from hp);refine⟨0,compare.XI.out [.i (n:Int)],[],?_,.int⟩;show _=xQ (DV.int .u64 (((n:Int).toNat%2^63:Nat):Int));rw[compare.XI.ev,Zy hn,Ad]
theorem compare.O9.Bn:Kq 172 compare.O9.Bt:=ED compare.O9.E Tryz.func172 (kc soft.Sign.Bn .nil) fun b hp=>by
 have hp:Br b=xZ:=hp;obtain⟨n,rfl,hn⟩:=C9 hp;refine⟨0,compare.O9.out [.i (n:Int)],[],?_,.int⟩;show _=xQ (DV.int .i64 (GG (n:Int).toNat));have h63:=We n;rw[compare.O9.ev,hp,Aa,Zy hn,Ad];unfold GG GI DX;rw[Ad];cases hs:Cd n with
 | true =>rw[Aa,Az rfl,Bz (x:=((n%2^63:Nat):Int)) (by omega) (by omega),Bz (by omega) (by omega)];congr 2; omega
 | false =>
   have:n<2^63:=by unfold Cd at hs;have:=of_decide_eq_false hs;omega
   rw[Af,Ay (by decide),Ao this,Bz (by omega) (by omega)]
theorem compare.Order.Bn:Kq 131 compare.Order.Bt:=ED compare.Order.E Tryz.func131 (kc compare.O9.Bn (kc soft.Kind.Bn .nil)) fun a b hp=>by
 obtain⟨ha,hb⟩:=Bi.1 (show(Br a&&Br b)=xZ from hp);refine⟨0,compare.Order.out [.i a,.i b],[],?_,Wk.Gr (.cons .int (.cons .bool .nil))⟩;show _=xQ (DV.CR [.int .i64 (Ado a.toNat b.toNat),.bool (Akk a.toNat b.toNat)]);rw[compare.Order.ev,ha,hb,Aa,Aa,Aa,Aa,Aa,Aa,B9,B9];unfold Ado Akk Vu BH;by_cases h1:Bk a.toNat=4
 ·have e:(((Bk a.toNat:Nat):Int)==(4:Int))=xZ:=by rw[h1]; rfl
  rw[e,Aa,Az (.inl h1),Ac (.inl h1)]; rfl
 ·have e:(((Bk a.toNat:Nat):Int)==(4:Int))=x5:=Oq h1;rw[e,Af];by_cases h2:Bk b.toNat=4
  ·have e:(((Bk b.toNat:Nat):Int)==(4:Int))=xZ:=by rw[h2]; rfl
   rw[e,Aa,Az (.inr h2),Ac (.inr h2)]; rfl
  ·have e:(((Bk b.toNat:Nat):Int)==(4:Int))=x5:=Oq h2;have hn:¬(Bk a.toNat=4\/Bk b.toNat=4):=fun h=>h.elim h1 h2
   rw[e,Af,Ay hn,Ag hn];by_cases h3:GG a.toNat<GG b.toNat
   ·rw[Ac h3,Az h3]; rfl
   ·rw[Ag h3,Ay h3];by_cases h4:GG b.toNat<GG a.toNat
    ·rw[Ac h4,Az h4]; rfl
    ·rw[Ag h4,Ay h4]; rfl
theorem compare.MT.Bn:Kq 78 compare.MT.Bt:=ED compare.MT.E Tryz.func78 (kc compare.Order.Bn .nil) fun a b hp=>by have hp:(Br a&&Br b)=xZ:=hp;refine⟨0,compare.MT.out [.i a,.i b],[],?_,.bool⟩;rw[compare.MT.ev,hp,B9]; rfl
theorem Aak(N:Nat){a:Int}(ha:Br a=xZ):∀(k F m:Nat) (e:Int) (b:Bool),e=-1130-(k:Int)->k<F->m<2^53->(m≠0\/b=xZ)->-9000<e ->
 compare.D7.L0 N F a (m:Int) e b=xQ (.CR [.int .u64 (((Co (Cd a.toNat) 0,3):Nat × Nat).1:Nat),.int .u8 (((Co (Cd a.toNat) 0,3):Nat × Nat).2:Nat)]):=by
 have pre1:E5 (0:Int) (-1074:Int) xZ=xZ:=Bv.2 (by omega);intro k
 induction k with
 | zero =>
   intro F m e b he hF hm h0 _;obtain⟨F,rfl⟩:∃G,F=G+1:=⟨F-1,by omega⟩
   have hlt:BI e (-1130:Int)=x5:=by rw[B9]; exact Ag (by omega)
   have OA:E5 (m:Int) e b=xZ:=Bv.2 (by omega);rw[compare.D7.B8,hlt,zZ,Af,Af,ha,Aa,OA,Aa];unfold EM EL DX;rw[Ad,Adx _ hm h0 (by omega)]
 | succ k ih =>
   intro F m e b he hF hm h0 hb;obtain⟨F,rfl⟩:∃G,F=G+1:=⟨F-1,by omega⟩
   have hlt:BI e (-1130:Int)=xZ:=by rw[B9]; exact Ac (by omega)
   rw[compare.D7.B8,hlt,AW,Aa,B9];by_cases h1:(1:Int)<(m:Int)
   ·have em:DU .u64 (m:Int) (1:Int)=((m / 2^1:Nat):Int):=GP .u64 m 1 (by decide);rw[Ac h1,Aa,em,Bz (by omega) (by omega)];exact ih F (m / 2^1) (e+1) _ (by omega) (by omega) (by omega) (.inl (by omega)) (by omega)
   ·rw[Ag h1,Af,ha,Aa,pre1,Aa];unfold EM EL DX;rw[show(0:Int).toNat=0 from rfl,AfN]
theorem compare.D7.Bn:Kq 143 compare.D7.Bt:=ED compare.D7.E Tryz.func143 (kc soft.Kind.Bn (kc soft.DI.Bn (kc soft.Fo.Bn (kc soft.Sign.Bn .nil)))) fun a n hp=>by
 obtain⟨ha,hn⟩:=Bi.1 (show Ew a n=xZ from hp);have hn:=Bv.1 hn;refine⟨3000,compare.D7.out [.i a,.i n],[],?_,Wk.Gr (.cons .int (.cons .int .nil))⟩;show _=xQ (DV.CR [.int .u64 ((Cl a.toNat n).1:Nat),.int .u8 ((Cl a.toNat n).2:Nat)]);have em:max (-2300:Int) (min (2300:Int) n)=n:=by omega
 have pE:=CO a.toNat;have pM:=EX a.toNat;have ee:Bg (BT a+n)=B7 a.toNat+n:=by unfold BT; exact Bz (by omega) (by omega)
 rw[compare.D7.ev,ha,Aa,Aa,em,ee];unfold BH;by_cases h4:Bk a.toNat=4
 ·have e:(((Bk a.toNat:Nat):Int)==(4:Int))=xZ:=by rw[h4]; rfl
  rw[e,Aa];unfold Cl;rw[Az h4]; rfl
 have e4:(((Bk a.toNat:Nat):Int)==(4:Int))=x5:=Oq h4;rw[e4,Af];by_cases h3:Bk a.toNat=3
 ·have e:(((Bk a.toNat:Nat):Int)==(3:Int))=xZ:=by rw[h3]; rfl
  obtain⟨k,rfl,hk⟩:=C9 ha;rw[e,Aa,Aa];unfold Cl;rw[Ay h4,Az (.inl h3),Ad]; rfl
 have e3:(((Bk a.toNat:Nat):Int)==(3:Int))=x5:=Oq h3;rw[e3,Af];by_cases h0:Bk a.toNat=0
 ·have e:(((Bk a.toNat:Nat):Int)==(0:Int))=xZ:=by rw[h0]; rfl
  obtain⟨k,rfl,hk⟩:=C9 ha;rw[e,Aa];unfold Cl;rw[Ay h4,Az (.inr h0),Ad]; rfl
 have e0:(((Bk a.toNat:Nat):Int)==(0:Int))=x5:=Oq h0;have hk:¬(Bk a.toNat=3\/Bk a.toNat=0):=fun h=>h.elim h3 h0
 have hm:By a.toNat≠0:=fun h=>h0 ((Da h3 h4).1 h)
 rw[e0,Af];show compare.D7.L0 3000 3000 a (By a.toNat:Nat) (B7 a.toNat+n) x5=_;by_cases ht:B7 a.toNat+n<=-1130
 ·rw[Aaj h4 hk ht];exact Aak 3000 ha (-1130-(B7 a.toNat+n)).toNat 3000 _ _ x5 (by omega) (by omega) (by omega) (.inl hm) (by omega)
 ·have hlt:BI (B7 a.toNat+n) (-1130:Int)=x5:=by rw[B9]; exact Ag (by omega)
  have OA:E5 ((By a.toNat:Nat):Int) (B7 a.toNat+n) x5=xZ:=Bv.2 ⟨by omega,by omega,by omega,by omega,fun h=>by cases h⟩;rw[GR h4 hk,show(3000:Nat)=2999+1 from rfl,compare.D7.B8,hlt,zZ,Af,Af,ha,Aa,OA,Aa];unfold EM EL DX;rw[Ad,RH]
theorem Bs.CM.Bn:Kq 79 Bs.CM.Bt:=ED Bs.CM.E Tryz.func79 (kc compare.D7.Bn .nil) fun a n hp=>by have hp:Ew a n=xZ:=hp;refine⟨0,Bs.CM.out [.i a,.i n],[],?_,.int⟩;rw[Bs.CM.ev,hp]; rfl
theorem Bs.Div.Bn:Kq 82 Bs.Div.Bt:=ED Bs.Div.E Tryz.func82 (kc times.Div.Bn .nil) fun a b hp=>by have hp:(Br a&&Br b)=xZ:=hp;refine⟨0,Bs.Div.out [.i a,.i b],[],?_,.int⟩;rw[Bs.Div.ev,hp]; rfl
theorem Js{l:Bf}{i:Nat}(h:i<l.length):l.drop i=l.getD i 0::l.drop (i+1):=by rw[List.drop_eq_getElem_cons h,Al,As h]; rfl
theorem IE{l:Bf}(h:Cq l=xZ):l.length<4611686018427387904/\∀j,j<l.length->Br (l.getD j 0)=xZ:=by obtain⟨h1,h2⟩:=Bv.1 h;exact⟨h1,fun j hj=>by rw[Al,As hj]; exact h2 _ (List.getElem_mem hj)⟩
theorem Gf{l:Bf}(h:Bp l=xZ)(hl:l.length<=1000):Cq l=xZ:=Bv.2 ⟨by omega,Bv.1 h⟩
theorem YX(N:Nat){x:Bf}(hx:Cq x=xZ):∀(k i F:Nat),i+k=x.length->k<F->Bs.Finite.L0 N F x (i:Int)=xQ (.bool ((x.drop i).all D5)):=by
 obtain⟨hl,hu⟩:=IE hx;intro k
 induction k with
 | zero =>
   intro i F hi hF;obtain⟨F,rfl⟩:∃G,F=G+1:=⟨F-1,by omega⟩
   rw[Bs.Finite.B8,B9,Ag (by omega),Af,Ap (by omega)]; rfl
 | succ k ih =>
   intro i F hi hF;obtain⟨F,rfl⟩:∃G,F=G+1:=⟨F-1,by omega⟩
   rw[Bs.Finite.B8,B9,Ac (show(i:Int)<(x.length:Int) by omega),Aa,Ac (show(0:Int)<=(i:Int) by omega),Ah,Aa,Ad,hu i (by omega),Aa,Js (by omega),yY];cases D5 (x.getD i 0) with
   | false=>rfl
   | true =>rw[AH,Af,Bz (by omega) (by omega),AW];exact ih (i+1) F (by omega) (by omega)
theorem Bs.Finite.Bn:Kq 66 Bs.Finite.Bt:=ED Bs.Finite.E Tryz.func66 (kc soft.Finite.Bn .nil) fun x hp=>by have hp:Cq x=xZ:=hp;refine⟨x.length+1,Bs.Finite.out [.l x],[],?_,.bool⟩;show _=xQ (DV.bool (x.all D5));rw[Bs.Finite.ev];exact YX _ hp x.length 0 (x.length+1) (by omega) (by omega)
theorem Aej{x:Bf}{i:Nat}(h:i<x.length)(m:Nat):IM (x.drop i) m=if Bk (x.getD i 0).toNat=4 then NW else IM (x.drop (i+1)) (max m (Ea (x.getD i 0).toNat)):=by rw[Js h]; rfl
theorem Xx(N:Nat){x:Bf}(hx:Cq x=xZ):∀(k i F m:Nat),i+k=x.length->k<F->Bs.DT.L0 N F x (m:Int) (i:Int)=xQ (.int .u64 ((IM (x.drop i) m:Nat):Int)):=by
 obtain⟨hl,hu⟩:=IE hx;intro k
 induction k with
 | zero =>
   intro i F m hi hF;obtain⟨F,rfl⟩:∃G,F=G+1:=⟨F-1,by omega⟩
   rw[Bs.DT.B8,B9,Ag (by omega),Af,Ap (by omega)]; rfl
 | succ k ih =>
   intro i F m hi hF;obtain⟨F,rfl⟩:∃G,F=G+1:=⟨F-1,by omega⟩
   rw[Bs.DT.B8,B9,Ac (show(i:Int)<(x.length:Int) by omega),Aa,Ac (show(0:Int)<=(i:Int) by omega),Ah,Aa,Ad,hu i (by omega),Aa,Aej (by omega)];unfold BH;by_cases h4:Bk (x.getD i 0).toNat=4
   ·have e:(((Bk (x.getD i 0).toNat:Nat):Int)==(4:Int))=xZ:=by rw[h4]; rfl
    rw[e,Aa,Az h4]; rfl
   ·have e:(((Bk (x.getD i 0).toNat:Nat):Int)==(4:Int))=x5:=Oq h4;have em:max (m:Int) (KQ (x.getD i 0))=((max m (Ea (x.getD i 0).toNat):Nat):Int):=by unfold KQ; omega
    rw[e,Af,Aa,Ay h4,em,Bz (by omega) (by omega)];exact ih (i+1) F _ (by omega) (by omega)
theorem Bs.DT.Bn:Kq 124 Bs.DT.Bt:=ED Bs.DT.E Tryz.func124 (kc compare.XI.Bn (kc soft.Kind.Bn .nil)) fun x hp=>by have hp:Cq x=xZ:=hp;refine⟨x.length+1,Bs.DT.out [.l x],[],?_,.int⟩;rw[Bs.DT.ev];exact Xx _ hp x.length 0 (x.length+1) 0 (by omega) (by omega)
theorem Xv(N:Nat){x:Bf}(hx:Cq x=xZ):∀(k i F:Nat),i+k=x.length->k<F->DS.Check.L0 N F x (i:Int)=xQ (.int .i64 (if (x.drop i).all D5=xZ then 0 else 4)):=by
 obtain⟨hl,hu⟩:=IE hx;intro k
 induction k with
 | zero =>
   intro i F hi hF;obtain⟨F,rfl⟩:∃G,F=G+1:=⟨F-1,by omega⟩
   rw[DS.Check.B8,B9,Ag (by omega),Af,Ap (by omega)]; rfl
 | succ k ih =>
   intro i F hi hF;obtain⟨F,rfl⟩:∃G,F=G+1:=⟨F-1,by omega⟩
   rw[DS.Check.B8,B9,Ac (show(i:Int)<(x.length:Int) by omega),Aa,Ac (show(0:Int)<=(i:Int) by omega),Ah,Aa,Ad,hu i (by omega),Aa,Js (by omega),yY];cases D5 (x.getD i 0) with
   | false=>rfl
   | true =>rw[AH,Af,Bz (by omega) (by omega),AW];exact ih (i+1) F (by omega) (by omega)
theorem Iu{r c:Int}{l:Bf}(h:BA r c l=xZ):l.length<=36:=by obtain⟨R,C,rfl,rfl,r6,c6,hl⟩:=D9 h;have:=AE r6 c6;omega
theorem DS.Check.Bn:Kq 69 DS.Check.Bt:=ED DS.Check.E Tryz.func69 (kc Bh.Check.Bn (kc soft.Finite.Bn .nil)) fun r c l hp=>by
 have hp:Bp l=xZ:=hp;refine⟨l.length+1,DS.Check.out [.i r,.i c,.l l],[],?_,.int⟩;show _=xQ (DV.int .i64 (BU r c l));rw[DS.Check.ev];unfold IL BU DA;by_cases h:BA r c l=xZ
 ·have:=Iu h;rw[Az h,Az h];have e:((0:Int) !=(0:Int))=x5:=by decide
  rw[e,Af];exact Xv _ (Gf hp (by omega)) l.length 0 (l.length+1) (by omega) (by omega)
 ·rw[Ay h,Ay h]; rfl
open Go Go.Den Go.Ck Go.Proofs Ieee
def root.Hx.hint:Nat->Option BN
 | 0=>xQ { Df:=[0,4,5,6,14],Cg:=[],Cr:=[] }
 | _=>xY
def root.Hx.E:=D6 (Db []) (fun _=>x5) root.Hx.hint (fun _=>xY)
section
variable(N M:Nat)(m p4 p5 p6 p14:Int)
def root.Hx.L0:Option DV:=C6 root.Hx.E N f211 (Bw f211) [1,1,0,1,0] [] M ⟨Fz 68 [(0,.int .u64 m),(4,.int .u64 p4),(5,.int .u64 p5),(6,.int .u64 p6),(14,.int .i64 p14)],[]⟩
theorem root.Hx.B8:root.Hx.L0 N (M+1) m p4 p5 p6 p14=cond (BI p14 64) (bif (BI p14 32) then cond (decide (0<=(Bg ((62:Int)-(Bg ((2:Int)*p14)))))) (bif (decide ((Gv (HK .u64 (Ct .u64 p6 2) (FZ .u64 (DU .u64 m (Bg ((62:Int)-(Bg ((2:Int)*p14))))) 3)) (HK .u64 (Ct .u64 p4 2) 1) 0)<=1)) then cond ((Gv (HK .u64 (Ct .u64 p5 2) (DU .u64 p6 62)) (DU .u64 p4 62) (Gv (HK .u64 (Ct .u64 p6 2) (FZ .u64 (DU .u64 m (Bg ((62:Int)-(Bg ((2:Int)*p14))))) 3)) (HK .u64 (Ct .u64 p4 2) 1) 0))==(0:Int)) (root.Hx.L0 N M m (HK .u64 (Ct .u64 p4 1) 1) (KY (HK .u64 (Ct .u64 p5 2) (DU .u64 p6 62)) (DU .u64 p4 62) (Gv (HK .u64 (Ct .u64 p6 2) (FZ .u64 (DU .u64 m (Bg ((62:Int)-(Bg ((2:Int)*p14))))) 3)) (HK .u64 (Ct .u64 p4 2) 1) 0)) (KY (HK .u64 (Ct .u64 p6 2) (FZ .u64 (DU .u64 m (Bg ((62:Int)-(Bg ((2:Int)*p14))))) 3)) (HK .u64 (Ct .u64 p4 2) 1) 0) (Bg (p14+1))) (root.Hx.L0 N M m (Ct .u64 p4 1) (HK .u64 (Ct .u64 p5 2) (DU .u64 p6 62)) (HK .u64 (Ct .u64 p6 2) (FZ .u64 (DU .u64 m (Bg ((62:Int)-(Bg ((2:Int)*p14))))) 3)) (Bg (p14+1))) else xY) xY else bif (decide ((Gv (HK .u64 (Ct .u64 p6 2) 0) (HK .u64 (Ct .u64 p4 2) 1) 0)<=1)) then cond ((Gv (HK .u64 (Ct .u64 p5 2) (DU .u64 p6 62)) (DU .u64 p4 62) (Gv (HK .u64 (Ct .u64 p6 2) 0) (HK .u64 (Ct .u64 p4 2) 1) 0))==(0:Int)) (root.Hx.L0 N M m (HK .u64 (Ct .u64 p4 1) 1) (KY (HK .u64 (Ct .u64 p5 2) (DU .u64 p6 62)) (DU .u64 p4 62) (Gv (HK .u64 (Ct .u64 p6 2) 0) (HK .u64 (Ct .u64 p4 2) 1) 0)) (KY (HK .u64 (Ct .u64 p6 2) 0) (HK .u64 (Ct .u64 p4 2) 1) 0) (Bg (p14+1))) (root.Hx.L0 N M m (Ct .u64 p4 1) (HK .u64 (Ct .u64 p5 2) (DU .u64 p6 62)) (HK .u64 (Ct .u64 p6 2) 0) (Bg (p14+1))) else xY) (xQ (.CR [.int .u64 p4,.bool (cond (p5==(0:Int)) (p6==(0:Int)) x5)])) :=Et (EY rfl (B5 (MH (p5==(0:Int))) (B5 (JV (p5==(0:Int))) (B5 (QG (p5==(0:Int))) rfl))))
theorem root.Hx.ev:Cz root.Hx.E N f211 (Bw f211) [.int .u64 m]=
 root.Hx.L0 N N m 0 0 0 0:=by kernel_rfl
end
def root.Sqrt.hint:Nat->Option BN
 | 5=>xQ { Df:=[5,7,9],Cg:=[],Cr:=[] }
 | _=>xY
def root.Sqrt.E:=D6 (Db [(210,DH.CZ.Bt),(211,root.Hx.Bt),(165,soft.Kind.Bt),(180,soft.DI.Bt),(166,soft.Fo.Bt),(181,soft.Sign.Bt)]) (fun _=>x5) root.Sqrt.hint (fun _=>xY)
section
variable(N:Nat)(a:Int)(M:Nat)(p5 p7:Int)(p9:Bool)
def root.Sqrt.L0:Option DV:=C6 root.Sqrt.E N f176 (Bw f176) [1,1,1,1,1,1,1,1,1,0,0] [] M ⟨Fz 73 [(5,.int .i64 p5),(7,.int .u64 p7),(9,.bool p9)],[]⟩
theorem root.Sqrt.B8:root.Sqrt.L0 N (M+1) p5 p7 p9=cond (Eg 4611686018427387904 p7) (root.Sqrt.L0 N M (Bg (p5+2)) (DU .u64 p7 1) (cond p9 xZ ((FZ .u64 p7 1)==(1:Int)))) (bif (E5 p7 (Bg ((Bg (zw p5 2))-32)) p9) then xQ (.CR [.int .u64 (EM x5 p7 (Bg ((Bg (zw p5 2))-32)) p9),.int .u8 (EL x5 p7 (Bg ((Bg (zw p5 2))-32)) p9)]) else xY) :=Et (EY (B5 (U5 p9) (B5 (RW p9) (B5 (RW p9) (B5 (XT p9) rfl)))) rfl)
theorem root.Sqrt.ev:Cz root.Sqrt.E N f176 (Bw f176) [.int .u64 a]=cond (Br a) (bif ((BH a)==(4:Int)) then xQ (.CR [.int .u64 9221120237041090560,.int .u8 0]) else bif (Br a) then cond ((BH a)==(0:Int)) (xQ (.CR [.int .u64 a,.int .u8 0])) (bif (a==(9218868437227405312:Int)) then xQ (.CR [.int .u64 a,.int .u8 0]) else bif (Br a) then cond (DX a) (xQ (.CR [.int .u64 9221120237041090560,.int .u8 16])) (bif (Br a) then cond (Br (Cf a)) (bif ((zD (Bg ((BT a)-(Bg ((64-EO (Cf a))-2)))) 2) !=(0:Int)) then cond (decide (0<=(Bg ((Bg ((64-EO (Cf a))-2))-1)))) (bif (Ch (0<=(Ct .u64 (Cf a) (Bg ((Bg ((64-EO (Cf a))-2))-1)))/\(Ct .u64 (Cf a) (Bg ((Bg ((64-EO (Cf a))-2))-1)))<9223372036854775808)) then root.Sqrt.L0 N N (Bg ((BT a)-(Bg ((Bg ((64-EO (Cf a))-2))-1)))) (Ql (Ct .u64 (Cf a) (Bg ((Bg ((64-EO (Cf a))-2))-1)))) (!(Qm (Ct .u64 (Cf a) (Bg ((Bg ((64-EO (Cf a))-2))-1))))) else xY) xY else bif (decide (0<=(Bg ((64-EO (Cf a))-2)))) then cond (Ch (0<=(Ct .u64 (Cf a) (Bg ((64-EO (Cf a))-2)))/\(Ct .u64 (Cf a) (Bg ((64-EO (Cf a))-2)))<9223372036854775808)) (root.Sqrt.L0 N N (Bg ((BT a)-(Bg ((64-EO (Cf a))-2)))) (Ql (Ct .u64 (Cf a) (Bg ((64-EO (Cf a))-2)))) (!(Qm (Ct .u64 (Cf a) (Bg ((64-EO (Cf a))-2)))))) xY else xY) xY else xY) else xY) else xY) xY:=by kernel_rfl
end
def Bs.Sqrt.E:=E0 [(176,root.Sqrt.Bt)]
theorem Bs.Sqrt.ev(N:Nat)(a:Int):Cz Bs.Sqrt.E N f139 (Bw f139) [.int .u64 a]=cond (Br a) (xQ (.int .u64 (DQ a))) xY:=by kernel_rfl
def compare.MZ.E:=E0 [(167,DH.IS.Bt),(136,soft.Finite.Bt),(165,soft.Kind.Bt),(166,soft.Fo.Bt)]
theorem compare.MZ.ev(N:Nat)(a:Int):Cz compare.MZ.E N f123 (Bw f123) [.int .u64 a]=cond (Br a) (bif ((!(D5 a))||(Br a)) then cond ((!(D5 a))||((BH a)==(0:Int))) (xQ (.int .i64 0)) (bif (Br a) then cond (Br (Cf a)) (xQ (.int .i64 (Bg ((Bg ((EO (Cf a))-1))+(BT a))))) xY else xY) else xY) xY :=Et (EY (B5 (SU (D5 a)) (CQ (AcI _ _) (B5 (OZ (D5 a)) (B5 (U7 (D5 a)) (CQ (AjQ _ _) rfl rfl))) rfl)) rfl)
def Bs.Norm.hint:Nat->Option BN
 | 0=>xQ { Df:=[5,6,25,26,27],Cg:=[],Cr:=[] }
 | _=>xY
def Bs.Norm.E:=D6 (Db [(123,compare.MZ.Bt),(136,soft.Finite.Bt),(137,Bs.Add.Bt),(124,Bs.DT.Bt),(138,Bs.Mul.Bt),(79,Bs.CM.Bt),(139,Bs.Sqrt.Bt)]) (fun _=>x5) Bs.Norm.hint (fun _=>xY)
section
variable(N M:Nat)(x:Bf)(p6 p27:Int)
def Bs.Norm.L0:Option DV:=C6 Bs.Norm.E N f67 (Bw f67) [1,1,1,1,1,1,0,1,0] [] M ⟨Fz 45 [(5,.int .i64 (BQ (BK x))),(6,.int .u64 p6),(25,.Bj .arg .u64 x),(26,.int .i64 (wj x:Int)),(27,.int .i64 p27)],[]⟩
theorem Bs.Norm.B8:Bs.Norm.L0 N (M+1) x p6 p27=cond (BI p27 (wj x:Int)) (bif ((decide (0<=p27))&&(decide (p27<(wj x:Int)))) then cond (Ew (wt x (wQ p27) 0) (Bg (0-(BQ (BK x))))) (bif (Br (BX (wt x (wQ p27) 0) (Bg (0-(BQ (BK x)))))&&Br (BX (wt x (wQ p27) 0) (Bg (0-(BQ (BK x)))))) then cond (Br p6&&Br (C0 (BX (wt x (wQ p27) 0) (Bg (0-(BQ (BK x))))) (BX (wt x (wQ p27) 0) (Bg (0-(BQ (BK x))))))) (Bs.Norm.L0 N M x (DM p6 (C0 (BX (wt x (wQ p27) 0) (Bg (0-(BQ (BK x))))) (BX (wt x (wQ p27) 0) (Bg (0-(BQ (BK x))))))) (Bg (p27+1))) xY else xY) xY else xY) (bif (Br p6) then cond (Ew (DQ p6) (BQ (BK x))) (xQ (.CR [.int .u64 (BX (DQ p6) (BQ (BK x))),.int .i64 0])) xY else xY):=by kernel_rfl
theorem Bs.Norm.ev:Cz Bs.Norm.E N f67 (Bw f67) [.Bj .arg .u64 x]=cond (BI 64 (wj x:Int)) (xQ (.CR [.int .u64 0,.int .i64 3])) (bif (Cq x) then cond (((BK x)==(0:Int))||(Br (BK x))) (bif (((BK x)==(0:Int))||(!(D5 (BK x)))) then xQ (.CR [.int .u64 (BK x),.int .i64 0]) else bif (Br (BK x)) then Bs.Norm.L0 N N x 0 (0:Int) else xY) xY else xY) :=Et (EY rfl (EY (B5 (U5 ((BK x)==(0:Int))) (CQ (Anu _ _) (B5 (RW ((BK x)==(0:Int))) (B5 (XT ((BK x)==(0:Int))) (CQ (Ant _ _) rfl rfl))) rfl)) rfl))
end
theorem Q6(n s:Nat)(h:s<=64):DU .u64 (n:Int) (s:Int)=((n / 2^s:Nat):Int):=GP .u64 n s h
theorem sh2{n t:Nat}(ht:t<4):HK .u64 (Ct .u64 (n:Int) (2:Int)) (t:Int)=((n%2^62*4+t:Nat):Int):=by rw[show(2:Int)=((2:Nat):Int) from rfl,F3 n 2 (by decide),show n*2^2%2^64=(n%2^62)*2^2 by omega];exact KJ ht (by omega)
theorem sh1{n:Nat}(h:n<2^63):Ct .u64 (n:Int) (1:Int)=((2*n:Nat):Int):=by rw[show(1:Int)=((1:Nat):Int) from rfl,F3 n 1 (by decide)];congr 1; omega
theorem AnG{n:Nat}(h:n<2^63):HK .u64 (Ct .u64 (n:Int) (1:Int)) (1:Int)=((2*n+1:Nat):Int):=by rw[show(1:Int)=((1:Nat):Int) from rfl,F3 n 1 (by decide),show n*2^1%2^64=n*2^1 by omega,A0 2 n];exact KJ (k:=1) (by decide) (by omega)
theorem AeH{m i:Nat}(hi:i<32):FZ .u64 (DU .u64 (m:Int) (Bg ((62:Int)-(Bg ((2:Int)*(i:Int)))))) (3:Int)=((m / 2^(62-2*i)%2^64%4:Nat):Int)\/2^64<=m:=by
 by_cases hm:m<2^64
 ·left;rw[Bz (x:=(2:Int)*(i:Int)) (by omega) (by omega),Bz (x:=(62:Int)-2*(i:Int)) (by omega) (by omega),show(62:Int)-2*(i:Int)=((62-2*i:Nat):Int) by omega,Q6 _ _ (by omega)];have hd:m / 2^(62-2*i)<2^64:=AK (yz _ _) hm;rw[show(3:Int)=((2^2-1:Nat):Int) from rfl,H4 2 hd (by decide)];congr 1;omega
 ·right; omega
def OA(m i:Nat):Nat:=m*2^64 / 2^(128-2*i)
theorem AfA{m i:Nat}(hi:i<32):OA m (i+1)=4*OA m i+m / 2^(62-2*i)%4:=by
 unfold OA;have e1:128-2*i=64+(64-2*i):=by omega
 have e2:128-2*(i+1)=64+(62-2*i):=by omega
 rw[e1,e2,A5,A5,A0 (2^64),A0 (2^64),xW _ _ (by decide),xW _ _ (by decide),show 64-2*i=(62-2*i)+2 by omega,A5,<- A9];omega
theorem Adm{m i:Nat}(hi:32<=i)(h:i<64):OA m (i+1)=4*OA m i:=by
 unfold OA;have e1:(2:Nat)^64=2^(2*i-64)*2^(128-2*i):=by rw[<- A5]; congr 1; omega
 have e2:(2:Nat)^64=2^(2*i-64)*4*2^(128-2*(i+1)):=by rw[show(4:Nat)=2^2 from rfl,<- A5,<- A5]; congr 1; omega
 have a1:m*2^64 / 2^(128-2*i)=m*2^(2*i-64):=by rw[e1,<- A7,xX _ (Cv _)]
 have a2:m*2^64 / 2^(128-2*(i+1))=m*(2^(2*i-64)*4):=by rw[e2,<- A7,xX _ (Cv _)]
 rw[a1,a2,<- A7,A0 4]
theorem AhT{A B tl th:Nat}(hA:A<2^64)(htl:tl<2^64)(hB:B<2^64)(hth:th<4):
 (Gv (A:Int) (tl:Int) (0:Int)=0\/Gv (A:Int) (tl:Int) (0:Int)=1) /\
 (th*2^64+tl<=B*2^64+A->(Gv (B:Int) (th:Int) (Gv (A:Int) (tl:Int) (0:Int))==(0:Int))=xZ /\
  ∃h l:Nat,KY (B:Int) (th:Int) (Gv (A:Int) (tl:Int) (0:Int))=(h:Int)/\KY (A:Int) (tl:Int) (0:Int)=(l:Int)/\l<2^64/\h*2^64+l=B*2^64+A-(th*2^64+tl)) /\
 (B*2^64+A<th*2^64+tl->(Gv (B:Int) (th:Int) (Gv (A:Int) (tl:Int) (0:Int))==(0:Int))=x5):=by
 have e1:Gv (A:Int) (tl:Int) (0:Int)=((if A<tl then 1 else 0:Nat):Int):=by unfold Gv;rw[Ad,Ad];rfl
 by_cases h:A<tl
 ·rw[Az h] at e1;rw[e1]
  have e2:Gv (B:Int) (th:Int) ((1:Nat):Int)=((if B<th+1 then 1 else 0:Nat):Int):=by unfold Gv;rw[Ad,Ad];rfl
  refine⟨.inr rfl,fun hle=>?_,fun hlt=>?_⟩
  ·rw[Ay (by omega)] at e2;rw[e2];refine⟨rfl,B-th-1,A+2^64-tl,?_,?_,by omega,by omega⟩
   ·unfold KY;rw[Ad,Ad,Ad];congr 1; omega
   ·unfold KY;rw[Ad,Ad];show((_:Nat):Int)=_;congr 1;show(A+18446744073709551616-tl-0)%18446744073709551616=_;omega
  ·rw[Az (by omega)] at e2;rw[e2]; rfl
 ·rw[Ay h] at e1;rw[e1]
  have e2:Gv (B:Int) (th:Int) ((0:Nat):Int)=((if B<th then 1 else 0:Nat):Int):=by unfold Gv;rw[Ad,Ad];rfl
  refine⟨.inl rfl,fun hle=>?_,fun hlt=>?_⟩
  ·rw[Ay (by omega)] at e2;rw[e2];refine⟨rfl,B-th,A-tl,?_,?_,by omega,by omega⟩
   ·unfold KY;rw[Ad,Ad,Ad];congr 1; omega
   ·unfold KY;rw[Ad,Ad];show((_:Nat):Int)=_;congr 1;show(A+18446744073709551616-tl-0)%18446744073709551616=_;omega
  ·rw[Az (by omega)] at e2;rw[e2]; rfl
theorem glue(n t:Nat):n / 2^62*2^64+(n%2^62*4+t)=4*n+t:=by omega
theorem AdC(N:Nat){m:Nat}(hm:m<2^63):∀(k i F rt rest:Nat),i+k=64->k<F->OA m i=rt*rt+rest->rest<=2*rt->rt<2^i->∀hi lo:Nat,hi*2^64+lo=rest->lo<2^64 ->
 root.Hx.L0 N F (m:Int) (rt:Int) (hi:Int) (lo:Int) (i:Int)=xQ (.CR [.int .u64 (Ql m),.bool (Qm m)]):=by
 intro k
 induction k with
 | zero =>
   intro i F rt rest hi hF hP hr hb h l e hl;obtain⟨F,rfl⟩:∃G,F=G+1:=⟨F-1,by omega⟩
   obtain rfl:i=64:=by omega
   have hP':m*2^64=rt*rt+rest:=by rw[<- hP]; unfold OA;rw[show 128-2*64=0 from rfl,AG,yH]
   have hroot:=Aid hP' hr;rw[root.Hx.B8,B9,Ag (by omega),Af];have e1:Ql (m:Int)=(rt:Int):=by unfold Ql; rw[Ad,<- hroot]
   have e2:Qm (m:Int)=(cond ((h:Int)==(0:Int)) ((l:Int)==(0:Int)) x5):=by
    unfold Qm;rw[Ad,<- hroot,hP'];by_cases h0:h=0
    ·subst h0;rw[show(((0:Nat):Int)==(0:Int))=xZ from rfl,Aa,Ar,Ai,beq_iff_eq];omega
    ·rw[show((h:Int)==(0:Int))=x5 by rw[AD]; omega,Af,Ag];omega
   rw[e1,e2]
 | succ k ih =>
   intro i F rt rest hi hF hP hr hb h l e hl;obtain⟨F,rfl⟩:∃G,F=G+1:=⟨F-1,by omega⟩
   have hp:2^i<=2^63:=Aq (by decide) (by omega);have hi63:2^(i+1)=2*2^i:=by rw[zH,A0]
   have f1:2*rt+1<2^(i+1):=by rw[hi63]; omega
   have f2:2*rt<2^(i+1):=by omega
   have hh:h=0:=by omega
   subst hh;have hrest:rest=l:=by omega
   subst hrest
   obtain⟨two,t4,hP',hcode⟩:∃two:Nat,two<4/\OA m (i+1)=4*OA m i+two /\
    root.Hx.L0 N (F+1) (m:Int) (rt:Int) ((0:Nat):Int) (rest:Int) (i:Int)=
    (bif (decide ((Gv (HK .u64 (Ct .u64 (rest:Int) (2:Int)) (two:Int)) (HK .u64 (Ct .u64 (rt:Int) (2:Int)) (1:Int)) (0:Int))<=1)) then
     bif ((Gv (HK .u64 (Ct .u64 ((0:Nat):Int) (2:Int)) (DU .u64 (rest:Int) (62:Int))) (DU .u64 (rt:Int) (62:Int)) (Gv (HK .u64 (Ct .u64 (rest:Int) (2:Int)) (two:Int)) (HK .u64 (Ct .u64 (rt:Int) (2:Int)) (1:Int)) (0:Int)))==(0:Int)) then
      root.Hx.L0 N F (m:Int) (HK .u64 (Ct .u64 (rt:Int) (1:Int)) (1:Int)) (KY (HK .u64 (Ct .u64 ((0:Nat):Int) (2:Int)) (DU .u64 (rest:Int) (62:Int))) (DU .u64 (rt:Int) (62:Int)) (Gv (HK .u64 (Ct .u64 (rest:Int) (2:Int)) (two:Int)) (HK .u64 (Ct .u64 (rt:Int) (2:Int)) (1:Int)) (0:Int))) (KY (HK .u64 (Ct .u64 (rest:Int) (2:Int)) (two:Int)) (HK .u64 (Ct .u64 (rt:Int) (2:Int)) (1:Int)) (0:Int)) (Bg ((i:Int)+(1:Int)))
     else root.Hx.L0 N F (m:Int) (Ct .u64 (rt:Int) (1:Int)) (HK .u64 (Ct .u64 ((0:Nat):Int) (2:Int)) (DU .u64 (rest:Int) (62:Int))) (HK .u64 (Ct .u64 (rest:Int) (2:Int)) (two:Int)) (Bg ((i:Int)+(1:Int)))
    else xY):=by
    by_cases h32:i<32
    ·refine⟨m / 2^(62-2*i)%4,zu _ (by decide),AfA h32,?_⟩;have ht:=(AeH (m:=m) h32).resolve_right (by omega);have hq:m / 2^(62-2*i)%2^64%4=m / 2^(62-2*i)%4:=by omega
     rw[hq] at ht;rw[root.Hx.B8,B9,Ac (show(i:Int)<64 by omega),Aa,B9,Ac (show(i:Int)<32 by omega),Aa,ht,Bz (x:=(2:Int)*(i:Int)) (by omega) (by omega),Bz (x:=(62:Int)-2*(i:Int)) (by omega) (by omega),Ac (show(0:Int)<=62-2*(i:Int) by omega),Aa]
    ·refine⟨0,by decide,by rw[Adm (by omega) (by omega),AQ],?_⟩;rw[root.Hx.B8,B9,Ac (show(i:Int)<64 by omega),Aa,B9,Ag (show ¬(i:Int)<32 by omega),Af];rfl
   obtain⟨s1,s2⟩:=AaV hP hr t4;have eA:=sh2 (n:=rest) t4;have eT:=sh2 (n:=rt) (t:=1) (by decide)
   have eB:HK .u64 (Ct .u64 ((0:Nat):Int) (2:Int)) (DU .u64 (rest:Int) (62:Int))=((rest / 2^62:Nat):Int):=by rw[show(62:Int)=((62:Nat):Int) from rfl,Q6 _ _ (by decide),sh2 (n:=0) (t:=rest / 2^62) (by omega)];congr 1; omega
   have eH:DU .u64 (rt:Int) (62:Int)=((rt / 2^62:Nat):Int):=by rw[show(62:Int)=((62:Nat):Int) from rfl,Q6 _ _ (by decide)]
   have eT':HK .u64 (Ct .u64 (rt:Int) (2:Int)) (1:Int)=((rt%2^62*4+1:Nat):Int):=eT;obtain⟨b1,b2,b3⟩:=AhT (A:=rest%2^62*4+two) (B:=rest / 2^62) (tl:=rt%2^62*4+1) (th:=rt / 2^62) (by omega) (by omega) (by omega) (by omega);rw[hcode,eA,eT',eB,eH,Ac (by rcases b1 with b | b<;>rw[b]<;>decide),Aa,Bz (by omega) (by omega)];by_cases hc:4*rt+1<=4*rest+two
   ·obtain⟨c1,hh,ll,c2,c3,c4,c5⟩:=b2 (by rw[glue,glue]; exact hc);obtain⟨d1,d2⟩:=s1 hc;rw[c1,Aa,c2,c3,AnG (by omega)];refine ih (i+1) F (2*rt+1) (4*rest+two-(4*rt+1)) (by omega) (by omega) (hP'.trans d1) d2 f1 hh ll ?_ c4;rw[c5,glue,glue]
   ·rw[b3 (by rw[glue,glue]; omega),Af,sh1 (by omega)];obtain⟨d1,d2⟩:=s2 (by omega);refine ih (i+1) F (2*rt) (4*rest+two) (by omega) (by omega) (hP'.trans d1) d2 f2 _ _ (glue _ _) ?_;clear hcode;omega
theorem root.Hx.Bn:Kq 211 root.Hx.Bt:=ED root.Hx.E Tryz.func211 .nil fun m hp=>by
 have hp:=Bv.1 hp;obtain⟨n,rfl⟩:∃n:Nat,m=n:=⟨m.toNat,by omega⟩
 refine⟨65,root.Hx.out [.i n],[],?_,Wk.Gr (.cons .int (.cons .bool .nil))⟩;rw[root.Hx.ev]
 have h0:OA n 0=0*0+0:=by unfold OA;rw[Nat.div_eq_of_lt];show n*18446744073709551616<340282366920938463463374607431768211456;omega
 exact AdC 65 (by omega) 64 0 65 0 0 rfl (by omega) h0 (AB 0) Nat.one_pos 0 0 rfl (Nat.pow_pos (by decide))
theorem TQ{b:Nat}(h:By b≠0):EO (By b:Int)=((By b).log2:Int)+1:=by unfold EO;rw[Ay (by omega),Ad]
theorem AcT{w:Nat}{E:Int}{s:Bool}(hw:2^62<=w)(n:Nat)(h:IY n=w)(hs:s=decide (w*w≠n)):
 Ga x5 (w / 2) (E+2) (cond s xZ (decide (w%2=1)))=(Cs (Ev n) E,flagsOf (Ev n) E):=by
 have e1:Ev n / 2^2=w / 2:=by unfold Ev; rw[h]; split<;>omega
 have e2:(cond s xZ (decide (w%2=1)))=decide (Ev n%2^2≠0):=by
  rw[hs];unfold Ev;rw[h];by_cases h0:w*w=n
  ·rw[Ag (by omega),Af,Az h0,decide_eq_decide]; omega
  ·rw[Ac h0,Aa,Ay h0]; symm; exact Ac (by omega)
 rw[<- e1];have:=Qf x5 (V:=Ev n) (k:=2) (E:=E) (e:=E+2) rfl e2 (by rw[e1]; omega) (by left; rw[e1]; omega);rw[FQ] at this;exact this
theorem root.Sqrt.num{b:Nat}(hb:b<2^64)(h4:Bk b≠4)(h:¬(Bk b=0\/b=E8))(hn:Cd b=x5){z:Nat}(hz:2^60<=By b*2^z)(hz2:By b*2^z<2^62)(he:(B7 b-(z:Int))%2=0)(z60:z<=62):
 root.Sqrt.L0 2 2 (B7 b-(z:Int)) (Ql ((By b*2^z:Nat):Int)) (!(Qm ((By b*2^z:Nat):Int)))=xQ (.CR [.int .u64 (DQ (b:Int)),.int .u8 (Ni (b:Int))]):=by
 have hE:=CO b;have hM:=EX b
 have h3:Bk b≠3:=fun h3=>by
  refine h (.inr ?_);have hpn:Cd b=x5:=hn;unfold Cd at hpn;have hlt:b<2^63:=by simpa using hpn
  unfold Bk at h3;have hp:=IC b;unfold DR at h3;unfold Dn at h3;unfold E8;split at h3
  ·split at h3
   ·omega
   ·omega
  ·split at h3
   ·omega
   ·split at h3<;>omega
 have hm:By b≠0:=fun h0=>h (.inl ((Da h3 h4).1 h0))
 have eN:By b*2^z*2^64=By b*2^(z+64):=by rw[A7,<- A5]
 have i1:2^62<=IY (By b*2^z*2^64):=Qs (t:=62) (by omega);have i2:=(J8 (By b*2^z*2^64)).1
 have i3:IY (By b*2^z*2^64)<2^63:=by refine Yd (AK i2 ?_);show _<9223372036854775808*9223372036854775808;omega
 have r1:Ql ((By b*2^z:Nat):Int)=(IY (By b*2^z*2^64):Int):=by unfold Ql; rw[Ad]
 have r2:(!(Qm ((By b*2^z:Nat):Int)))=decide (IY (By b*2^z*2^64)*IY (By b*2^z*2^64)≠By b*2^z*2^64):=by unfold Qm; rw[Ad,<- decide_not]
 obtain⟨k1,k2⟩:=PU hm;have same:=Adf (m:=By b) (k:=z+64) (l:=EJ b) (E:=(B7 b-(z:Int)) / 2-33) (F:=(B7 b-(EJ b:Int)) / 2-1) (by rw[<- eN]; omega) k1 (by omega);rw[<- eN] at same;have near:=AcT (E:=(B7 b-(z:Int)) / 2-33) i1 _ rfl r2;rw[same.1,same.2] at near;have sq:E4 b=_:=Nh h4 h hn;rw[r1,r2];rw[r2] at near;generalize IY (By b*2^z*2^64)=w at *
 have w1:Eg (4611686018427387904:Int) (w:Int)=xZ:=by rw[E1]; exact Ac (by omega)
 have w2:DU .u64 (w:Int) (1:Int)=((w / 2:Nat):Int):=by rw[show(1:Int)=((1:Nat):Int) from rfl,Q6 _ _ (by decide)]
 have w3:((FZ .u64 (w:Int) (1:Int))==(1:Int))=decide (w%2=1):=by rw[show FZ .u64 (w:Int) (1:Int)=((w%2^1:Nat):Int) from H4 1 (by omega) (by decide),Ar,beq_iff_eq,Ai];omega
 have w4:Eg (4611686018427387904:Int) ((w / 2:Nat):Int)=x5:=by rw[E1]; exact Ag (by omega)
 have w5:Bg (Bg (zw (B7 b-(z:Int)+2) 2)-32)=(B7 b-(z:Int)) / 2-33+2:=by
  have:zw (B7 b-(z:Int)+2) 2=(B7 b-(z:Int)) / 2+1:=by rw[Int.tdiv_eq_ediv];split<;>omega
  rw[this,Bz (x:=(B7 b-(z:Int)) / 2+1) (by omega) (by omega),Bz (by omega) (by omega)];omega
 have w6:Bg (B7 b-(z:Int)+2)=B7 b-(z:Int)+2:=Bz (by omega) (by omega);generalize hs:decide (w*w≠By b*2^z*2^64)=s at *
 have pre:E5 ((w / 2:Nat):Int) ((B7 b-(z:Int)) / 2-33+2) (cond s xZ (decide (w%2=1)))=xZ:=Bv.2 ⟨by omega,by omega,by omega,by omega,fun _=>.inl (by omega)⟩;rw[show(2:Nat)=1+1 from rfl,root.Sqrt.B8,w1,Aa,w2,w3,w6,show(1:Nat)=0+1 from rfl,root.Sqrt.B8,w4,Af,w5,pre,Aa];unfold EM EL DQ Ni;rw[Ad,Ad,near,sq]
theorem root.Sqrt.Bn:Kq 176 root.Sqrt.Bt:=ED root.Sqrt.E Tryz.func176 (kc DH.CZ.Bn (kc root.Hx.Bn (kc soft.Kind.Bn (kc soft.DI.Bn (kc soft.Fo.Bn (kc soft.Sign.Bn .nil)))))) fun a hp=>by
 obtain⟨b,rfl,hb⟩:=C9 (x:=a) hp;refine⟨2,root.Sqrt.out [.i b],[],?_,Wk.Gr (.cons .int (.cons .int .nil))⟩;show _=xQ (DV.CR [.int .u64 (DQ (b:Int)),.int .u8 (Ni (b:Int))]);have hk:BH (b:Int)=(Bk b:Int):=rfl;rw[root.Sqrt.ev,CP hb,Aa,Aa,Aa,Aa,hk];by_cases h4:Bk b=4
 ·rw[h4,show(((4:Nat):Int)==(4:Int))=xZ from rfl,Aa];unfold DQ Ni;rw[Ad,Tb h4]; rfl
 have k4:(((Bk b:Nat):Int)==(4:Int))=x5:=by rw[AD]; omega
 rw[k4,Af];by_cases h0:Bk b=0
 ·rw[h0,show(((0:Nat):Int)==(0:Int))=xZ from rfl,Aa];unfold DQ Ni;rw[Ad,Jg h4 (.inl h0)]; rfl
 have k0:(((Bk b:Nat):Int)==(0:Int))=x5:=by rw[AD]; omega
 rw[k0,Af];by_cases hi:b=E8
 ·rw[show(((b:Nat):Int)==(9218868437227405312:Int))=xZ by rw[hi]; rfl,Aa];unfold DQ Ni;rw[Ad,Jg h4 (.inr hi)]; rfl
 have ki:(((b:Nat):Int)==(9218868437227405312:Int))=x5:=by rw[AD]; intro hh; refine hi (show b=9218868437227405312 from ?_); omega
 rw[ki,Af];have hh:¬(Bk b=0\/b=E8):=by rintro (h | h); exact h0 h; exact hi h
 have hneg:DX (b:Int)=Cd b:=rfl;rw[hneg];cases hn:Cd b with
 | true =>rw[Aa];unfold DQ Ni;rw[Ad,Yc h4 hh hn]; rfl
 | false =>
   rw[Af]
   have hm:By b≠0:=fun hz=>by
    have h3:Bk b≠3:=fun h3=>by
     rcases Il b with ⟨p,_,_⟩ | ⟨_,_,q⟩ | ⟨_,q,_⟩
     ·unfold By at hz;rw[Ay (by omega)] at hz;omega
     ·omega
     ·exact q h3
    exact hh (.inl ((Da h3 h4).1 hz))
   have hM:=EX b;have hE:=CO b;have hl:(By b).log2<=52:=by have:=(AZ hm).2 (show By b<2^53 by omega); omega
   have e1:Cf (b:Int)=(By b:Int):=rfl;have e2:BT (b:Int)=B7 b:=rfl
   have l1:∀z:Nat,(By b).log2+z=60\/(By b).log2+z=61->2^60<=By b*2^z/\By b*2^z<2^62:=by
    intro z hz;have hlz:=KD (By b) z hm;have hne:By b*2^z≠0:=Ii hm;constructor
    ·rw[<- zO hne]; omega
    ·rw[<- AZ hne]; omega
   have ez:Bg ((64-(((By b).log2:Int)+1))-(2:Int))=((61-(By b).log2:Nat):Int):=by rw[Bz (by omega) (by omega)]; omega
   have ez':Bg (((61-(By b).log2:Nat):Int)-(1:Int))=((60-(By b).log2:Nat):Int):=by rw[Bz (by omega) (by omega)]; omega
   rw[e1,e2,CP (n:=By b) (by omega),Aa,TQ hm,ez,ez',Bz (x:=B7 b-((61-(By b).log2:Nat):Int)) (by omega) (by omega),Bz (x:=B7 b-((60-(By b).log2:Nat):Int)) (by omega) (by omega)];by_cases hp2:(B7 b-((61-(By b).log2:Nat):Int))%2=0
   ·have t0:(zD (B7 b-((61-(By b).log2:Nat):Int)) (2:Int) !=(0:Int))=x5:=by rw[bne_eq_false_iff_eq]; exact Int.tmod_eq_zero_of_dvd (Int.dvd_of_emod_eq_zero hp2)
    obtain⟨m1,m2⟩:=l1 (61-(By b).log2) (by omega);rw[t0,Af,Ac (by omega),Aa,F3 _ _ (by omega),Ao (by omega),Bv.2 (by omega),Aa];exact root.Sqrt.num hb h4 hh hn m1 m2 hp2 (by omega)
   ·have t0:(zD (B7 b-((61-(By b).log2:Nat):Int)) (2:Int) !=(0:Int))=xZ:=by rw[bne_iff_ne]; intro hz; exact hp2 (Int.emod_eq_zero_of_dvd (Int.dvd_of_tmod_eq_zero hz))
    obtain⟨m1,m2⟩:=l1 (60-(By b).log2) (by omega);rw[t0,Aa,Ac (by omega),Aa,F3 _ _ (by omega),Ao (by omega),Bv.2 (by omega),Aa];exact root.Sqrt.num hb h4 hh hn m1 m2 (by omega) (by omega)
theorem Bs.Sqrt.Bn:Kq 139 Bs.Sqrt.Bt:=ED Bs.Sqrt.E Tryz.func139 (kc root.Sqrt.Bn .nil) fun a hp=>by have hp:Br a=xZ:=hp;refine⟨0,Bs.Sqrt.out [.i a],[],?_,.int⟩;rw[Bs.Sqrt.ev,hp]; rfl
theorem compare.MZ.Bn:Kq 123 compare.MZ.Bt:=ED compare.MZ.E Tryz.func123 (kc DH.IS.Bn (kc soft.Finite.Bn (kc soft.Kind.Bn (kc soft.Fo.Bn .nil)))) fun a hp=>by
 obtain⟨b,rfl,hb⟩:=C9 (x:=a) hp;refine⟨0,compare.MZ.out [.i b],[],?_,.int⟩;show _=xQ (DV.int .i64 (BQ (b:Int)));have hk:BH (b:Int)=(Bk b:Int):=rfl;have hf:D5 (b:Int)=Hg b:=rfl;have hE:=CO b;have hM:=EX b;rw[compare.MZ.ev,CP hb,Aa,AV,Aa,hk,hf];unfold BQ;rw[Ad];unfold E2;cases hfin:Hg b with
 | false=>rfl
 | true =>
   by_cases h0:Bk b=0
   ·rw[h0]; rfl
   ·have k0:(((Bk b:Nat):Int)==(0:Int))=x5:=by rw[AD]; omega
    have hm:By b≠0:=fun hz=>by obtain⟨f4,f3⟩:=HV hfin;exact h0 ((Da f3 f4).1 hz)
    have hl:(By b).log2<=52:=by have:=(AZ hm).2 (show By b<2^53 by omega); omega
    have e1:Cf (b:Int)=(By b:Int):=rfl;have e2:BT (b:Int)=B7 b:=rfl;rw[k0,Az ⟨rfl,h0⟩,AH,Bool.false_or,Af,Aa,e1,e2,CP (n:=By b) (by omega),Aa,TQ hm,Bz (x:=((By b).log2:Int)+1-1) (by omega) (by omega),Bz (by omega) (by omega)];congr 2; omega
theorem Afi{x:Bf}{i:Nat}(h:i<x.length)(k s:Int):FX k s (x.drop i)=FX k (DM s (C0 (BX (x.getD i 0) k) (BX (x.getD i 0) k))) (x.drop (i+1)):=by rw[Js h,FX]
theorem Adt(N:Nat){x:Bf}(hx:Cq x=xZ)(hl:x.length<=1000):∀(k i F:Nat) (s:Int),i+k=x.length->k<F->Br s=xZ ->
 Bs.Norm.L0 N F x s (i:Int)=xQ (.CR [.int .u64 (BX (DQ (FX (-BQ (BK x)) s (x.drop i))) (BQ (BK x))),.int .i64 0]):=by
 obtain⟨_,hu⟩:=IE hx;have he:=Xn (BK x);intro k
 induction k with
 | zero =>
   intro i F s hi hF hs;obtain⟨F,rfl⟩:∃G,F=G+1:=⟨F-1,by omega⟩
   rw[Bs.Norm.B8,B9,Ag (by omega),Af,hs,Aa,show Ew (DQ s) (BQ (BK x))=xZ from Bi.2 ⟨Su hs,Bv.2 (by omega)⟩,Aa,Ap (by omega)];rfl
 | succ k ih =>
   intro i F s hi hF hs;obtain⟨F,rfl⟩:∃G,F=G+1:=⟨F-1,by omega⟩
   rw[Bs.Norm.B8,B9,Ac (show(i:Int)<(x.length:Int) by omega),Aa,Ac (show(0:Int)<=(i:Int) by omega),Ah,Aa,Ad,Bz (x:=0-BQ (BK x)) (by omega) (by omega),show(0:Int)-BQ (BK x)=-BQ (BK x) by omega,
    show Ew (wt x i 0) (-BQ (BK x))=xZ from Bi.2 ⟨hu i (by omega),Bv.2 (by omega)⟩,Aa,Gi (hu i (by omega)),Ah,Aa,hs,F8,Ah,Aa,Afi (by omega),Bz (by omega) (by omega)]
   exact ih (i+1) F _ (by omega) (by omega) (P5 hs (F8 _ _))
theorem Bs.Norm.Bn:Kq 67 Bs.Norm.Bt:=ED Bs.Norm.E Tryz.func67 (kc compare.MZ.Bn (kc soft.Finite.Bn (kc Bs.Add.Bn (kc Bs.DT.Bn (kc Bs.Mul.Bn (kc Bs.CM.Bn (kc Bs.Sqrt.Bn .nil))))))) fun x hp=>by
 obtain⟨hx,hl⟩:=Bi.1 (show(Cq x&&Ch (wj x<=64))=xZ from hp);have hl:=Bv.1 hl;refine⟨65,Bs.Norm.out [.l x],[],?_,Wk.Gr (.cons .int (.cons .int .nil))⟩;show _=xQ (DV.CR [.int .u64 (Cb x),.int .i64 0]);rw[Bs.Norm.ev,B9,Ag (by omega),Af,hx,Aa,Rv,AV,Aa];unfold Cb;by_cases h:BK x=0\/D5 (BK x)=x5
 ·have:((BK x==(0:Int))||(!(D5 (BK x))))=xZ:=by
   rcases h with h | h
   ·rw[h]; rfl
   ·rw[h,Bc,AV]
  rw[this,Aa,Az h]
 ·have:((BK x==(0:Int))||(!(D5 (BK x))))=x5:=by
   rw[yF,AD,Bool.not_eq_false'];refine⟨fun h0=>h (.inl h0),?_⟩;cases hf:D5 (BK x) with
   | true=>rfl
   | false=>exact absurd (.inr hf) h
  rw[this,Af,Aa,Ay h];exact Adt 65 hx (by omega) x.length 0 65 0 (by omega) (by omega) JU
end Go.Proofs.S1
namespace Go.Ck
open Go.Den
end Go.Ck
namespace Go.Proofs.S1
open Go Go.Den Go.Ck Go.Proofs
set_option maxRecDepth 100000
open Go Go.Den Go.Ck Go.Proofs
theorem Ajq(x:Nat):Ea x<2^64:=y7 (QD x) (by decide)
theorem Agn(x:Nat):Bk (Ea x)=Bk x:=by
 have e1:DR (Ea x)=DR x:=by unfold DR Ea; omega
 have e2:Dn (Ea x)=Dn x:=by unfold Dn Ea; omega
 unfold Bk;rw[e1,e2]
theorem Aha(x y:Int):(compare x y=.lt↔x<y)/\(compare x y=.gt↔y<x)/\(compare x y=.eq↔x=y):=by
 rcases x9 x y with h | h | h
 ·rw[Aba h]; refine⟨by simp[h],?_,?_⟩<;>simp<;>omega
 ·subst h;have:compare x x=.eq:=by simp[compare,compareOfLessAndEq]
  rw[this]; simp
 ·rw[Abb h]; refine⟨?_,by simp[h],?_⟩<;>simp<;>omega
theorem Q4{x:Nat}(hx:x<2^64)(h4:Bk x≠4):(Ieee.double.order (Ea x) 9218868437227405311==xQ .gt)=decide (Bk x=3):=by
 have k1:Bk 9218868437227405311≠4:=by decide +kernel
 have k2:GG 9218868437227405311=9218868437227405311:=by decide +kernel
 have ka:GG (Ea x)=((Ea x:Nat):Int):=by have:=TV x5 (r:=Ea x) (QD x);exact this
 rw[Adn (Ajq x) (by decide) (by rw[Agn]; exact h4) k1,k2,ka];have hl:=Ago h4;rw[Ar,beq_iff_eq,Ae,(Aha _ _).2.1,Ai];constructor
 ·intro h;refine Decidable.byContradiction fun h3=>?_
  have:=SB h3 h4;rw[EB] at this;unfold Ea at h;omega
 ·intro h3;have:=Ox h3;rw[EB] at this;unfold Ea;omega
set_option maxRecDepth 100000
def K6.MZ.E:=E0 [(109,B4.XH.Bt),(114,Ca.Finite.Bt),(58,Ca.Kind.Bt),(38,Ca.Value.Bt)]
theorem K6.MZ.ev(N:Nat)(a:Int):Cz K6.MZ.E N f92 (Bw f92) [.int .u64 a]=cond (Br a) (bif ((!(D5 a))||(N4 a)) then cond ((!(D5 a))||((BH a)==(0:Int))) (xQ (.int .i64 0)) (bif (Br a) then cond (I8 (BG (mD (G3 a))) (Bo (mD (G3 a)))&&MQ (eD (G3 a) (BT a))) (xQ (.int .i64 (Bg ((Hi (wv (BG (mD (G3 a))) (Bo (mD (G3 a)))) (eD (G3 a) (BT a)))-1)))) xY else xY) else xY) xY :=Et (EY (B5 (SU (D5 a)) (CQ (AcI _ _) (B5 (OZ (D5 a)) (B5 (U7 (D5 a)) (CQ (AjQ _ _) rfl rfl))) rfl)) rfl)
theorem Aip(b:Nat):RF (BG (mD (G3 (b:Int)))) (Bo (mD (G3 (b:Int))))=xZ/\I8 (BG (mD (G3 (b:Int)))) (Bo (mD (G3 (b:Int))))=xZ/\MQ (eD (G3 (b:Int)) (B7 b))=xZ:=by obtain⟨v1,v2,v3⟩:=AjE b;have hl:DC (mD (G3 (b:Int))).natAbs<3:=AK (Kt (Rh _)) v1;exact⟨Aav (by omega),GY (by omega),Bv.2 ⟨v2,v3⟩⟩
theorem K6.MZ.Bn:Kq 92 K6.MZ.Bt:=ED K6.MZ.E Tryz.func92 (kc B4.XH.Bn (kc Ca.Finite.Bn (kc Ca.Kind.Bn (kc Ca.Value.Bn .nil)))) fun a hp=>by
 obtain⟨b,rfl,hb⟩:=C9 (x:=a) hp;refine⟨0,.int .i64 (BQ (b:Int)),[],?_,.int⟩;have kk:BH (b:Int)=(Bk b:Int):=rfl;have hf:D5 (b:Int)=Hg b:=rfl;have pe:BT (b:Int)=B7 b:=rfl;obtain⟨_,o2,o3⟩:=Aip b;have hE:=CO b;have hM:=EX b;rw[K6.MZ.ev,CP hb,Aa,N3,AV,Aa,kk,hf,pe,o2,o3,EV,Ah,Aa,Aa];unfold BQ;rw[Ad];unfold E2;cases hfin:Hg b with
 | false=>rfl
 | true =>
   by_cases h0:Bk b=0
   ·rw[h0]; rfl
   ·have k0:(((Bk b:Nat):Int)==(0:Int))=x5:=by rw[AD]; omega
    obtain⟨f4,f3⟩:=HV hfin;have hm:By b≠0:=fun hz=>h0 ((Da f3 f4).1 hz)
    have hv:G3 (b:Int)≠0:=by intro h;have:=Wm b;rw[h] at this;exact hm this.symm
    have hl:(By b).log2<=52:=by have:=(AZ hm).2 (show By b<2^53 by omega); omega
    have ht:Hi (mD (G3 (b:Int))) (eD (G3 (b:Int)) (B7 b))=((By b).log2:Int)+1+B7 b:=by
     unfold Hi TP;rw[Ay (fun h=>hv (Li.1 h)),Ay (fun h=>hv (Li.1 h))];unfold eD;rw[Ay hv];have hs:=S9 (G3 (b:Int))
     have ha:By b=(mD (G3 (b:Int))).natAbs*2^NZ (G3 (b:Int)).natAbs:=by have e:=congrArg Int.natAbs hs;rw[yt,zV] at e;rw[<- Wm b];exact e
     have hmd:(mD (G3 (b:Int))).natAbs≠0:=fun h=>hv (Li.1 (Int.natAbs_eq_zero.1 h))
     have hlog:=KD (mD (G3 (b:Int))).natAbs (NZ (G3 (b:Int)).natAbs) hmd;rw[<- ha] at hlog;rw[hlog];omega
    rw[k0,Az ⟨rfl,h0⟩,ht,Bz (by omega) (by omega)];show xQ (DV.int .i64 _)=_;congr 2; omega
def BC.Ed.hint:Nat->Option BN
 | 0=>xQ { Df:=[5,6,7],Cg:=[],Cr:=[] }
 | _=>xY
def BC.Ed.E:=D6 (Db [(165,soft.Kind.Bt)]) (fun _=>x5) BC.Ed.hint (fun _=>xY)
section
variable(N M:Nat)(x:Bf)(p7:Int)
def BC.Ed.L0:Option DV:=C6 BC.Ed.E N f225 (Bw f225) [1,0,1,0] [] M ⟨Fz 15 [(5,.Bj .arg .u64 x),(6,.int .i64 (wj x:Int)),(7,.int .i64 p7)],[]⟩
theorem BC.Ed.B8:BC.Ed.L0 N (M+1) x p7=cond (BI p7 (wj x:Int)) (bif ((decide (0<=p7))&&(decide (p7<(wj x:Int)))) then cond (Br (wt x (wQ p7) 0)) (bif ((BH (wt x (wQ p7) 0)) !=(0:Int)) then xQ (.bool x5) else BC.Ed.L0 N M x (Bg (p7+1))) xY else xY) (xQ (.bool xZ)):=by kernel_rfl
theorem BC.Ed.ev:Cz BC.Ed.E N f225 (Bw f225) [.Bj .arg .u64 x]=
 BC.Ed.L0 N N x 0:=by kernel_rfl
end
def BC.lead.hint:Nat->Option BN
 | 0=>xQ { Df:=[5,6,7],Cg:=[],Cr:=[] }
 | _=>xY
def BC.lead.E:=D6 (Db [(165,soft.Kind.Bt)]) (fun _=>x5) BC.lead.hint (fun _=>xY)
section
variable(N M:Nat)(x:Bf)(p7:Int)
def BC.lead.L0:Option DV:=C6 BC.lead.E N f229 (Bw f229) [1,0,1,0] [] M ⟨Fz 16 [(5,.Bj .arg .u64 x),(6,.int .i64 (wj x:Int)),(7,.int .i64 p7)],[]⟩
theorem BC.lead.B8:BC.lead.L0 N (M+1) x p7=cond (BI p7 (wj x:Int)) (bif ((decide (0<=p7))&&(decide (p7<(wj x:Int)))) then cond (Br (wt x (wQ p7) 0)) (bif ((BH (wt x (wQ p7) 0)) !=(0:Int)) then xQ (.int .u64 (wt x (wQ p7) 0)) else BC.lead.L0 N M x (Bg (p7+1))) xY else xY) (xQ (.int .u64 0)):=by kernel_rfl
theorem BC.lead.ev:Cz BC.lead.E N f229 (Bw f229) [.Bj .arg .u64 x]=
 BC.lead.L0 N N x 0:=by kernel_rfl
end
def BC.CG.hint:Nat->Option BN
 | 0=>xQ { Df:=[1,5,8,9,10],Cg:=[(0,5,100005,.Bj 43 .u64 [])],Cr:=[] }
 | _=>xY
def BC.CG.E:=D6 (Db [(79,Bs.CM.Bt)]) (fun _=>x5) BC.CG.hint (fun _=>xY)
section
variable(N M:Nat)(x:Bf)(k p10:Int)(p5:Bf)
def BC.CG.L0:Option DV:=C6 BC.CG.E N f228 (Bw f228) [1,1,0,1,0] [] M ⟨Fz 22 [(1,.int .i64 k),(5,.Dh 100005),(8,.Bj .arg .u64 x),(9,.int .i64 (wj x:Int)),(10,.int .i64 p10)],[(100005,x5,.Bj 43 .u64 p5)]⟩
theorem BC.CG.B8:BC.CG.L0 N (M+1) x k p10 p5=cond (BI p10 (wj x:Int)) (bif ((decide (0<=p10))&&(decide (p10<(wj x:Int)))) then cond (Ew (wt x (wQ p10) 0) k) (bif (decide ((wj p5)+1<=G2)) then BC.CG.L0 N M x k (Bg (p10+1)) (p5++[(BX (wt x (wQ p10) 0) k)]) else xY) xY else xY) (xQ (.Bj (.own 100005 43) .u64 p5)):=by kernel_rfl
theorem BC.CG.ev:Cz BC.CG.E N f228 (Bw f228) [.Bj .arg .u64 x,.int .i64 k]=
 BC.CG.L0 N N x k 0 []:=by kernel_rfl
end
def BC.HH.E:=E0 []
theorem BC.HH.ev(N:Nat)(i:Int):Cz BC.HH.E N f227 (Bw f227) [.int .i64 i]=xQ (.int .u64 0):=by kernel_rfl
def BC.HG.E:=E0 [(82,Bs.Div.Bt)]
theorem BC.HG.ev(N:Nat)(i:Int)(y:Bf)(d:Int):Cz BC.HG.E N f230 (Bw f230) [.int .i64 i,.CS [.Bj .arg .u64 y],.CS [.int .u64 d]]=cond ((decide (0<=i))&&(decide (i<(wj y:Int)))) (bif (Br (wt y (wQ i) 0)&&Br d) then xQ (.int .u64 (Fl (wt y (wQ i) 0) d)) else xY) xY :=Et (CQ (IW _ _) (CQ (CF _) rfl rfl) rfl)
def BC.row.Zero.hint:Nat->Option BN
 | 0=>xQ { Df:=[0,1,5,6],Cg:=[(0,5,100005,.Bj 43 .u64 [])],Cr:=[] }
 | _=>xY
def BC.row.Zero.E:=D6 (Db [(227,BC.HH.Bt)]) (fun _=>x5) BC.row.Zero.hint (fun _=>xY)
section
variable(N M:Nat)(n p6:Int)(p5:Bf)
def BC.row.Zero.L0:Option DV:=C6 BC.row.Zero.E N f226 (Bw f226) [1,1,0,1,0] [] M ⟨Fz 23 [(0,.int .i64 n),(1,.fn 227 [] []),(5,.Dh 100005),(6,.int .i64 p6)],[(100005,x5,.Bj 43 .u64 p5)]⟩
theorem BC.row.Zero.B8:BC.row.Zero.L0 N (M+1) n p6 p5=cond (BI p6 n) (bif (decide ((wj p5)+1<=G2)) then BC.row.Zero.L0 N M n (Bg (p6+1)) (p5++[(0:Int)]) else xY) (bif (((decide ((0:Int)<=n))&&(decide (n<=n)))&&((decide ((0:Int)<=n))&&(decide (n<=(wj p5:Int))))) then xQ (.Bj .BE .u64 (zL (wQ (n-0)) (zN 0 p5))) else xY) :=Et (EY rfl (CQ (AjJ _ _ _) rfl rfl))
theorem BC.row.Zero.ev:Cz BC.row.Zero.E N f226 (Bw f226) [.int .i64 n,.fn 227 [] []]=
 BC.row.Zero.L0 N N n 1 [(4607182418800017408:Int)]:=by kernel_rfl
end
def BC.row.Div.hint:Nat->Option BN
 | 0=>xQ { Df:=[0,1,5,6],Cg:=[(0,5,100005,.Bj 43 .u64 [])],Cr:=[] }
 | _=>xY
def BC.row.Div.E:=D6 (Db [(230,BC.HG.Bt)]) (fun _=>x5) BC.row.Div.hint (fun _=>xY)
section
variable(N M:Nat)(n:Int)(y:Bf)(d p6:Int)(p5:Bf)
def BC.row.Div.L0:Option DV:=C6 BC.row.Div.E N f226 (Bw f226) [1,1,0,1,0] [] M ⟨Fz 23 [(0,.int .i64 n),(1,.fn 230 [] [.CS [.Bj .arg .u64 y],.CS [.int .u64 d]]),(5,.Dh 100005),(6,.int .i64 p6)],[(100005,x5,.Bj 43 .u64 p5)]⟩
theorem BC.row.Div.B8:BC.row.Div.L0 N (M+1) n y d p6 p5=cond (BI p6 n) (bif ((Ch (0<=p6/\p6<wj y)&&Bp y)&&Br d) then cond (decide ((wj p5)+1<=G2)) (BC.row.Div.L0 N M n y d (Bg (p6+1)) (p5++[(Fl (wt y (wQ p6) 0) d)])) xY else xY) (bif (((decide ((0:Int)<=n))&&(decide (n<=n)))&&((decide ((0:Int)<=n))&&(decide (n<=(wj p5:Int))))) then xQ (.Bj .BE .u64 (zL (wQ (n-0)) (zN 0 p5))) else xY) :=Et (EY rfl (CQ (AjJ _ _ _) rfl rfl))
theorem BC.row.Div.ev:Cz BC.row.Div.E N f226 (Bw f226) [.int .i64 n,.fn 230 [] [.CS [.Bj .arg .u64 y],.CS [.int .u64 d]]]=
 BC.row.Div.L0 N N n y d 1 [(4607182418800017408:Int)]:=by kernel_rfl
end
def BC.Dj.E:=E0 [(123,compare.MZ.Bt),(229,BC.lead.Bt),(225,BC.Ed.Bt),(226,(AkR [.i .i64,.fn 227 []] BC.row.Zero.Bt BC.row.Div.Bt)),(228,BC.CG.Bt),(136,soft.Finite.Bt),(81,soft.EZ.Bt),(181,soft.Sign.Bt),(124,Bs.DT.Bt),(82,Bs.Div.Bt),(66,Bs.Finite.Bt),(67,Bs.Norm.Bt),(79,Bs.CM.Bt),(201,Bs.Sub.Bt)]
theorem BC.Dj.ev(N:Nat)(x:Bf):Cz BC.Dj.E N f200 (Bw f200) [.Bj .arg .u64 x]=cond (((wj x:Int)==(0:Int))||(BI 64 (wj x:Int))) (some (.CR [.nil,.int .u64 0,.int .u64 0,.int .i64 3])) (bif (Cq x) then cond (!(DA x)) (some (.CR [.nil,.int .u64 0,.int .u64 0,.int .i64 4])) (bif (decide ((1:Int)<=(wj x:Int))) then cond (Cq (zN 1 x)) (bif (Fi (zN 1 x)) then cond (Ch (1<=(wj x:Int)/\(wj x:Int)<=64)) (bif (decide ((0:Int)<(wj x:Int))) then some (.CR [.Bj .BE .u64 (GX (wQ (wj x:Int)) (fun _=>0)),.int .u64 0,.int .u64 (wt x 0 0),.int .i64 0]) else xY) xY else bif (Cq x) then cond (Br (BK x)) (bif (Cq x&&Ch (wj x<=1000/\-2300<=(Bg (0-(BQ (BK x))))/\(Bg (0-(BQ (BK x))))<=2300)) then cond (Cq (B6 x (Bg (0-(BQ (BK x)))))&&Ch (wj (B6 x (Bg (0-(BQ (BK x)))))<=64)) (bif (Cq x) then cond (Br (Lk x)) (bif (!(DX (Lk x))) then cond (Br (Cb (B6 x (Bg (0-(BQ (BK x))))))) (bif (Ew (C1 (Cb (B6 x (Bg (0-(BQ (BK x))))))) (BQ (BK x))) then cond (Br (BX (C1 (Cb (B6 x (Bg (0-(BQ (BK x))))))) (BQ (BK x)))) (bif (!(D5 (BX (C1 (Cb (B6 x (Bg (0-(BQ (BK x))))))) (BQ (BK x))))) then xQ (.CR [.nil,.int .u64 0,.int .u64 0,.int .i64 2]) else bif (decide ((0:Int)<(wj (B6 x (Bg (0-(BQ (BK x))))):Int))) then cond (Br (wt (B6 x (Bg (0-(BQ (BK x))))) 0 0)&&Br (C1 (Cb (B6 x (Bg (0-(BQ (BK x)))))))) (bif ((Ch (1<=(wj (B6 x (Bg (0-(BQ (BK x))))):Int)/\(wj (B6 x (Bg (0-(BQ (BK x))))):Int)<=64/\(wj (B6 x (Bg (0-(BQ (BK x))))):Int)=wj (B6 x (Bg (0-(BQ (BK x))))))&&Bp (B6 x (Bg (0-(BQ (BK x))))))&&Br (Ej (wt (B6 x (Bg (0-(BQ (BK x))))) 0 0) (C1 (Cb (B6 x (Bg (0-(BQ (BK x))))))))) then cond (decide ((0:Int)<(wj (B6 x (Bg (0-(BQ (BK x))))):Int))) (bif (Br (C1 (Cb (B6 x (Bg (0-(BQ (BK x)))))))&&Br (wt (B6 x (Bg (0-(BQ (BK x))))) 0 0)) then cond (Br (Ej (C1 (Cb (B6 x (Bg (0-(BQ (BK x))))))) (wt (B6 x (Bg (0-(BQ (BK x))))) 0 0))&&Br (C1 (Cb (B6 x (Bg (0-(BQ (BK x)))))))) (xQ (.CR [.Bj .BE .u64 (GX (wQ (wj (B6 x (Bg (0-(BQ (BK x))))):Int)) (fun j=>Fl (wt (B6 x (Bg (0-(BQ (BK x))))) j 0) (Ej (wt (B6 x (Bg (0-(BQ (BK x))))) 0 0) (C1 (Cb (B6 x (Bg (0-(BQ (BK x)))))))))),.int .u64 (Fl (Ej (C1 (Cb (B6 x (Bg (0-(BQ (BK x))))))) (wt (B6 x (Bg (0-(BQ (BK x))))) 0 0)) (C1 (Cb (B6 x (Bg (0-(BQ (BK x)))))))),.int .u64 (BX (C1 (Cb (B6 x (Bg (0-(BQ (BK x))))))) (BQ (BK x))),.int .i64 0])) xY else xY) xY else xY) xY else xY) xY else xY) xY else bif (Ew (Cb (B6 x (Bg (0-(BQ (BK x)))))) (BQ (BK x))) then cond (Br (BX (Cb (B6 x (Bg (0-(BQ (BK x)))))) (BQ (BK x)))) (bif (!(D5 (BX (Cb (B6 x (Bg (0-(BQ (BK x)))))) (BQ (BK x))))) then xQ (.CR [.nil,.int .u64 0,.int .u64 0,.int .i64 2]) else bif (decide ((0:Int)<(wj (B6 x (Bg (0-(BQ (BK x))))):Int))) then cond (Br (wt (B6 x (Bg (0-(BQ (BK x))))) 0 0)&&Br (Cb (B6 x (Bg (0-(BQ (BK x))))))) (bif ((Ch (1<=(wj (B6 x (Bg (0-(BQ (BK x))))):Int)/\(wj (B6 x (Bg (0-(BQ (BK x))))):Int)<=64/\(wj (B6 x (Bg (0-(BQ (BK x))))):Int)=wj (B6 x (Bg (0-(BQ (BK x))))))&&Bp (B6 x (Bg (0-(BQ (BK x))))))&&Br (Ej (wt (B6 x (Bg (0-(BQ (BK x))))) 0 0) (Cb (B6 x (Bg (0-(BQ (BK x)))))))) then cond (decide ((0:Int)<(wj (B6 x (Bg (0-(BQ (BK x))))):Int))) (bif (Br (Cb (B6 x (Bg (0-(BQ (BK x))))))&&Br (wt (B6 x (Bg (0-(BQ (BK x))))) 0 0)) then cond (Br (Ej (Cb (B6 x (Bg (0-(BQ (BK x)))))) (wt (B6 x (Bg (0-(BQ (BK x))))) 0 0))&&Br (Cb (B6 x (Bg (0-(BQ (BK x))))))) (xQ (.CR [.Bj .BE .u64 (GX (wQ (wj (B6 x (Bg (0-(BQ (BK x))))):Int)) (fun j=>Fl (wt (B6 x (Bg (0-(BQ (BK x))))) j 0) (Ej (wt (B6 x (Bg (0-(BQ (BK x))))) 0 0) (Cb (B6 x (Bg (0-(BQ (BK x))))))))),.int .u64 (Fl (Ej (Cb (B6 x (Bg (0-(BQ (BK x)))))) (wt (B6 x (Bg (0-(BQ (BK x))))) 0 0)) (Cb (B6 x (Bg (0-(BQ (BK x))))))),.int .u64 (BX (Cb (B6 x (Bg (0-(BQ (BK x)))))) (BQ (BK x))),.int .i64 0])) xY else xY) xY else xY) xY else xY) xY else xY) xY else xY) xY else xY) xY else xY) xY else xY) else xY):=
 Et (B5 (U5 ((wj x:Int)==(0:Int))) (B5 (RW ((wj x:Int)==(0:Int))) (B5 (RW ((wj x:Int)==(0:Int))) (B5 (XT ((wj x:Int)==(0:Int))) (CQ (tt5 _ _) rfl (EY (EY rfl (CQ (Ans _) (EY (EY (CQ (CF _) (CQ (CF _) rfl rfl) rfl) rfl) rfl) rfl)) rfl))))))
def BC.Apply.hint:Nat->Option BN
 | 0=>xQ { Df:=[1,3,4,5,10,13,14],Cg:=[(14,2,114002,.Bj 43 .u64 [])],Cr:=[5,10,13] }
 | 2=>xQ { Df:=[1,3,4,5,10,13,14,18,90,91,92],Cg:=[(14,2,114002,.Bj 43 .u64 [])],Cr:=[5,10,13] }
 | _=>xY
def BC.Apply.E:=D6 (Db [(121,Bh.Check.Bt),(68,Bh.Ei.Bt),(134,Bs.P8.Bt),(138,Bs.Mul.Bt),(201,Bs.Sub.Bt)]) (fun _=>x5) BC.Apply.hint (fun _=>xY)
section
variable(N M0 M:Nat)(r c:Int)(l:Bf)(i k:Int)(v:Bf)(t p92:Int)(p2:Bf)(p14_1 p18:Int)(p90:Bf)(p91 p14:Int)(p2_1:Bf)
def BC.Apply.L0:Option DV:=C6 BC.Apply.E N f163 (Bw f163) [1,1,1,1,0,1,0] [] M ⟨Fz 118 [(1,.int .i64 i),(3,.Bj .arg .u64 v),(4,.int .u64 t),(5,.ptr 5 0 0),(10,.ptr 10 0 0),(13,.ptr 13 0 0),(14,.int .i64 p14)],[(5,x5,.box [.int .i64 r,.int .i64 c,.Bj .arg .u64 l]),(10,x5,.box [.int .i64 0,.int .i64 0,.nil]),(13,x5,.box [.int .i64 r,.int .i64 c,.Dh 114002]),(114002,x5,.Bj 43 .u64 p2_1)]⟩
def BC.Apply.L1:Option DV:=C6 BC.Apply.E N f163 (Bw f163) [1,1,1,1,0,1,0,0,1,0,0,1,1,1,1,0] [M0] M ⟨Fz 118 [(1,.int .i64 i),(3,.Bj .arg .u64 v),(4,.int .u64 t),(5,.ptr 5 0 0),(10,.ptr 10 0 0),(13,.ptr 13 0 0),(14,.int .i64 p14_1),(18,.int .u64 p18),(90,.Bj .BE .u64 p90),(91,.int .i64 p91),(92,.int .i64 p92)],[(5,x5,.box [.int .i64 r,.int .i64 c,.Bj .arg .u64 l]),(10,x5,.box [.int .i64 0,.int .i64 0,.nil]),(13,x5,.box [.int .i64 r,.int .i64 c,.Dh 114002]),(114002,x5,.Bj 43 .u64 p2)]⟩
theorem BC.Apply.B8:BC.Apply.L0 N (M+1) r c l i v t p14 p2_1=cond (BI p14 c) (bif (Ht r c l p14&&Ch (0<=i/\i<=r)) then cond (((decide ((0:Int)<=(wj v:Int)))&&(decide ((wj v:Int)<=(wj v:Int))))&&((decide ((0:Int)<=(wj v:Int)))&&(decide ((wj v:Int)<=(wj (Dm c l p14 i (wQ (r-i))):Int))))) (bif ((NI v (zL (wQ (wj v:Int)) (Dm c l p14 i (wQ (r-i))))&&Bp v)&&Bp (zL (wQ (wj v:Int)) (Dm c l p14 i (wQ (r-i))))) then cond (Br t&&Br (Fk v (zL (wQ (wj v:Int)) (Dm c l p14 i (wQ (r-i)))))) (BC.Apply.L1 N M N r c l i v t 0 p2_1 p14 (C0 t (Fk v (zL (wQ (wj v:Int)) (Dm c l p14 i (wQ (r-i)))))) (zL (wQ (wj v:Int)) (Dm c l p14 i (wQ (r-i)))) (wj (zL (wQ (wj v:Int)) (Dm c l p14 i (wQ (r-i)))):Int)) xY else xY) xY else xY) (xQ (.CR [.agg [.int .i64 r,.int .i64 c,.Bj (.own 114002 43) .u64 p2_1],.int .i64 0])) :=Et (EY (EY (CQ (AjJ _ _ _) rfl rfl) rfl) rfl)
theorem BC.Apply.CT:BC.Apply.L1 N M0 (M+1) r c l i v t p92 p2 p14_1 p18 p90 p91=cond (BI p92 p91) (bif ((decide (0<=p92))&&(decide (p92<(wj p90:Int)))) then cond ((decide (0<=p92))&&(decide (p92<(wj v:Int)))) (bif (Br p18&&Br (wt v (wQ p92) 0)) then cond (Br (wt p90 (wQ p92) 0)&&Br (C0 p18 (wt v (wQ p92) 0))) (bif ((decide (0<=(Bg ((Bg ((Bg (i+p92))*c))+p14_1))))&&(decide ((Bg ((Bg ((Bg (i+p92))*c))+p14_1))<(wj p2:Int)))) then cond (decide ((wQ (Bg ((Bg ((Bg (i+p92))*c))+p14_1)))<(wj p2))) (BC.Apply.L1 N M0 M r c l i v t (Bg (p92+1)) (zv p2 (wQ (Bg ((Bg ((Bg (i+p92))*c))+p14_1))) (Ej (wt p90 (wQ p92) 0) (C0 p18 (wt v (wQ p92) 0)))) p14_1 p18 p90 p91) xY else xY) xY else xY) xY else xY) (BC.Apply.L0 N M0 r c l i v t (Bg (p14_1+1)) p2) :=Et (EY (EY (CQ (IW _ _) (CQ (CF _) (CQ (CF _) (CQ (IW _ _) (CQ (CF _) rfl rfl) rfl) rfl) rfl) rfl) rfl) rfl)
theorem BC.Apply.ev:Cz BC.Apply.E N f163 (Bw f163) [.agg [.int .i64 r,.int .i64 c,.Bj .arg .u64 l],.int .i64 i,.int .i64 k,.Bj .arg .u64 v,.int .u64 t]=cond ((IL r c l) !=(0:Int)) (xQ (.CR [.agg [.int .i64 0,.int .i64 0,.nil],.int .i64 (IL r c l)])) (bif (((((BI i 0)||(BI r (wj v:Int)))||(BI (Bg (r-(wj v:Int))) i))||(BI k 0))||(BI c k)) then xQ (.CR [.agg [.int .i64 0,.int .i64 0,.nil],.int .i64 3]) else bif (decide (0+(wj l)<=G2)) then BC.Apply.L0 N N r c l i v t k ([]++l) else xY) :=Et (EY rfl (B5 (U5 (BI i 0)) (B5 (RW (BI i 0)) (B5 (U5 (BI i 0)) (B5 (RW (BI i 0)) (B5 (tt8 (BI i 0)) (B5 (XT (BI i 0)) (B5 (XS (BI i 0) (BI r (wj v:Int))) (B5 (XS (BI i 0) (BI r (wj v:Int))) (B5 (ZT (BI i 0) (BI r (wj v:Int))) (B5 (XS (BI i 0) (BI r (wj v:Int))) (B5 (ZT (BI i 0) (BI r (wj v:Int))) (B5 (AhI (BI i 0) (BI r (wj v:Int))) (B5 (AhI (BI i 0) (BI r (wj v:Int))) (B5 (AhM (BI i 0) (BI r (wj v:Int))) (B5 (AcF (BI i 0) (BI r (wj v:Int)) (BI (Bg (r-(wj v:Int))) i)) (B5 (AcG (BI i 0) (BI r (wj v:Int)) (BI (Bg (r-(wj v:Int))) i)) (B5 (AhN (BI i 0) (BI r (wj v:Int)) (BI (Bg (r-(wj v:Int))) i)) (B5 (AcH (BI i 0) (BI r (wj v:Int)) (BI (Bg (r-(wj v:Int))) i) (BI k 0)) (B5 (AcH (BI i 0) (BI r (wj v:Int)) (BI (Bg (r-(wj v:Int))) i) (BI k 0)) (B5 (AlH (BI i 0) (BI r (wj v:Int)) (BI (Bg (r-(wj v:Int))) i) (BI k 0)) (B5 (AjM (BI i 0) (BI r (wj v:Int)) (BI (Bg (r-(wj v:Int))) i) (BI k 0)) (B5 (AjN (BI i 0) (BI r (wj v:Int)) (BI (Bg (r-(wj v:Int))) i) (BI k 0)) (CQ (AlA _ _ _ _ _) rfl (CQ (CF _) rfl rfl)))))))))))))))))))))))))
end
theorem Acg(x:Int):((BH x) !=(0:Int))=!(decide (BH x=0)):=by rw[Ar]; simp
theorem WT(N:Nat){x:Bf}(hx:Cq x=xZ):∀(k i F:Nat),i+k=x.length->k<F->BC.Ed.L0 N F x (i:Int)=xQ (.bool (Fi (x.drop i))):=by
 obtain⟨hl,hu⟩:=IE hx;intro k
 induction k with
 | zero =>
   intro i F hi hF;obtain⟨F,rfl⟩:∃G,F=G+1:=⟨F-1,by omega⟩
   rw[BC.Ed.B8,B9,Ag (by omega),Af,Ap (by omega)]; rfl
 | succ k ih =>
   intro i F hi hF;obtain⟨F,rfl⟩:∃G,F=G+1:=⟨F-1,by omega⟩
   rw[BC.Ed.B8,B9,Ac (show(i:Int)<(x.length:Int) by omega),Aa,Ac (show(0:Int)<=(i:Int) by omega),Ah,Aa,Ad,hu i (by omega),Aa,Acg,Js (by omega)];unfold Fi;rw[yY];cases decide (BH (x.getD i 0)=0) with
   | false=>rfl
   | true =>rw[AH,Af,AW,Bz (by omega) (by omega)];exact ih (i+1) F (by omega) (by omega)
theorem BC.Ed.Bn:Kq 225 BC.Ed.Bt:=ED BC.Ed.E Tryz.func225 (kc soft.Kind.Bn .nil) fun x hp=>by refine⟨x.length+1,BC.Ed.out [.l x],[],?_,.bool⟩;rw[BC.Ed.ev];exact WT (x.length+1) hp x.length 0 (x.length+1) (by omega) (by omega)
theorem AdH(N:Nat){x:Bf}(hx:Cq x=xZ):∀(k i F:Nat),i+k=x.length->k<F->BC.lead.L0 N F x (i:Int)=xQ (.int .u64 (Lk (x.drop i))):=by
 obtain⟨hl,hu⟩:=IE hx;intro k
 induction k with
 | zero =>
   intro i F hi hF;obtain⟨F,rfl⟩:∃G,F=G+1:=⟨F-1,by omega⟩
   rw[BC.lead.B8,B9,Ag (by omega),Af,Ap (by omega)]; rfl
 | succ k ih =>
   intro i F hi hF;obtain⟨F,rfl⟩:∃G,F=G+1:=⟨F-1,by omega⟩
   rw[BC.lead.B8,B9,Ac (show(i:Int)<(x.length:Int) by omega),Aa,Ac (show(0:Int)<=(i:Int) by omega),Ah,Aa,Ad,hu i (by omega),Aa,Acg,Js (by omega),Lk];by_cases h:BH (x.getD i 0)=0
   ·rw[Ac h,Az h,AH,Af,Bz (by omega) (by omega)];exact ih (i+1) F (by omega) (by omega)
   ·rw[Ag h,Ay h]; rfl
theorem BC.lead.Bn:Kq 229 BC.lead.Bt:=ED BC.lead.E Tryz.func229 (kc soft.Kind.Bn .nil) fun x hp=>by refine⟨x.length+1,BC.lead.out [.l x],[],?_,.int⟩;rw[BC.lead.ev];exact AdH (x.length+1) hp x.length 0 (x.length+1) (by omega) (by omega)
theorem SX{x:Bf}{i:Nat}(h:i<x.length)(f:Int->Int):(x.take (i+1)).map f=(x.take i).map f++[f (x.getD i 0)]:=by rw[List.take_succ_eq_append_getElem h,List.map_append,Al,As h]; rfl
theorem W9(N:Nat){x:Bf}{e:Int}(hx:Cq x=xZ)(hl:x.length<=1000)(he:-2300<=e/\e<=2300):∀(k i F:Nat),i+k=x.length->k<F ->
 BC.CG.L0 N F x e (i:Int) ((x.take i).map fun b=>BX b e)=xQ (.Bj (.own 100005 tB) .u64 (B6 x e)):=by
 obtain⟨_,hu⟩:=IE hx;intro k
 induction k with
 | zero =>
   intro i F hi hF;obtain⟨F,rfl⟩:∃G,F=G+1:=⟨F-1,by omega⟩
   rw[BC.CG.B8,B9,Ag (by omega),Af,yD (by omega)]; rfl
 | succ k ih =>
   intro i F hi hF;obtain⟨F,rfl⟩:∃G,F=G+1:=⟨F-1,by omega⟩
   rw[BC.CG.B8,B9,Ac (show(i:Int)<(x.length:Int) by omega),Aa,Ac (show(0:Int)<=(i:Int) by omega),Ah,Aa,Ad,
    show Ew (wt x i 0) e=xZ from Bi.2 ⟨hu i (by omega),Bv.2 he⟩,Aa,Ac (by rw[AO,List.length_take]; unfold G2; omega),Aa,Bz (by omega) (by omega)]
   have:=ih (i+1) F (by omega) (by omega);rw[SX (by omega)] at this;exact this
theorem BC.CG.Bn:Kq 228 BC.CG.Bt:=ED BC.CG.E Tryz.func228 (kc Bs.CM.Bn .nil) fun x k hp=>by obtain⟨h1,h2⟩:=Bi.1 hp;have h2:=Bv.1 h2;refine⟨x.length+1,.Bj (.own 100005 tB) .u64 (B6 x k),[100005],?_,.drop _ _ _ _ (List.mem_singleton.2 rfl)⟩;rw[BC.CG.ev];exact W9 (x.length+1) h1 h2.1 h2.2 x.length 0 (x.length+1) (by omega) (by omega)
theorem BC.HH.Bn:Kq 227 BC.HH.Bt:=ED BC.HH.E Tryz.func227 .nil fun i _=>⟨0,BC.HH.out [.i i],[],by rw[BC.HH.ev]; rfl,.int⟩
theorem BC.HG.Bn:Kq 230 BC.HG.Bt:=ED BC.HG.E Tryz.func230 (kc Bs.Div.Bn .nil) fun i y d hp=>by obtain⟨h1,h2⟩:=Bi.1 (show((Ch (0<=i/\i<wj y)&&Bp y)&&Br d)=xZ from hp);obtain⟨h3,h4⟩:=Bi.1 h1;have h3:=Bv.1 h3;refine⟨0,BC.HG.out [.i i,.l y,.i d],[],?_,.int⟩;rw[BC.HG.ev,Ac h3.1,Ac h3.2,JD h4,h2]; rfl
theorem Ol(n i:Nat)(f:Nat->Int)(h:i+1=n):GX n f=Ty::(List.range i).map fun j=>f (j+1):=by unfold GX; rw[show n-1=i by omega]
theorem AbN{n:Nat}(f:Nat->Int)(h:n≠0):(((decide ((0:Int)<=(n:Int)))&&(decide ((n:Int)<=(n:Int))))&&((decide ((0:Int)<=(n:Int)))&&(decide ((n:Int)<=(wj (GX n f):Int)))))=xZ /\
 zL (wQ ((n:Int)-(0:Int))) (zN 0 (GX n f))=GX n f:=by
 have:=Mh h f;refine⟨?_,?_⟩
 ·rw[Ac (by omega),Ac (by omega),Ac (by omega)]; rfl
 ·rw[List.drop_zero,yD (by omega)]
theorem UA(N:Nat){n:Nat}(h64:n<=64)(h0:n≠0):∀(k i F:Nat),i+1+k=n->k<F ->
 BC.row.Zero.L0 N F (n:Int) ((i+1:Nat):Int) (GX (i+1) fun _=>0)=xQ (.Bj .BE .u64 (GX n fun _=>0)):=by
 intro k
 induction k with
 | zero =>
   intro i F hi hF;obtain⟨F,rfl⟩:∃G,F=G+1:=⟨F-1,by omega⟩
   obtain rfl:i+1=n:=by omega
   obtain⟨e1,e2⟩:=AbN (fun _=>0) h0;rw[BC.row.Zero.B8,B9,Ag (by omega),Af,e1,Aa,e2]
 | succ k ih =>
   intro i F hi hF;obtain⟨F,rfl⟩:∃G,F=G+1:=⟨F-1,by omega⟩
   rw[BC.row.Zero.B8,B9,Ac (by omega),Aa,Ac (by rw[Mh (by omega)]; unfold G2; omega),Aa,Bz (by omega) (by omega)];have:=ih (i+1) F (by omega) (by omega);rw[Ol (i+1+1) (i+1) _ rfl,K5] at this;rw[Ol (i+1) i _ rfl];exact this
theorem BC.row.Zero.Bn:Kq 226 BC.row.Zero.Bt:=ED BC.row.Zero.E Tryz.func226 (kc BC.HH.Bn .nil) fun n hp=>by
 have hp:=Bv.1 (show Ch (1<=n/\n<=64)=xZ from hp);obtain⟨m,rfl⟩:∃m:Nat,n=m:=⟨n.toNat,by omega⟩
 refine⟨65,BC.row.Zero.out [.i m],[],?_,.Jq⟩;show _=xQ (DV.Bj .BE .u64 (GX (wQ (m:Int)) fun _=>0));rw[BC.row.Zero.ev,Ad];exact UA 65 (by omega) (by omega) (m-1) 0 65 (by omega) (by omega)
theorem WG(N:Nat){n:Nat}{y:Bf}{d:Int}(h64:n<=64)(h0:n≠0)(hy:n=y.length)(al:Bp y=xZ)(hd:Br d=xZ):∀(k i F:Nat),i+1+k=n->k<F ->
 BC.row.Div.L0 N F (n:Int) y d ((i+1:Nat):Int) (GX (i+1) fun j=>Fl (y.getD j 0) d)=xQ (.Bj .BE .u64 (GX n fun j=>Fl (y.getD j 0) d)):=by
 intro k
 induction k with
 | zero =>
   intro i F hi hF;obtain⟨F,rfl⟩:∃G,F=G+1:=⟨F-1,by omega⟩
   obtain rfl:i+1=n:=by omega
   obtain⟨e1,e2⟩:=AbN (fun j=>Fl (y.getD j 0) d) h0;rw[BC.row.Div.B8,B9,Ag (by omega),Af,e1,Aa,e2]
 | succ k ih =>
   intro i F hi hF;obtain⟨F,rfl⟩:∃G,F=G+1:=⟨F-1,by omega⟩
   rw[BC.row.Div.B8,B9,Ac (by omega),Aa,Bv.2 (show 0<=((i+1:Nat):Int)/\((i+1:Nat):Int)<(y.length:Int) by omega),al,hd,Ah,Ah,Aa,Ac (by rw[Mh (by omega)]; unfold G2; omega),Aa,Bz (by omega) (by omega),Ad];have:=ih (i+1) F (by omega) (by omega);rw[Ol (i+1+1) (i+1) _ rfl,K5] at this;rw[Ol (i+1) i _ rfl];exact this
theorem BC.row.Div.Bn:Kq 226 BC.row.Div.Bt:=ED BC.row.Div.E Tryz.func226 (kc BC.HG.Bn .nil) fun n y d hp=>by
 obtain⟨h1,h2⟩:=Bi.1 (show((Ch (1<=n/\n<=64/\n=wj y)&&Bp y)&&Br d)=xZ from hp);obtain⟨h3,h4⟩:=Bi.1 h1;have h3:=Bv.1 h3;obtain⟨m,rfl⟩:∃m:Nat,n=m:=⟨n.toNat,by omega⟩
 refine⟨65,BC.row.Div.out [.i m,.l y,.i d],[],?_,.Jq⟩;show _=xQ (DV.Bj .BE .u64 (GX (wQ (m:Int)) fun j=>Fl (wt y j 0) d));rw[BC.row.Div.ev,Ad];exact WG 65 (by omega) (by omega) (by omega) h4 h2 (m-1) 0 65 (by omega) (by omega)
theorem Vj{x:Bf}{k:Int}{j:Nat}(h:j<x.length):(B6 x k).getD j 0=BX (x.getD j 0) k:=by unfold B6;rw[Al,Ba,As h,Al,As h]; rfl
theorem AcV(x:Bf)(k:Int):(B6 x k).length=x.length:=by unfold B6; rw[AO]
theorem AcW{x:Bf}(k:Int)(h:Bp x=xZ):Bp (B6 x k)=xZ:=O1 fun y hy=>by obtain⟨b,hb,rfl⟩:=List.mem_map.1 hy;exact Gi (Bv.1 h b hb)
theorem Xb:∀{x:Bf},Bp x=xZ->Br (Lk x)=xZ
 | [],_=>JU
 | b::l,h=>by
   unfold Lk;split
   ·exact Xb (O1 fun y hy=>Bv.1 h y (AN _ hy))
   ·exact Bv.1 h b AY
theorem Ry{x:Bf}(h:Cq x=xZ):Bp x=xZ:=Bv.2 (Bv.1 h).2
theorem NY{drops:List Nat}{g:R0}:Wk drops .nil (.Bj g .u64 []):=.nil g .u64
theorem Ada{n:Nat}{f g:Nat->Int}(h:∀j,j<n->f j=g j):GX n f=GX n g:=by unfold GX;congr 1;exact List.map_congr_left fun j hj=>h _ (by have:=List.mem_range.1 hj; omega)
theorem BC.Dj.Bn:Kq 200 BC.Dj.Bt:=ED BC.Dj.E Tryz.func200 (kc compare.MZ.Bn (kc BC.lead.Bn (kc BC.Ed.Bn (.cons (Ey.alt BC.row.Zero.Bn BC.row.Div.Bn) (kc BC.CG.Bn (kc soft.Finite.Bn (kc soft.EZ.Bn (kc soft.Sign.Bn (kc Bs.DT.Bn (kc Bs.Div.Bn (kc Bs.Finite.Bn (kc Bs.Norm.Bn (kc Bs.CM.Bn (kc Bs.Sub.Bn .nil)))))))))))))) fun x hp=>by
 have hx:Cq x=xZ:=hp;have al:=Ry hx;have he:=Xn (BK x);show ∃N dv drops,_=xQ dv/\Wk drops dv (DV.CR [.Bj .BE .u64 (Ce x).1,.int .u64 (Ce x).2.1,.int .u64 (Ce x).2.2.1,.int .i64 (Ce x).2.2.2]);unfold Ce;by_cases h1:x.length=0\/64<x.length
 ·rw[Az h1];refine⟨0,.CR [.nil,.int .u64 0,.int .u64 0,.int .i64 3],[],?_,Wk.Gr (.cons NY (.cons .int (.cons .int (.cons .int .nil))))⟩
  have:(((wj x:Int)==(0:Int))||(BI (64:Int) (wj x:Int)))=xZ:=by rw[B9,Bool.or_eq_true,beq_iff_eq,Ai]; omega
  rw[BC.Dj.ev,this,Aa]
 have c1:(((wj x:Int)==(0:Int))||(BI (64:Int) (wj x:Int)))=x5:=by rw[B9,yF,AD,Av]; omega
 rw[Ay h1];by_cases h2:DA x=xZ
 ·rw[Az h2];unfold Y1;have ok1:Cq (x.drop 1)=xZ:=Gf (O1 fun y hy=>Bv.1 al y (List.mem_of_mem_drop hy)) (by rw[zP]; omega);have d1:decide ((1:Int)<=(x.length:Int))=xZ:=Ac (by omega);have d0:decide ((0:Int)<(x.length:Int))=xZ:=Ac (by omega);by_cases h3:Fi (x.drop 1)=xZ
  ·rw[Az h3];refine⟨0,.CR [.Bj .BE .u64 (GX x.length fun _=>0),.int .u64 0,.int .u64 (x.getD 0 0),.int .i64 0],[],?_,Wk.Gr (.cons .Jq (.cons .int (.cons .int (.cons .int .nil))))⟩;rw[BC.Dj.ev,c1,Af,hx,Aa,h2,AH,Af,d1,Aa,ok1,Aa,h3,Aa,Bv.2 (show 1<=(x.length:Int)/\(x.length:Int)<=64 by omega),Aa,d0,Aa,Ad]
  ·rw[Ay h3];have h3:Fi (x.drop 1)=x5:=by simpa using h3
   have ew:Bg (0-BQ (BK x))=-BQ (BK x):=by rw[Bz (by omega) (by omega)]; omega
   have ly:=AcV x (-BQ (BK x));have ay:=AcW (-BQ (BK x)) al;have oky:Cq (B6 x (-BQ (BK x)))=xZ:=Gf ay (by omega);have gy:=Vj (x:=x) (k:=-BQ (BK x)) (j:=0) (by omega);have iy:=JD ay 0
   have key:∀mu:Int,L5 x=mu->Br mu=xZ->∀b:Bool,D5 (Gc x)=b->∃dv:DV,(bif (!b) then
    xQ (.CR [.nil,.int .u64 (0:Int),.int .u64 (0:Int),.int .i64 (2:Int)])
    else xQ (.CR [.Bj .BE .u64 (GX (wQ (wj (B6 x (-BQ (BK x))):Int)) (fun j=>Fl (wt (B6 x (-BQ (BK x))) j 0) (Ej (wt (B6 x (-BQ (BK x))) 0 0) mu))),.int .u64 (Fl (Ej mu (wt (B6 x (-BQ (BK x))) 0 0)) mu),.int .u64 (BX mu (BQ (BK x))),.int .i64 (0:Int)]))=xQ dv /\
    Wk [] dv (DV.CR [.Bj .BE .u64 (if D5 (Gc x)=xZ then (Re x,TA x,Gc x,(0:Int)) else ([],0,0,2)).1,.int .u64 (if D5 (Gc x)=xZ then (Re x,TA x,Gc x,(0:Int)) else ([],0,0,2)).2.1,.int .u64 (if D5 (Gc x)=xZ then (Re x,TA x,Gc x,(0:Int)) else ([],0,0,2)).2.2.1,.int .i64 (if D5 (Gc x)=xZ then (Re x,TA x,Gc x,(0:Int)) else ([],0,0,2)).2.2.2]):=by
    intro mu hmu _ b hb;rw[hb];cases b with
    | false=>exact⟨_,rfl,Wk.Gr (.cons NY (.cons .int (.cons .int (.cons .int .nil))))⟩
    | true =>
      refine⟨_,rfl,?_⟩;rw[Az rfl];dsimp only
      have e1:GX (wQ (wj (B6 x (-BQ (BK x))):Int)) (fun j=>Fl (wt (B6 x (-BQ (BK x))) j 0) (Ej (wt (B6 x (-BQ (BK x))) 0 0) mu))=Re x:=by unfold Re;rw[Ad,ly,gy,<- hmu];exact Ada fun j hj=>by rw[Vj hj]; rfl
      have e2:Fl (Ej mu (wt (B6 x (-BQ (BK x))) 0 0)) mu=TA x:=by unfold TA;rw[gy,hmu]; rfl
      have e3:BX mu (BQ (BK x))=Gc x:=by unfold Gc; rw[hmu]
      rw[e1,e2,e3];exact Wk.Gr (.cons .Jq (.cons .int (.cons .int (.cons .int .nil))))
   have dz:decide ((0:Int)<((B6 x (-BQ (BK x))).length:Int))=xZ:=Ac (by omega);have cz':Ch (1<=((B6 x (-BQ (BK x))).length:Int)/\((B6 x (-BQ (BK x))).length:Int)<=64/\True)=xZ:=Bv.2 ⟨by omega,by omega,trivial⟩;have p1:Ch (x.length<=1000/\-2300<=-BQ (BK x)/\-BQ (BK x)<=2300)=xZ:=Bv.2 (by omega);have p2:Ch ((B6 x (-BQ (BK x))).length<=64)=xZ:=Bv.2 (by omega);have sp:∀mu:Int,Br mu=xZ->Ew mu (BQ (BK x))=xZ:=fun mu h=>Bi.2 ⟨h,Bv.2 (by omega)⟩
   have ny:=Kd (B6 x (-BQ (BK x)));cases hn:DX (Lk x) with
   | true =>
     have hm:L5 x=Cb (B6 x (-BQ (BK x))):=by unfold L5; rw[Az hn]
     obtain⟨dv,k1,k2⟩:=key _ hm ny (D5 (Gc x)) rfl;refine⟨0,dv,[],?_,k2⟩;rw[<- k1];have eb:Gc x=BX (Cb (B6 x (-BQ (BK x)))) (BQ (BK x)):=by unfold Gc; rw[hm]
     rw[BC.Dj.ev,ew,eb];simp only[c1,Af,hx,Aa,h2,AH,d1,ok1,h3,Rv,p1,oky,p2,Ah,Xb al,hn,sp _ ny,Gi ny,dz,cz',ay,iy,ny,Pc iy ny,Pc ny iy]
   | false =>
     have hm:L5 x=C1 (Cb (B6 x (-BQ (BK x)))):=by unfold L5; rw[Ay (by rw[hn]; decide)]
     have my:=Qh ny;obtain⟨dv,k1,k2⟩:=key _ hm my (D5 (Gc x)) rfl;refine⟨0,dv,[],?_,k2⟩;rw[<- k1];have eb:Gc x=BX (C1 (Cb (B6 x (-BQ (BK x))))) (BQ (BK x)):=by unfold Gc; rw[hm]
     rw[BC.Dj.ev,ew,eb];simp only[c1,Af,hx,Aa,h2,AH,d1,ok1,h3,Rv,p1,oky,p2,Ah,Xb al,hn,Bc,sp _ my,Gi my,dz,cz',ay,iy,ny,my,Pc iy my,Pc my iy]
 ·rw[Ay h2];have h2:DA x=x5:=by simpa using h2
  refine⟨0,.CR [.nil,.int .u64 0,.int .u64 0,.int .i64 4],[],?_,Wk.Gr (.cons NY (.cons .int (.cons .int (.cons .int .nil))))⟩;rw[BC.Dj.ev,c1,Af,hx,Aa,h2,Bc,Aa]
end Go.Proofs.S1
end
