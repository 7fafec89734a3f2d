/- A verified evaluator of the program's form and its use for this seat: S1PSol, S1EqQr, S1PQr, S1PQrA, S1EqRef17, S1PRef17, S1EqRef14, S1PRef13, S1PRef14, S1EqGiv, S1EqRef12, SvdL, S1PGiv, S1EqSort, S1PSort, S1EqSvd, S1PSvd, S1PSvdA, S1POfS, S1EqRef20, S1PSubSt, S1EqRef19, TileL, BndM. -/
import Derived.Test.YthajngaadbanfaaGreatTJ
import Derived.Test.YthajngaadbanfaaGreatTE
import Derived.Test.YthajngaadbanfaaGreatTF
import Derived.Test.YthajngaadbanfaaGreatTI
set_option linter.unusedVariables false
set_option linter.unusedSimpArgs false
open Option renaming some->wM,none->wN
open Bool renaming true->wc,false->wh
open Int renaming toNat->wi
open List renaming length->wj,getD->vC
open List renaming set->zJ,mem_singleton->ze,drop_eq_getElem_cons->xx,nil_append->zZ,all_cons->yV,replicate->zo,length_cons->zj,mem_cons->zB,all_eq_true->zF,getElem_mem->z6,set_cons_succ->wy,append_nil->yz,mem_map->zh,length_reverse->x7,length_set->yJ,mem_append->zu,take_of_length_le->yB,length_take->zN,mem_of_mem_drop->yr,take_succ_eq_append_getElem->xy,range_succ->xn,map_append->yu
open Bool renaming and_eq_false_iff->xD
open Nat renaming zero_le->zl,lt_succ_self->wF,zero_mul->zK
open Int renaming le_refl->yO
open Eq renaming trans->yP
noncomputable section
open Go.Proofs.Tryz
namespace Go.Proofs.S1
open Go Go.Den Go.Cn Go.Proofs
theorem Yw{r c:Int}{l:Bf}(h:BT r c l=0):BD r c l=wc/\Dx l=wc:=by
 unfold BT at h;by_cases h1:BD r c l=wc
 ·rw[Az h1] at h;by_cases h2:Dx l=wc
  ·exact⟨h1,h2⟩
  ·rw[Ay h2] at h; exact absurd h (by decide)
 ·rw[Ay h1] at h; exact absurd h (by decide)
theorem LZ{r c:Int}{l:Bf}(h1:BD r c l=wc)(h2:Dx l=wc):BT r c l=0:=by unfold BT; rw[Az h1,Az h2]
theorem neI{x:Int}(h:x≠0):(x !=(0:Int))=wc:=by simpa using h
theorem M8{x:Int}(h:x=0):(x !=(0:Int))=wh:=by rw[h]; rfl
theorem Aet{b:Nat}{n:Int}(h:b<2^64):(Cj b n).1<2^64:=by
 unfold Cj;by_cases h4:Bn b=4
 ·rw[Az h4]; exact(by decide:N2<2^64)
 rw[Ay h4];by_cases h3:Bn b=3\/Bn b=0
 ·rw[Az h3]; exact h
 rw[Ay h3];exact ML _ _ _
theorem FD{b n:Int}(h:Br b=wc):Br (BV b n)=wc:=by obtain⟨x,rfl,hx⟩:=C3 h;exact CI (Aet (by rw[Ad]; exact hx))
theorem TA:∀(l:Bf) (m:Nat),m<2^64->Iz l m<2^64
 | [],m,h=>h
 | x::l,m,h=>by
   unfold Iz;split
   ·exact(by decide:N2<2^64)
   ·have h2:DP x.toNat<2^63:=Vp x.toNat;exact TA l _ (by omega)
theorem QP(l:Bf):Br (BI l)=wc:=CI (TA l 0 (by decide))
theorem Wd(x:Int):Br (K3 x)=wc:=CI (Nat.lt_trans (Vp x.toNat) (by decide))
theorem HG(x y:Bf):Br (EU x y)=wc:=CI (Sd x y 0 (by decide))
open Go Go.Den Go.Cn Go.Proofs
set_option maxRecDepth 100000
def qr.down.hint:Nat->Option BK
 | 0=>wM { Da:=[1,2,5,6,7],Cg:=[(0,6,100006,.CO 161 2 []),(6,2,106002,.Bj 43 .u64 [])],Cv:=[1,2,5] }
 | 2=>wM { Da:=[1,2,5,6,7,8,9,12],Cg:=[(6,2,106002,.Bj 43 .u64 []),(0,6,100006,.CO 161 2 [])],Cv:=[1,2,5] }
 | _=>wN
def qr.down.E:=Dr (CW [(163,BA.Apply.Bu),(200,BA.CY.Bu),(68,Bg.DU.Bu)]) (fun n=>Nat.beq n 46) qr.down.hint (fun _=>wN)
section
variable(N M0 M:Nat)(r c:Int)(l:Bf)(p7:Int)(p6:List (List DV))(p2_2:Bf)(p12_1:Int)(p2_1:Bf)(p7_1:Int)(p8:Bf)(p9:Int)(p6_1:List (List DV))
def qr.down.L0:Option DV:=C6 qr.down.E N f162 (Bw f162) [1,1,1,0,1,0,0,1,0,0,1,1,1,1,0,1,0] [M0] M ⟨Fp 88 [(1,.ptr 1 0 0),(2,.ptr 2 0 0),(5,.ptr 5 0 0),(6,.Dh 100006),(7,.int .i64 p7_1),(8,.Bj .BE .u64 p8),(9,.int .u64 p9),(12,.int .i64 p12_1)],[(1,wh,.box [.int .i64 r,.int .i64 c,.Bj .arg .u64 l]),(2,wh,.box [.int .i64 0,.int .i64 0,.nil]),(5,wh,.box [.int .i64 r,.int .i64 c,.Dh 106002]),(106002,wh,.Bj 43 .u64 p2_1),(100006,wh,.CO 161 2 p6_1)]⟩
def qr.down.L1:Option DV:=C6 qr.down.E N f162 (Bw f162) [1,1,1,0,1,0] [] M ⟨Fp 88 [(1,.ptr 1 0 0),(2,.ptr 2 0 0),(5,.ptr 5 0 0),(6,.Dh 100006),(7,.int .i64 p7)],[(1,wh,.box [.int .i64 r,.int .i64 c,.Bj .arg .u64 l]),(2,wh,.box [.int .i64 0,.int .i64 0,.nil]),(5,wh,.box [.int .i64 r,.int .i64 c,.Dh 106002]),(100006,wh,.CO 161 2 p6),(106002,wh,.Bj 43 .u64 p2_2)]⟩
def qr.down.L2:Option DV:=C6 qr.down.E N f162 (Bw f162) [1,1,1,0,1,0] [] M ⟨Fp 88 [(1,.ptr 1 0 0),(2,.ptr 2 0 0),(5,.ptr 5 0 0),(6,.Dh 100006),(7,.int .i64 0)],[(1,wh,.box [.int .i64 r,.int .i64 c,.Bj .arg .u64 l]),(2,wh,.box [.int .i64 0,.int .i64 0,.nil]),(5,wh,.box [.int .i64 r,.int .i64 c,.Bj .arg .u64 l]),(100006,wh,.CO 161 2 [])]⟩
theorem qr.down.B7:qr.down.L0 N M0 (M+1) r c l p12_1 p2_1 p7_1 p8 p9 p6_1=cond (BH p12_1 r) (bif ((decide (0<=(Bh ((Bh (p12_1*c))+p7_1))))&&(decide ((Bh ((Bh (p12_1*c))+p7_1))<(wj p2_1:Int)))) then cond (decide ((wi (Bh ((Bh (p12_1*c))+p7_1)))<(wj p2_1))) (qr.down.L0 N M0 M r c l (Bh (p12_1+1)) (zJ p2_1 (wi (Bh ((Bh (p12_1*c))+p7_1))) 0) p7_1 p8 p9 p6_1) wN else wN) (bif (decide ((wj p6_1)+1<=Afi)) then qr.down.L1 N M0 r c l (Bh (p7_1+1)) (p6_1++[[.Bj .arg .u64 p8,.int .u64 p9]]) p2_1 else wN):=by kernel_rfl
theorem qr.down.CU:qr.down.L1 N (M+1) r c l p7 p6 p2_2=cond ((BH p7 c)&&(BH p7 (Bh (r-1)))) (bif (EG r c p2_2 p7&&Ci (0<=p7/\p7<=r)) then cond (Cw (BQ c p2_2 p7 p7 (wi (r-p7)))) (bif (((Cm (BQ c p2_2 p7 p7 (wi (r-p7)))).2.2.2) !=(0:Int)) then wM (.CJ [.agg [.int .i64 0,.int .i64 0,.nil],.nil,.int .i64 2]) else bif (((BD r c p2_2&&Md r c p7 p7 ((Cm (BQ c p2_2 p7 p7 (wi (r-p7)))).1))&&(Bq p2_2&&Bq ((Cm (BQ c p2_2 p7 p7 (wi (r-p7)))).1)))&&Br ((Cm (BQ c p2_2 p7 p7 (wi (r-p7)))).2.1)) then cond ((decide (0<=(Bh ((Bh (p7*c))+p7))))&&(decide ((Bh ((Bh (p7*c))+p7))<(wj (F5 (wi r) (wi c) p2_2 p7 p7 ((Cm (BQ c p2_2 p7 p7 (wi (r-p7)))).1) ((Cm (BQ c p2_2 p7 p7 (wi (r-p7)))).2.1)):Int)))) (bif (decide ((wi (Bh ((Bh (p7*c))+p7)))<(wj (F5 (wi r) (wi c) p2_2 p7 p7 ((Cm (BQ c p2_2 p7 p7 (wi (r-p7)))).1) ((Cm (BQ c p2_2 p7 p7 (wi (r-p7)))).2.1))))) then qr.down.L0 N M N r c l (Bh (p7+1)) (zJ (F5 (wi r) (wi c) p2_2 p7 p7 ((Cm (BQ c p2_2 p7 p7 (wi (r-p7)))).1) ((Cm (BQ c p2_2 p7 p7 (wi (r-p7)))).2.1)) (wi (Bh ((Bh (p7*c))+p7))) ((Cm (BQ c p2_2 p7 p7 (wi (r-p7)))).2.2.1)) p7 ((Cm (BQ c p2_2 p7 p7 (wi (r-p7)))).1) ((Cm (BQ c p2_2 p7 p7 (wi (r-p7)))).2.1) p6 else wN) wN else wN) wN else wN) (wM (.CJ [.agg [.int .i64 r,.int .i64 c,.Bj (.own 106002 43) .u64 p2_2],.CO (.own 100006 161) 2 p6,.int .i64 0])) :=Et (B4 (M3 (BH p7 c)) (B4 (M3 (BH p7 c)) (B4 (J7 (BH p7 c)) (B4 (J7 (BH p7 c)) (B4 (AbK (BH p7 c)) (B4 (Qk (BH p7 c)) (CQ (tt1 _ _) rfl rfl)))))))
theorem qr.down.I5:qr.down.L2 N (M+1) r c l=cond ((BH 0 c)&&(BH 0 (Bh (r-1)))) (bif (EG r c l 0&&Ci (0<=(0:Int)/\(0:Int)<=r)) then cond (Cw (BQ c l 0 0 (wi (r-0)))) (bif (((Cm (BQ c l 0 0 (wi (r-0)))).2.2.2) !=(0:Int)) then wM (.CJ [.agg [.int .i64 0,.int .i64 0,.nil],.nil,.int .i64 2]) else bif (((BD r c l&&Md r c 0 0 ((Cm (BQ c l 0 0 (wi (r-0)))).1))&&(Bq l&&Bq ((Cm (BQ c l 0 0 (wi (r-0)))).1)))&&Br ((Cm (BQ c l 0 0 (wi (r-0)))).2.1)) then cond ((decide (0<=(Bh ((Bh ((0:Int)*c))+0))))&&(decide ((Bh ((Bh ((0:Int)*c))+0))<(wj (F5 (wi r) (wi c) l 0 0 ((Cm (BQ c l 0 0 (wi (r-0)))).1) ((Cm (BQ c l 0 0 (wi (r-0)))).2.1)):Int)))) (bif (decide ((wi (Bh ((Bh ((0:Int)*c))+0)))<(wj (F5 (wi r) (wi c) l 0 0 ((Cm (BQ c l 0 0 (wi (r-0)))).1) ((Cm (BQ c l 0 0 (wi (r-0)))).2.1))))) then qr.down.L0 N M N r c l 1 (zJ (F5 (wi r) (wi c) l 0 0 ((Cm (BQ c l 0 0 (wi (r-0)))).1) ((Cm (BQ c l 0 0 (wi (r-0)))).2.1)) (wi (Bh ((Bh ((0:Int)*c))+0))) ((Cm (BQ c l 0 0 (wi (r-0)))).2.2.1)) 0 ((Cm (BQ c l 0 0 (wi (r-0)))).1) ((Cm (BQ c l 0 0 (wi (r-0)))).2.1) [] else wN) wN else wN) wN else wN) (wM (.CJ [.agg [.int .i64 r,.int .i64 c,.Bj .arg .u64 l],.CO (.own 100006 161) 2 [],.int .i64 0])) :=Et (B4 (M3 (BH 0 c)) (B4 (M3 (BH 0 c)) (B4 (J7 (BH 0 c)) (B4 (J7 (BH 0 c)) (B4 (AbK (BH 0 c)) (B4 (Qk (BH 0 c)) (CQ (tt1 _ _) rfl rfl)))))))
theorem qr.down.ev:Cz qr.down.E N f162 (Bw f162) [.agg [.int .i64 r,.int .i64 c,.Bj .arg .u64 l]]=
 qr.down.L2 N N r c l:=by kernel_rfl
end
def qr.DE.hint:Nat->Option BK
 | 0=>wM { Da:=[2,3,5,6],Cg:=[],Cv:=[2,3] }
 | _=>wN
def qr.DE.GN:List (Nat × Ew):=[(69,DI.Check.Bu),(163,BA.Apply.Bu),(126,Bg.Ii.Bu),(162,qr.down.Bu),(66,Bs.Finite.Bu)]
def qr.DE.E:Env:=ZR (CW qr.DE.GN) (fun _=>wh) qr.DE.hint (fun _=>wN) (Ai7 [(22,[.s .u64]),(43,[.i .u64])])
section
variable(N M:Nat)(r c:Int)(l:Bf)(p6:Int)(p2:Bf)
def qr.DE.L0:Option DV:=C6 qr.DE.E N f120 (Bw f120) [1,0,1,1,1,1,1,1,0,0] [] M ⟨Fp 81 [(2,.ptr 2 0 0),(3,.ptr 3 0 0),(5,.CO .BE 2 (Lt r c ([]++l))),(6,.int .i64 p6)],[(2,wh,.box [.int .i64 ((K4 r).1),.int .i64 ((K4 r).2.1),.Bj .BE .u64 p2]),(3,wh,.box [.int .i64 ((FB r c ([]++l)).1),.int .i64 ((FB r c ([]++l)).2.1),.Bj .arg .u64 ((FB r c ([]++l)).2.2.1)])]⟩
theorem qr.DE.B7:qr.DE.L0 N (M+1) r c l p6 p2=cond (BH p6 0) (bif (Cw p2) then cond ((!(Dx p2))||(Cw ((FB r c ([]++l)).2.2.1))) (bif ((!(Dx p2))||(!(Dx ((FB r c ([]++l)).2.2.1)))) then wM (.CJ [.agg [.int .i64 0,.int .i64 0,.nil],.agg [.int .i64 0,.int .i64 0,.nil],.int .i64 2]) else wM (.CJ [.agg [.int .i64 ((K4 r).1),.int .i64 ((K4 r).2.1),.Bj .BE .u64 p2],.agg [.int .i64 ((FB r c ([]++l)).1),.int .i64 ((FB r c ([]++l)).2.1),.Bj .arg .u64 ((FB r c ([]++l)).2.2.1)],.int .i64 0])) wN else wN) (bif ((decide (0<=p6))&&(decide (p6<(wj (Lt r c ([]++l)):Int)))) then cond (isC (.s .u64) (vC (vC (Lt r c ([]++l)) (wi p6) []) 0 .undef)) (bif ((decide (0<=p6))&&(decide (p6<(wj (Lt r c ([]++l)):Int)))) then cond (isC (.i .u64) (vC (vC (Lt r c ([]++l)) (wi p6) []) 1 .undef)) (bif (((BD ((K4 r).1) ((K4 r).2.1) p2&&Md ((K4 r).1) ((K4 r).2.1) p6 0 (Tx (vC (vC (Lt r c ([]++l)) (wi p6) []) 0 .undef)))&&(Bq p2&&Bq (Tx (vC (vC (Lt r c ([]++l)) (wi p6) []) 0 .undef))))&&Br (AfM (vC (vC (Lt r c ([]++l)) (wi p6) []) 1 .undef))) then qr.DE.L0 N M r c l (Bh (p6-1)) (F5 (wi ((K4 r).1)) (wi ((K4 r).2.1)) p2 p6 0 (Tx (vC (vC (Lt r c ([]++l)) (wi p6) []) 0 .undef)) (AfM (vC (vC (Lt r c ([]++l)) (wi p6) []) 1 .undef))) else wN) wN else wN) wN else wN) :=Et (ET (ET (B4 (Sn (Dx p2)) (B4 (O6 (Dx p2)) (CQ (AbJ _ _) (B4 (O6 (Dx p2)) (B4 (TQ (Dx p2)) (CQ (AdY _ _) rfl rfl))) rfl))) rfl) (CQ (JZ _ _) (CQ (CD _) (CQ (JZ _ _) (CQ (CD _) (CQ (CD _) rfl rfl) rfl) rfl) rfl) rfl))
theorem qr.DE.ev:Cz qr.DE.E N f120 (Bw f120) [.agg [.int .i64 r,.int .i64 c,.Bj .arg .u64 l]]=cond (Bq l) (bif ((BT r c l) !=(0:Int)) then wM (.CJ [.agg [.int .i64 0,.int .i64 0,.nil],.agg [.int .i64 0,.int .i64 0,.nil],.int .i64 (BT r c l)]) else bif (decide (0+(wj l)<=GK)) then cond ((BD r c ([]++l)&&Dx ([]++l))&&Bq ([]++l)) (bif (((FB r c ([]++l)).2.2.2) !=(0:Int)) then wM (.CJ [.agg [.int .i64 0,.int .i64 0,.nil],.agg [.int .i64 0,.int .i64 0,.nil],.int .i64 ((FB r c ([]++l)).2.2.2)]) else qr.DE.L0 N N r c l (Bh ((wj (Lt r c ([]++l)):Int)-1)) ((K4 r).2.2.1)) wN else wN) wN :=Et (ET (ET rfl (CQ (CD _) (CQ (CD _) rfl rfl) rfl)) rfl)
end
abbrev qr.DE.Kn:=Ev prog 120 qr.DE.Bu
theorem qr.DE.D9(hk:Fe prog qr.DE.GN)(h:Hyp qr.DE.E f120 qr.DE.ts qr.DE.pre qr.DE.out):qr.DE.Kn :=Gc (AhP hk _ _ _ _) func120 (by kernel_rfl) (by kernel_rfl) h
def qr.Ok.E:=E0 [(63,Bg.Part.Bu),(120,qr.DE.Bu)]
theorem qr.Ok.ev(N:Nat)(r c:Int)(l:Bf):Cz qr.Ok.E N f62 (Bw f62) [.agg [.int .i64 r,.int .i64 c,.Bj .arg .u64 l]]=cond (Bq l) (bif ((EY r c l) !=(0:Int)) then wM (.CJ [.agg [.int .i64 0,.int .i64 0,.nil],.agg [.int .i64 0,.int .i64 0,.nil],.int .i64 (EY r c l)]) else wM (.CJ [.agg [.int .i64 ((Ff ((qX r c l).1) ((qX r c l).2.1) ((qX r c l).2.2.1) 0 0 r (min r c)).1),.int .i64 ((Ff ((qX r c l).1) ((qX r c l).2.1) ((qX r c l).2.2.1) 0 0 r (min r c)).2.1),.Bj .BE .u64 ((Ff ((qX r c l).1) ((qX r c l).2.1) ((qX r c l).2.2.1) 0 0 r (min r c)).2.2.1)],.agg [.int .i64 ((Ff ((rX r c l).1) ((rX r c l).2.1) ((rX r c l).2.2.1) 0 0 (min r c) c).1),.int .i64 ((Ff ((rX r c l).1) ((rX r c l).2.1) ((rX r c l).2.2.1) 0 0 (min r c) c).2.1),.Bj .BE .u64 ((Ff ((rX r c l).1) ((rX r c l).2.1) ((rX r c l).2.2.1) 0 0 (min r c) c).2.2.1)],.int .i64 0])) wN:=by kernel_rfl
def clS(R C:Nat)(l:Bf)(j:Nat)(x:Int)(i:Nat):Bf:=Dj R C fun a b=>if b=j/\j<=a/\a<i then (if a=j then x else 0) else Dy (C:Int) l (a:Int) (b:Int)
section
variable{R C j:Nat}{l:Bf}{x:Int}
theorem AhZ(i:Nat):(clS R C l j x i).length=R*C:=Ch _ _ _
theorem Vc(hl:l.length=R*C)(hj:j<C):zJ l (j*C+j) x=clS R C l j x (j+1):=by
 unfold clS
 conv=>lhs; rw[<- NW hl]
 rw[Nj hj];refine EN fun a b ha hb=>?_
 by_cases h:a=j/\b=j
 ·rw[Az h,Az (by omega),Az h.1]
 ·rw[Ay h,Ay (by omega)]
theorem AhY{i:Nat}(hj:j<C)(hi:j<i):zJ (clS R C l j x i) (i*C+j) 0=clS R C l j x (i+1):=by
 unfold clS;rw[Nj hj];refine EN fun a b ha hb=>?_
 by_cases h:a=i/\b=j
 ·rw[Az h,Az (by omega),Ay (by omega)]
 ·rw[Ay h];by_cases h2:b=j/\j<=a/\a<i
  ·rw[Az h2,Az (show b=j/\j<=a/\a<i+1 by omega)]
  ·rw[Ay h2,Ay (by omega)]
theorem Aia:clS R C l j x R=Ns R C l j x:=by
 unfold clS Ns;refine EN fun a b ha hb=>?_
 by_cases h:b=j/\j<=a
 ·rw[Az h,Az (by omega)]
 ·rw[Ay h,Ay (by omega)]
end
theorem SW{C i j:Nat}(hi:i<=6)(hC:C<=6)(hj:j<=6):Bh (Bh ((i:Int)*(C:Int))+(j:Int))=((i*C+j:Nat):Int):=by have h36:=AE hi hC;rw[Bz (x:=(i:Int)*(C:Int)) (by rw[<- Ax]; omega) (by rw[<- Ax]; omega),<- Ax,Bz (by omega) (by omega)];omega
section
variable{R C:Nat}
theorem Ty(N M0:Nat)(l0:Bf)(r6:R<=6)(c6:C<=6){j:Nat}(hj:j<C)(l:Bf)(x:Int)(v:Bf)(t:Int)(ms:List (List DV))(hms:ms.length<=100):∀(cnt i F:Nat),i+cnt=R->j<i->cnt<F ->
 qr.down.L0 N M0 F (R:Int) (C:Int) l0 (i:Int) (clS R C l j x i) (j:Int) v t ms=qr.down.L1 N M0 (R:Int) (C:Int) l0 ((j+1:Nat):Int) (ms++[[.Bj .arg .u64 v,.int .u64 t]]) (Ns R C l j x):=by
 intro cnt
 induction cnt with
 | zero =>
   intro i F hi hji hF;obtain⟨F,rfl⟩:∃G,F=G+1:=⟨F-1,by omega⟩
   obtain rfl:i=R:=by omega
   rw[qr.down.B7,B8,Ag (by omega),Af,Ac (by unfold Afi; omega),Aa,Bz (by omega) (by omega),Aia];rfl
 | succ cnt ih =>
   intro i F hi hji hF;obtain⟨F,rfl⟩:∃G,F=G+1:=⟨F-1,by omega⟩
   have hlen:=AhZ (R:=R) (C:=C) (l:=l) (j:=j) (x:=x) i;have hp:=Fx (show i<R by omega) hj;rw[qr.down.B7,B8,Ac (by omega),Aa,SW (by omega) c6 (by omega),Ac (by omega),Ac (by omega),Ah,Aa,Ad,Ac (by omega),Aa,AhY hj hji,Bz (by omega) (by omega)];exact ih (i+1) F (by omega) (by omega) (by omega)
def O3(r c:Nat)(ms:List (List DV)):Option (Bf × List (Bf × Int))->DV
 | none=>.CJ [.agg [.int .i64 0,.int .i64 0,.nil],.nil,.int .i64 2]
 | some x=>.CJ [.agg [.int .i64 (r:Int),.int .i64 (c:Int),.Bj (.own 106002 tB) .u64 x.1],.CO (.own 100006 tMR) 2 (ms++SY x.2),.int .i64 0]
theorem AcX(N:Nat)(hN:7<N)(l0:Bf)(r6:R<=6)(c6:C<=6):∀(cnt j F:Nat) (l:Bf) (ms:List (List DV)),j+cnt=ER R C->cnt<F->l.length=R*C->Bq l=wc->ms.length=j ->
 qr.down.L1 N F (R:Int) (C:Int) l0 (j:Int) ms l=wM (O3 R C ms (Ix R C cnt j l)):=by
 intro cnt
 induction cnt with
 | zero =>
   intro j F l ms hj hF hl al hms;obtain⟨F,rfl⟩:∃G,F=G+1:=⟨F-1,by omega⟩
   unfold ER at hj
   have hlt:(BH (j:Int) (C:Int)&&BH (j:Int) (Bh ((R:Int)-1)))=wh:=by rw[B8,B8,Bz (by omega) (by omega),xD,Av,Av]; omega
   rw[qr.down.CU,hlt,Af];simp[Ix,O3,SY]
 | succ cnt ih =>
   intro j F l ms hj hF hl al hms;obtain⟨F,rfl⟩:∃G,F=G+1:=⟨F-1,by omega⟩
   have hj0:=hj;unfold ER at hj;have hr:=D7 r6 c6 hl
   have hlt:(BH (j:Int) (C:Int)&&BH (j:Int) (Bh ((R:Int)-1)))=wc:=by rw[B8,B8,Bz (by omega) (by omega),Ac (by omega),Ac (by omega)]; rfl
   have cp:EG (R:Int) (C:Int) l (j:Int)=wc:=Bi.2 ⟨hr,Bv.2 (by omega)⟩;have ec:BQ (C:Int) l (j:Int) (j:Int) (wi ((R:Int)-(j:Int)))=D5 R C l j:=by unfold D5; rw[show wi ((R:Int)-(j:Int))=R-j by omega]
   have ca:Bq (D5 R C l j)=wc:=HJ al;have cl:(D5 R C l j).length=R-j:=HI _ _ _ _ _;rw[qr.down.CU,hlt,Aa,cp,Bv.2 (show 0<=(j:Int)/\(j:Int)<=(R:Int) by omega),Ah,Aa,ec,FO ca (by omega),Aa];unfold Ix;by_cases he:(Cm (D5 R C l j)).2.2.2=0
   ·have hml:=Lu he;have hma:=RR ca;have hap:Md (R:Int) (C:Int) (j:Int) (j:Int) (Cm (D5 R C l j)).1=wc:=Ac (by omega);have hp:=Fx (show j<R by omega) (show j<C by omega);have hlen:=KX R C l (j:Int) (j:Int) (Cm (D5 R C l j)).1 (Cm (D5 R C l j)).2.1;have hg:=Ty N F l0 r6 c6 (show j<C by omega) (F5 R C l (j:Int) (j:Int) (Cm (D5 R C l j)).1 (Cm (D5 R C l j)).2.1) (Cm (D5 R C l j)).2.2.1 (Cm (D5 R C l j)).1 (Cm (D5 R C l j)).2.1 ms (by omega) (R-(j+1)) (j+1) N (by omega) (by omega) (by omega);have hn:=ih (j+1) F (Mu R C l j) (ms++[[.Bj .arg .u64 (Cm (D5 R C l j)).1,.int .u64 (Cm (D5 R C l j)).2.1]]) (by omega) (by omega) (MY _ _ _ _) (NO al j) (by rw[A8,hms]; rfl)
    rw[M8 he,Af,hr,hap,al,hma.1,hma.2.1,Ah,Ah,Ah,Aa,SW (by omega) c6 (by omega),Ad,Ad,Ad,Ac (by omega),Ac (by omega),Ah,Aa,Ac (by omega),Aa,
     Vc hlen (by omega),Bz (by omega) (by omega),Az he]
    refine(hg.trans hn).trans ?_;show wM (O3 R C _ (Ix R C cnt (j+1) (Mu R C l j)))=wM (O3 R C ms _);cases Ix R C cnt (j+1) (Mu R C l j) with
    | none=>rfl
    | some x=>simp[O3,SY]
   ·rw[neI he,Aa,Ay he]; rfl
theorem ZT(N:Nat)(hN:7<N){l:Bf}(r6:R<=6)(c6:C<=6)(hl:l.length=R*C)(al:Bq l=wc)(h0:ER R C≠0):
 qr.down.L2 N N (R:Int) (C:Int) l=wM (O3 R C [] (Hk R C l)):=by
 obtain⟨cnt,hc⟩:∃cnt,ER R C=cnt+1:=⟨ER R C-1,by omega⟩
 obtain⟨F,rfl⟩:∃G,N=G+1:=⟨N-1,by omega⟩
 have hj:=hc;unfold ER at hj;have hr:=D7 r6 c6 hl
 have hlt:(BH (0:Int) (C:Int)&&BH (0:Int) (Bh ((R:Int)-1)))=wc:=by rw[B8,B8,Bz (by omega) (by omega),Ac (by omega),Ac (by omega)]; rfl
 have cp:EG (R:Int) (C:Int) l (0:Int)=wc:=Bi.2 ⟨hr,Bv.2 (by omega)⟩;have ec:BQ (C:Int) l (0:Int) (0:Int) (wi ((R:Int)-(0:Int)))=D5 R C l 0:=by unfold D5; rw[show wi ((R:Int)-(0:Int))=R-0 by omega]; rfl
 have ca:Bq (D5 R C l 0)=wc:=HJ al;have cl:(D5 R C l 0).length=R-0:=HI _ _ _ _ _;unfold Hk;rw[hc,qr.down.I5,hlt,Aa,cp,Bv.2 (show 0<=(0:Int)/\(0:Int)<=(R:Int) by omega),Ah,Aa,ec,FO ca (by omega),Aa];unfold Ix;by_cases he:(Cm (D5 R C l 0)).2.2.2=0
 ·have hml:=Lu he;have hma:=RR ca;have hap:Md (R:Int) (C:Int) (0:Int) (0:Int) (Cm (D5 R C l 0)).1=wc:=Ac (by omega);have hp:=Fx (show 0<R by omega) (show 0<C by omega);have hlen:=KX R C l (0:Int) (0:Int) (Cm (D5 R C l 0)).1 (Cm (D5 R C l 0)).2.1;have hg:=Ty (F+1) F l r6 c6 (show 0<C by omega) (F5 R C l (0:Int) (0:Int) (Cm (D5 R C l 0)).1 (Cm (D5 R C l 0)).2.1) (Cm (D5 R C l 0)).2.2.1 (Cm (D5 R C l 0)).1 (Cm (D5 R C l 0)).2.1 [] (zl _) (R-1) 1 (F+1) (by omega) (by omega) (by omega);have hn:=AcX (R:=R) (C:=C) (F+1) hN l r6 c6 cnt 1 F (Mu R C l 0) [[.Bj .arg .u64 (Cm (D5 R C l 0)).1,.int .u64 (Cm (D5 R C l 0)).2.1]] (by omega) (by unfold ER at hc; omega) (MY _ _ _ _) (NO al 0) rfl;have mc:=SW (i:=0) (C:=C) (j:=0) (by omega) c6 (by omega);have mc:Bh (Bh ((0:Int)*(C:Int))+(0:Int))=((0*C+0:Nat):Int):=mc
  rw[M8 he,Af,hr,hap,al,hma.1,hma.2.1,Ah,Ah,Ah,Aa,mc,Ad,Ad,Ad,Ac (by omega),Ac (by omega),Ah,Aa,Ac (by omega),Aa,
   Vc hlen (by omega),Az he]
  refine(hg.trans hn).trans ?_;show wM (O3 R C _ (Ix R C cnt 1 (Mu R C l 0)))=wM (O3 R C [] _);cases Ix R C cnt (0+1) (Mu R C l 0) with
  | none=>rfl
  | some x=>simp[O3,SY]
 ·rw[neI he,Aa,Ay he]; rfl
end
theorem qr.down.Bp:Kq 162 qr.down.Bu:=E1 qr.down.E Tryz.func162 (kc BA.Apply.Bp (kc BA.CY.Bp (kc Bg.DU.Bp .nil))) fun r c l hp=>by
 obtain⟨h1,al⟩:=Bi.1 (show((BD r c l&&Dx l)&&Bq l)=wc from hp);obtain⟨hr,hf⟩:=Bi.1 h1;obtain⟨R,C,rfl,rfl,r6,c6,hl⟩:=DF hr;by_cases h0:ER R C=0
 ·have hx:Hk R C l=wM (l,[]):=by unfold Hk; rw[h0]; rfl
  refine⟨8,.CJ [.agg [.int .i64 (R:Int),.int .i64 (C:Int),.Bj .arg .u64 l],.CO (.own 100006 tMR) 2 [],.int .i64 0],[100006],?_,?_⟩
  ·unfold ER at h0
   have hlt:(BH (0:Int) (C:Int)&&BH (0:Int) (Bh ((R:Int)-1)))=wh:=by rw[B8,B8,Bz (by omega) (by omega),xD,Av,Av]; omega
   rw[qr.down.ev,show(8:Nat)=7+1 from rfl,qr.down.I5,hlt,Af]
  ·show Wk _ _ (DV.CJ [.agg [.int .i64 (FB (R:Int) (C:Int) l).1,.int .i64 (FB (R:Int) (C:Int) l).2.1,.Bj .arg .u64 (FB (R:Int) (C:Int) l).2.2.1],.CO .BE 2 (Lt (R:Int) (C:Int) l),.int .i64 (FB (R:Int) (C:Int) l).2.2.2]);unfold FB Lt IA;rw[Ad,Ad,hx];exact Wk.FQ (.cons (Wk.GA (.cons .int (.cons .int (.cons .WC .nil)))) (.cons (.AfN _ _ _ _ (ze.2 rfl)) (.cons .int .nil)))
 ·refine⟨8,O3 R C [] (Hk R C l),[106002,100006],?_,?_⟩
  ·rw[qr.down.ev];exact ZT 8 (by omega) r6 c6 hl al h0
  ·show Wk _ _ (DV.CJ [.agg [.int .i64 (FB (R:Int) (C:Int) l).1,.int .i64 (FB (R:Int) (C:Int) l).2.1,.Bj .arg .u64 (FB (R:Int) (C:Int) l).2.2.1],.CO .BE 2 (Lt (R:Int) (C:Int) l),.int .i64 (FB (R:Int) (C:Int) l).2.2.2]);unfold FB Lt IA;rw[Ad,Ad];cases Hk R C l with
   | none=>exact Wk.FQ (.cons (Wk.GA (.cons .int (.cons .int (.cons N4 .nil)))) (.cons (.Aln _ _) (.cons .int .nil)))
   | some x=>exact Wk.FQ (.cons (Wk.GA (.cons .int (.cons .int (.cons (.Abp _ _ _ _ AY) .nil)))) (.cons (.AfN _ _ _ _ (AN _ AY)) (.cons .int .nil)))
def UI(e:Int):DV:=.CJ [.agg [.int .i64 0,.int .i64 0,.nil],.agg [.int .i64 0,.int .i64 0,.nil],.int .i64 e]
theorem UJ{r:Nat}:∀{j:Nat} {ms:List (Bf × Int)},XF r j ms->∀i:Nat,i<ms.length->Bq (ms.getD i ([],0)).1=wc/\Br (ms.getD i ([],0)).2=wc/\(ms.getD i ([],0)).1.length+(j+i)=r
 | _,[],_,i,h=>absurd h (Nat.not_lt_zero _)
 | j,m::ms,hm,0,_=>hm.1
 | j,m::ms,hm,i+1,h=>by have:=UJ hm.2 i (by simpa using h);rw[show j+(i+1)=j+1+i by omega];exact this
theorem Afc{ms:List (Bf × Int)}{i:Nat}(h:i<ms.length):vC (SY ms) i []=[.Bj .arg .u64 (ms.getD i ([],0)).1,.int .u64 (ms.getD i ([],0)).2]:=by unfold SY;rw[Al,Ba,As h,Al,As h]; rfl
theorem XE(ms:List (Bf × Int)):(SY ms).length=ms.length:=by unfold SY; rw[AO]
theorem Adk{n i:Nat}{ms:List (Bf × Int)}(h:i<ms.length)(q:Bf):Ie n i (ms.drop i) q=F5 n n (Ie n (i+1) (ms.drop (i+1)) q) (i:Int) 0 (ms.getD i ([],0)).1 (ms.getD i ([],0)).2:=by rw[xx h,Ie,Al,As h]; rfl
theorem Wt{R:Nat}(h:R<=6):K4 (R:Int)=((R:Int),(R:Int),Fi R,0):=by unfold K4 Fi;rw[Az (AgV h),Ad]
theorem AiU{n:Nat}(h:n<=6):n*n<=36:=AE h h
theorem Yl(N:Nat){R C:Nat}{l:Bf}(r6:R<=6){x:Bf × List (Bf × Int)}(hx:Hk R C l=wM x)(hm:XF R 0 x.2)(hxr:Bq x.1=wc)(hxl:x.1.length<=36):∀(j F:Nat),j<=x.2.length->j<F ->
 qr.DE.L0 N F (R:Int) (C:Int) l ((j:Int)-1) (Ie R j (x.2.drop j) (Fi R))=
 bif Nm R C l then wM (.CJ [.agg [.int .i64 (R:Int),.int .i64 (R:Int),.Bj .BE .u64 (Iw R C l)],.agg [.int .i64 (R:Int),.int .i64 (C:Int),.Bj .arg .u64 (IA R C l)],.int .i64 0])
 else wM (UI 2):=by
 have hq:Iw R C l=Ie R 0 x.2 (Fi R):=by unfold Iw; rw[hx]
 have hr:IA R C l=x.1:=by unfold IA; rw[hx]
 have hd:FB (R:Int) (C:Int) ([]++l)=((R:Int),(C:Int),x.1,0):=by unfold FB;rw[zZ,Ad,Ad,hx,hr]; rfl
 have hmd:Lt (R:Int) (C:Int) ([]++l)=SY x.2:=by unfold Lt;rw[zZ,Ad,Ad,hx]
 have h36:=AiU r6;intro j
 induction j with
 | zero =>
   intro F _ hF;obtain⟨F,rfl⟩:∃G,F=G+1:=⟨F-1,by omega⟩
   have hb:=PY R x.2 0 (Fi R) (Sb R) (by unfold Fi; exact Ch _ _ _);have ok1:Cw (Ie R 0 x.2 (Fi R))=wc:=FO hb.1 (by omega);have ok2:Cw x.1=wc:=FO hxr (by omega);have hfo:Nm R C l=(Dx (Ie R 0 x.2 (Fi R))&&Dx x.1):=by unfold Nm; rw[hx,hq,hr]; rfl
   rw[qr.DE.B7,B8,Ac (by omega),Aa,List.drop_zero,ok1,Aa,hd,Wt r6,ok2,AV,Aa,hfo,hq,hr];cases Dx (Ie R 0 x.2 (Fi R)) with
   | false=>rfl
   | true=>cases Dx x.1<;>rfl
 | succ j ih =>
   intro F hj hF;obtain⟨F,rfl⟩:∃G,F=G+1:=⟨F-1,by omega⟩
   have ej:(((j+1:Nat):Int))-1=(j:Int):=by omega
   have hg:=UJ hm j (by omega);have hb:=PY R (x.2.drop (j+1)) (j+1) (Fi R) (Sb R) (by unfold Fi; exact Ch _ _ _);have hr1:=D7 r6 r6 hb.2;have hap:Md (R:Int) (R:Int) (j:Int) 0 (x.2.getD j ([],0)).1=wc:=Ac (by omega);have hmg:=Afc (ms:=x.2) (i:=j) (by omega);rw[qr.DE.B7,ej,B8,Ag (show ¬(j:Int)<0 by omega),Af,hmd,XE,Ac (show(0:Int)<=(j:Int) by omega),Ac (show(j:Int)<(x.2.length:Int) by omega),Ah,Aa,Ad,hmg,Wt r6]
   show(bif wc then bif wc then bif wc then (bif (((BD (R:Int) (R:Int) (Ie R (j+1) (x.2.drop (j+1)) (Fi R))&&Md (R:Int) (R:Int) (j:Int) (0:Int) (x.2.getD j ([],0)).1)&&(Bq (Ie R (j+1) (x.2.drop (j+1)) (Fi R))&&Bq (x.2.getD j ([],0)).1))&&Br (x.2.getD j ([],0)).2) then
    qr.DE.L0 N F (R:Int) (C:Int) l (Bh ((j:Int)-(1:Int))) (F5 (wi (R:Int)) (wi (R:Int)) (Ie R (j+1) (x.2.drop (j+1)) (Fi R)) (j:Int) (0:Int) (x.2.getD j ([],0)).1 (x.2.getD j ([],0)).2) else wN) else wN else wN else wN)=_
   rw[Aa,Aa,Aa,hr1,hap,hb.1,hg.1,hg.2.1,Ah,Ah,Ah,Aa,Ad,Bz (by omega) (by omega),<- Adk (by omega)];exact ih F (by omega) (by omega)
theorem AfR{R C:Nat}{l:Bf}(hl:l.length=R*C)(al:Bq l=wc){x:Bf × List (Bf × Int)}(hx:Hk R C l=wM x):Bq x.1=wc/\x.1.length=R*C/\x.2.length=ER R C/\XF R 0 x.2 :=Tz R C (ER R C) 0 l x al hl (by unfold ER; omega) hx
theorem RZ{r c:Int}{l:Bf}(h:BT r c l=0):EY r c l=if Nm r.toNat c.toNat l=wc then 0 else 2:=by unfold EY; rw[Ay (by rw[h]; decide)]
theorem Yn{r c:Int}{l:Bf}(h:BT r c l≠0):EY r c l=BT r c l:=by unfold EY; rw[Az h]
theorem Zj{r c:Int}{l:Bf}{e:Int}(h:EY r c l=e)(he:e≠0):qX r c l=Jw e/\rX r c l=Jw e:=by unfold qX rX; rw[h,Az he,Az he]; exact⟨rfl,rfl⟩
theorem VN{r c:Int}{l:Bf}(h:EY r c l=0):qX r c l=(r,r,Iw r.toNat c.toNat l,0)/\rX r c l=(r,c,IA r.toNat c.toNat l,0):=by unfold qX rX; rw[h]; exact⟨rfl,rfl⟩
theorem Vr{drops:List Nat}{e:Int}{g h:QT}:Wk drops (UI e) (DV.CJ [.agg [.int .i64 (Jw e).1,.int .i64 (Jw e).2.1,.Bj g .u64 (Jw e).2.2.1],.agg [.int .i64 (Jw e).1,.int .i64 (Jw e).2.1,.Bj h .u64 (Jw e).2.2.1],.int .i64 e]) :=Wk.FQ (.cons (Wk.GA (.cons .int (.cons .int (.cons N4 .nil)))) (.cons (Wk.GA (.cons .int (.cons .int (.cons N4 .nil)))) (.cons .int .nil)))
theorem qr.DE.Bp:qr.DE.Kn:=qr.DE.D9 (kc DI.Check.Bp (kc BA.Apply.Bp (kc Bg.Ii.Bp (kc qr.down.Bp (kc Bs.Finite.Bp .nil))))) fun r c l hp=>by
 have al:Bq l=wc:=hp;show ∃N dv drops,_=wM dv/\Wk drops dv (DV.CJ [.agg [.int .i64 (qX r c l).1,.int .i64 (qX r c l).2.1,.Bj .arg .u64 (qX r c l).2.2.1],.agg [.int .i64 (rX r c l).1,.int .i64 (rX r c l).2.1,.Bj .arg .u64 (rX r c l).2.2.1],.int .i64 (EY r c l)]);by_cases h1:BT r c l=0
 ·obtain⟨hr,hf⟩:=Yw h1;have h36:=Ll hr;obtain⟨R,C,rfl,rfl,r6,c6,hl⟩:=DF hr;have d0:decide (0+l.length<=GK)=wc:=Ac (by unfold GK; omega);cases hx:Hk R C l with
  | none =>
    have hfo:Nm R C l=wh:=by unfold Nm; rw[hx]; rfl
    have he:EY (R:Int) (C:Int) l=2:=by rw[RZ h1,Ad,Ad,hfo]; rfl
    obtain⟨e1,e2⟩:=Zj he (by decide)
    have hd:FB (R:Int) (C:Int) ([]++l)=Jw 2:=by unfold FB;rw[zZ,Ad,Ad,hx]; rfl
    rw[e1,e2,he];exact⟨0,UI 2,[],by rw[qr.DE.ev,al,Aa,M8 h1,Af,d0,Aa,hd,zZ,hr,hf,al,Ah,Ah,Aa,show((Jw 2).2.2.2 !=(0:Int))=wc from rfl,Aa]; rfl,Vr⟩
  | some x =>
    obtain⟨x1,x2,x3,x4⟩:=AfR hl al hx
    have hd:FB (R:Int) (C:Int) ([]++l)=((R:Int),(C:Int),x.1,0):=by unfold FB IA;rw[zZ,Ad,Ad,hx]; rfl
    have hmd:Lt (R:Int) (C:Int) ([]++l)=SY x.2:=by unfold Lt;rw[zZ,Ad,Ad,hx]
    have hn:x.2.length<=6:=by rw[x3]; unfold ER; omega
    have hloop:=Yl 8 r6 hx x4 x1 (by rw[x2]; exact AE r6 c6) x.2.length 8 (AB _) (by omega);rw[Ap (AB _)] at hloop;have hrun:=qr.DE.ev 8 (R:Int) (C:Int) l;rw[al,Aa,M8 h1,Af,d0,Aa,hd,hmd,XE,zZ,hr,hf,al,Ah,Ah,Aa,show(((R:Int),(C:Int),x.1,(0:Int)).2.2.2 !=(0:Int))=wh from rfl,Af,Wt r6,Bz (by omega) (by omega)] at hrun;have hrun:=hrun.trans hloop;cases hfo:Nm R C l with
    | false =>
      have he:EY (R:Int) (C:Int) l=2:=by rw[RZ h1,Ad,Ad,hfo]; rfl
      obtain⟨e1,e2⟩:=Zj he (by decide);rw[hfo,Af] at hrun;rw[e1,e2,he];exact⟨8,UI 2,[],hrun,Vr⟩
    | true =>
      have he:EY (R:Int) (C:Int) l=0:=by rw[RZ h1,Ad,Ad,hfo]; rfl
      obtain⟨e1,e2⟩:=VN he;rw[hfo,Aa] at hrun;rw[e1,e2,he,Ad,Ad];exact⟨8,_,[],hrun,Wk.FQ (.cons (Wk.GA (.cons .int (.cons .int (.cons (.BE _ _) .nil)))) (.cons (Wk.GA (.cons .int (.cons .int (.cons .WC .nil)))) (.cons .int .nil)))⟩
 ·have he:=Yn h1;obtain⟨e1,e2⟩:=Zj he h1;rw[e1,e2,he];exact⟨0,UI (BT r c l),[],by rw[qr.DE.ev,al,Aa,neI h1,Aa]; rfl,Vr⟩
theorem Aac{r c:Int}{l:Bf}(h:EY r c l=0):BT r c l=0:=by
 by_cases h1:BT r c l=0
 ·exact h1
 ·rw[Yn h1] at h; exact absurd h h1
theorem Ym{r c:Int}{l:Bf}(al:Bq l=wc)(h:EY r c l=0):∃R C:Nat,r=R/\c=C/\R<=6/\C<=6/\l.length=R*C/\Bq (Iw R C l)=wc/\(Iw R C l).length=R*R/\Bq (IA R C l)=wc/\(IA R C l).length=R*C/\Dx (Iw R C l)=wc/\Dx (IA R C l)=wc:=by
 have h1:=Aac h;rw[RZ h1] at h;obtain⟨R,C,rfl,rfl,r6,c6,hl⟩:=DF (Yw h1).1;rw[Ad,Ad] at h;by_cases ho:Nm R C l=wc
 ·unfold Nm at ho;obtain⟨o1,o2⟩:=Bi.1 ho;obtain⟨o3,o4⟩:=Bi.1 o2;obtain⟨q1,q2⟩:=Ws o1;obtain⟨g1,g2⟩:=Abk al hl o1;exact⟨R,C,rfl,rfl,r6,c6,hl,q1,q2,g1,g2,o3,o4⟩
 ·rw[Ay ho] at h; exact absurd h (by decide)
theorem AaR{R C:Nat}{l:Bf}(r6:R<=6)(c6:C<=6)(hl:l.length=R*C){x y a b:Int}(hp:Kg (R:Int) (C:Int) x y a b=wc):
 Ff (R:Int) (C:Int) l x y a b=(a,b,Dj a.toNat b.toNat fun i k=>Dy (C:Int) l (x+(i:Int)) (y+(k:Int)),0):=by
 unfold Ff; rw[Az (D7 r6 c6 hl),Az hp]
theorem AbL{r c:Int}{l:Bf}(al:Bq l=wc)(h:EY r c l=0):
 Ff r r (Iw r.toNat c.toNat l) 0 0 r (min r c)=TR r c l/\Ff r c (IA r.toNat c.toNat l) 0 0 (min r c) c=Pf r c l:=by
 obtain⟨R,C,rfl,rfl,r6,c6,hl,q1,q2,g1,g2,_,_⟩:=Ym al h;unfold TR Pf;rw[h,Ay (by decide),Ay (by decide),Ad,Ad];have p1:Kg (R:Int) (R:Int) 0 0 (R:Int) (min (R:Int) (C:Int))=wc:=Ac (by omega);have p2:Kg (R:Int) (C:Int) 0 0 (min (R:Int) (C:Int)) (C:Int)=wc:=Ac (by omega);rw[AaR r6 r6 q2 p1,AaR r6 c6 g2 p2];exact⟨rfl,rfl⟩
theorem qr.Ok.Bp:Kq 62 qr.Ok.Bu:=E1 qr.Ok.E Tryz.func62 (kc Bg.Part.Bp (kc qr.DE.Bp .nil)) fun r c l hp=>by
 have al:Bq l=wc:=hp;show ∃N dv drops,_=wM dv/\Wk drops dv (DV.CJ [.agg [.int .i64 (TR r c l).1,.int .i64 (TR r c l).2.1,.Bj .BE .u64 (TR r c l).2.2.1],.agg [.int .i64 (Pf r c l).1,.int .i64 (Pf r c l).2.1,.Bj .BE .u64 (Pf r c l).2.2.1],.int .i64 (EY r c l)]);by_cases h:EY r c l=0
 ·obtain⟨e1,e2⟩:=VN h;obtain⟨t1,t2⟩:=AbL al h;refine⟨0,DV.CJ [.agg [.int .i64 (TR r c l).1,.int .i64 (TR r c l).2.1,.Bj .BE .u64 (TR r c l).2.2.1],.agg [.int .i64 (Pf r c l).1,.int .i64 (Pf r c l).2.1,.Bj .BE .u64 (Pf r c l).2.2.1],.int .i64 0],[],by rw[qr.Ok.ev,al,Aa,M8 h,Af,e1,e2,t1,t2],by rw[h]; exact Wk.FQ (.cons (Wk.GA (.cons .int (.cons .int (.cons .IP .nil)))) (.cons (Wk.GA (.cons .int (.cons .int (.cons .IP .nil)))) (.cons .int .nil)))⟩
 ·have e1:TR r c l=Jw (EY r c l):=by unfold TR; rw[Az h]
  have e2:Pf r c l=Jw (EY r c l):=by unfold Pf; rw[Az h]
  rw[e1,e2];exact⟨0,UI (EY r c l),[],by rw[qr.Ok.ev,al,Aa,neI h,Aa]; rfl,Vr⟩
def D3.Finite.hint:Nat->Option BK
 | 0=>wM { Da:=[0,3],Cg:=[],Cv:=[] }
 | _=>wN
def D3.Finite.E:=Dr (CW [(114,Cc.Finite.Bu)]) (fun _=>wh) D3.Finite.hint (fun _=>wN)
section
variable(N M:Nat)(x:Bf)(p3:Int)
def D3.Finite.L0:Option DV:=C6 D3.Finite.E N f74 (Bw f74) [1,0,1,0] [] M ⟨Fp 16 [(0,.Bj .arg .u64 x),(3,.int .i64 p3)],[]⟩
theorem D3.Finite.B7:D3.Finite.L0 N (M+1) x p3=cond (BH p3 (wj x:Int)) (bif ((decide (0<=p3))&&(decide (p3<(wj x:Int)))) then cond (Br (vC x (wi p3) 0)) (bif (!(Du (vC x (wi p3) 0))) then wM (.bool wh) else D3.Finite.L0 N M x (Bh (p3+1))) wN else wN) (wM (.bool wc)):=by kernel_rfl
theorem D3.Finite.ev:Cz D3.Finite.E N f74 (Bw f74) [.Bj .arg .u64 x]=
 D3.Finite.L0 N N x 0:=by kernel_rfl
end
def BY.Check.E:=E0 [(74,D3.Finite.Bu),(90,De.IC.Bu)]
theorem BY.Check.ev(N:Nat)(r c:Int)(l:Bf):Cz BY.Check.E N f35 (Bw f35) [.agg [.int .i64 r,.int .i64 c,.Bj .arg .u64 l]]=cond (!(BD r c l)) (wM (.int .i64 1)) (bif (Cw l) then cond (!(Dx l)) (wM (.int .i64 4)) (wM (.int .i64 0)) else wN):=by kernel_rfl
theorem Rx(N:Nat){x:Bf}(hx:Cw x=wc):∀(k i F:Nat),i+k=x.length->k<F->D3.Finite.L0 N F x (i:Int)=wM (.bool ((x.drop i).all Du)):=by
 obtain⟨hl,hu⟩:=Io hx;intro k
 induction k with
 | zero =>
   intro i F hi hF;obtain⟨F,rfl⟩:∃G,F=G+1:=⟨F-1,by omega⟩
   rw[D3.Finite.B7,B8,Ag (by omega),Af,Ap (by omega)]; rfl
 | succ k ih =>
   intro i F hi hF;obtain⟨F,rfl⟩:∃G,F=G+1:=⟨F-1,by omega⟩
   rw[D3.Finite.B7,B8,Ac (show(i:Int)<(x.length:Int) by omega),Aa,Ac (show(0:Int)<=(i:Int) by omega),Ah,Aa,Ad,hu i (by omega),Aa,IT (by omega),yV];cases Du (x.getD i 0) with
   | false=>rfl
   | true =>rw[AH,Af,Bz (by omega) (by omega),AW];exact ih (i+1) F (by omega) (by omega)
theorem D3.Finite.Bp:Kq 74 D3.Finite.Bu:=E1 D3.Finite.E Tryz.func74 (kc Cc.Finite.Bp .nil) fun x hp=>by have hp:Cw x=wc:=hp;refine⟨x.length+1,D3.Finite.out [.l x],[],?_,.bool⟩;show _=wM (DV.bool (x.all Du));rw[D3.Finite.ev];exact Rx _ hp x.length 0 (x.length+1) (by omega) (by omega)
theorem BY.Check.Bp:Kq 35 BY.Check.Bu:=E1 BY.Check.E Tryz.func35 (kc D3.Finite.Bp (kc De.IC.Bp .nil)) fun r c l hp=>by
 have hp:Bq l=wc:=hp;refine⟨0,BY.Check.out [.i r,.i c,.l l],[],?_,.int⟩;show _=wM (DV.int .i64 (BT r c l));rw[BY.Check.ev];unfold BT;by_cases h:BD r c l=wc
 ·have:=Ll h;rw[h,AH,Af,FO hp (by omega),Aa,Az rfl];cases Dx l<;>rfl
 ·have h':BD r c l=wh:=by simpa using h
  rw[h']; rfl
section
variable{n Q:Nat}{l m:Bf}
end
theorem AgZ{c b i:Int}{l:Bf}{n j:Nat}(h:j<n):(BQ c l b i n).getD j 0=Dy c l (i+(j:Int)) b:=by unfold BQ;rw[Al,Ba,List.getElem?_range h]; rfl
theorem ME(a c b:Nat):wi ((a:Int)*(c:Int)+(b:Int))=a*c+b:=by rw[<- Ax,<- Int.natCast_add,Ad]
section
variable{R C i k:Nat}{l v:Bf}{t:Int}
end
def D4.Rows.hint:Nat->Option BK
 | 0=>wM { Da:=[1,2,3,4,5,10,13,62,63],Cg:=[(14,2,114002,.Bj 43 .u64 [])],Cv:=[5,10,13] }
 | _=>wN
def D4.Rows.E:=Dr (CW [(121,Bg.Check.Bu),(137,Bs.Add.Bu),(138,Bs.Mul.Bu),(201,Bs.Sub.Bu)]) (fun _=>wh) D4.Rows.hint (fun _=>wN)
section
variable(N M:Nat)(r c:Int)(l:Bf)(i k x y p63:Int)(p2:Bf)
def D4.Rows.L0:Option DV:=C6 D4.Rows.E N f204 (Bw f204) [1,1,1,1,1,0,1,0] [] M ⟨Fp 120 [(1,.int .i64 i),(2,.int .i64 k),(3,.int .u64 x),(4,.int .u64 y),(5,.ptr 5 0 0),(10,.ptr 10 0 0),(13,.ptr 13 0 0),(62,.int .i64 c),(63,.int .i64 p63)],[(5,wh,.box [.int .i64 r,.int .i64 c,.Bj .arg .u64 l]),(10,wh,.box [.int .i64 0,.int .i64 0,.nil]),(13,wh,.box [.int .i64 r,.int .i64 c,.Dh 114002]),(114002,wh,.Bj 43 .u64 p2)]⟩
theorem D4.Rows.B7:D4.Rows.L0 N (M+1) r c l i k x y p63 p2=cond (BH p63 c) (bif ((decide (0<=(Bh ((Bh (i*c))+p63))))&&(decide ((Bh ((Bh (i*c))+p63))<(wj l:Int)))) then cond ((decide (0<=(Bh ((Bh (k*c))+p63))))&&(decide ((Bh ((Bh (k*c))+p63))<(wj l:Int)))) (bif (Br x&&Br (vC l (wi (Bh ((Bh (i*c))+p63))) 0)) then cond (Br y&&Br (vC l (wi (Bh ((Bh (k*c))+p63))) 0)) (bif (Br (Cx x (vC l (wi (Bh ((Bh (i*c))+p63))) 0))&&Br (Cx y (vC l (wi (Bh ((Bh (k*c))+p63))) 0))) then cond ((decide (0<=(Bh ((Bh (i*c))+p63))))&&(decide ((Bh ((Bh (i*c))+p63))<(wj p2:Int)))) (bif (decide ((wi (Bh ((Bh (i*c))+p63)))<(wj p2))) then cond (Br x&&Br (vC l (wi (Bh ((Bh (k*c))+p63))) 0)) (bif (Br y&&Br (vC l (wi (Bh ((Bh (i*c))+p63))) 0)) then cond (Br (Cx x (vC l (wi (Bh ((Bh (k*c))+p63))) 0))&&Br (Cx y (vC l (wi (Bh ((Bh (i*c))+p63))) 0))) (bif ((decide (0<=(Bh ((Bh (k*c))+p63))))&&(decide ((Bh ((Bh (k*c))+p63))<(wj (zJ p2 (wi (Bh ((Bh (i*c))+p63))) (DD (Cx x (vC l (wi (Bh ((Bh (i*c))+p63))) 0)) (Cx y (vC l (wi (Bh ((Bh (k*c))+p63))) 0)))):Int)))) then cond (decide ((wi (Bh ((Bh (k*c))+p63)))<(wj (zJ p2 (wi (Bh ((Bh (i*c))+p63))) (DD (Cx x (vC l (wi (Bh ((Bh (i*c))+p63))) 0)) (Cx y (vC l (wi (Bh ((Bh (k*c))+p63))) 0))))))) (D4.Rows.L0 N M r c l i k x y (Bh (p63+1)) (zJ (zJ p2 (wi (Bh ((Bh (i*c))+p63))) (DD (Cx x (vC l (wi (Bh ((Bh (i*c))+p63))) 0)) (Cx y (vC l (wi (Bh ((Bh (k*c))+p63))) 0)))) (wi (Bh ((Bh (k*c))+p63))) (DW (Cx x (vC l (wi (Bh ((Bh (k*c))+p63))) 0)) (Cx y (vC l (wi (Bh ((Bh (i*c))+p63))) 0))))) wN else wN) wN else wN) wN else wN) wN else wN) wN else wN) wN else wN) (wM (.CJ [.agg [.int .i64 r,.int .i64 c,.Bj (.own 114002 43) .u64 p2],.int .i64 0])) :=Et (ET (CQ (JZ _ _) (CQ (JZ _ _) (CQ (CD _) (CQ (CD _) (CQ (CD _) (CQ (JZ _ _) (CQ (CD _) (CQ (CD _) (CQ (CD _) (CQ (CD _) (CQ (JZ _ _) (CQ (CD _) rfl rfl) rfl) rfl) rfl) rfl) rfl) rfl) rfl) rfl) rfl) rfl) rfl) rfl)
theorem D4.Rows.ev:Cz D4.Rows.E N f204 (Bw f204) [.agg [.int .i64 r,.int .i64 c,.Bj .arg .u64 l],.int .i64 i,.int .i64 k,.int .u64 x,.int .u64 y]=cond ((Iy r c l) !=(0:Int)) (wM (.CJ [.agg [.int .i64 0,.int .i64 0,.nil],.int .i64 (Iy r c l)])) (bif (((((BH i 0)||(DT r i))||(BH k 0))||(DT r k))||(i==k)) then wM (.CJ [.agg [.int .i64 0,.int .i64 0,.nil],.int .i64 7]) else bif (((decide ((0:Int)<=(wj l:Int)))&&(decide ((wj l:Int)<=(wj l:Int))))&&(decide ((wj l:Int)<=GK))) then D4.Rows.L0 N N r c l i k x y 0 (Mr (zo (wi (wj l:Int)) 0) l) else wN) :=Et (ET rfl (B4 (TO (BH i 0)) (B4 (TO (BH i 0)) (B4 (Rw (BH i 0)) (B4 (tt8 (BH i 0)) (B4 (Xb (BH i 0)) (B4 (Xa (BH i 0) (DT r i)) (B4 (YN (BH i 0) (DT r i)) (B4 (AgM (BH i 0) (DT r i)) (B4 (AbG (BH i 0) (DT r i) (BH k 0)) (B4 (AbG (BH i 0) (DT r i) (BH k 0)) (B4 (AbH (BH i 0) (DT r i) (BH k 0)) (B4 (Ak8 (BH i 0) (DT r i) (BH k 0)) (B4 (AgN (BH i 0) (DT r i) (BH k 0)) (B4 (AbI (BH i 0) (DT r i) (BH k 0) (DT r k)) (B4 (AbI (BH i 0) (DT r i) (BH k 0) (DT r k)) (B4 (AiM (BH i 0) (DT r i) (BH k 0) (DT r k)) (B4 (AiN (BH i 0) (DT r i) (BH k 0) (DT r k)) (CQ (Ak9 _ _ _ _ _) rfl (CQ (Aml _ _ _) rfl rfl))))))))))))))))))))
end
def D4.Pe.E:=E0 [(204,D4.Rows.Bu),(203,Bg.EH.Bu)]
theorem D4.Pe.ev(N:Nat)(r c:Int)(l:Bf)(i k:Int)(x y:Int):Cz D4.Pe.E N f170 (Bw f170) [.agg [.int .i64 r,.int .i64 c,.Bj .arg .u64 l],.int .i64 i,.int .i64 k,.int .u64 x,.int .u64 y]=cond (((Ej r c l).2.2.2) !=(0:Int)) (wM (.CJ [.agg [.int .i64 0,.int .i64 0,.nil],.int .i64 ((Ej r c l).2.2.2)])) (bif (BD ((Ej r c l).1) ((Ej r c l).2.1) ((Ej r c l).2.2.1)&&(Bq ((Ej r c l).2.2.1)&&((Br x&&Br y)&&Ci (0<=i/\i<((Ej r c l).1)/\0<=k/\k<((Ej r c l).1)/\i≠k)))) then wM (.CJ [.agg [.int .i64 ((Ej ((Ej r c l).1) ((Ej r c l).2.1) (Lk (wi ((Ej r c l).1)) (wi ((Ej r c l).2.1)) ((Ej r c l).2.2.1) (wi i) (wi k) x y)).1),.int .i64 ((Ej ((Ej r c l).1) ((Ej r c l).2.1) (Lk (wi ((Ej r c l).1)) (wi ((Ej r c l).2.1)) ((Ej r c l).2.2.1) (wi i) (wi k) x y)).2.1),.Bj .BE .u64 ((Ej ((Ej r c l).1) ((Ej r c l).2.1) (Lk (wi ((Ej r c l).1)) (wi ((Ej r c l).2.1)) ((Ej r c l).2.2.1) (wi i) (wi k) x y)).2.2.1)],.int .i64 ((Ej ((Ej r c l).1) ((Ej r c l).2.1) (Lk (wi ((Ej r c l).1)) (wi ((Ej r c l).2.1)) ((Ej r c l).2.2.1) (wi i) (wi k) x y)).2.2.2)]) else wN):=by kernel_rfl
end Go.Proofs.S1
namespace Go.Cn
open Go.Den
theorem Ya(key:Int->Int)(x:Int)(l:Bf):(Nh key x l).length=l.length+1:=by
 induction l with
 | nil=>rfl
 | cons y t ih =>
   unfold Nh;split
   ·rw[zj,ih,zj]
   ·rfl
theorem Afx{key:Int->Int}{x z:Int}{l:Bf}(h:z∈Nh key x l):z=x\/z∈l:=by
 induction l with
 | nil=>exact .inl (ze.1 h)
 | cons y t ih =>
   unfold Nh at h;split at h
   ·rcases zB.1 h with h | h
    ·exact .inr (h ▸ AY)
    ·rcases ih h with h | h
     ·exact .inl h
     ·exact .inr (AN _ h)
   ·rcases zB.1 h with h | h
    ·exact .inl h
    ·exact .inr h
theorem PM{n:Nat}{x:Bf}(h:HO n x=wc){j:Nat}(hj:j<x.length):0<=x.getD j 0/\x.getD j 0<(n:Int):=by have:=zF.1 h (x.getD j 0) (by rw[Al,As hj]; exact z6 hj);exact A6 this
theorem Ko{n:Nat}{x:Bf}:HO n x=wc↔∀z∈x,0<=z/\z<(n:Int):=by unfold HO;rw[zF];exact forall_congr' fun z=>forall_congr' fun _=>decide_eq_true_iff
theorem YV(key:Int->Int)(l:Bf)(x:Int):Om key (l++[x])=Nh key x (Om key l):=by unfold Om; rw[List.foldl_append]; rfl
theorem Po(key:Int->Int)(l:Bf):(Om key l).length=l.length:=by
 suffices h:∀acc:Bf,(l.foldl (fun acc x=>Nh key x acc) acc).length=acc.length+l.length by have:=h []; rw[List.length_nil,AS] at this; exact this
 induction l with
 | nil=>intro acc; rfl
 | cons y t ih=>intro acc; rw[List.foldl_cons,ih,Ya,zj]; omega
theorem Uw{key:Int->Int}{l:Bf}{z:Int}(h:z∈Om key l):z∈l:=by
 suffices g:∀acc:Bf,z∈l.foldl (fun acc x=>Nh key x acc) acc->z∈acc\/z∈l by
  rcases g [] h with h | h
  ·cases h
  ·exact h
 clear h
 induction l with
 | nil=>intro acc h; exact .inl h
 | cons y t ih =>
   intro acc h;rcases ih _ h with h | h
   ·rcases Afx h with h | h
    ·exact .inr (h ▸ AY)
    ·exact .inl h
   ·exact .inr (AN _ h)
theorem AbO(A B:Bf)(y v:Int):((A++y::v::B).set (A.length+1) y).set A.length v=A++v::y::B:=by
 induction A with
 | nil=>rfl
 | cons a A ih =>rw[zj,List.cons_append,wy,wy,ih];rfl
theorem Yg(A B:Bf)(v:Int):(A++v::B).getD A.length 0=v:=by rw[Al,AX (AB _),Nat.sub_self]; rfl
def rgF(n:Nat)(l:Bf)(i k:Nat)(c s:Int)(a b:Nat):Int:=
 if a=i then DD (Cx c (Dy (n:Int) l (i:Int) (b:Int))) (Cx s (Dy (n:Int) l (k:Int) (b:Int)))
 else if a=k then DW (Cx c (Dy (n:Int) l (k:Int) (b:Int))) (Cx s (Dy (n:Int) l (i:Int) (b:Int))) else Dy (n:Int) l (a:Int) (b:Int)
def rgS(R n:Nat)(l:Bf)(i k:Nat)(c s:Int)(j:Nat):Bf:=Dj R n fun a b=>if b<j then rgF n l i k c s a b else Dy (n:Int) l (a:Int) (b:Int)
theorem Ae5{R n:Nat}{l:Bf}(h:l.length=R*n)(i k:Nat)(c s:Int):rgS R n l i k c s 0=l:=by
 unfold rgS
 conv=>rhs; rw[<- NW h]
 exact EN fun a b _ _=>Ay (by omega)
theorem Ahg(R n:Nat)(l:Bf)(i k:Nat)(c s:Int):rgS R n l i k c s n=Lk R n l i k c s:=by unfold rgS Lk;exact EN fun a b _ hb=>Az hb
theorem Ahf(R n:Nat)(l:Bf)(i k:Nat)(c s:Int)(j:Nat):(rgS R n l i k c s j).length=R*n:=Ch _ _ _
theorem Ae6{R n:Nat}{l:Bf}{i k:Nat}{c s:Int}{j:Nat}(hj:j<n)(hik:i≠k):
 ((rgS R n l i k c s j).set (i*n+j) (DD (Cx c (Dy (n:Int) l (i:Int) (j:Int))) (Cx s (Dy (n:Int) l (k:Int) (j:Int))))).set (k*n+j)
   (DW (Cx c (Dy (n:Int) l (k:Int) (j:Int))) (Cx s (Dy (n:Int) l (i:Int) (j:Int))))=rgS R n l i k c s (j+1):=by
 unfold rgS;rw[Nj hj,Nj hj];refine EN fun a b _ _=>?_
 by_cases hb:b=j
 ·subst hb;by_cases h1:a=k
  ·subst h1;rw[Az ⟨rfl,rfl⟩,Az (wF _)];unfold rgF;rw[Ay (Ne.symm hik),Az rfl]
  ·rw[Ay (fun h=>h1 h.1),Az (wF _)];by_cases h2:a=i
   ·subst h2;rw[Az ⟨rfl,rfl⟩];unfold rgF;rw[Az rfl]
   ·rw[Ay (fun h=>h2 h.1),Ay (Nat.lt_irrefl _)];unfold rgF;rw[Ay h2,Ay h1]
 ·rw[Ay (fun h=>hb h.2),Ay (fun h=>hb h.2)];by_cases h:b<j
  ·rw[Az h,Az (by omega)]
  ·rw[Ay h,Ay (by omega)]
theorem T5{R n:Nat}{l:Bf}(hl:Bq l=wc)(i k:Nat)(c s:Int):Bq (GX R n l i k c s)=wc:=Gu fun a b=>by
 split
 ·exact Pc (Fo _ _) (Fo _ _)
 ·split
  ·exact O8 (Fo _ _) (Fo _ _)
  ·exact FV hl
theorem Adb{R n:Nat}{l:Bf}{i k:Nat}(hi:i<n)(hk:k<n)(c s:Int):
 (Dj R n fun a b=>Dy (R:Int) (Lk n R (Dj n R fun a b=>Dy (n:Int) l (b:Int) (a:Int)) i k c s) (b:Int) (a:Int))=GX R n l i k c s:=by
 unfold GX;refine EN fun a b ha hb=>?_
 unfold Lk;rw[F6 hb ha];by_cases h1:b=i
 ·rw[Az h1,Az h1,F6 hi ha,F6 hk ha]
 ·rw[Ay h1,Ay h1];by_cases h2:b=k
  ·rw[Az h2,Az h2,F6 hi ha,F6 hk ha]
  ·rw[Ay h2,Ay h2,F6 hb ha]
theorem Ada{l x:Bf}(h:l.length=x.length):Mr l x=x:=by unfold Mr;rw[h,List.take_length,Ap (by omega),yz]
def Hu(R n:Nat)(s:Bf × Bf × Bool):Prop:=(s.1.length=R*n/\Bq s.1=wc)/\s.2.1.length=n*n/\Bq s.2.1=wc
theorem Vb(R n:Nat)(l:Bf)(i k:Nat)(c s:Int):(GX R n l i k c s).length=R*n:=Ch _ _ _
theorem Hu.Jd{be:Bf->Bf->Int->Bool}{R n:Nat}{low:Int}{p q:Nat}{s:Bf × Bf × Bool}(h:Hu R n s):Hu R n (Jd be R n low p q s):=by
 unfold Go.Cn.Jd;split
 ·exact h
 ·exact⟨⟨Vb ..,T5 h.1.2 ..⟩,Vb ..,T5 h.2.2 ..⟩
theorem Hu.K2{be:Bf->Bf->Int->Bool}{R n:Nat}{low:Int}{p:Nat}:∀(d q:Nat) {s:Bf × Bf × Bool},Hu R n s->Hu R n (K2 be R n low p d q s)
 | 0,_,_,h=>h
 | d+1,q,_,h=>Hu.K2 d (q+1) h.Jd
theorem Hu.Im{be:Bf->Bf->Int->Bool}{R n:Nat}{low:Int}:∀(d p:Nat) {s:Bf × Bf × Bool},Hu R n s->Hu R n (Im be R n low d p s)
 | 0,_,_,h=>h
 | d+1,p,_,h=>Hu.Im d (p+1) (Hu.K2 _ _ h)
theorem Hu.DC{R n:Nat}{low:Int}:∀(m:Nat) {w v:Bf},Hu R n (w,v,wc)->Hu R n ((DC R n low m w v).1,(DC R n low m w v).2.1,wc)
 | 0,_,_,h=>h
 | m+1,w,v,h=>by
   have g:Hu R n (Gp R n low w v):=Hu.Im n 0 h;unfold Go.Cn.DC;split
   ·exact⟨g.1,g.2⟩
   ·exact Hu.DC m ⟨g.1,g.2⟩
theorem U7{R n:Nat}{low:Int}:∀(m:Nat) (w v:Bf),(DC R n low m w v).2.2=0\/(DC R n low m w v).2.2=6
 | 0,_,_=>.inr rfl
 | m+1,w,v=>by
   unfold Go.Cn.DC;split
   ·exact .inl rfl
   ·exact U7 m _ _
theorem FH(R n:Nat)(l ps:Bf):(Dp R n l ps).length=R*n:=Ch _ _ _
theorem IN{R n:Nat}{l ps:Bf}(h:Bq l=wc):Bq (Dp R n l ps)=wc:=Gu fun _ _=>FV h
theorem II(R n:Nat)(l:Bf):(CS R n l).length=n:=by unfold CS; rw[AO,AL]
theorem Q6(R n:Nat)(l:Bf):Bq (CS R n l)=wc:=TG fun _=>JF _
theorem IG(l:Bf)(k:Int):(B5 l k).length=l.length:=by unfold B5; rw[AO]
theorem Qs{l:Bf}{k:Int}(h:Bq l=wc):Bq (B5 l k)=wc:=Bv.2 fun x hx=>by obtain⟨y,hy,rfl⟩:=zh.1 hx;exact FD (Bv.1 h y hy)
theorem MS(n:Nat):(JD n).length=n:=by unfold JD; rw[AO,AL]
theorem VO(n:Nat):HO n (JD n)=wc:=Ko.2 fun z hz=>by obtain⟨i,hi,rfl⟩:=zh.1 hz;have:=List.mem_range.1 hi;omega
theorem Uv(l x:Bf):(Ey l x).length=x.length:=by unfold Ey; rw[x7,Po]
theorem Xo{n:Nat}{l x:Bf}(h:HO n x=wc):HO n (Ey l x)=wc:=Ko.2 fun z hz=>Ko.1 h z (Uw (List.mem_reverse.1 hz))
theorem Abl(i k:Int):Br (LS i k)=wc:=by
 unfold LS;split
 ·exact VR
 ·exact CI (n:=0) (by decide)
end Go.Cn
namespace Go.Proofs.S1
open Go Go.Den Go.Cn Go.Proofs
theorem OI{R C i j:Nat}(r6:R<=6)(c6:C<=6)(hi:i<R)(hj:j<C):Bh (Bh ((i:Int)*(C:Int))+(j:Int))=((i*C+j:Nat):Int)/\i*C+j<R*C:=by have h:=Fx hi hj;have:R*C<=36:=AE r6 c6;have e:(i:Int)*(C:Int)=((i*C:Nat):Int):=(Ax _ _).symm;refine⟨?_,h⟩;have e0:Bh ((i*C:Nat):Int)=((i*C:Nat):Int):=Bz (by omega) (by omega);rw[e,e0,Bz (by omega) (by omega)];omega
theorem AcS{R C:Nat}{l:Bf}{i k:Nat}{x y:Int}(r6:R<=6)(c6:C<=6)(hl:l.length=R*C)(al:Bq l=wc)(hx:Br x=wc)(hy:Br y=wc)(hi:i<R)(hk:k<R)(hik:i≠k)(N:Nat):
 ∀(d j F:Nat),j+d=C->d<F->D4.Rows.L0 N F (R:Int) (C:Int) l (i:Int) (k:Int) x y (j:Int) (rgS R C l i k x y j)=wM (.CJ [.agg [.int .i64 (R:Int),.int .i64 (C:Int),.Bj (.own 114002 tB) .u64 (Lk R C l i k x y)],.int .i64 (0:Int)]):=by
 intro d
 induction d with
 | zero =>
   intro j F hj hF;obtain⟨F,rfl⟩:∃G,F=G+1:=⟨F-1,by omega⟩
   obtain rfl:j=C:=by omega
   rw[D4.Rows.B7,B8,Ag (by omega),Af,Ahg]
 | succ d ih =>
   intro j F hj hF;obtain⟨F,rfl⟩:∃G,F=G+1:=⟨F-1,by omega⟩
   obtain⟨e1,b1⟩:=OI r6 c6 hi (show j<C by omega);obtain⟨e2,b2⟩:=OI r6 c6 hk (show j<C by omega);have a1:vC l (i*C+j) 0=Dy (C:Int) l (i:Int) (j:Int):=by unfold Dy; rw[ME]
   have a2:vC l (k*C+j) 0=Dy (C:Int) l (k:Int) (j:Int):=by unfold Dy; rw[ME]
   have g:∀n:Nat,n<R*C->(decide ((0:Int)<=(n:Int))&&decide ((n:Int)<((R*C:Nat):Int)))=wc:=fun n hn=>by rw[Ac (by omega),Ac (by omega)]; rfl
   rw[D4.Rows.B7,B8,Ac (by omega),Aa,e1,e2,Ad,Ad,yJ,Ahf,hl,a1,a2,g _ b1,g _ b2,Aa,Aa,hx,hy,FV al,FV al,Ah,Aa,Aa,Fo,Fo,Ah,Aa,Aa,
    Ac b1,Ac b2,Aa,Aa,Aa,Fo,Fo,Ah,Aa,Aa,Aa,Ae6 (show j<C by omega) hik,Bz (by omega) (by omega)]
   exact ih (j+1) F (by omega) (by omega)
theorem D4.Rows.Bp:Kq 204 D4.Rows.Bu:=E1 D4.Rows.E Tryz.func204 (kc Bg.Check.Bp (kc Bs.Add.Bp (kc Bs.Mul.Bp (kc Bs.Sub.Bp .nil)))) fun r c l i k x y hp=>by
 obtain⟨hr,hp⟩:=Bi.1 (show(BD r c l&&(Bq l&&((Br x&&Br y)&&Ci (0<=i/\i<r/\0<=k/\k<r/\i≠k))))=wc from hp);obtain⟨al,hp⟩:=Bi.1 hp;obtain⟨hxy,hp⟩:=Bi.1 hp;obtain⟨hx,hy⟩:=Bi.1 hxy;obtain⟨i0,i1,k0,k1,hik⟩:=Bv.1 hp;obtain⟨R,C,rfl,rfl,r6,c6,hl⟩:=DF hr;obtain⟨i,rfl⟩:∃j:Nat,i=j:=⟨i.toNat,by omega⟩
 obtain⟨k,rfl⟩:∃j:Nat,k=j:=⟨k.toNat,by omega⟩
 have hlen:l.length<=36:=by rw[hl]; exact AE r6 c6
 refine⟨C+1,.CJ [.agg [.int .i64 (R:Int),.int .i64 (C:Int),.Bj (.own 114002 tB) .u64 (Lk R C l i k x y)],.int .i64 (0:Int)],[114002],?_,?_⟩
 ·have ec:Iy (R:Int) (C:Int) l=0:=by unfold Iy; rw[hr]; rfl
  have hn:zo (wi ((l.length:Nat):Int)) (0:Int)=zo l.length 0:=by rw[Ad]
  rw[D4.Rows.ev,ec,show((0:Int) !=0)=wh from rfl,Af,B8,B8,Ei,Ei,Ag (by omega),Ag (by omega),Ag (by omega),Ag (by omega),
   show(((i:Int))==(k:Int))=wh from by simpa using(fun h=>hik h)]
  simp only[Bool.or_self,Af];rw[Ac (by omega),Ac (yO _),Ac (by unfold GK; omega),Ah,Ah,Aa,hn,Ada (List.length_replicate ..)];have:=AcS r6 c6 hl al hx hy (by omega) (by omega) (i:=i) (k:=k) (fun h=>hik (by omega)) (C+1) C 0 (C+1) (by omega) (by omega);rw[Ae5 hl] at this;exact this
 ·exact Wk.FQ (.cons (YD (ze.2 rfl)) (.cons .int .nil))
theorem D4.Pe.Bp:Kq 170 D4.Pe.Bu:=E1 D4.Pe.E Tryz.func170 (kc D4.Rows.Bp (kc Bg.EH.Bp .nil)) fun r c l i k x y hp=>by
 obtain⟨hr,hp⟩:=Bi.1 (show(BD r c l&&(Bq l&&((Br x&&Br y)&&Ci (0<=i/\i<c/\0<=k/\k<c/\i≠k))))=wc from hp);obtain⟨al,hp⟩:=Bi.1 hp;obtain⟨hxy,hp⟩:=Bi.1 hp;obtain⟨i0,i1,k0,k1,hik⟩:=Bv.1 hp;obtain⟨R,C,rfl,rfl,r6,c6,hl⟩:=DF hr;obtain⟨i,rfl⟩:∃j:Nat,i=j:=⟨i.toNat,by omega⟩
 obtain⟨k,rfl⟩:∃j:Nat,k=j:=⟨k.toNat,by omega⟩
 have t1:Ej (R:Int) (C:Int) l=((C:Int),(R:Int),Dj C R fun a b=>Dy (C:Int) l (b:Int) (a:Int),0):=by unfold Ej; rw[Az hr,Ad,Ad]
 have r2:BD (C:Int) (R:Int) (Dj C R fun a b=>Dy (C:Int) l (b:Int) (a:Int))=wc:=Tr _ c6 r6;have r3:BD (C:Int) (R:Int) (Lk C R (Dj C R fun a b=>Dy (C:Int) l (b:Int) (a:Int)) i k x y)=wc:=Tr _ c6 r6
 have t2:Ej (C:Int) (R:Int) (Lk C R (Dj C R fun a b=>Dy (C:Int) l (b:Int) (a:Int)) i k x y)=((R:Int),(C:Int),GX R C l i k x y,0):=by unfold Ej; rw[Az r3,Ad,Ad,Adb (by omega) (by omega)]
 refine⟨0,.CJ [.agg [.int .i64 (R:Int),.int .i64 (C:Int),.Bj .BE .u64 (GX R C l i k x y)],.int .i64 (0:Int)],[],?_,?_⟩
 ·rw[D4.Pe.ev,t1,show((0:Int) !=0)=wh from rfl,Af,r2,show Bq (Dj C R fun a b=>Dy (C:Int) l (b:Int) (a:Int))=wc from Gu fun a b=>FV al,hxy,show Ci (0<=(i:Int)/\(i:Int)<(C:Int)/\0<=(k:Int)/\(k:Int)<(C:Int)/\(i:Int)≠(k:Int))=wc from Bv.2 ⟨i0,i1,k0,k1,hik⟩];simp only[Ah,Aa,Ad];rw[t2]
 ·exact Wk.FQ (.cons (Wk.GA (.cons .int (.cons .int (.cons (.BE _ _) .nil)))) (.cons .int .nil))
open Go Go.Den Go.Cn Go.Proofs
set_option maxRecDepth 100000
def Ct.EO.E:=E0 [(131,compare.Order.Bu)]
theorem Ct.EO.ev(N:Nat)(i k:Int)(l:Bf):Cz Ct.EO.E N f130 (Bw f130) [.int .i64 i,.int .i64 k,.CL [.Bj .arg .u64 l]]=cond ((decide (0<=k))&&(decide (k<(wj l:Int)))) (bif ((decide (0<=i))&&(decide (i<(wj l:Int)))) then cond (Br (vC l (wi k) 0)&&Br (vC l (wi i) 0)) (wM (.int .i64 (Gk (vC l (wi k) 0) (vC l (wi i) 0)))) wN else wN) wN :=Et (CQ (JZ _ _) (CQ (JZ _ _) (CQ (CD _) rfl rfl) rfl) rfl)
def BM.Bt.hint:Nat->Option BK
 | 0=>wM { Da:=[0,1,2,3,8],Cg:=[(0,0,100000,.Bj 3 .i64 [])],Cv:=[] }
 | 2=>wM { Da:=[0,1,2,3,8,9],Cg:=[(0,0,100000,.Bj 3 .i64 [])],Cv:=[] }
 | _=>wN
def BM.Bt.GN:List (Nat × Ew):=[(130,Ct.EO.Bu)]
def BM.Bt.E:Env:=Tw (CW BM.Bt.GN) (fun _=>wh) BM.Bt.hint (fun _=>wN) (fun _=>wN) 1
section
variable(N:Nat)(x:Bf)(M0 M:Nat)(a b:Int)(l:Bf)(p9:Int)(p0:Bf)(p8_1 p8:Int)(p0_1:Bf)
def BM.Bt.L0:Option (Bf):=PC BM.Bt.E N f205 (Bw f205) tI .i64 [1,0] [] M ⟨Fp 53 [(0,.Dh 100000),(1,.int .i64 a),(2,.int .i64 b),(3,.fn 130 [] [.CL [.Bj .arg .u64 l]]),(8,.int .i64 p8)],[(100000,wh,.Bj 3 .i64 p0_1)]⟩
def BM.Bt.L1:Option (Bf):=PC BM.Bt.E N f205 (Bw f205) tI .i64 [1,0,0,1,0,0,1,0] [M0] M ⟨Fp 53 [(0,.Dh 100000),(1,.int .i64 a),(2,.int .i64 b),(3,.fn 130 [] [.CL [.Bj .arg .u64 l]]),(8,.int .i64 p8_1),(9,.int .i64 p9)],[(100000,wh,.Bj 3 .i64 p0)]⟩
theorem BM.Bt.B7:BM.Bt.L0 N (M+1) a b l p8 p0_1=cond (BH p8 b) (BM.Bt.L1 N M N a b l p8 p0_1 p8) (wM p0_1):=by kernel_rfl
theorem BM.Bt.CU:BM.Bt.L1 N M0 (M+1) a b l p9 p0 p8_1=cond ((!(BH a p9))||((decide (0<=p9))&&(decide (p9<(wj p0:Int))))) (bif ((!(BH a p9))||(decide ((wi p9)<(wj p0)))) then cond ((!(BH a p9))||((decide (0<=(Bh (p9-1))))&&(decide ((Bh (p9-1))<(wj p0:Int))))) (bif ((!(BH a p9))||(decide ((wi (Bh (p9-1)))<(wj p0)))) then cond ((!(BH a p9))||(Cw l&&Ci (0<=(vC p0 (wi p9) 0)/\(vC p0 (wi p9) 0)<((wj l:Nat):Int)/\0<=(vC p0 (wi (Bh (p9-1))) 0)/\(vC p0 (wi (Bh (p9-1))) 0)<((wj l:Nat):Int)))) (bif ((BH a p9)&&(BH (Gk (Nf l (vC p0 (wi (Bh (p9-1))) 0)) (Nf l (vC p0 (wi p9) 0))) 0)) then cond ((decide (0<=(Bh (p9-1))))&&(decide ((Bh (p9-1))<(wj p0:Int)))) (bif (decide ((wi (Bh (p9-1)))<(wj p0))) then cond ((decide (0<=p9))&&(decide (p9<(wj p0:Int)))) (bif (decide ((wi p9)<(wj p0))) then cond ((decide (0<=p9))&&(decide (p9<(wj p0:Int)))) (bif (decide ((wi p9)<(wj p0))) then cond ((decide (0<=(Bh (p9-1))))&&(decide ((Bh (p9-1))<(wj (zJ p0 (wi p9) (vC p0 (wi (Bh (p9-1))) 0)):Int)))) (bif (decide ((wi (Bh (p9-1)))<(wj (zJ p0 (wi p9) (vC p0 (wi (Bh (p9-1))) 0))))) then BM.Bt.L1 N M0 M a b l (Bh (p9-1)) (zJ (zJ p0 (wi p9) (vC p0 (wi (Bh (p9-1))) 0)) (wi (Bh (p9-1))) (vC p0 (wi p9) 0)) p8_1 else wN) wN else wN) wN else wN) wN else wN) wN else BM.Bt.L0 N M0 a b l (Bh (p8_1+1)) p0) wN else wN) wN else wN) wN :=Et (B4 (Xc (BH a p9)) (B4 (Xc (BH a p9)) (B4 (Xc (BH a p9)) (CQ (Ak4 _ _ _) (CQ (Ak5 _ _) (B4 (Xc (BH a p9)) (B4 (Xc (BH a p9)) (B4 (Ak6 (BH a p9)) (CQ (Ak4 _ _ _) (CQ (Ak5 _ _) (CQ (Amj _ _) (B4 (Ak6 (BH a p9)) (B4 (Amk (BH a p9)) (CQ (tt1 _ _) (CQ (JZ _ _) (CQ (CD _) (CQ (JZ _ _) (CQ (CD _) (CQ (JZ _ _) (CQ (CD _) (CQ (JZ _ _) (CQ (CD _) rfl rfl) rfl) rfl) rfl) rfl) rfl) rfl) rfl) rfl))) rfl) rfl) rfl)))) rfl) rfl))))
theorem BM.Bt.ev:wrD BM.Bt.E N f205 (Bw f205) tI .i64 x [.int .i64 a,.int .i64 b,.fn 130 [] [.CL [.Bj .arg .u64 l]]]=
 BM.Bt.L0 N N a b l (Bh (a+1)) x:=by kernel_rfl
end
abbrev BM.Bt.Kn:Prop:=KZ prog 205 (WT tI .i64 BM.Bt.ts BM.Bt.pre BM.Bt.SJ)
theorem BM.Bt.D9(hk:Fe prog BM.Bt.GN)(h:∀(x:Bf) (a b:Int) (l:Bf),BM.Bt.pre [.l x,.i a,.i b,.l l]=wc->∃N,wrD BM.Bt.E N f205 (Bw f205) tI .i64 x [.int .i64 a,.int .i64 b,.fn 130 [] [.CL [.Bj .arg .u64 l]]]=wM (BM.Bt.SJ [.l x,.i a,.i b,.l l])):BM.Bt.Kn:=by
 refine Sh (E:=BM.Bt.E) (Sc hk AiA _ _ _ _) (by decide) func205 (show f205.body=wM (Bw f205) by kernel_rfl) (by kernel_rfl) (HP func205 (by kernel_rfl) (show f205.body=wM (Bw f205) by kernel_rfl)) fun x ats dvs he hp=>?_
 obtain⟨a,_,_,rfl,rfl,he0⟩:=he.UT;obtain⟨b,_,_,rfl,rfl,he1⟩:=he0.UT;obtain⟨_,_,_,_,rfl,rfl,hs2,he2⟩:=he1.ZM;obtain⟨_,_,_,_,rfl,rfl,hs3,he3⟩:=hs2.ZW;obtain⟨l,_,_,rfl,rfl,he4⟩:=hs3.Xv;obtain⟨rfl,rfl⟩:=he4.HE;obtain⟨rfl,rfl⟩:=he3.HE;obtain⟨rfl,rfl⟩:=he2.HE;exact h x a b l hp
def BM.B9.hint:Nat->Option BK
 | 0=>wM { Da:=[0,1,2,6,7,8],Cg:=[(0,0,100000,.Bj 3 .i64 [])],Cv:=[] }
 | 2=>wM { Da:=[0,1,2,6],Cg:=[(0,0,100000,.Bj 3 .i64 [])],Cv:=[] }
 | 4=>wM { Da:=[0,1,2,6,7,8],Cg:=[(0,0,100000,.Bj 3 .i64 [])],Cv:=[] }
 | _=>wN
def BM.B9.GN:List (Nat × Ew):=[]
def BM.B9.E:Env:=Tw (CW BM.B9.GN) (fun _=>wh) BM.B9.hint (fun _=>wN) (wr1 205 (WT tI .i64 BM.Bt.ts BM.Bt.pre BM.Bt.SJ)) 1
section
variable(N:Nat)(x:Bf)(M0 M:Nat)(n:Int)(l:Bf)(p6_1 p8_1:Int)(p0_2:Bf)(p6:Int)(p0_1:Bf)(p7 p8:Int)(p0:Bf)
def BM.B9.L0:Option (Bf):=PC BM.B9.E N f171 (Bw f171) tI .i64 [1,1,0,0] [] M ⟨Fp 63 [(0,.Dh 100000),(1,.int .i64 n),(2,.fn 130 [] [.CL [.Bj .arg .u64 l]]),(6,.int .i64 20),(7,.int .i64 p7),(8,.int .i64 p8)],[(100000,wh,.Bj 3 .i64 p0)]⟩
def BM.B9.L1:Option (Bf):=PC BM.B9.E N f171 (Bw f171) tI .i64 [1,1,1,1,0] [] M ⟨Fp 63 [(0,.Dh 100000),(1,.int .i64 n),(2,.fn 130 [] [.CL [.Bj .arg .u64 l]]),(6,.int .i64 p6)],[(100000,wh,.Bj 3 .i64 p0_1)]⟩
def BM.B9.L2:Option (Bf):=PC BM.B9.E N f171 (Bw f171) tI .i64 [1,1,1,1,0,0,1,0,1,0,0] [M0] M ⟨Fp 63 [(0,.Dh 100000),(1,.int .i64 n),(2,.fn 130 [] [.CL [.Bj .arg .u64 l]]),(6,.int .i64 p6_1),(7,.int .i64 0),(8,.int .i64 p8_1)],[(100000,wh,.Bj 3 .i64 p0_2)]⟩
theorem BM.B9.B7:BM.B9.L0 N (M+1) n l p7 p8 p0=cond (DT p8 n) (bif (Cw l&&Ci (HO (wj l) p0=wc/\wj p0<=6/\p7=0/\p8=((wj p0:Nat):Int))) then BM.B9.L0 N M n l p8 (Bh (p8+20)) (Ey l p0) else wN) (bif (Cw l&&Ci (HO (wj l) p0=wc/\wj p0<=6/\p7=0/\n=((wj p0:Nat):Int))) then BM.B9.L1 N N n l 20 (Ey l p0) else wN):=by kernel_rfl
theorem BM.B9.CU:BM.B9.L1 N (M+1) n l p6 p0_1=cond (BH p6 n) (BM.B9.L2 N M N n l p6 (Bh ((2:Int)*p6)) p0_1) (wM p0_1):=by kernel_rfl
theorem BM.B9.ev:wrD BM.B9.E N f171 (Bw f171) tI .i64 x [.int .i64 n,.fn 130 [] [.CL [.Bj .arg .u64 l]]]=
 BM.B9.L0 N N n l 0 20 x:=by kernel_rfl
end
abbrev BM.B9.Kn:Prop:=KZ prog 171 (WT tI .i64 BM.B9.ts BM.B9.pre BM.B9.SJ)
theorem BM.B9.D9(hk:Fe prog BM.B9.GN)(hw:BM.Bt.Kn)(h:∀(x:Bf) (n:Int) (l:Bf),BM.B9.pre [.l x,.i n,.l l]=wc->∃N,wrD BM.B9.E N f171 (Bw f171) tI .i64 x [.int .i64 n,.fn 130 [] [.CL [.Bj .arg .u64 l]]]=wM (BM.B9.SJ [.l x,.i n,.l l])):BM.B9.Kn:=by
 refine Sh (E:=BM.B9.E) (Sc hk (YA hw) _ _ _ _) (by decide) func171 (show f171.body=wM (Bw f171) by kernel_rfl) (by kernel_rfl) (HP func171 (by kernel_rfl) (show f171.body=wM (Bw f171) by kernel_rfl)) fun x ats dvs he hp=>?_
 obtain⟨n,_,_,rfl,rfl,he0⟩:=he.UT;obtain⟨_,_,_,_,rfl,rfl,hs1,he1⟩:=he0.ZM;obtain⟨_,_,_,_,rfl,rfl,hs2,he2⟩:=hs1.ZW;obtain⟨l,_,_,rfl,rfl,he3⟩:=hs2.Xv;obtain⟨rfl,rfl⟩:=he3.HE;obtain⟨rfl,rfl⟩:=he2.HE;obtain⟨rfl,rfl⟩:=he1.HE;exact h x n l hp
def BM.BC.GN:List (Nat × Ew):=[]
def BM.BC.E:Env:=Tw (CW BM.BC.GN) (fun _=>wh) (fun _=>wN) (fun _=>wN) (wr1 171 (WT tI .i64 BM.B9.ts BM.B9.pre BM.B9.SJ)) 1
theorem BM.BC.ev(N:Nat)(x l:Bf):wrD BM.BC.E N f129 (Bw f129) tI .i64 x [.fn 130 [] [.CL [.Bj .arg .u64 l]]]=cond (Cw l&&Ci (HO (wj l) x=wc/\wj x<=6/\(wj x:Int)=((wj x:Nat):Int))) (wM (Ey l x)) wN:=by kernel_rfl
abbrev BM.BC.Kn:Prop:=KZ prog 129 (WT tI .i64 BM.BC.ts BM.BC.pre BM.BC.SJ)
theorem BM.BC.D9(hk:Fe prog BM.BC.GN)(hw:BM.B9.Kn)(h:∀(x l:Bf),BM.BC.pre [.l x,.l l]=wc->∃N,wrD BM.BC.E N f129 (Bw f129) tI .i64 x [.fn 130 [] [.CL [.Bj .arg .u64 l]]]=wM (BM.BC.SJ [.l x,.l l])):BM.BC.Kn:=by
 refine Sh (E:=BM.BC.E) (Sc hk (YA hw) _ _ _ _) (by decide) func129 (show f129.body=wM (Bw f129) by kernel_rfl) (by kernel_rfl) (HP func129 (by kernel_rfl) (show f129.body=wM (Bw f129) by kernel_rfl)) fun x ats dvs he hp=>?_
 obtain⟨_,_,_,_,rfl,rfl,hs0,he0⟩:=he.ZM;obtain⟨_,_,_,_,rfl,rfl,hs1,he1⟩:=hs0.ZW;obtain⟨l,_,_,rfl,rfl,he2⟩:=hs1.Xv;obtain⟨rfl,rfl⟩:=he2.HE;obtain⟨rfl,rfl⟩:=he1.HE;obtain⟨rfl,rfl⟩:=he0.HE;exact h x l hp
theorem Ct.EO.Bp:Kq 130 Ct.EO.Bu:=E1 Ct.EO.E Tryz.func130 (kc compare.Order.Bp .nil) fun i k l hp=>by obtain⟨hl,hp⟩:=Bi.1 (show(Cw l&&Ci (0<=i/\i<((wj l:Nat):Int)/\0<=k/\k<((wj l:Nat):Int)))=wc from hp);obtain⟨h1,h2,h3,h4⟩:=Bv.1 hp;obtain⟨_,hu⟩:=Io hl;refine⟨0,.int .i64 (Gk (Nf l k) (Nf l i)),[],?_,.int⟩;rw[Ct.EO.ev,Ac h3,Ac h4,Ah,Aa,Ac h1,Ac h2,Ah,Aa,hu _ (by omega),hu _ (by omega),Ah,Aa];rfl
theorem AcM(N M0:Nat){l:Bf}(hl:Cw l=wc){b p8 v:Int}:∀(R B:Bf) (F:Nat),HO l.length (R.reverse++v::B)=wc->R.length<F->R.length+B.length<=100 ->
 BM.Bt.L1 N M0 F 0 b l (R.length:Int) (R.reverse++v::B) p8=BM.Bt.L0 N M0 0 b l (Bh (p8+1)) ((Nh (Nf l) v R).reverse++B):=by
 intro R
 induction R with
 | nil =>
   intro B F hx hF hs;obtain⟨F,rfl⟩:∃G,F=G+1:=⟨F-1,by simp at hF; omega⟩
   rw[BM.Bt.CU,B8,Ag (show ¬(0:Int)<((([]:Bf).length:Nat):Int) by simp)];simp only[Bc,Bool.true_or,Aa,Bool.false_and,Af];rfl
 | cons y t ih =>
   intro B F hx hF hs;obtain⟨F,rfl⟩:∃G,F=G+1:=⟨F-1,by simp at hF; omega⟩
   have hlen:(((y::t).reverse++v::B).length)=t.length+2+B.length:=by simp; omega
   have e1:Bh (((y::t).length:Int)-1)=(t.length:Int):=by rw[Bz (by simp) (by simp at hs ⊢; omega)]; simp
   have eA:(y::t).reverse++v::B=t.reverse++y::v::B:=by simp
   have g1:vC ((y::t).reverse++v::B) (t.length+1) 0=v:=by have:=Yg (y::t).reverse B v;rw[x7] at this; exact this
   have g2:vC ((y::t).reverse++v::B) t.length 0=y:=by rw[eA];have:=Yg t.reverse (v::B) y;rw[x7] at this; exact this
   have p1:=PM hx (j:=t.length+1) (by omega);have p2:=PM hx (j:=t.length) (by omega);rw[g1] at p1; rw[g2] at p2;rw[BM.Bt.CU,e1,B8,Ac (show(0:Int)<(((y::t).length:Nat):Int) by simp)];simp only[AH,Bool.false_or,AW]
   rw[show wi (((y::t).length:Nat):Int)=t.length+1 by simp,Ad,g1,g2,yJ,hlen,
    Ac (show(0:Int)<=(((y::t).length:Nat):Int) by omega),Ac (show(((y::t).length:Nat):Int)<((t.length+2+B.length:Nat):Int) by simp; omega),Ah,Aa,
    Ac (show t.length+1<t.length+2+B.length by omega),Aa,Ac (show(0:Int)<=((t.length:Nat):Int) by omega),Ac (show((t.length:Nat):Int)<((t.length+2+B.length:Nat):Int) by omega),Ah,Aa,
    Ac (show t.length<t.length+2+B.length by omega),Aa,show(Cw l&&Ci (0<=v/\v<((wj l:Nat):Int)/\0<=y/\y<((wj l:Nat):Int)))=wc from Bi.2 ⟨hl,Bv.2 ⟨p1.1,p1.2,p2.1,p2.2⟩⟩,Aa,B8]
   by_cases hlt:Gk (Nf l y) (Nf l v)<0
   ·rw[Ac hlt];simp only[Aa]
    have hsw:(zJ (zJ ((y::t).reverse++v::B) (t.length+1) y) t.length v)=t.reverse++v::(y::B):=by rw[eA];have:=AbO t.reverse B y v;rw[x7] at this; exact this
    rw[hsw]
    have hx':HO l.length (t.reverse++v::(y::B))=wc:=Ko.2 fun z hz=>Ko.1 hx z (by
     rw[eA];simp only[zu,zB] at hz ⊢;rcases hz with h | h | h | h
     ·exact .inl h
     ·exact .inr (.inr (.inl h))
     ·exact .inr (.inl h)
     ·exact .inr (.inr (.inr h)))
    rw[ih (y::B) F hx' (by simp at hF; omega) (by simp at hs ⊢; omega)];congr 1;rw[show Nh (Nf l) v (y::t)=y::Nh (Nf l) v t from Az hlt];simp
   ·rw[Ag hlt,Af,show Nh (Nf l) v (y::t)=v::y::t from Ay hlt];congr 1;simp
theorem AcL(N:Nat){l x:Bf}(hl:Cw l=wc)(hx:HO l.length x=wc)(h6:x.length<=6):∀(k i F:Nat),i+k=x.length->k<F->6<N ->
 BM.Bt.L0 N F 0 (x.length:Int) l (i:Int) ((Om (Nf l) (x.take i)).reverse++x.drop i)=wM (Ey l x):=by
 intro k
 induction k with
 | zero =>
   intro i F hi hF hN;obtain⟨F,rfl⟩:∃G,F=G+1:=⟨F-1,by omega⟩
   rw[BM.Bt.B7,B8,Ag (by omega),Af,yB (by omega),Ap (by omega),yz]; rfl
 | succ k ih =>
   intro i F hi hF hN;obtain⟨F,rfl⟩:∃G,F=G+1:=⟨F-1,by omega⟩
   have hd:x.drop i=x.getD i 0::x.drop (i+1):=by rw[xx (by omega),Al,As (by omega)]; rfl
   have hlen:(Om (Nf l) (x.take i)).length=i:=by rw[Po,zN]; omega
   have:=AcM N F hl (b:=(x.length:Int)) (p8:=(i:Int)) (v:=x.getD i 0) (Om (Nf l) (x.take i)) (x.drop (i+1)) N (Ko.2 fun z hz=>Ko.1 hx z (by
    rw[zu,List.mem_reverse,zB] at hz;rcases hz with h | h | h
    ·exact List.mem_of_mem_take (Uw h)
    ·rw[h,Al,As (show i<x.length by omega)]; exact z6 _
    ·exact yr h)) (by omega) (by rw[List.length_drop]; omega)
   rw[hlen] at this;rw[BM.Bt.B7,B8,Ac (by omega),Aa,hd,this,Bz (by omega) (by omega),<- YV]
   have e:x.take i++[x.getD i 0]=x.take (i+1):=by rw[xy (by omega),Al,As (show i<x.length by omega)]; rfl
   rw[e];exact ih (i+1) F (by omega) (by omega) hN
theorem BM.Bt.Bp:BM.Bt.Kn:=BM.Bt.D9 (kc Ct.EO.Bp .nil) fun x a b l hp=>by
 obtain⟨hl,hp⟩:=Bi.1 (show(Cw l&&Ci (HO (wj l) x=wc/\wj x<=6/\a=0/\b=((wj x:Nat):Int)))=wc from hp);obtain⟨hx,h6,rfl,rfl⟩:=Bv.1 hp;refine⟨8,?_⟩;rw[BM.Bt.ev,Bz (by decide) (by decide)];show _=wM (Ey l x);cases x with
 | nil=>rw[BM.Bt.B7,B8,Ag (by simp),Af]; rfl
 | cons y t =>have:=AcL 8 hl hx h6 t.length 1 8 (by simp; omega) (by simp at h6; omega) (by decide);exact this
theorem BM.B9.Bp:BM.B9.Kn:=BM.B9.D9 .nil BM.Bt.Bp fun x n l hp=>by obtain⟨hl,hp⟩:=Bi.1 (show(Cw l&&Ci (HO (wj l) x=wc/\wj x<=6/\n=((wj x:Nat):Int)))=wc from hp);obtain⟨hx,h6,rfl⟩:=Bv.1 hp;refine⟨1,?_⟩;rw[BM.B9.ev,BM.B9.B7,Ei,Ag (by omega),Af,show(Cw l&&Ci (HO (wj l) x=wc/\wj x<=6/\(0:Int)=0/\((wj x:Nat):Int)=((wj x:Nat):Int)))=wc from Bi.2 ⟨hl,Bv.2 ⟨hx,h6,rfl,rfl⟩⟩,Aa,BM.B9.CU,B8,Ag (by omega),Af];rfl
theorem BM.BC.Bp:BM.BC.Kn:=BM.BC.D9 .nil BM.B9.Bp fun x l hp=>by obtain⟨hl,hp⟩:=Bi.1 (show(Cw l&&Ci (HO (wj l) x=wc/\wj x<=6))=wc from hp);obtain⟨hx,h6⟩:=Bv.1 hp;refine⟨0,?_⟩;rw[BM.BC.ev,show(Cw l&&Ci (HO (wj l) x=wc/\wj x<=6/\((wj x:Nat):Int)=((wj x:Nat):Int)))=wc from Bi.2 ⟨hl,Bv.2 ⟨hx,h6,rfl⟩⟩,Aa];rfl
def Ct.Ea.GN:List (Nat × Ew):=[(80,compare.WR.Bu),(78,compare.Mw.Bu),(68,Bg.DU.Bu),(81,soft.EK.Bu),(181,soft.Sign.Bu),(137,Bs.Add.Bu),(82,Bs.Div.Bu),(134,Bs.GY.Bu),(138,Bs.Mul.Bu),(67,Bs.Norm.Bu),(79,Bs.CF.Bu),(139,Bs.Sqrt.Bu),(201,Bs.Sub.Bu)]
def Ct.Ea.live:Nat->Option (List Nat)
 | 2=>wM [3,8,9,10]
 | 5=>wM [3,8,9,10,11,13,15]
 | 8=>wM [8,9,10,15]
 | 11=>wM [8,22]
 | 12=>wM [8,22,23]
 | 13=>wM [8,22,24]
 | 15=>wM [8,24]
 | _=>wN
def Ct.Ea.E:Env:=Dr (CW Ct.Ea.GN) (fun _=>wh) (fun _=>wN) Ct.Ea.live
section
variable(N:Nat)(r c:Int)(l:Bf)(i k p24_1 p22 p24 p23 b:Int)(p9 p10:Bf)(p11 p13 p15:Int)
def Ct.Ea.C2:Option DV:=cutAt Ct.Ea.E N f169 (Bw f169) [1,1] [] ⟨Fp 114 [(3,.int .u64 b),(8,.ptr 8 0 0),(9,.Bj .BE .u64 p9),(10,.Bj .BE .u64 p10)],[(8,wh,.box [.int .u64 0,.int .u64 0,.bool wh]),(4,wh,.box [.int .i64 r,.int .i64 c,.Bj .arg .u64 l])]⟩
def Ct.Ea.C5:Option DV:=cutAt Ct.Ea.E N f169 (Bw f169) [1,1,1,1,1] [] ⟨Fp 114 [(3,.int .u64 b),(8,.ptr 8 0 0),(9,.Bj .BE .u64 p9),(10,.Bj .BE .u64 p10),(11,.int .u64 p11),(13,.int .u64 p13),(15,.int .u64 p15)],[(8,wh,.box [.int .u64 0,.int .u64 0,.bool wh]),(4,wh,.box [.int .i64 r,.int .i64 c,.Bj .arg .u64 l])]⟩
def Ct.Ea.C8:Option DV:=cutAt Ct.Ea.E N f169 (Bw f169) [1,1,1,1,1,1,1] [] ⟨Fp 114 [(8,.ptr 8 0 0),(9,.Bj .BE .u64 p9),(10,.Bj .BE .u64 p10),(15,.int .u64 p15)],[(8,wh,.box [.int .u64 0,.int .u64 0,.bool wh]),(4,wh,.box [.int .i64 r,.int .i64 c,.Bj .arg .u64 l])]⟩
def Ct.Ea.C11:Option DV:=cutAt Ct.Ea.E N f169 (Bw f169) [1,1,1,1,1,1,1,1,1,1] [] ⟨Fp 114 [(8,.ptr 8 0 0),(22,.int .u64 p22)],[(8,wh,.box [.int .u64 0,.int .u64 0,.bool wh]),(4,wh,.box [.int .i64 r,.int .i64 c,.Bj .arg .u64 l])]⟩
def Ct.Ea.C12:Option DV:=cutAt Ct.Ea.E N f169 (Bw f169) [1,1,1,1,1,1,1,1,1,1,1] [] ⟨Fp 114 [(8,.ptr 8 0 0),(22,.int .u64 p22),(23,.int .u64 p23)],[(8,wh,.box [.int .u64 0,.int .u64 0,.bool wh]),(4,wh,.box [.int .i64 r,.int .i64 c,.Bj .arg .u64 l])]⟩
def Ct.Ea.C13:Option DV:=cutAt Ct.Ea.E N f169 (Bw f169) [1,1,1,1,1,1,1,1,1,1,1,1,0] [] ⟨Fp 114 [(8,.ptr 8 0 0),(22,.int .u64 p22),(24,.int .u64 p24)],[(8,wh,.box [.int .u64 0,.int .u64 0,.bool wh]),(4,wh,.box [.int .i64 r,.int .i64 c,.Bj .arg .u64 l])]⟩
def Ct.Ea.C15:Option DV:=cutAt Ct.Ea.E N f169 (Bw f169) [1,1,1,1,1,1,1,1,1,1,1,1,1] [] ⟨Fp 114 [(8,.ptr 8 0 0),(24,.int .u64 p24_1)],[(8,wh,.box [.int .u64 0,.int .u64 0,.bool wh]),(4,wh,.box [.int .i64 r,.int .i64 c,.Bj .arg .u64 l])]⟩
theorem Ct.Ea.Ag5:Ct.Ea.C2 N r c l b p9 p10=cond (Cw p9&&Ci (wj p9<=64)) (bif (Cw p10&&Ci (wj p10<=64)) then cond ((Nl p9 p10&&Bq p9)&&Bq p10) (Ct.Ea.C5 N r c l b p9 p10 (Cb p9) (Cb p10) (EU p9 p10)) wN else wN) wN:=(DO _ _ _ _ _ _ _).trans (by kernel_rfl)
theorem Ct.Ea.Ag4:Ct.Ea.C5 N r c l b p9 p10 p11 p13 p15=cond (Br p11&&Br p13) (bif (Eg (Cx p11 p13) (-44:Int)) then cond (Br b&&Br p11) (bif ((!(decide (Gk b p11<0)))||(Br b&&Br p13)) then cond (((!(decide (Gk b p11<0)))||(!(decide (Gk b p13<0))))||(Br p15)) (bif (((!(decide (Gk b p11<0)))||(!(decide (Gk b p13<0))))||(Br (BV (Cx p11 p13) (-44:Int))&&Br (K3 p15))) then cond (((!(decide (Gk b p11<0)))||(!(decide (Gk b p13<0))))||(!(decide (Gk (BV (Cx p11 p13) (-44:Int)) (K3 p15)<0)))) (wM (.agg [.int .u64 0,.int .u64 0,.bool wc])) (Ct.Ea.C8 N r c l p9 p10 p15) else wN) wN else wN) wN else wN) wN:=
 yP ((DO _ _ _ _ _ _ _).trans (by kernel_rfl))
 (ET (ET (ET (B4 (Sn (decide (Gk b p11<0))) (B4 (Sn (decide (Gk b p11<0))) (CQ (AkY _ _) (B4 (O6 (decide (Gk b p11<0))) (B4 (TQ (decide (Gk b p11<0))) (B4 (AdW (decide (Gk b p11<0)) (decide (Gk b p13<0))) (B4 (AdW (decide (Gk b p11<0)) (decide (Gk b p13<0))) (CQ (AkZ _ _ _) (CQ (Ala _ _ _) (B4 (AdX (decide (Gk b p11<0)) (decide (Gk b p13<0))) (B4 (AkL (decide (Gk b p11<0)) (decide (Gk b p13<0))) (CQ (Alb _ _ _) rfl rfl))) rfl) rfl))))) rfl))) rfl) rfl) rfl)
theorem Ct.Ea.Ag3:Ct.Ea.C8 N r c l p9 p10 p15=cond ((Nl p9 p9&&Bq p9)&&Bq p9) (bif ((Nl p10 p10&&Bq p10)&&Bq p10) then cond (Br (EU p10 p10)&&Br (EU p9 p9)) (bif (Br p15&&Br p15) then cond (Br (DW (EU p10 p10) (EU p9 p9))&&Br (DD p15 p15)) (Ct.Ea.C11 N r c l (EV (DW (EU p10 p10) (EU p9 p9)) (DD p15 p15))) wN else wN) wN else wN) wN:=(DO _ _ _ _ _ _ _).trans (by kernel_rfl)
theorem Ct.Ea.Aaw:Ct.Ea.C11 N r c l p22=cond (Br p22&&Br p22) (bif (Br 4607182418800017408&&Br (Cx p22 p22)) then cond (Br (DD 4607182418800017408 (Cx p22 p22))) (Ct.Ea.C12 N r c l p22 (DG (DD 4607182418800017408 (Cx p22 p22)))) wN else wN) wN:=(DO _ _ _ _ _ _ _).trans (by kernel_rfl)
theorem Ct.Ea.Aav:Ct.Ea.C12 N r c l p22 p23=cond (Br p22) (bif (Br (K3 p22)&&Br p23) then cond (Br 4607182418800017408&&Br (DD (K3 p22) p23)) (Ct.Ea.C13 N r c l p22 (EV 4607182418800017408 (DD (K3 p22) p23))) wN else wN) wN:=(DO _ _ _ _ _ _ _).trans (by kernel_rfl)
theorem Ct.Ea.WM:Ct.Ea.C13 N r c l p22 p24=cond (Br p22) (bif (DN p22) then cond (Br p24) (Ct.Ea.C15 N r c l (Cy p24)) wN else Ct.Ea.C15 N r c l p24) wN:=(DO _ _ _ _ _ _ _).trans (by kernel_rfl)
theorem Ct.Ea.AjV:Ct.Ea.C15 N r c l p24_1=cond (Br p24_1&&Br p24_1) (bif (Br 4607182418800017408&&Br (Cx p24_1 p24_1)) then cond (Br (DD 4607182418800017408 (Cx p24_1 p24_1))) (bif (Br 4607182418800017408&&Br (DG (DD 4607182418800017408 (Cx p24_1 p24_1)))) then cond (Br (EV 4607182418800017408 (DG (DD 4607182418800017408 (Cx p24_1 p24_1))))&&Br p24_1) (wM (.agg [.int .u64 (EV 4607182418800017408 (DG (DD 4607182418800017408 (Cx p24_1 p24_1)))),.int .u64 (Cx (EV 4607182418800017408 (DG (DD 4607182418800017408 (Cx p24_1 p24_1)))) p24_1),.bool wh])) wN else wN) wN else wN) wN:=(DO _ _ _ _ _ _ _).trans (by kernel_rfl)
theorem Ct.Ea.ev:Cz Ct.Ea.E N f169 (Bw f169) [.agg [.int .i64 r,.int .i64 c,.Bj .arg .u64 l],.int .i64 i,.int .i64 k,.int .u64 b]=cond (EG r c l i&&Ci (0<=(0:Int)/\(0:Int)<=r)) (bif (EG r c l k&&Ci (0<=(0:Int)/\(0:Int)<=r)) then Ct.Ea.C2 N r c l b (BQ c l i 0 (wi (r-0))) (BQ c l k 0 (wi (r-0))) else wN) wN :=Et (CQ (CD _) (CQ (CD _) rfl rfl) rfl)
end
def Ct.rounds.hint:Nat->Option BK
 | 0=>wM { Da:=[2,3,4,6,7,13],Cg:=[],Cv:=[3,4,6,7] }
 | 2=>wM { Da:=[2,3,4,6,7,9,13,16,17],Cg:=[],Cv:=[3,4,6,7] }
 | 4=>wM { Da:=[2,3,4,6,7,9,10,11,13,16,17],Cg:=[],Cv:=[3,4,6,7] }
 | _=>wN
def Ct.rounds.E:=Dr (CW [(170,D4.Pe.Bu),(81,soft.EK.Bu),(169,Ct.Ea.Bu)]) (fun _=>wh) Ct.rounds.hint (fun _=>wN)
section
variable(N M0 M1 M:Nat)(r c:Int)(l:Bf)(p q:Int)(m:Bf)(b p11:Int)(p9:Bool)(p3 p4:Bf)(p10 p17_1 p13_2 p17:Int)(p9_1:Bool)(p3_1 p4_1:Bf)(p13_1 p13:Int)(p3_2 p4_2:Bf)
def Ct.rounds.L0:Option DV:=C6 Ct.rounds.E N f127 (Bw f127) [1,0,1,0] [] M ⟨Fp 66 [(2,.int .u64 b),(3,.ptr 3 0 0),(4,.ptr 4 0 0),(6,.ptr 6 0 0),(7,.ptr 7 0 0),(13,.int .i64 p13)],[(3,wh,.box [.int .i64 r,.int .i64 c,.Bj .arg .u64 p3_2]),(4,wh,.box [.int .i64 p,.int .i64 q,.Bj .arg .u64 p4_2]),(6,wh,.box [.int .i64 0,.int .i64 0,.nil]),(7,wh,.box [.int .i64 0,.int .i64 0,.nil])]⟩
def Ct.rounds.L1:Option DV:=C6 Ct.rounds.E N f127 (Bw f127) [1,0,1,0,0,1,1,0,0,0,1,1,0,1,0] [M0] M ⟨Fp 66 [(2,.int .u64 b),(3,.ptr 3 0 0),(4,.ptr 4 0 0),(6,.ptr 6 0 0),(7,.ptr 7 0 0),(9,.bool p9_1),(13,.int .i64 p13_1),(16,.int .i64 c),(17,.int .i64 p17)],[(3,wh,.box [.int .i64 r,.int .i64 c,.Bj .arg .u64 p3_1]),(4,wh,.box [.int .i64 p,.int .i64 q,.Bj .arg .u64 p4_1]),(6,wh,.box [.int .i64 0,.int .i64 0,.nil]),(7,wh,.box [.int .i64 0,.int .i64 0,.nil])]⟩
def Ct.rounds.L2:Option DV:=C6 Ct.rounds.E N f127 (Bw f127) [1,0,1,0,0,1,1,0,0,0,1,1,0,1,0,0,1,1,0,0,1,0,1,0] [M0,M1] M ⟨Fp 66 [(2,.int .u64 b),(3,.ptr 3 0 0),(4,.ptr 4 0 0),(6,.ptr 6 0 0),(7,.ptr 7 0 0),(9,.bool p9),(10,.int .i64 p10),(11,.int .i64 p11),(13,.int .i64 p13_2),(16,.int .i64 c),(17,.int .i64 p17_1)],[(3,wh,.box [.int .i64 r,.int .i64 c,.Bj .arg .u64 p3]),(4,wh,.box [.int .i64 p,.int .i64 q,.Bj .arg .u64 p4]),(6,wh,.box [.int .i64 0,.int .i64 0,.nil]),(7,wh,.box [.int .i64 0,.int .i64 0,.nil])]⟩
theorem Ct.rounds.B7:Ct.rounds.L0 N (M+1) r c p q b p13 p3_2 p4_2=cond (BH p13 60) (Ct.rounds.L1 N M N r c p q b 0 wc p3_2 p4_2 p13) (wM (.CJ [.agg [.int .i64 r,.int .i64 c,.Bj .arg .u64 p3_2],.agg [.int .i64 p,.int .i64 q,.Bj .arg .u64 p4_2],.int .i64 6])):=by kernel_rfl
theorem Ct.rounds.CU:Ct.rounds.L1 N M0 (M+1) r c p q b p17 p9_1 p3_1 p4_1 p13_1=cond (BH p17 c) (Ct.rounds.L2 N M0 M N r c p q b (Bh (p17+1)) p9_1 p3_1 p4_1 p17 p17 p13_1) (bif p9_1 then wM (.CJ [.agg [.int .i64 r,.int .i64 c,.Bj .arg .u64 p3_1],.agg [.int .i64 p,.int .i64 q,.Bj .arg .u64 p4_1],.int .i64 0]) else Ct.rounds.L0 N M0 r c p q b (Bh (p13_1+1)) p3_1 p4_1):=by kernel_rfl
theorem Ct.rounds.I5:Ct.rounds.L2 N M0 M1 (M+1) r c p q b p11 p9 p3 p4 p10 p17_1 p13_2=cond (BH p11 c) (bif (BD r c p3&&(Bq p3&&(Br b&&Ci (0<=p10/\p10<c/\0<=p11/\p11<c)))) then cond (M5 (Dl (wi r) (wi c) p3 (wi p10)) (Dl (wi r) (wi c) p3 (wi p11)) b) (Ct.rounds.L2 N M0 M1 M r c p q b (Bh (p11+1)) p9 p3 p4 p10 p17_1 p13_2) (bif (Br (trS (Dl (wi r) (wi c) p3 (wi p10)) (Dl (wi r) (wi c) p3 (wi p11)) b)) then cond (BD r c p3&&(Bq p3&&((Br (trC (Dl (wi r) (wi c) p3 (wi p10)) (Dl (wi r) (wi c) p3 (wi p11)) b)&&Br (Cy (trS (Dl (wi r) (wi c) p3 (wi p10)) (Dl (wi r) (wi c) p3 (wi p11)) b)))&&Ci (0<=p10/\p10<c/\0<=p11/\p11<c/\p10≠p11)))) (bif (Br (trS (Dl (wi r) (wi c) p3 (wi p10)) (Dl (wi r) (wi c) p3 (wi p11)) b)) then cond (BD p q p4&&(Bq p4&&((Br (trC (Dl (wi r) (wi c) p3 (wi p10)) (Dl (wi r) (wi c) p3 (wi p11)) b)&&Br (Cy (trS (Dl (wi r) (wi c) p3 (wi p10)) (Dl (wi r) (wi c) p3 (wi p11)) b)))&&Ci (0<=p10/\p10<q/\0<=p11/\p11<q/\p10≠p11)))) (Ct.rounds.L2 N M0 M1 M r c p q b (Bh (p11+1)) wh (GX (wi r) (wi c) p3 (wi p10) (wi p11) (trC (Dl (wi r) (wi c) p3 (wi p10)) (Dl (wi r) (wi c) p3 (wi p11)) b) (Cy (trS (Dl (wi r) (wi c) p3 (wi p10)) (Dl (wi r) (wi c) p3 (wi p11)) b))) (GX (wi p) (wi q) p4 (wi p10) (wi p11) (trC (Dl (wi r) (wi c) p3 (wi p10)) (Dl (wi r) (wi c) p3 (wi p11)) b) (Cy (trS (Dl (wi r) (wi c) p3 (wi p10)) (Dl (wi r) (wi c) p3 (wi p11)) b))) p10 p17_1 p13_2) wN else wN) wN else wN) else wN) (Ct.rounds.L1 N M0 M1 r c p q b (Bh (p17_1+1)) p9 p3 p4 p13_2) :=Et (ET (ET (ET rfl (CQ (CD _) (CQ (CD _) (CQ (CD _) (CQ (CD _) rfl rfl) rfl) rfl) rfl)) rfl) rfl)
theorem Ct.rounds.ev:Cz Ct.rounds.E N f127 (Bw f127) [.agg [.int .i64 r,.int .i64 c,.Bj .arg .u64 l],.agg [.int .i64 p,.int .i64 q,.Bj .arg .u64 m],.int .u64 b]=
 Ct.rounds.L0 N N r c p q b 0 l m:=by kernel_rfl
end
def Ct.CB.hint:Nat->Option BK
 | 0=>wM { Da:=[1,4,5,14,15,16],Cg:=[(6,2,106002,.Bj 43 .u64 [])],Cv:=[4,5] }
 | _=>wN
def Ct.CB.E:=Dr (CW [(79,Bs.CF.Bu)]) (fun _=>wh) Ct.CB.hint (fun _=>wN)
section
variable(N M:Nat)(r c:Int)(l:Bf)(k p16:Int)(p2:Bf)
def Ct.CB.L0:Option DV:=C6 Ct.CB.E N f125 (Bw f125) [1,1,0,1,0] [] M ⟨Fp 30 [(1,.int .i64 k),(4,.ptr 4 0 0),(5,.ptr 5 0 0),(14,.Bj .arg .u64 l),(15,.int .i64 (wj l:Int)),(16,.int .i64 p16)],[(4,wh,.box [.int .i64 0,.int .i64 0,.nil]),(5,wh,.box [.int .i64 r,.int .i64 c,.Dh 106002]),(106002,wh,.Bj 43 .u64 p2)]⟩
theorem Ct.CB.B7:Ct.CB.L0 N (M+1) r c l k p16 p2=cond (BH p16 (wj l:Int)) (bif ((decide (0<=p16))&&(decide (p16<(wj l:Int)))) then cond (Eg (vC l (wi p16) 0) k) (bif (decide ((wj p2)+1<=GK)) then Ct.CB.L0 N M r c l k (Bh (p16+1)) (p2++[(BV (vC l (wi p16) 0) k)]) else wN) wN else wN) (wM (.agg [.int .i64 r,.int .i64 c,.Bj (.own 106002 43) .u64 p2])) :=Et (ET (ET (CQ (CD _) (CQ (CD _) rfl rfl) rfl) rfl) rfl)
theorem Ct.CB.ev:Cz Ct.CB.E N f125 (Bw f125) [.agg [.int .i64 r,.int .i64 c,.Bj .arg .u64 l],.int .i64 k]=
 Ct.CB.L0 N N r c l k 0 []:=by kernel_rfl
end
def Ct.at.hint:Nat->Option BK
 | 0=>wM { Da:=[1,2,4,5,15,16],Cg:=[(6,2,106002,.Bj 43 .u64 [])],Cv:=[2,4,5] }
 | 2=>wM { Da:=[1,2,4,5,6,15,16,19,20,21],Cg:=[(6,2,106002,.Bj 43 .u64 [])],Cv:=[2,4,5] }
 | _=>wN
def Ct.at.E:=Dr (CW []) (fun _=>wh) Ct.at.hint (fun _=>wN)
section
variable(N M0 M:Nat)(r c:Int)(l x:Bf)(p6 p16_1 p21:Int)(p2:Bf)(p16:Int)(p2_1:Bf)
def Ct.at.L0:Option DV:=C6 Ct.at.E N f132 (Bw f132) [1,1,0,1,0] [] M ⟨Fp 43 [(1,.Bj .arg .i64 x),(2,.ptr 2 0 0),(4,.ptr 4 0 0),(5,.ptr 5 0 0),(15,.int .i64 r),(16,.int .i64 p16)],[(2,wh,.box [.int .i64 r,.int .i64 c,.Bj .arg .u64 l]),(4,wh,.box [.int .i64 0,.int .i64 0,.nil]),(5,wh,.box [.int .i64 r,.int .i64 c,.Dh 106002]),(106002,wh,.Bj 43 .u64 p2_1)]⟩
def Ct.at.L1:Option DV:=C6 Ct.at.E N f132 (Bw f132) [1,1,0,1,0,0,1,1,0,0,1,1,0] [M0] M ⟨Fp 43 [(1,.Bj .arg .i64 x),(2,.ptr 2 0 0),(4,.ptr 4 0 0),(5,.ptr 5 0 0),(6,.int .i64 p6),(15,.int .i64 r),(16,.int .i64 p16_1),(19,.Bj .arg .i64 x),(20,.int .i64 (wj x:Int)),(21,.int .i64 p21)],[(2,wh,.box [.int .i64 r,.int .i64 c,.Bj .arg .u64 l]),(4,wh,.box [.int .i64 0,.int .i64 0,.nil]),(5,wh,.box [.int .i64 r,.int .i64 c,.Dh 106002]),(106002,wh,.Bj 43 .u64 p2)]⟩
theorem Ct.at.B7:Ct.at.L0 N (M+1) r c l x p16 p2_1=cond (BH p16 r) (Ct.at.L1 N M N r c l x p16 p16 0 p2_1) (wM (.agg [.int .i64 r,.int .i64 c,.Bj (.own 106002 43) .u64 p2_1])):=by kernel_rfl
theorem Ct.at.CU:Ct.at.L1 N M0 (M+1) r c l x p6 p16_1 p21 p2=cond (BH p21 (wj x:Int)) (bif ((decide (0<=p21))&&(decide (p21<(wj x:Int)))) then cond ((decide (0<=(Bh ((Bh (p6*c))+(vC x (wi p21) 0)))))&&(decide ((Bh ((Bh (p6*c))+(vC x (wi p21) 0)))<(wj l:Int)))) (bif (decide ((wj p2)+1<=GK)) then Ct.at.L1 N M0 M r c l x p6 p16_1 (Bh (p21+1)) (p2++[(vC l (wi (Bh ((Bh (p6*c))+(vC x (wi p21) 0)))) 0)]) else wN) wN else wN) (Ct.at.L0 N M0 r c l x (Bh (p16_1+1)) p2) :=Et (ET (ET (CQ (JZ _ _) (CQ (CD _) rfl rfl) rfl) rfl) rfl)
theorem Ct.at.ev:Cz Ct.at.E N f132 (Bw f132) [.agg [.int .i64 r,.int .i64 c,.Bj .arg .u64 l],.Bj .arg .i64 x]=
 Ct.at.L0 N N r c l x 0 []:=by kernel_rfl
end
def Ct.Gm.hint:Nat->Option BK
 | 0=>wM { Da:=[1,3,8,9],Cg:=[(0,3,100003,.Bj 43 .u64 [])],Cv:=[1] }
 | _=>wN
def Ct.Gm.E:=Dr (CW [(68,Bg.DU.Bu),(67,Bs.Norm.Bu)]) (fun _=>wh) Ct.Gm.hint (fun _=>wN)
section
variable(N M:Nat)(r c:Int)(l:Bf)(p9:Int)(p3:Bf)
def Ct.Gm.L0:Option DV:=C6 Ct.Gm.E N f128 (Bw f128) [1,1,0,1,0] [] M ⟨Fp 25 [(1,.ptr 1 0 0),(3,.Dh 100003),(8,.int .i64 c),(9,.int .i64 p9)],[(1,wh,.box [.int .i64 r,.int .i64 c,.Bj .arg .u64 l]),(100003,wh,.Bj 43 .u64 p3)]⟩
theorem Ct.Gm.B7:Ct.Gm.L0 N (M+1) r c l p9 p3=cond (BH p9 c) (bif (EG r c l p9&&Ci (0<=(0:Int)/\(0:Int)<=r)) then cond (Cw (BQ c l p9 0 (wi (r-0)))&&Ci (wj (BQ c l p9 0 (wi (r-0)))<=64)) (bif (decide ((wj p3)+1<=GK)) then Ct.Gm.L0 N M r c l (Bh (p9+1)) (p3++[(Cb (BQ c l p9 0 (wi (r-0))))]) else wN) wN else wN) (wM (.Bj (.own 100003 43) .u64 p3)):=by kernel_rfl
theorem Ct.Gm.ev:Cz Ct.Gm.E N f128 (Bw f128) [.agg [.int .i64 r,.int .i64 c,.Bj .arg .u64 l]]=
 Ct.Gm.L0 N N r c l 0 []:=by kernel_rfl
end
def Ct.BW.hint:Nat->Option BK
 | 0=>wM { Da:=[2,3,6,9,10,56,57],Cg:=[(0,10,100010,.Bj 3 .i64 [])],Cv:=[2,3,9] }
 | _=>wN
def Ct.BW.GN:List (Nat × Ew):=[(69,DI.Check.Bu),(123,compare.M7.Bu),(126,Bg.Ii.Bu),(132,Ct.at.Bu),(128,Ct.Gm.Bu),(127,Ct.rounds.Bu),(125,Ct.CB.Bu),(124,Bs.DJ.Bu),(66,Bs.Finite.Bu),(67,Bs.Norm.Bu),(79,Bs.CF.Bu)]
def Ct.BW.live:Nat->Option (List Nat)
 | 5=>wM [1,2,3,6]
 | 8=>wM [1,2,3,6,7]
 | 11=>wM [1,2,3,6]
 | 18=>wM [2,3,6,9,10]
 | 20=>wM [2,3]
 | _=>wN
def Ct.BW.E:Env:=Tw (CW Ct.BW.GN) (fun _=>wh) Ct.BW.hint Ct.BW.live (wr1 129 (WT tI .i64 BM.BC.ts BM.BC.pre BM.BC.SJ)) 0
section
variable(N M:Nat)(r c:Int)(l:Bf)(p6 p7 p3 p3_1:Int)(p3_3 p2_1:Bf)(p57:Int)(p10 p3_2 p2:Bf)
def Ct.BW.C5:Option DV:=cutAt Ct.BW.E N f64 (Bw f64) [1,1,1] [] ⟨Fp 92 [(1,.ptr 1 0 0),(2,.ptr 2 0 0),(3,.ptr 3 0 0),(6,.int .i64 p6)],[(3,wh,.box [.int .i64 0,.int .i64 0,.nil]),(2,wh,.box [.int .i64 0,.int .i64 0,.nil]),(1,wh,.box [.int .i64 r,.int .i64 c,.Bj .arg .u64 l])]⟩
def Ct.BW.C8:Option DV:=cutAt Ct.BW.E N f64 (Bw f64) [1,1,1,1,1,1,0] [] ⟨Fp 92 [(1,.ptr 1 0 0),(2,.ptr 2 0 0),(3,.ptr 3 0 0),(6,.int .i64 p6),(7,.int .u64 p7)],[(3,wh,.box [.int .i64 p3,.int .i64 p3_1,.Bj .BE .u64 p3_2]),(2,wh,.box [.int .i64 r,.int .i64 c,.Bj .arg .u64 p2]),(1,wh,.box [.int .i64 r,.int .i64 c,.Bj .arg .u64 l])]⟩
def Ct.BW.C11:Option DV:=cutAt Ct.BW.E N f64 (Bw f64) [1,1,1,1,1,1,1] [] ⟨Fp 92 [(1,.ptr 1 0 0),(2,.ptr 2 0 0),(3,.ptr 3 0 0),(6,.int .i64 p6)],[(1,wh,.box [.int .i64 r,.int .i64 c,.Bj .arg .u64 l]),(3,wh,.box [.int .i64 p3,.int .i64 p3_1,.Bj .arg .u64 p3_3]),(2,wh,.box [.int .i64 r,.int .i64 c,.Bj .arg .u64 p2_1])]⟩
def Ct.BW.L0:Option DV:=C6 Ct.BW.E N f64 (Bw f64) [1,1,1,1,1,1,1,1,1,0,1,0] [] M ⟨Fp 92 [(2,.ptr 2 0 0),(3,.ptr 3 0 0),(6,.int .i64 p6),(9,.ptr 9 0 0),(10,.Dh 100010),(56,.int .i64 c),(57,.int .i64 p57)],[(2,wh,.box [.int .i64 r,.int .i64 c,.Bj .arg .u64 p2_1]),(3,wh,.box [.int .i64 p3,.int .i64 p3_1,.Bj .arg .u64 p3_3]),(9,wh,.box [.Bj .BE .u64 (CS (wi r) (wi c) p2_1)]),(100010,wh,.Bj 3 .i64 p10)]⟩
def Ct.BW.C18:Option DV:=cutAt Ct.BW.E N f64 (Bw f64) [1,1,1,1,1,1,1,1,1,1] [] ⟨Fp 92 [(2,.ptr 2 0 0),(3,.ptr 3 0 0),(6,.int .i64 p6),(9,.ptr 9 0 0),(10,.Dh 100010)],[(2,wh,.box [.int .i64 r,.int .i64 c,.Bj .arg .u64 p2_1]),(3,wh,.box [.int .i64 p3,.int .i64 p3_1,.Bj .arg .u64 p3_3]),(9,wh,.box [.Bj .BE .u64 (CS (wi r) (wi c) p2_1)]),(100010,wh,.Bj 3 .i64 p10)]⟩
def Ct.BW.C20:Option DV:=cutAt Ct.BW.E N f64 (Bw f64) [1,1,1,1,1,1,1,1,1,1,1,1,0] [] ⟨Fp 92 [(2,.ptr 2 0 0),(3,.ptr 3 0 0)],[(2,wh,.box [.int .i64 r,.int .i64 c,.Bj .arg .u64 (B5 (Dp (wi r) (wi c) p2_1 (Ey (CS (wi r) (wi c) p2_1) p10)) p6)]),(3,wh,.box [.int .i64 p3,.int .i64 p3_1,.Bj .BE .u64 (Dp (wi p3) (wi p3_1) p3_3 (Ey (CS (wi r) (wi c) p2_1) p10))]),(9,wh,.box [.Bj .BE .u64 (CS (wi r) (wi c) p2_1)]),(100010,wh,.Bj 3 .i64 (Ey (CS (wi r) (wi c) p2_1) p10))]⟩
theorem Ct.BW.Ag4:Ct.BW.C5 N r c l p6=cond (Cw l&&Ci (wj l<=1000/\-2300<=(Bh (0-p6))/\(Bh (0-p6))<=2300)) (bif (Cw (B5 l (Bh (0-p6)))&&Ci (wj (B5 l (Bh (0-p6)))<=64)) then Ct.BW.C8 N r c l p6 (Cb (B5 l (Bh (0-p6)))) ((K4 c).1) ((K4 c).2.1) ((K4 c).2.2.1) (B5 l (Bh (0-p6))) else wN) wN:=(DO _ _ _ _ _ _ _).trans (by kernel_rfl)
theorem Ct.BW.Ag3:Ct.BW.C8 N r c l p6 p7 p3 p3_1 p3_2 p2=cond (Eg p7 (-44:Int)) (bif ((BD r c p2&&BD p3 p3_1 p3_2)&&((Bq p2&&Bq p3_2)&&(Br (BV p7 (-44:Int))&&Ci (p3=c/\p3_1=c)))) then cond (((DC (wi r) (wi c) (BV p7 (-44:Int)) 60 p2 p3_2).2.2) !=(0:Int)) (wM (.CJ [.agg [.int .i64 0,.int .i64 0,.nil],.agg [.int .i64 0,.int .i64 0,.nil],.nil,.int .i64 ((DC (wi r) (wi c) (BV p7 (-44:Int)) 60 p2 p3_2).2.2)])) (Ct.BW.C11 N r c l p6 p3 p3_1 ((DC (wi r) (wi c) (BV p7 (-44:Int)) 60 p2 p3_2).2.1) ((DC (wi r) (wi c) (BV p7 (-44:Int)) 60 p2 p3_2).1)) else wN) wN:=
 yP ((DO _ _ _ _ _ _ _).trans (by kernel_rfl))
 (CQ (CD _) (CQ (CD _) rfl rfl) rfl)
theorem Ct.BW.Aaw:Ct.BW.C11 N r c l p6 p3 p3_1 p3_3 p2_1=cond (BD r c p2_1&&Bq p2_1) (Ct.BW.L0 N N r c p6 p3 p3_1 p3_3 p2_1 0 []) wN:=(DO _ _ _ _ _ _ _).trans (by kernel_rfl)
theorem Ct.BW.B7:Ct.BW.L0 N (M+1) r c p6 p3 p3_1 p3_3 p2_1 p57 p10=cond (BH p57 c) (bif (decide ((wj p10)+1<=GK)) then Ct.BW.L0 N M r c p6 p3 p3_1 p3_3 p2_1 (Bh (p57+1)) (p10++[p57]) else wN) (Ct.BW.C18 N r c p6 p3 p3_1 p3_3 p2_1 p10):=by kernel_rfl
theorem Ct.BW.Aat:Ct.BW.C18 N r c p6 p3 p3_1 p3_3 p2_1 p10=cond (Cw (CS (wi r) (wi c) p2_1)&&Ci (HO (wj (CS (wi r) (wi c) p2_1)) p10=wc/\wj p10<=6)) (bif (BD r c p2_1&&Ci (((wj (Ey (CS (wi r) (wi c) p2_1) p10):Nat):Int)=c/\HO (wi c) (Ey (CS (wi r) (wi c) p2_1) p10)=wc)) then cond (Cw (Dp (wi r) (wi c) p2_1 (Ey (CS (wi r) (wi c) p2_1) p10))&&Ci (wj (Dp (wi r) (wi c) p2_1 (Ey (CS (wi r) (wi c) p2_1) p10))<=1000/\-2300<=p6/\p6<=2300)) (bif (BD p3 p3_1 p3_3&&Ci (((wj (Ey (CS (wi r) (wi c) p2_1) p10):Nat):Int)=p3_1/\HO (wi p3_1) (Ey (CS (wi r) (wi c) p2_1) p10)=wc)) then Ct.BW.C20 N r c p6 p3 p3_1 p3_3 p2_1 p10 else wN) wN else wN) wN:=
 yP ((DO _ _ _ _ _ _ _).trans (by kernel_rfl))
 (ET (CQ (CD _) (CQ (CD _) (CQ (CD _) rfl rfl) rfl) rfl) rfl)
theorem Ct.BW.AjS:Ct.BW.C20 N r c p6 p3 p3_1 p3_3 p2_1 p10=cond (Cw (B5 (Dp (wi r) (wi c) p2_1 (Ey (CS (wi r) (wi c) p2_1) p10)) p6)) (bif ((!(Dx (B5 (Dp (wi r) (wi c) p2_1 (Ey (CS (wi r) (wi c) p2_1) p10)) p6)))||(Cw (Dp (wi p3) (wi p3_1) p3_3 (Ey (CS (wi r) (wi c) p2_1) p10)))) then cond ((!(Dx (B5 (Dp (wi r) (wi c) p2_1 (Ey (CS (wi r) (wi c) p2_1) p10)) p6)))||(!(Dx (Dp (wi p3) (wi p3_1) p3_3 (Ey (CS (wi r) (wi c) p2_1) p10))))) (wM (.CJ [.agg [.int .i64 0,.int .i64 0,.nil],.agg [.int .i64 0,.int .i64 0,.nil],.nil,.int .i64 2])) (bif (BD r c (B5 (Dp (wi r) (wi c) p2_1 (Ey (CS (wi r) (wi c) p2_1) p10)) p6)&&Bq (B5 (Dp (wi r) (wi c) p2_1 (Ey (CS (wi r) (wi c) p2_1) p10)) p6)) then wM (.CJ [.agg [.int .i64 r,.int .i64 c,.Bj .arg .u64 (B5 (Dp (wi r) (wi c) p2_1 (Ey (CS (wi r) (wi c) p2_1) p10)) p6)],.agg [.int .i64 p3,.int .i64 p3_1,.Bj .BE .u64 (Dp (wi p3) (wi p3_1) p3_3 (Ey (CS (wi r) (wi c) p2_1) p10))],.Bj .BE .u64 (CS (wi r) (wi c) (B5 (Dp (wi r) (wi c) p2_1 (Ey (CS (wi r) (wi c) p2_1) p10)) p6)),.int .i64 0]) else wN) else wN) wN:=
 yP ((DO _ _ _ _ _ _ _).trans (by kernel_rfl))
 (ET (B4 (Sn (Dx (B5 (Dp (wi r) (wi c) p2_1 (Ey (CS (wi r) (wi c) p2_1) p10)) p6))) (B4 (O6 (Dx (B5 (Dp (wi r) (wi c) p2_1 (Ey (CS (wi r) (wi c) p2_1) p10)) p6))) (CQ (AbJ _ _) (B4 (O6 (Dx (B5 (Dp (wi r) (wi c) p2_1 (Ey (CS (wi r) (wi c) p2_1) p10)) p6))) (B4 (TQ (Dx (B5 (Dp (wi r) (wi c) p2_1 (Ey (CS (wi r) (wi c) p2_1) p10)) p6))) (CQ (AdY _ _) rfl (CQ (CD _) rfl rfl)))) rfl))) rfl)
theorem Ct.BW.ev:Cz Ct.BW.E N f64 (Bw f64) [.agg [.int .i64 r,.int .i64 c,.Bj .arg .u64 l]]=cond (Bq l) (bif ((BT r c l) !=(0:Int)) then wM (.CJ [.agg [.int .i64 0,.int .i64 0,.nil],.agg [.int .i64 0,.int .i64 0,.nil],.nil,.int .i64 (BT r c l)]) else bif (Cw l) then cond (Br (BI l)) (Ct.BW.C5 N r c l (BO (BI l))) wN else wN) wN:=by kernel_rfl
end
abbrev Ct.BW.Kn:=Ev prog 64 Ct.BW.Bu
theorem Ct.BW.D9(hk:Fe prog Ct.BW.GN)(hw:BM.BC.Kn)(h:Hyp Ct.BW.E f64 Ct.BW.ts Ct.BW.pre Ct.BW.out):Ct.BW.Kn :=Gc (Sc hk (YA hw) _ _ _ _) func64 (by kernel_rfl) (by kernel_rfl) h
theorem OJ:Br (4607182418800017408:Int)=wc:=VR
theorem WY(N:Nat)(r c:Int)(l:Bf){t:Int}(ht:Br t=wc):Ct.Ea.C15 N r c l t=wM (.agg [.int .u64 (EC t),.int .u64 (Eb t),.bool wh]):=by have h1:Br (DD (4607182418800017408:Int) (Cx t t))=wc:=Pc OJ (Fo _ _);rw[Ct.Ea.AjV,ht,Ah,Aa,OJ,Fo,Ah,Aa,h1,Aa,RI h1,Ah,Aa,No,Ah,Aa];rfl
theorem AdT(N:Nat)(r c:Int)(l:Bf){z:Int}(hz:Br z=wc):Ct.Ea.C11 N r c l z=wM (.agg [.int .u64 (EC (K9 z)),.int .u64 (Eb (K9 z)),.bool wh]):=by
 have h1:Br (DD (4607182418800017408:Int) (Cx z z))=wc:=Pc OJ (Fo _ _);have h2:=RI h1;have h3:Br (DD (K3 z) (DG (DD (4607182418800017408:Int) (Cx z z))))=wc:=Pc (Wd z) h2;rw[Ct.Ea.Aaw,hz,Ah,Aa,OJ,Fo,Ah,Aa,h1,Aa,Ct.Ea.Aav,hz,Aa,Wd,h2,Ah,Aa,OJ,h3,Ah,Aa,Ct.Ea.WM,hz,Aa,No,Aa]
 have e:K9 z=cond (DN z) (Cy (EV (4607182418800017408:Int) (DD (K3 z) (DG (DD (4607182418800017408:Int) (Cx z z)))))) (EV (4607182418800017408:Int) (DD (K3 z) (DG (DD (4607182418800017408:Int) (Cx z z))))):=by unfold K9 Sl SM;cases DN z<;>rfl
 rw[e];cases DN z with
 | true=>rw[Aa,Aa]; exact WY N r c l (P8 (No _ _))
 | false=>rw[Af,Af]; exact WY N r c l (No _ _)
theorem ZO{x y:Bf}(hx:Bq x=wc)(hy:Bq y=wc)(h:x.length=y.length)(h6:x.length<=6):((Nl x y&&Bq x)&&Bq y)=wc:=by unfold Nl;rw[Ac h,Ac (by omega),hx,hy]; rfl
theorem VU{x:Bf}(hx:Bq x=wc)(h6:x.length<=6):(Cw x&&Ci (wj x<=64))=wc:=Bi.2 ⟨FO hx (by omega),Bv.2 (by omega)⟩
theorem AgJ(N:Nat)(r c:Int)(l:Bf){b:Int}(hb:Br b=wc){x y:Bf}(hx:Bq x=wc)(hy:Bq y=wc)(h:x.length=y.length)(h6:x.length<=6):
 Ct.Ea.C2 N r c l b x y=wM (.agg [.int .u64 (trC x y b),.int .u64 (trS x y b),.bool (M5 x y b)]):=by
 have f:=ZO hx hy h h6;have sc:Eg (Cx (Cb x) (Cb y)) (-44:Int)=wc:=Bi.2 ⟨Fo _ _,Bv.2 (by decide)⟩;have eb:(((!(decide (Gk b (Cb x)<0)))||(!(decide (Gk b (Cb y)<0))))||(!(decide (Gk (BV (Cx (Cb x) (Cb y)) (-44:Int)) (K3 (EU x y))<0))))=M5 x y b:=rfl;rw[Ct.Ea.Ag5,VU hx h6,Aa,VU hy (by omega),Aa,f,Aa,Ct.Ea.Ag4,JF,JF,Ah,Aa,sc,Aa,hb,Ah,Aa,AV,Aa,HG,AV,Aa,FD (Fo _ _),Wd,Ah,AV,Aa,eb];unfold trC trS;cases M5 x y b with
 | true=>rw[Aa]; rfl
 | false =>rw[Af,Ct.Ea.Ag3,ZO hx hx rfl h6,Aa,ZO hy hy rfl (by omega),Aa,HG,HG,Ah,Aa,HG,Ah,Aa,O8 (HG _ _) (HG _ _),Pc (HG _ _) (HG _ _),Ah,Aa];exact AdT N r c l (No _ _)
theorem Ct.Ea.Bp:Kq 169 Ct.Ea.Bu:=E1 Ct.Ea.E Tryz.func169 (kc compare.WR.Bp (kc compare.Mw.Bp (kc Bg.DU.Bp (kc soft.EK.Bp (kc soft.Sign.Bp (kc Bs.Add.Bp (kc Bs.Div.Bp (kc Bs.GY.Bp (kc Bs.Mul.Bp (kc Bs.Norm.Bp (kc Bs.CF.Bp (kc Bs.Sqrt.Bp (kc Bs.Sub.Bp .nil))))))))))))) fun r c l i k b hp=>by
 obtain⟨hr,hp⟩:=Bi.1 (show(BD r c l&&(Bq l&&(Br b&&Ci (0<=i/\i<c/\0<=k/\k<c))))=wc from hp);obtain⟨al,hp⟩:=Bi.1 hp;obtain⟨hb,hp⟩:=Bi.1 hp;obtain⟨i0,i1,k0,k1⟩:=Bv.1 hp;obtain⟨R,C,rfl,rfl,r6,c6,hl⟩:=DF hr;obtain⟨i,rfl⟩:∃j:Nat,i=j:=⟨i.toNat,by omega⟩
 obtain⟨k,rfl⟩:∃j:Nat,k=j:=⟨k.toNat,by omega⟩
 have z:Ci (0<=(0:Int)/\(0:Int)<=(R:Int))=wc:=Bv.2 ⟨yO _,by omega⟩;have cp:∀j:Nat,(j:Int)<(C:Int)->EG (R:Int) (C:Int) l (j:Int)=wc:=fun j hj=>Bi.2 ⟨hr,Bv.2 (by omega)⟩
 refine⟨0,.agg [.int .u64 (trC (Dl R C l i) (Dl R C l k) b),.int .u64 (trS (Dl R C l i) (Dl R C l k) b),.bool (M5 (Dl R C l i) (Dl R C l k) b)],[],?_,Wk.GA (.cons .int (.cons .int (.cons .bool .nil)))⟩;rw[Ct.Ea.ev,cp i i1,z,Ah,Aa,cp k k1,Ah,Aa,show wi ((R:Int)-(0:Int))=R by omega];exact AgJ 0 _ _ _ hb (HJ al) (HJ al) (by rw[Dv,Dv]) (by rw[Dv]; exact r6)
section
variable{R C:Nat}{b:Int}(r6:R<=6)(c6:C<=6)(hb:Br b=wc)(N:Nat)
include r6 c6 hb
theorem Acf{M0 M1:Nat}{p:Nat}{p13:Int}:∀(d q F:Nat) (s:Bf × Bf × Bool),q+d=C->d<F->p<q->Hu R C s ->
 Ct.rounds.L2 N M0 M1 F (R:Int) (C:Int) (C:Int) (C:Int) b (q:Int) s.2.2 s.1 s.2.1 (p:Int) (p:Int) p13=
  Ct.rounds.L1 N M0 M1 (R:Int) (C:Int) (C:Int) (C:Int) b (((p+1:Nat):Int)) (K2 M5 R C b p d q s).2.2 (K2 M5 R C b p d q s).1 (K2 M5 R C b p d q s).2.1 p13:=by
 intro d
 induction d with
 | zero =>
   intro q F s hq hF RX hs;obtain⟨F,rfl⟩:∃G,F=G+1:=⟨F-1,by omega⟩
   rw[Ct.rounds.I5,B8,Ag (by omega),Af,Bz (by omega) (by omega)];rfl
 | succ d ih =>
   intro q F s hq hF RX hs;obtain⟨F,rfl⟩:∃G,F=G+1:=⟨F-1,by omega⟩
   have hr:=D7 r6 c6 hs.1.1;have hv:=D7 c6 c6 hs.2.1
   have t1:(BD (R:Int) (C:Int) s.1&&(Bq s.1&&(Br b&&Ci (0<=(p:Int)/\(p:Int)<(C:Int)/\0<=(q:Int)/\(q:Int)<(C:Int)))))=wc :=Bi.2 ⟨hr,Bi.2 ⟨hs.1.2,Bi.2 ⟨hb,Bv.2 (by omega)⟩⟩⟩
   have cq:Ci (0<=(p:Int)/\(p:Int)<(C:Int)/\0<=(q:Int)/\(q:Int)<(C:Int)/\(p:Int)≠(q:Int))=wc:=Bv.2 (by omega);have hn:=ih (q+1) F (Go.Cn.Jd M5 R C b p q s) (by omega) (by omega) (by omega) hs.Jd;rw[Ct.rounds.I5,B8,Ac (by omega),Aa,t1,Aa];simp only[Ad];rw[Bz (by omega) (by omega)];show _=Ct.rounds.L1 N M0 M1 (R:Int) (C:Int) (C:Int) (C:Int) b (((p+1:Nat):Int)) (K2 M5 R C b p d (q+1) (Go.Cn.Jd M5 R C b p q s)).2.2 (K2 M5 R C b p d (q+1) (Go.Cn.Jd M5 R C b p q s)).1 (K2 M5 R C b p d (q+1) (Go.Cn.Jd M5 R C b p q s)).2.1 p13;rw[<- hn];unfold Go.Cn.Jd;cases hbe:M5 (Dl R C s.1 p) (Dl R C s.1 q) b with
   | true=>rw[Aa,Az rfl]; rfl
   | false =>
     have iS:Br (trS (Dl R C s.1 p) (Dl R C s.1 q) b)=wc:=by unfold trS; rw[hbe]; exact Fo _ _
     have iC:Br (trC (Dl R C s.1 p) (Dl R C s.1 q) b)=wc:=by unfold trC; rw[hbe]; exact No _ _
     rw[Af,iS,Aa,hr,hs.1.2,iC,P8 iS,cq,Ah,Ah,Ah,Ah,Aa,Aa,hv,hs.2.2,Ah,Ah,Aa,Ay (by decide)];have eC:trC (Dl R C s.1 p) (Dl R C s.1 q) b=EC (K9 (Ol (Dl R C s.1 p) (Dl R C s.1 q))):=by unfold trC; rw[hbe]; rfl
     have eS:trS (Dl R C s.1 p) (Dl R C s.1 q) b=Eb (K9 (Ol (Dl R C s.1 p) (Dl R C s.1 q))):=by unfold trS; rw[hbe]; rfl
     rw[eC,eS];rfl
theorem Acg{M0:Nat}{p13:Int}(hN:6<N):∀(d p F:Nat) (s:Bf × Bf × Bool),p+d=C->d<F->Hu R C s ->
 Ct.rounds.L1 N M0 F (R:Int) (C:Int) (C:Int) (C:Int) b (p:Int) s.2.2 s.1 s.2.1 p13=
  bif (Go.Cn.Im M5 R C b d p s).2.2 then wM (.CJ [.agg [.int .i64 (R:Int),.int .i64 (C:Int),.Bj .arg .u64 (Go.Cn.Im M5 R C b d p s).1],.agg [.int .i64 (C:Int),.int .i64 (C:Int),.Bj .arg .u64 (Go.Cn.Im M5 R C b d p s).2.1],.int .i64 (0:Int)])
  else Ct.rounds.L0 N M0 (R:Int) (C:Int) (C:Int) (C:Int) b (Bh (p13+(1:Int))) (Go.Cn.Im M5 R C b d p s).1 (Go.Cn.Im M5 R C b d p s).2.1:=by
 intro d
 induction d with
 | zero =>
   intro p F s hp hF hs;obtain⟨F,rfl⟩:∃G,F=G+1:=⟨F-1,by omega⟩
   rw[Ct.rounds.CU,B8,Ag (by omega),Af];rfl
 | succ d ih =>
   intro p F s hp hF hs;obtain⟨F,rfl⟩:∃G,F=G+1:=⟨F-1,by omega⟩
   have h2:=Acf r6 c6 hb N (M0:=M0) (M1:=F) (p:=p) (p13:=p13) (C-(p+1)) (p+1) N s (by omega) (by omega) (by omega) hs;rw[Ct.rounds.CU,B8,Ac (by omega),Aa,Bz (by omega) (by omega)];refine h2.trans ?_;exact ih (p+1) F (K2 M5 R C b p (C-(p+1)) (p+1) s) (by omega) (by omega) (Hu.K2 _ _ hs)
theorem Ach(hN:6<N):∀(m F:Nat) (w v:Bf),m<=60->m<F->Hu R C (w,v,wc) ->
 Ct.rounds.L0 N F (R:Int) (C:Int) (C:Int) (C:Int) b ((60-m:Nat):Int) w v=
  wM (.CJ [.agg [.int .i64 (R:Int),.int .i64 (C:Int),.Bj .arg .u64 (Go.Cn.DC R C b m w v).1],.agg [.int .i64 (C:Int),.int .i64 (C:Int),.Bj .arg .u64 (Go.Cn.DC R C b m w v).2.1],.int .i64 (Go.Cn.DC R C b m w v).2.2]):=by
 intro m
 induction m with
 | zero =>
   intro F w v hm hF hs;obtain⟨F,rfl⟩:∃G,F=G+1:=⟨F-1,by omega⟩
   rw[Ct.rounds.B7,B8,Ag (by omega),Af];rfl
 | succ m ih =>
   intro F w v hm hF hs;obtain⟨F,rfl⟩:∃G,F=G+1:=⟨F-1,by omega⟩
   have h1:=Acg r6 c6 hb N (M0:=F) (p13:=((60-(m+1):Nat):Int)) hN C 0 N (w,v,wc) (by omega) (by omega) hs;rw[Ct.rounds.B7,B8,Ac (by omega),Aa];refine h1.trans ?_;have g:Hu R C (Gp R C b w v):=Hu.Im C 0 hs;show(cond ((Gp R C b w v).2.2) _ _)=_;unfold Go.Cn.DC;cases he:(Gp R C b w v).2.2 with
   | true=>rw[Aa,Az rfl]; rfl
   | false =>rw[Af,Ay (by decide),Bz (by omega) (by omega),show(((60-(m+1):Nat):Int)+1)=((60-m:Nat):Int) by omega];exact ih F (Gp R C b w v).1 (Gp R C b w v).2.1 (by omega) (by omega) ⟨g.1,g.2⟩
end
theorem Ct.rounds.Bp:Kq 127 Ct.rounds.Bu:=E1 Ct.rounds.E Tryz.func127 (kc D4.Pe.Bp (kc soft.EK.Bp (kc Ct.Ea.Bp .nil))) fun r c l p q m b hp=>by
 obtain⟨h1,hp⟩:=Bi.1 (show((BD r c l&&BD p q m)&&((Bq l&&Bq m)&&(Br b&&Ci (p=c/\q=c))))=wc from hp);obtain⟨hr,hv⟩:=Bi.1 h1;obtain⟨h2,hp⟩:=Bi.1 hp;obtain⟨al,am⟩:=Bi.1 h2;obtain⟨hb,hp⟩:=Bi.1 hp;obtain⟨rfl,rfl⟩:=Bv.1 hp;obtain⟨R,C,rfl,rfl,r6,c6,hl⟩:=DF hr
 have hm:m.length=C*C:=by obtain⟨_,_,hm⟩:=G5.1 hv;rw[<- Ax] at hm; omega
 refine⟨62,_,[],(Ct.rounds.ev ..).trans (Ach r6 c6 hb 62 (by decide) 60 62 l m (by decide) (by decide) ⟨⟨hl,al⟩,hm,am⟩),?_⟩;exact Wk.FQ (.cons (Wk.GA (.cons .int (.cons .int (.cons .WC .nil)))) (.cons (Wk.GA (.cons .int (.cons .int (.cons .WC .nil)))) (.cons .int .nil)))
theorem Xk(N:Nat){r c:Int}{x:Bf}{e:Int}(hx:Cw x=wc)(hl:x.length<=1000)(he:-2300<=e/\e<=2300):∀(k i F:Nat),i+k=x.length->k<F ->
 Ct.CB.L0 N F r c x e (i:Int) ((x.take i).map fun b=>BV b e)=wM (.agg [.int .i64 r,.int .i64 c,.Bj (.own 106002 tB) .u64 (B5 x e)]):=by
 obtain⟨_,hu⟩:=Io hx;intro k
 induction k with
 | zero =>
   intro i F hi hF;obtain⟨F,rfl⟩:∃G,F=G+1:=⟨F-1,by omega⟩
   rw[Ct.CB.B7,B8,Ag (by omega),Af,yB (by omega)]; rfl
 | succ k ih =>
   intro i F hi hF;obtain⟨F,rfl⟩:∃G,F=G+1:=⟨F-1,by omega⟩
   rw[Ct.CB.B7,B8,Ac (show(i:Int)<(x.length:Int) by omega),Aa,Ac (show(0:Int)<=(i:Int) by omega),Ah,Aa,Ad,
    show Eg (vC x i 0) e=wc from Bi.2 ⟨hu i (by omega),Bv.2 he⟩,Aa,Ac (by rw[AO,zN]; unfold GK; omega),Aa,Bz (by omega) (by omega)]
   have:=ih (i+1) F (by omega) (by omega);rw[Sq (by omega)] at this;exact this
theorem Ct.CB.Bp:Kq 125 Ct.CB.Bu:=E1 Ct.CB.E Tryz.func125 (kc Bs.CF.Bp .nil) fun r c x k hp=>by obtain⟨h1,h2⟩:=Bi.1 (show(Cw x&&Ci (wj x<=1000/\-2300<=k/\k<=2300))=wc from hp);have h2:=Bv.1 h2;refine⟨x.length+1,.agg [.int .i64 r,.int .i64 c,.Bj (.own 106002 tB) .u64 (B5 x k)],[106002],?_,Wk.GA (.cons .int (.cons .int (.cons (.Abp _ _ _ _ (ze.2 rfl)) .nil)))⟩;rw[Ct.CB.ev];exact Xk (x.length+1) h1 h2.1 h2.2 x.length 0 (x.length+1) (by omega) (by omega)
theorem AcP{R n i k:Nat}{f:Nat->Nat->Int}(hi:i<R)(hk:k<n):(Dj R n f).take (i*n+k+1)=(Dj R n f).take (i*n+k)++[f i k]:=by
 have h:i*n+k<(Dj R n f).length:=by rw[Ch]; exact Fx hi hk
 rw[xy h];have:=Yf (r:=R) (c:=n) (f:=f) hi hk;rw[Al,As h] at this;exact congrArg _ (congrArg (fun z=>[z]) this)
section
variable{R C:Nat}{l x:Bf}(r6:R<=6)(c6:C<=6)(hl:l.length=R*C)(hx:x.length=C)(hin:HO C x=wc)(N:Nat)
include r6 c6 hl hx hin
theorem Al7{M0 i:Nat}(hi:i<R):∀(d k F:Nat),k+d=C->d<F ->
 Ct.at.L1 N M0 F (R:Int) (C:Int) l x (i:Int) (i:Int) (k:Int) ((Dp R C l x).take (i*C+k))=Ct.at.L0 N M0 (R:Int) (C:Int) l x (((i+1:Nat):Int)) ((Dp R C l x).take ((i+1)*C)):=by
 intro d
 induction d with
 | zero =>
   intro k F hk hF;obtain⟨F,rfl⟩:∃G,F=G+1:=⟨F-1,by omega⟩
   obtain rfl:k=C:=by omega
   rw[Ct.at.CU,B8,Ag (by omega),Af,Bz (by omega) (by omega),AM,Nat.one_mul];rfl
 | succ d ih =>
   intro k F hk hF;obtain⟨F,rfl⟩:∃G,F=G+1:=⟨F-1,by omega⟩
   have p:=PM hin (j:=k) (by omega);obtain⟨j,hj⟩:∃j:Nat,x.getD k 0=j:=⟨(x.getD k 0).toNat,by omega⟩
   have hjC:j<C:=by omega
   obtain⟨e1,b1⟩:=OI r6 c6 hi hjC
   have hle:(List.take (i*C+k) (Dp R C l x)).length+1<=GK:=by rw[zN];have:=Fx hi (show k<C by omega);have:R*C<=36:=AE r6 c6;unfold GK; omega
   have g:vC l (i*C+j) 0=Dy (C:Int) l (i:Int) (x.getD k 0):=by rw[hj]; unfold Dy; rw[ME]
   rw[Ct.at.CU,B8,Ac (by omega),Aa,Ac (show(0:Int)<=(k:Int) by omega),Ah,Aa,show wi ((k:Nat):Int)=k from Ad k,hj,e1,
    Ac (show(0:Int)<=((i*C+j:Nat):Int) by omega),Ac (show((i*C+j:Nat):Int)<((l.length:Nat):Int) by rw[hl]; omega),Ah,Aa,Ac hle,Aa,Ad,g,Bz (by omega) (by omega)]
   have:=ih (k+1) F (by omega) (by omega);rw[<- Nat.add_assoc] at this;unfold Dp at this ⊢;rw[AcP hi (show k<C by omega)] at this;exact this
theorem Al8(hN:6<N):∀(d i F:Nat),i+d=R->d<F ->
 Ct.at.L0 N F (R:Int) (C:Int) l x (i:Int) ((Dp R C l x).take (i*C))=wM (.agg [.int .i64 (R:Int),.int .i64 (C:Int),.Bj (.own 106002 tB) .u64 (Dp R C l x)]):=by
 intro d
 induction d with
 | zero =>
   intro i F hi hF;obtain⟨F,rfl⟩:∃G,F=G+1:=⟨F-1,by omega⟩
   obtain rfl:i=R:=by omega
   rw[Ct.at.B7,B8,Ag (by omega),Af,yB (by rw[FH]; omega)]
 | succ d ih =>
   intro i F hi hF;obtain⟨F,rfl⟩:∃G,F=G+1:=⟨F-1,by omega⟩
   rw[Ct.at.B7,B8,Ac (by omega),Aa];have:=Al7 r6 c6 hl hx hin N (M0:=F) (i:=i) (by omega) C 0 N (by omega) (by omega);rw[AQ] at this;exact this.trans (ih (i+1) F (by omega) (by omega))
end
theorem Ct.at.Bp:Kq 132 Ct.at.Bu:=E1 Ct.at.E Tryz.func132 .nil fun r c l x hp=>by obtain⟨hr,hp⟩:=Bi.1 (show(BD r c l&&Ci (((wj x:Nat):Int)=c/\HO (wi c) x=wc))=wc from hp);obtain⟨hx,hin⟩:=Bv.1 hp;obtain⟨R,C,rfl,rfl,r6,c6,hl⟩:=DF hr;rw[Ad] at hin;refine⟨8,.agg [.int .i64 (R:Int),.int .i64 (C:Int),.Bj (.own 106002 tB) .u64 (Dp R C l x)],[106002],?_,YD (ze.2 rfl)⟩;rw[Ct.at.ev];have:=Al8 r6 c6 hl (by omega) hin 8 (by decide) R 0 8 (by omega) (by omega);rw[zK,List.take_zero] at this;exact this
theorem Zs{R C:Nat}{l:Bf}(r6:R<=6)(c6:C<=6)(hr:BD (R:Int) (C:Int) l=wc)(al:Bq l=wc)(N:Nat):∀(d k F:Nat),k+d=C->d<F ->
 Ct.Gm.L0 N F (R:Int) (C:Int) l (k:Int) ((List.range k).map fun c=>Cb (Dl R C l c))=wM (.Bj (.own 100003 tB) .u64 (CS R C l)):=by
 intro d
 induction d with
 | zero =>
   intro k F hk hF;obtain⟨F,rfl⟩:∃G,F=G+1:=⟨F-1,by omega⟩
   obtain rfl:k=C:=by omega
   rw[Ct.Gm.B7,B8,Ag (by omega),Af];rfl
 | succ d ih =>
   intro k F hk hF;obtain⟨F,rfl⟩:∃G,F=G+1:=⟨F-1,by omega⟩
   have cp:(EG (R:Int) (C:Int) l (k:Int)&&Ci (0<=(0:Int)/\(0:Int)<=(R:Int)))=wc:=Bi.2 ⟨Bi.2 ⟨hr,Bv.2 (by omega)⟩,Bv.2 (by omega)⟩;have ln:(BQ (C:Int) l (k:Int) 0 R).length<=6:=by rw[Dv]; exact r6
   rw[Ct.Gm.B7,B8,Ac (by omega),Aa,cp,Aa,show wi ((R:Int)-(0:Int))=R by omega,VU (HJ al) ln,Aa,Ac (by rw[AO,AL]; unfold GK; omega),Aa,Bz (by omega) (by omega)];have:=ih (k+1) F (by omega) (by omega);rw[xn,yu] at this;exact this
theorem Ct.Gm.Bp:Kq 128 Ct.Gm.Bu:=E1 Ct.Gm.E Tryz.func128 (kc Bg.DU.Bp (kc Bs.Norm.Bp .nil)) fun r c l hp=>by obtain⟨hr,al⟩:=Bi.1 (show(BD r c l&&Bq l)=wc from hp);obtain⟨R,C,rfl,rfl,r6,c6,hl⟩:=DF hr;exact⟨8,.Bj (.own 100003 tB) .u64 (CS R C l),[100003],(Ct.Gm.ev ..).trans (Zs r6 c6 hr al 8 C 0 8 (by omega) (by omega)),.drop _ _ _ _ (ze.2 rfl)⟩
theorem YC{drops:List Nat}{e:Int}:Wk drops (.CJ [.agg [.int .i64 (0:Int),.int .i64 (0:Int),.nil],.agg [.int .i64 (0:Int),.int .i64 (0:Int),.nil],.nil,.int .i64 e])
 (.CJ [.agg [.int .i64 (0:Int),.int .i64 (0:Int),.Bj .arg .u64 []],.agg [.int .i64 (0:Int),.int .i64 (0:Int),.Bj .BE .u64 []],.Bj .BE .u64 [],.int .i64 e]):=
 Wk.FQ (.cons (Wk.GA (.cons .int (.cons .int (.cons (.nil _ _) .nil)))) (.cons (Wk.GA (.cons .int (.cons .int (.cons (.nil _ _) .nil)))) (.cons (.nil _ _) (.cons .int .nil))))
theorem YI{r c:Int}{l:Bf}{e:Int}(h:G7 r c l=e)(he:e≠0):Ct.BW.out [.i r,.i c,.l l]=
 .CJ [.agg [.int .i64 (0:Int),.int .i64 (0:Int),.Bj .arg .u64 []],.agg [.int .i64 (0:Int),.int .i64 (0:Int),.Bj .BE .u64 []],.Bj .BE .u64 [],.int .i64 e]:=by
 show DV.CJ [.agg [.int .i64 (Gz r c l).1,.int .i64 (Gz r c l).2.1,.Bj .arg .u64 (Gz r c l).2.2.1],.agg [.int .i64 (HS r c l).1,.int .i64 (HS r c l).2.1,.Bj .BE .u64 (HS r c l).2.2.1],.Bj .BE .u64 (Od r c l),.int .i64 (G7 r c l)]=_;unfold Gz HS Od;rw[h,Az he,Az he,Az he];rfl
theorem AgE{R C:Nat}{l:Bf}(h:G7 (R:Int) (C:Int) l=0):Ct.BW.out [.i (R:Int),.i (C:Int),.l l]=
 .CJ [.agg [.int .i64 (R:Int),.int .i64 (C:Int),.Bj .arg .u64 (FY R C l)],.agg [.int .i64 (C:Int),.int .i64 (C:Int),.Bj .BE .u64 (F7 R C l)],.Bj .BE .u64 (CS R C (FY R C l)),.int .i64 0]:=by
 show DV.CJ [.agg [.int .i64 (Gz (R:Int) (C:Int) l).1,.int .i64 (Gz (R:Int) (C:Int) l).2.1,.Bj .arg .u64 (Gz (R:Int) (C:Int) l).2.2.1],.agg [.int .i64 (HS (R:Int) (C:Int) l).1,.int .i64 (HS (R:Int) (C:Int) l).2.1,.Bj .BE .u64 (HS (R:Int) (C:Int) l).2.2.1],.Bj .BE .u64 (Od (R:Int) (C:Int) l),.int .i64 (G7 (R:Int) (C:Int) l)]=_;unfold Gz HS Od;rw[h,Ay (by decide),Ay (by decide),Ay (by decide)];rfl
section
variable{R C:Nat}{l:Bf}(r6:R<=6)(c6:C<=6)(hl:l.length=R*C)(al:Bq l=wc)(N:Nat)
include r6 c6 hl al
omit r6 c6 in
theorem R9:Hu R C (B5 l (-(Dc l)),Fi C,wc):=⟨⟨by rw[IG]; exact hl,Qs al⟩,(show(Fi C).length=C*C from Ch _ _ _),(show Bq (Fi C)=wc from Gu fun i k=>Abl _ _)⟩
theorem AgF(hc:BT (R:Int) (C:Int) l=0)(he:(Dt R C l).2.2=0):
 Ct.BW.C20 N (R:Int) (C:Int) (Dc l) (C:Int) (C:Int) (Dt R C l).2.1 (Dt R C l).1 (JD C)=wM (.CJ [.agg [.int .i64 (R:Int),.int .i64 (C:Int),.Bj .arg .u64 (FY R C l)],.agg [.int .i64 (C:Int),.int .i64 (C:Int),.Bj .BE .u64 (F7 R C l)],.Bj .BE .u64 (CS R C (FY R C l)),.int .i64 0])/\G7 (R:Int) (C:Int) l=0 \/
 Ct.BW.C20 N (R:Int) (C:Int) (Dc l) (C:Int) (C:Int) (Dt R C l).2.1 (Dt R C l).1 (JD C)=wM (.CJ [.agg [.int .i64 (0:Int),.int .i64 (0:Int),.nil],.agg [.int .i64 (0:Int),.int .i64 (0:Int),.nil],.nil,.int .i64 2])/\G7 (R:Int) (C:Int) l=2:=by
 have hi:Hu R C ((Dt R C l).1,(Dt R C l).2.1,wc):=Hu.DC 60 (R9 hl al);have rc:R*C<=36:=AE r6 c6;have cc:C*C<=36:=AE c6 c6;have hW:Bq (FY R C l)=wc:=Qs (IN hi.1.2);have hV:Bq (F7 R C l)=wc:=IN hi.2.2;have lW:(FY R C l).length=R*C:=by unfold FY; rw[IG,FH]
 have lV:(F7 R C l).length=C*C:=FH ..;have oW:Cw (FY R C l)=wc:=FO hW (by omega);have oV:Cw (F7 R C l)=wc:=FO hV (by omega)
 have eE:G7 (R:Int) (C:Int) l=if (Dx (FY R C l)&&Dx (F7 R C l))=wc then 0 else 2:=by unfold G7;rw[Ay (by rw[hc]; decide),Ad,Ad,Ay (by rw[he]; decide)]
 rw[Ct.BW.AjS];simp only[Ad];show(_\/_);rw[show B5 (Dp R C (Dt R C l).1 (Ey (CS R C (Dt R C l).1) (JD C))) (Dc l)=FY R C l from rfl,show Dp C C (Dt R C l).2.1 (Ey (CS R C (Dt R C l).1) (JD C))=F7 R C l from rfl,oW,oV,AV,Aa,Aa,D7 r6 c6 lW,hW,Ah,Aa,eE];cases Dx (FY R C l) with
 | true =>
   cases Dx (F7 R C l) with
   | true=>exact .inl ⟨rfl,rfl⟩
   | false=>exact .inr ⟨rfl,rfl⟩
 | false=>exact .inr ⟨rfl,rfl⟩
omit r6 al in
theorem YH(p6 p3 p3_1:Int)(v w:Bf):∀(d k F:Nat),k+d=C->d<F ->
 Ct.BW.L0 N F (R:Int) (C:Int) p6 p3 p3_1 v w (k:Int) (JD k)=Ct.BW.C18 N (R:Int) (C:Int) p6 p3 p3_1 v w (JD C):=by
 intro d
 induction d with
 | zero =>
   intro k F hk hF;obtain⟨F,rfl⟩:∃G,F=G+1:=⟨F-1,by omega⟩
   obtain rfl:k=C:=by omega
   rw[Ct.BW.B7,B8,Ag (by omega),Af]
 | succ d ih =>
   intro k F hk hF;obtain⟨F,rfl⟩:∃G,F=G+1:=⟨F-1,by omega⟩
   rw[Ct.BW.B7,B8,Ac (by omega),Aa,Ac (by rw[MS]; unfold GK; omega),Aa,Bz (by omega) (by omega)];have:=ih (k+1) F (by omega) (by omega);unfold JD at this ⊢;rw[xn,yu] at this;exact this
theorem AgG:
 Ct.BW.C18 N (R:Int) (C:Int) (Dc l) (C:Int) (C:Int) (Dt R C l).2.1 (Dt R C l).1 (JD C)=Ct.BW.C20 N (R:Int) (C:Int) (Dc l) (C:Int) (C:Int) (Dt R C l).2.1 (Dt R C l).1 (JD C):=by
 have hi:Hu R C ((Dt R C l).1,(Dt R C l).2.1,wc):=Hu.DC 60 (R9 hl al);have rc:R*C<=36:=AE r6 c6;have ek:=Wu (BI l)
 have n1:(Cw (CS R C (Dt R C l).1)&&Ci (HO (wj (CS R C (Dt R C l).1)) (JD C)=wc/\wj (JD C)<=6))=wc :=Bi.2 ⟨FO (Q6 ..) (by rw[II]; omega),Bv.2 ⟨by rw[II]; exact VO C,by rw[MS]; exact c6⟩⟩
 have ps:Ci (((wj (Ey (CS R C (Dt R C l).1) (JD C)):Nat):Int)=(C:Int)/\HO C (Ey (CS R C (Dt R C l).1) (JD C))=wc)=wc :=Bv.2 ⟨by rw[Uv,MS],Xo (VO C)⟩
 have og:(Cw (Dp R C (Dt R C l).1 (Ey (CS R C (Dt R C l).1) (JD C)))&&Ci (wj (Dp R C (Dt R C l).1 (Ey (CS R C (Dt R C l).1) (JD C)))<=1000/\-2300<=Dc l/\Dc l<=2300))=wc :=Bi.2 ⟨FO (IN hi.1.2) (by rw[FH]; omega),Bv.2 ⟨by rw[FH]; omega,by unfold Dc; omega,by unfold Dc; omega⟩⟩
 rw[Ct.BW.Aat];simp only[Ad];rw[n1,Aa,D7 r6 c6 hi.1.1,ps,Ah,Aa,og,Aa,D7 c6 c6 hi.2.1,Ah,Aa]
end
theorem Ct.BW.Bp:Ct.BW.Kn:=Ct.BW.D9 (kc DI.Check.Bp (kc compare.M7.Bp (kc Bg.Ii.Bp (kc Ct.at.Bp (kc Ct.Gm.Bp (kc Ct.rounds.Bp (kc Ct.CB.Bp (kc Bs.DJ.Bp (kc Bs.Finite.Bp (kc Bs.Norm.Bp (kc Bs.CF.Bp .nil))))))))))) BM.BC.Bp fun r c l hp=>by
 have al:Bq l=wc:=hp;by_cases hc:BT r c l=0
 ·have hr:BD r c l=wc:=by
   unfold BT at hc;by_cases h:BD r c l=wc
   ·exact h
   ·rw[Ay h] at hc; cases hc
  obtain⟨R,C,rfl,rfl,r6,c6,hl⟩:=DF hr;have rc:R*C<=36:=AE r6 c6;have ek:=Wu (BI l);have hS:=R9 hl al
  have ks:Bh ((0:Int)-BO (BI l))=-(Dc l):=by rw[Bz (by omega) (by omega)]; unfold Dc; omega
  have o1:Cw l=wc:=FO al (by omega);have c1:Ci (wj l<=1000/\-2300<=-(Dc l)/\-(Dc l)<=2300)=wc:=Bv.2 ⟨by omega,by unfold Dc; omega,by unfold Dc; omega⟩;have o2:(Cw (B5 l (-(Dc l)))&&Ci (wj (B5 l (-(Dc l)))<=64))=wc:=Bi.2 ⟨FO hS.1.2 (by rw[IG]; omega),Bv.2 (by rw[IG]; omega)⟩;have sp:Eg (Cb (B5 l (-(Dc l)))) (-44:Int)=wc:=Bi.2 ⟨JF _,Bv.2 (by decide)⟩
  have big:Ct.BW.C5 8 (R:Int) (C:Int) l (Dc l)=(bif ((Dt R C l).2.2 !=(0:Int)) then wM (.CJ [.agg [.int .i64 (0:Int),.int .i64 (0:Int),.nil],.agg [.int .i64 (0:Int),.int .i64 (0:Int),.nil],.nil,.int .i64 ((Dt R C l).2.2)])
   else Ct.BW.C11 8 (R:Int) (C:Int) l (Dc l) (C:Int) (C:Int) (Dt R C l).2.1 (Dt R C l).1):=by
   have rr:=D7 r6 c6 hS.1.1;have re:=D7 c6 c6 hS.2.1;rw[Ct.BW.Ag4];rw[show Bh ((0:Int)-Dc l)=-(Dc l) from ks,o1,c1,Ah,Aa,o2,Aa,Wt c6,Ct.BW.Ag3,sp,Aa];simp only[Ad];rw[rr,re,hS.1.2,hS.2.2,FD (JF _),Bv.2 (show True/\True from⟨trivial,trivial⟩),Ah,Ah,Ah,Aa];rfl
  have pre:Cz Ct.BW.E 8 Tryz.f64 (Bw Tryz.f64) [.agg [.int .i64 (R:Int),.int .i64 (C:Int),.Bj .arg .u64 l]]=Ct.BW.C5 8 (R:Int) (C:Int) l (Dc l):=by rw[Ct.BW.ev,al,Aa,hc,show((0:Int) !=0)=wh from rfl,Af,o1,Aa,QP,Aa];rfl
  rcases U7 (R:=R) (n:=C) (low:=BV (Cb (B5 l (-(Dc l)))) (-44)) 60 (B5 l (-(Dc l))) (Fi C) with he | he
  ·have he:(Dt R C l).2.2=0:=he;have hi:Hu R C ((Dt R C l).1,(Dt R C l).2.1,wc):=Hu.DC 60 hS;have c20:=AgF r6 c6 hl al 8 hc he
   have chain:Cz Ct.BW.E 8 Tryz.f64 (Bw Tryz.f64) [.agg [.int .i64 (R:Int),.int .i64 (C:Int),.Bj .arg .u64 l]]=Ct.BW.C20 8 (R:Int) (C:Int) (Dc l) (C:Int) (C:Int) (Dt R C l).2.1 (Dt R C l).1 (JD C):=by rw[pre,big,he,show((0:Int) !=0)=wh from rfl,Af,Ct.BW.Aaw,D7 r6 c6 hi.1.1,hi.1.2,Ah,Aa];exact(YH c6 hl 8 (Dc l) (C:Int) (C:Int) (Dt R C l).2.1 (Dt R C l).1 C 0 8 (by omega) (by omega)).trans (AgG r6 c6 hl al 8)
   rcases c20 with ⟨h1,h2⟩ | ⟨h1,h2⟩
   ·exact⟨8,_,[],chain.trans h1,by show Wk _ _ (Ct.BW.out [.i (R:Int),.i (C:Int),.l l]); rw[AgE h2]; exact Wk.FQ (.cons (Wk.GA (.cons .int (.cons .int (.cons .WC .nil)))) (.cons Ad0 (.cons .IP (.cons .int .nil))))⟩
   ·exact⟨8,_,[],chain.trans h1,by show Wk _ _ (Ct.BW.out [.i (R:Int),.i (C:Int),.l l]); rw[YI h2 (by decide)]; exact YC⟩
  ·have he:(Dt R C l).2.2=6:=he
   have hE:G7 (R:Int) (C:Int) l=6:=by unfold G7;rw[Ay (by rw[hc]; decide),Ad,Ad,Az (by rw[he]; decide)]
   refine⟨8,_,[],(pre.trans big).trans ?_,by show Wk _ _ (Ct.BW.out [.i (R:Int),.i (C:Int),.l l]); rw[YI hE (by decide)]; exact YC⟩;rw[he]; rfl
 ·have hE:G7 r c l=BT r c l:=by unfold G7; rw[Az hc]
  refine⟨8,_,[],?_,by show Wk _ _ (Ct.BW.out [.i r,.i c,.l l]); rw[YI hE hc]; exact YC⟩;rw[Ct.BW.ev,al,Aa,show((BT r c l) !=(0:Int))=wc from by simpa using hc,Aa]
theorem YT{R P C:Nat}{l m:Bf}(hl:l.length=R*C)(hm:m.length=P*C):
 (Dj (R+P) C fun(i k:Nat)=>IE (R:Int) (C:Int) l (C:Int) m (i:Int) (k:Int))=l++m:=by
 have h:(l++m).length=(R+P)*C:=by rw[A8,hl,hm,AM]
 conv=>rhs; rw[<- NW h]
 refine EN fun i k hi hk=>?_
 unfold IE;by_cases hlt:(i:Int)<(R:Int)
 ·have:=Fx (r:=R) (c:=C) (i:=i) (k:=k) (by omega) hk;rw[Az hlt,Mc,Mc,Al,Al,List.getElem?_append_left (by omega)]
 ·have es:(i:Int)-(R:Int)=((i-R:Nat):Int):=by omega
  have e2:i*C=R*C+(i-R)*C:=by rw[<- AM]; congr 1; omega
  rw[Ay hlt,es,Mc,Mc,Al,Al,AX (by omega),hl,e2];congr 2; omega
end Go.Proofs.S1
namespace Go.Cn
open Go.Den
structure Good(x:Int):Prop where
 word:Br x=wc
 k3:Bn x.toNat≠3
 k4:Bn x.toNat≠4
 ne:x.toNat≠2^63
theorem K7{x:Int}(h:Br x=wc):x.toNat<2^64:=by have:=Bv.1 h;omega
open Go.Den
theorem Rh:∀{l:Bf},Fg l≠wc->∃x∈l,BF x≠0
 | [],h=>absurd rfl h
 | x::l,h=>by
   by_cases k:BF x=0
   ·have:Fg l≠wc:=fun e=>h (by unfold Fg at e ⊢; rw[yV,e,Ac k]; rfl)
    obtain⟨y,hy,g⟩:=Rh this;exact⟨y,AN _ hy,g⟩
   ·exact⟨x,AY,k⟩
theorem Aj5{b:Nat}(h:b<Er):Bn b≠3/\Bn b≠4/\b%2^63=b:=by
 have hi:=Ex;have h3:b%2^63=b:=by omega
 have hr:=LC b;have hf:=Jm b;rcases HN b with ⟨p,_,_⟩ | ⟨p,_,_⟩ | ⟨_,p,q⟩
 ·exfalso; rw[p] at hr; omega
 ·exfalso; rw[p] at hr; omega
 ·exact⟨p,q,h3⟩
theorem PX:∀(l:Bf) (m:Nat),(∀z∈l,Du z=wc)->m<Er->Iz l m<Er
 | [],_,_,h=>h
 | z::l,m,hl,hm=>by have zk:=H8 (show GJ z.toNat=wc from hl z AY);rw[TB zk.1];refine PX l _ (fun w hw=>hl w (AN _ hw)) ?_;have hz:DP z.toNat<Er:=RW zk.2 zk.1;omega
theorem FI{l:Bf}(h:Dx l=wc):∀z∈l,Du z=wc:=zF.1 h
theorem Jb{x:Bf}(hf:Dx x=wc):Bn (BI x).toNat≠3/\Bn (BI x).toNat≠4/\DP (BI x).toNat=(BI x).toNat/\∀z∈x,DP z.toNat<=DP (BI x).toNat:=by
 have eb:(BI x).toNat=Iz x 0:=Ad _;have hl:=PX x 0 (FI hf) (by rw[Ex]; omega);obtain⟨h1,h2,h3⟩:=Aj5 hl;have hN:Iz x 0≠N2:=fun e=>by rw[e,Ex,Fc] at hl; omega
 rw[eb];refine⟨h1,h2,h3,fun z hz=>?_⟩;show _<=Iz x 0%2^63;rw[h3];rcases Aah x 0 with g | ⟨_,g⟩
 ·exact absurd g hN
 ·exact g z hz
theorem Mb{x:Bf}(hf:Dx x=wc)(h:∃z∈x,BF z≠0):∃z∈x,Bn z.toNat≠0/\(BI x).toNat=DP z.toNat:=by
 have eb:(BI x).toNat=Iz x 0:=Ad _;have hl:=PX x 0 (FI hf) (by rw[Ex]; omega);rcases Agk h with e | ⟨z,hz,_,k0,e⟩
 ·exfalso; rw[e,Ex,Fc] at hl; omega
 ·exact⟨z,hz,k0,eb.trans e⟩
theorem Bl.FJ{k:Nat}{l:Bf}(h:Bl k l):Dx l=wc:=zF.2 fun x hx=>(h x hx).fin
theorem L4{x:Int}(h:Du x=wc):Bn x.toNat≠3/\Bn x.toNat≠4:=⟨(H8 (show GJ x.toNat=wc from h)).2,(H8 (show GJ x.toNat=wc from h)).1⟩
theorem Co(x n:Int):(BV x n).toNat=(Cj x.toNat n).1:=Ad _
theorem GP{x:Bf}(hf:Dx x=wc):Bl 1 (B5 x (-BO (BI x))):=fun y hy=>by obtain⟨z,hz,rfl⟩:=zh.1 hy;obtain⟨b3,b4,_,hb⟩:=Jb hf;have zk:=L4 (FI hf z hz);rw[Co];exact Bd.down zk.1 zk.2 b3 b4 (hb z hz)
theorem NA{x:Bf}(hf:Dx x=wc)(h:∃z∈x,BF z≠0):∃y∈B5 x (-BO (BI x)),pw 0<=y.toNat%2^63:=by
 obtain⟨z,hz,k0,e⟩:=Mb hf h;have zk:=L4 (FI hf z hz);refine⟨BV z (-BO (BI x)),zh.2 ⟨z,hz,rfl⟩,?_⟩;have ee:BO (BI x)=Em z.toNat:=by unfold BO; rw[e,LU z.toNat]; rfl
 rw[Co,ee];exact OD zk.1 zk.2 k0
theorem Qp{k:Int}(hk:k<=0):∀(l:Bf) (s t:Nat),Bl 1 l->Bm t 2 s->0<t->t+l.length<=1000->Bm (t+l.length) 2 (F8 k (s:Int) l).toNat
 | [],s,t,_,hs,_,_=>by show Bm t 2 (wi (s:Int));rw[Ad]; exact hs
 | x::l,s,t,hl,hs,h0,ht=>by simp only[zj] at ht ⊢;have h1:Bd 1 (Cj x.toNat k).1:=Bd.scale (by decide) (hl x AY) (by omega);have h2:Bd 2 (Ee (Cj x.toNat k).1 (Cj x.toNat k).1).1:=Bd.mul (j:=1) (k:=1) (by decide) h1 h1;have h3:=Bm.add (k:=2) (by omega) (by omega) (by decide) hs h2.bm;have:=Qp hk l _ (t+1) (fun z hz=>hl z (AN _ hz)) h3 (by omega) (by omega);rw[show t+(l.length+1)=t+1+l.length by omega];unfold F8 DD Cx;rw[Co,Ad,Ad];exact this
theorem AaW{y:Bf}(hy:Bl 1 y)(hl:y.length<=7)(h:∃z∈y,pw 0<=z.toNat%2^63):Bd 4 (Cb y).toNat/\TN (Cb y).toNat:=by
 have hf:=hy.FJ
 have h0:∃z∈y,BF z≠0:=by obtain⟨z,hz,g⟩:=h;refine⟨z,hz,fun k=>?_⟩;have:=Fz (b:=z.toNat) (by unfold BF at k; omega);rw[Ry] at g; omega
 obtain⟨b3,b4,ba,hb⟩:=Jb hf
 have hB:pw 0<=DP (BI y).toNat:=by obtain⟨z,hz,g⟩:=h;exact AP g (hb z hz)
 obtain⟨w,hw,w0,we⟩:=Mb hf h0;have wk:=L4 (FI hf w hw);have ee:BO (BI y)=Em w.toNat:=by unfold BO; rw[we,LU w.toNat]; rfl
 obtain⟨x1,_⟩:=KM wk.1 wk.2 w0;have wm:Bx w.toNat≠0:=fun e=>w0 ((CZ wk.1 wk.2).1 e)
 have u1:=(hy w hw).log wm
 have u2:=(Lo.OL (a:=w.toNat) wk.1 wk.2 (by rw[we] at hB;show pw 0<=DP w.toNat;unfold DP at hB ⊢; omega)).log
 have e0:0<=Em w.toNat/\Em w.toNat<=1:=by omega
 unfold Cb
 rw[Ay (fun k=>by
  rcases k with k | k
  ·rw[k] at hB; rw[Ry] at hB; revert hB; decide
  ·unfold Du at k; rw[IL] at k; simp[b3,b4] at k)]
 rw[ee];obtain⟨t,te,t1,t2⟩:=MG (-Em w.toNat) y 0 (zl _);have tb:=t2 (.inr ⟨w,hw,by rw[Co]; exact OD wk.1 wk.2 w0⟩);have te:F8 (-Em w.toNat) 0 y=t:=te;have bm:=Qp (k:=-Em w.toNat) (by omega) y 0 1 hy (Bd.zero wh 2).bm (by decide) (by omega);have bm:Bm (1+y.length) 2 (F8 (-Em w.toNat) 0 y).toNat:=bm;rw[te,Ad] at bm;rw[te];have bt:Bd (3+3) t:=(bm.bd (j:=3) (by omega)).mono (by decide);have br:Bd 3 (Ek t).1:=Bd.root (by decide) bt (EF tb.2);have rb:=SD tb;rw[Co];unfold DG;rw[Ad,Ad];refine⟨Bd.scale (by decide) br (by omega),?_⟩
 have k0:Bn (Ek t).1≠0:=fun e=>by have:=Fz e;have h1:=rb.1; have h2:=rb.2;rw[Fc] at h2; rw[Ry] at h1; omega
 rw[G4 br.2.1 (by have:=br.1; omega),EF rb.2,F2];have hm:(Ek t).1%2^63=(Ek t).1:=by have:=rb.2; rw[Fc] at this; omega
 obtain⟨p1,p2⟩:=L7 (z:=(Ek t).1) (by rw[hm]; exact rb.1);exact⟨Jg (a:=52) p1 (by omega),IZ _ _⟩
theorem XD{x:Bf}(hf:Dx x=wc)(hl:x.length<=7)(h:∃z∈x,BF z≠0):Bd 4 (KU x).toNat/\Lo 0 (KU x).toNat/\pw 0<=DP (KU x).toNat/\Ce (DR (KU x).toNat)=DN (KJ x):=by
 obtain⟨n1,n2⟩:=AaW (GP hf) (by unfold B5; rw[AO]; exact hl) (NA hf h);have nl:(Cb (B5 x (-BO (BI x)))).toNat<2^63:=by have:=n2.2; rw[Fc] at this; omega
 have na:pw 0<=DP (Cb (B5 x (-BO (BI x)))).toNat:=by unfold DP; rw[Ao nl]; exact n2.1
 unfold KU;split
 ·rename_i hn;refine⟨n1,.OL n1.1 n1.2.1 na,na,?_⟩;rw[(HZ (by omega)).1,EF n2.2,hn]; rfl
 ·rename_i hn;have eq:(Cy (Cb (B5 x (-BO (BI x))))).toNat=DR (Cb (B5 x (-BO (BI x)))).toNat:=Ad _;rw[eq];have hb:=MZ (by omega) n1
  have ha:pw 0<=DP (DR (Cb (B5 x (-BO (BI x)))).toNat):=by unfold DP at na ⊢; rw[OO nl]; omega
  refine⟨hb,.OL hb.1 hb.2.1 ha,ha,?_⟩;rw[(HZ (Z6 (by omega))).1,(HZ (by omega)).1,EF n2.2];cases hh:DN (KJ x)
  ·rfl
  ·exact absurd hh hn
theorem Aio{a b:Nat}(a3:Bn a≠3)(a4:Bn a≠4)(b3:Bn b≠3)(b4:Bn b≠4)(hs:Ce a=Ce b\/Bx a=0)(h:pw 0<=DP b):pw 0<=DP (DS a b).1:=by
 have pa:=CH a;have pb:=CH b;have ek:=Sf a3 a4 b3 b4 (g:=-1074) (by omega)
 have hS:EE b (-1074)<=(E3 a (-1074)+E3 b (-1074)).natAbs:=by
  unfold EE E3;rcases hs with hs | hs
  ·rw[hs]; unfold Gx; split<;>omega
  ·rw[hs,zK]; unfold Gx; split<;>split<;>omega
 have hr:=Fv (E:=-1074) hS;rw[Ji b4 (by omega)] at hr;have hn:(Gt (DS a b).1).natAbs=DP (DS a b).1:=by unfold Gt; rw[RL]; rfl
 rw[<- hn,ek];unfold DP at h;unfold TV;split<;>omega
theorem U3{a:Nat}{n:Int}(k4:Bn a≠4):Ce (Cj a n).1=Ce a:=by
 by_cases k:Bn a=3\/Bn a=0
 ·unfold Cj; rw[Ay k4,Az k]
 ·rw[G4 k4 k];exact sign_neg _ (IX _ _)
theorem XU{x:Bf}(hf:Dx x=wc)(ax:Bq x=wc)(hl:x.length<=7)(h:∃z∈x,BF z≠0):Lo 0 (DW (Es x) (KU x)).toNat/\Bd 5 (DW (KU x) (Es x)).toNat:=by
 obtain⟨m1,m2,m3,m4⟩:=XD hf hl h;have lm:=K7 (Afb x);have mb:=MZ lm m1;cases x with
 | nil=>obtain⟨z,hz,_⟩:=h; cases hz
 | cons a x =>
   have ak:=L4 (FI hf a AY);have b1:Bd 1 (Es (a::x)).toNat:=GP hf _ (zh.2 ⟨a,AY,rfl⟩);have e1:(Es (a::x)).toNat=(Cj a.toNat (-BO (BI (a::x)))).1:=Co _ _;have s1:(DW (Es (a::x)) (KU (a::x))).toNat=(DS (Es (a::x)).toNat (DR (KU (a::x)).toNat)).1:=Ad _;have s2:(DW (KU (a::x)) (Es (a::x))).toNat=(Ql (KU (a::x)).toNat (Es (a::x)).toNat).1:=Ad _
   have am:pw 0<=DP (DR (KU (a::x)).toNat):=by
    have e:DP (DR (KU (a::x)).toNat)=DP (KU (a::x)).toNat:=by unfold DP DR; split<;>omega
    rw[e]; exact m3
   have hsg:Ce (Es (a::x)).toNat=Ce (DR (KU (a::x)).toNat)\/Bx (Es (a::x)).toNat=0:=by
    by_cases k0:BF a=0
    ·refine .inr ?_;rw[e1];have k0':Bn a.toNat=0:=by unfold BF at k0; omega
     unfold Cj;rw[Ay ak.2,Az (.inr k0')];exact(CZ ak.1 ak.2).2 k0'
    ·refine .inl ?_;rw[m4,e1,U3 ak.2];unfold KJ;rw[Ay k0];rfl
   have hfar:=Aio b1.1 b1.2.1 mb.1 mb.2.1 hsg am;have hbd:=Bd.add (k:=4) (by decide) (b1.mono (by decide)) mb;rw[s1,s2];have f64:(Es (a::x)).toNat<2^64:=K7 (FD (Jp ax 0));exact⟨.OL hbd.1 hbd.2.1 hfar,Bd.sub (k:=4) (by decide) f64 m1 (b1.mono (by decide))⟩
theorem R6(k:Nat):Bd k (wi 0):=Bd.zero wh k
theorem AeI(k:Nat):Bd k SM.toNat:=by refine .mono (j:=0) ?_ (zl _);refine .JE (by decide) (by decide +kernel) ?_;rw[Ry]; decide
theorem Ae0{k n:Nat}{f:Nat->Int}(h:∀j,Bd k (f j).toNat):Bl k (G8 n f):=Aid (AeI k) (Aaf fun j=>h _)
theorem KN(a b:Int):(EV a b).toNat=(K5 a.toNat b.toNat).1:=Ad _
theorem EZ(a b:Int):(Cx a b).toNat=(Ee a.toNat b.toNat).1:=Ad _
theorem RE(a b:Int):(DW a b).toNat=(Ql a.toNat b.toNat).1:=Ad _
theorem QJ{x:Bf}(h:Fg (x.drop 1)≠wc):∃z∈x,BF z≠0:=by obtain⟨z,hz,g⟩:=Rh h;exact⟨z,yr hz,g⟩
theorem AfK{k:Nat}{x:Bf}(hx:Bl k x)(h:∃z∈x,BF z≠0):BO (BI x)<=k:=by
 obtain⟨z,hz,k0,e⟩:=Mb hx.FJ h;have ee:BO (BI x)=Em z.toNat:=by unfold BO; rw[e,LU z.toNat]; rfl
 have b:=hx z hz;rw[ee,(KM b.1 b.2.1 k0).1];exact b.log fun e=>k0 ((CZ b.1 b.2.1).1 e)
theorem Aba{k:Nat}{x:Bf}(hk:k+4<=1000)(hx:Bl k x)(ax:Bq x=wc)(hl:x.length<=7)(he:(Cm x).2.2.2=0):Bl 1 (Cm x).1/\Bd 5 (Cm x).2.1.toNat/\Bd (k+4) (Cm x).2.2.1.toNat:=by
 unfold Cm at he ⊢;by_cases h1:x.length=0\/64<x.length
 ·rw[Az h1] at he; exact absurd he (by decide)
 rw[Ay h1] at he ⊢;have hf:=hx.FJ;rw[Az hf] at he ⊢;unfold Z0 at he ⊢;by_cases h3:Fg (x.drop 1)=wc
 ·rw[Az h3];dsimp only;exact⟨Ae0 fun _=>R6 1,R6 5,(OZ hx 0).mono (by omega)⟩
 ·rw[Ay h3] at he ⊢;by_cases h4:Du (FC x)=wc
  ·rw[Az h4];dsimp only;have hs:=QJ h3;obtain⟨m1,m2,m3,m4⟩:=XD hf hl hs;obtain⟨f1,f2⟩:=XU hf ax hl hs;have sb:=GP hf;refine⟨Ae0 fun j=>?_,?_,?_⟩
   ·rw[KN];refine Bd.div (j:=1) (t:=0) (by decide) ?_ f1;by_cases hj:j<x.length
    ·refine sb _ (zh.2 ⟨x.getD j 0,?_,rfl⟩);rw[Al,As hj]; exact z6 hj
    ·rw[Al,Bb (by omega)];rw[Co]
     have e:∀n:Int,(Cj (wi 0) n).1=0:=fun n=>by unfold Cj;rw[Ay (by decide),Az (.inr (by decide))]; rfl
     show Bd 1 (Cj (wi 0) _).1;rw[e]; exact Bd.zero wh 1
   ·unfold SX;rw[KN];exact Bd.div (j:=5) (t:=0) (by decide) f2 m2
   ·unfold FC;rw[Co];exact Bd.scale (by omega) m1 (by have:=AfK hx hs; omega)
  ·rw[Ay h4] at he; exact absurd he (by decide)
theorem Rr{k:Nat}{c i j:Int}{l:Bf}(h:Bl k l):Bd k (Dy c l i j).toNat:=OZ h _
theorem S8{k:Nat}{c b i:Int}{n:Nat}{l:Bf}(h:Bl k l):Bl k (BQ c l b i n):=Aaf fun _=>Rr h
theorem Adn{k:Nat}{c i j t a b:Int}{l v:Bf}(hk:k+11<=1000)(h:Bl k l)(hv:Bl 1 v)(hl:v.length<=7)(ht:Bd 5 t.toNat):Bd (k+11) (Gv c l i j v t a b).toNat:=by
 unfold Gv;split
 ·rw[RE];refine Bd.sub (k:=k+10) (by omega) (K7 (Fo _ _)) ((Rr h).mono (by omega)) ?_;rw[EZ]
  have h1:Bd (k+9) (IU c l i v t b).toNat:=by unfold IU;rw[EZ];have:=LV (j:=1) (k:=k) (by omega) hv (S8 (c:=c) (b:=b) (i:=i) (n:=v.length) h) hl;exact(Bd.mul (by omega) ht this).mono (by omega)
  exact Bd.mul (j:=k+9) (k:=1) (by omega) h1 (OZ hv _)
 ·exact(Rr h).mono (by omega)
theorem Vl{k:Nat}{r c:Nat}{i j t:Int}{l v:Bf}(hk:k+11<=1000)(h:Bl k l)(hv:Bl 1 v)(hl:v.length<=7)(ht:Bd 5 t.toNat):Bl (k+11) (F5 r c l i j v t):=W6 fun _ _=>Adn hk h hv hl ht
theorem Wb{k:Nat}{r c j:Nat}{l:Bf}(hk:k+11<=1000)(h:Bl k l)(al:Bq l=wc)(hr:r<=7)(he:(Cm (D5 r c l j)).2.2.2=0):Bl (k+11) (Mu r c l j)/\Bl 1 (Cm (D5 r c l j)).1/\Bd 5 (Cm (D5 r c l j)).2.1.toNat/\(Cm (D5 r c l j)).1.length<=7:=by
 have hlen:(D5 r c l j).length<=7:=by unfold D5; rw[Dv]; omega
 obtain⟨m1,m2,m3⟩:=Aba (by omega) (show Bl k (D5 r c l j) from S8 h) (HJ al) hlen he;have ml:=Lu he;refine⟨?_,m1,m2,by omega⟩;unfold Mu Ns;refine W6 fun a b=>?_
 split
 ·split
  ·exact m3.mono (by omega)
  ·exact R6 _
 ·exact Rr (Vl hk h m1 (by omega) m2)
def MB(ms:List (Bf × Int)):Prop:=∀m∈ms,Bl 1 m.1/\Bd 5 m.2.toNat/\m.1.length<=7
theorem T1{r c:Nat}(hr:r<=7):∀(n j k:Nat) (l:Bf) (x:Bf × List (Bf × Int)),Bl k l->Bq l=wc->k+11*n<=1000->Ix r c n j l=wM x->Bl (k+11*n) x.1/\MB x.2/\x.2.length=n
 | 0,j,k,l,x,hl,_,_,h=>by cases h;exact⟨hl,(fun m hm=>by cases hm),rfl⟩
 | n+1,j,k,l,x,hl,al,hk,h=>by
   unfold Ix at h;by_cases h1:(Cm (D5 r c l j)).2.2.2=0
   ·rw[Az h1,Option.map_eq_some_iff] at h;obtain⟨y,hy,rfl⟩:=h;obtain⟨b1,b2,b3,b4⟩:=Wb (by omega) hl al hr h1;obtain⟨a1,a2,a3⟩:=T1 hr n (j+1) (k+11) _ y b1 (NO al j) (by omega) hy;refine⟨a1.mono (by omega),fun m hm=>?_,by rw[zj,a3]⟩;rcases zB.1 hm with rfl | hm
    ·exact⟨b2,b3,b4⟩
    ·exact a2 m hm
   ·rw[Ay h1] at h; cases h
theorem TD{n:Nat}:∀(ms:List (Bf × Int)) (j k:Nat) (q:Bf),MB ms->Bl k q->k+11*ms.length<=1000->Bl (k+11*ms.length) (Ie n j ms q)
 | [],_,_,_,_,h,_=>h
 | m::ms,j,k,q,hm,h,hk=>by simp only[zj] at hk ⊢;obtain⟨m1,m2,m3⟩:=hm m AY;have ih:=TD (n:=n) ms (j+1) k q (fun w hw=>hm w (AN _ hw)) h (by omega);unfold Ie;exact(Vl (by omega) ih m1 m3 m2).mono (by omega)
theorem Abm(n:Nat):Bl 0 (Fi n):=W6 fun i k=>by
 unfold LS;split
 ·exact AeI 0
 ·exact R6 0
end Go.Cn
end
