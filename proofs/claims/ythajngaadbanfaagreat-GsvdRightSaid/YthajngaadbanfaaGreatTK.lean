/- A verified evaluator of the program's form and its use for this seat: S1PApply, S1EqSol, S1PTri, S1EqFew, S1PSol, S1EqQr, S1PQr, S1PQrA, S1EqRef17, S1PRef17, S1EqRef14, S1PRef13, S1PRef14, S1EqGiv, S1EqRef12, SvdL, S1PGiv, S1EqSort, S1PSort, S1EqSvd, S1PSvd, S1PSvdA, S1POfS, S1EqRef20, S1PSubSt, S1EqRef19, TileL. -/
import Derived.Test.YthajngaadbanfaaGreatTJ
import Derived.Test.YthajngaadbanfaaGreatTE
import Derived.Test.YthajngaadbanfaaGreatTF
import Derived.Test.YthajngaadbanfaaGreatTI
set_option linter.unusedVariables false
set_option linter.unusedSimpArgs false
open Option renaming some->xQ,none->xY
open Bool renaming true->xZ,false->x5
open Int renaming toNat->wQ
open List renaming length->wj,getD->wt
open List renaming set->zv,take->zL,nil_append->zX,mem_singleton->ze,drop_eq_getElem_cons->xA,replicate->zp,length_cons->zj,mem_cons->zF,all_eq_true->zB,getElem_mem->zU,set_cons_succ->wC,append_nil->yA,mem_map->zh,length_reverse->wa,length_set->yN,mem_append->zA,take_of_length_le->yD,length_take->zM,take_succ_eq_append_getElem->xh,range_succ->y6,map_append->yi
open Int renaming natCast_add->zt,le_refl->yI
open Bool renaming and_eq_false_iff->xF
open Nat renaming lt_succ_self->wJ
open Eq renaming trans->yS
noncomputable section
open Go.Proofs.Tryz
namespace Go.Proofs.S1
open Go Go.Den Go.Ck Go.Proofs
def apD(i k c j a b:Nat):Bool:=decide (k<=b/\i<=a/\(b<c\/(b=c/\a<i+j)))
def apS(R C:Nat)(l:Bf)(i k:Nat)(v:Bf)(t:Int)(c j:Nat):Bf :=BZ R C fun a b=>if apD i k c j a b=xZ/\a<i+v.length then Gp (C:Int) l (i:Int) (k:Int) v t (a:Int) (b:Int) else CE (C:Int) l (a:Int) (b:Int)
section
variable{R C i k:Nat}{l v:Bf}{t:Int}
theorem Ajl(c j:Nat):(apS R C l i k v t c j).length=R*C:=BW _ _ _
theorem Ahn(h:l.length=R*C):apS R C l i k v t k 0=l:=by
 unfold apS
 conv=>rhs; rw[<- Oz h]
 refine Eo fun a b ha hb=>?_
 rw[Ay]
 rintro ⟨h,_⟩
 have:=A6 h;omega
theorem Aho(c:Nat):apS R C l i k v t c v.length=apS R C l i k v t (c+1) 0:=by
 unfold apS;refine Eo fun a b ha hb=>?_
 have:(apD i k c v.length a b=xZ/\a<i+v.length)↔(apD i k (c+1) 0 a b=xZ/\a<i+v.length):=by unfold apD;rw[Ai,Ai];omega
 by_cases h:apD i k c v.length a b=xZ/\a<i+v.length
 ·rw[Az h,Az (this.1 h)]
 ·rw[Ay h,Ay (fun hh=>h (this.2 hh))]
theorem Ajm:apS R C l i k v t C 0=Fc R C l (i:Int) (k:Int) v t:=by
 unfold apS Fc;refine Eo fun a b ha hb=>?_
 by_cases h:apD i k C 0 a b=xZ/\a<i+v.length
 ·rw[Az h]
 ·rw[Ay h];unfold Gp;rw[Ay];intro hh;refine h ⟨?_,by omega⟩;unfold apD;rw[Ai]; omega
theorem Ajk{c j:Nat}(hc:c<C)(hk:k<=c)(hj:j<v.length){x:Int}(hx:x=Gp (C:Int) l (i:Int) (k:Int) v t ((i+j:Nat):Int) (c:Int)):
 zv (apS R C l i k v t c j) ((i+j)*C+c) x=apS R C l i k v t c (j+1):=by
 unfold apS;rw[LV hc];refine Eo fun a b ha hb=>?_
 by_cases h:a=i+j/\b=c
 ·obtain⟨rfl,rfl⟩:=h;rw[Az ⟨rfl,rfl⟩,Az ⟨by unfold apD; rw[Ai]; omega,by omega⟩,hx]
 ·rw[Ay h]
  have:(apD i k c j a b=xZ/\a<i+v.length)↔(apD i k c (j+1) a b=xZ/\a<i+v.length):=by unfold apD;rw[Ai,Ai];omega
  by_cases h2:apD i k c j a b=xZ/\a<i+v.length
  ·rw[Az h2,Az (this.1 h2)]
  ·rw[Ay h2,Ay (fun hh=>h2 (this.2 hh))]
theorem Ahm{c j:Nat}(hk:k<=c)(hj:j<v.length):Gp (C:Int) l (i:Int) (k:Int) v t ((i+j:Nat):Int) (c:Int)=
 Ej ((Dm (C:Int) l (c:Int) (i:Int) v.length).getD j 0) (C0 (Ip (C:Int) l (i:Int) v t (c:Int)) (v.getD j 0)):=by
 unfold Gp;rw[Az ⟨by omega,by omega,by omega⟩];have e1:(((i+j:Nat):Int)-(i:Int)).toNat=j:=by omega
 have e2:(Dm (C:Int) l (c:Int) (i:Int) v.length).getD j 0=CE (C:Int) l ((i+j:Nat):Int) (c:Int):=by unfold Dm;rw[Al,Ba,List.getElem?_range hj];show CE (C:Int) l ((i:Int)+(j:Int)) (c:Int)=_;rw[<- zt]
 rw[e1,e2]
theorem Afo{c b i:Int}{l:Bf}{m n:Nat}(h:m<=n):zL m (Dm c l b i n)=Dm c l b i m:=by unfold Dm;rw[<- List.map_take,List.take_range,Nat.min_eq_left h]
theorem Abm(N M0:Nat)(r6:R<=6)(c6:C<=6)(al:Bp l=xZ)(av:Bp v=xZ)(hv:i+v.length<=R){c:Nat}(hc:c<C)(hk:k<=c):∀(cnt j F:Nat),j+cnt=v.length->cnt<F ->
 BC.Apply.L1 N M0 F (R:Int) (C:Int) l (i:Int) v t (j:Int) (apS R C l i k v t c j) (c:Int) (Ip (C:Int) l (i:Int) v t (c:Int)) (Dm (C:Int) l (c:Int) (i:Int) v.length) (v.length:Int)=
 BC.Apply.L0 N M0 (R:Int) (C:Int) l (i:Int) v t ((c+1:Nat):Int) (apS R C l i k v t (c+1) 0):=by
 intro cnt
 induction cnt with
 | zero =>
   intro j F hj hF;obtain⟨F,rfl⟩:∃G,F=G+1:=⟨F-1,by omega⟩
   obtain rfl:j=v.length:=by omega
   rw[BC.Apply.CT,B9,Ag (by omega),Af,Bz (by omega) (by omega),Aho];rfl
 | succ cnt ih =>
   intro j F hj hF;obtain⟨F,rfl⟩:∃G,F=G+1:=⟨F-1,by omega⟩
   have hm:=Kl (a:=((i+j:Nat):Int)) (b:=(C:Int)) (by omega) (by omega) (by omega) (by omega);have hpl:=Dw (show i+j<R by omega) hc;have e1:Bg ((i:Int)+(j:Int))=((i+j:Nat):Int):=by rw[Bz (by omega) (by omega)]; omega
   have e2:Bg (((i+j:Nat):Int)*(C:Int))=(((i+j)*C:Nat):Int):=by rw[Bz (by omega) (by omega)]; exact(Ax _ _).symm
   have h36:=AE r6 c6;have e3:Bg ((((i+j)*C:Nat):Int)+(c:Int))=(((i+j)*C+c:Nat):Int):=by rw[Bz (by omega) (by omega)]; omega
   have hlen:=Ajl (R:=R) (C:=C) (l:=l) (i:=i) (k:=k) (v:=v) (t:=t) c j;have sl:=Jh (C:Int) (c:Int) (i:Int) v.length l;rw[BC.Apply.CT,B9,Ac (show(j:Int)<(v.length:Int) by omega),Aa,e1,e2,e3,sl,Ac (show(0:Int)<=(j:Int) by omega),Ac (show(j:Int)<(v.length:Int) by omega),Ah,Aa,Ad,Ad];have a1:=JD av j;have a2:=JD (Ji (c:=(C:Int)) (b:=(c:Int)) (i:=(i:Int)) (n:=v.length) al) j;have a3:Br (Ip (C:Int) l (i:Int) v t (c:Int))=xZ:=F8 _ _
   rw[Aa,a3,a1,Ah,Aa,a2,F8,Ah,Aa,Ac (by omega),Ac (by omega),Ah,Aa,Ac (by omega),Aa,
    Ajk hc hk (by omega) (Ahm hk (by omega)).symm,Bz (by omega) (by omega)]
   exact ih (j+1) F (by omega) (by omega)
theorem Abn(N:Nat)(r6:R<=6)(c6:C<=6)(hN:7<N)(hr:BA (R:Int) (C:Int) l=xZ)(al:Bp l=xZ)(av:Bp v=xZ)(ht:Br t=xZ)(hv:i+v.length<=R):∀(cnt c F:Nat),c+cnt=C->k<=c->cnt<F ->
 BC.Apply.L0 N F (R:Int) (C:Int) l (i:Int) v t (c:Int) (apS R C l i k v t c 0)=
 xQ (.CR [.agg [.int .i64 (R:Int),.int .i64 (C:Int),.Bj (.own 114002 tB) .u64 (Fc R C l (i:Int) (k:Int) v t)],.int .i64 (0:Int)]):=by
 intro cnt
 induction cnt with
 | zero =>
   intro c F hc hk hF;obtain⟨F,rfl⟩:∃G,F=G+1:=⟨F-1,by omega⟩
   obtain rfl:c=C:=by omega
   rw[BC.Apply.B8,B9,Ag (by omega),Af,Ajm]
 | succ cnt ih =>
   intro c F hc hk hF;obtain⟨F,rfl⟩:∃G,F=G+1:=⟨F-1,by omega⟩
   have cp:Ht (R:Int) (C:Int) l (c:Int)=xZ:=Bi.2 ⟨hr,Bv.2 (by omega)⟩;have e0:wQ ((R:Int)-(i:Int))=R-i:=by omega
   have st:=Afo (c:=(C:Int)) (b:=(c:Int)) (i:=(i:Int)) (l:=l) (m:=v.length) (n:=R-i) (by omega);have sl:=Jh (C:Int) (c:Int) (i:Int) v.length l;have sl2:=Jh (C:Int) (c:Int) (i:Int) (R-i) l;have sa:=Ji (c:=(C:Int)) (b:=(c:Int)) (i:=(i:Int)) (n:=v.length) al;have ft:NI v (Dm (C:Int) l (c:Int) (i:Int) v.length)=xZ:=Xg.2 ⟨by omega,by omega⟩
   rw[BC.Apply.B8,B9,Ac (by omega),Aa,cp,Bv.2 (show 0<=(i:Int)/\(i:Int)<=(R:Int) by omega),Ah,Aa,e0,Ad,st,sl2,sl,
    Ac (show(0:Int)<=(v.length:Int) by omega),Ac (show(v.length:Int)<=(v.length:Int) by omega),Ac (show(v.length:Int)<=((R-i:Nat):Int) by omega),Ah,Ah,Aa,ft,av,sa,Ah,Ah,Aa,ht,Ie,Ah,Aa]
   have:=Abm (t:=t) N F r6 c6 al av hv (show c<C by omega) hk v.length 0 N (by omega) (by omega);exact this.trans (ih (c+1) F (by omega) (by omega) (by omega))
end
theorem BC.Apply.Bn:Kq 163 BC.Apply.Bt:=ED BC.Apply.E Tryz.func163 (kc Bh.Check.Bn (kc Bh.Ei.Bn (kc Bs.P8.Bn (kc Bs.Mul.Bn (kc Bs.Sub.Bn .nil))))) fun r c l i k v t hp=>by
 obtain⟨h1,ht⟩:=Bi.1 (show(((BA r c l&&MA r c i k v)&&(Bp l&&Bp v))&&Br t)=xZ from hp);obtain⟨h2,h3⟩:=Bi.1 h1;obtain⟨hr,hb⟩:=Bi.1 h2;obtain⟨al,av⟩:=Bi.1 h3;have hb:=A6 hb;have hc:IL r c l=0:=by unfold IL; rw[Az hr]
 have h36:=Iu hr;obtain⟨R,C,rfl,rfl,r6,c6,hl⟩:=D9 hr;obtain⟨i,rfl⟩:∃j:Nat,i=j:=⟨i.toNat,by omega⟩
 obtain⟨k,rfl⟩:∃j:Nat,k=j:=⟨k.toNat,by omega⟩
 refine⟨8,BC.Apply.out [.i (R:Int),.i (C:Int),.l l,.i (i:Int),.i (k:Int),.l v,.i t],[],?_,Wk.Gr (.cons (Wk.GQ (.cons .int (.cons .int (.cons (.Df _ _ _ _ List.not_mem_nil) .nil)))) (.cons .int .nil))⟩;show _=xQ (DV.CR [.agg [.int .i64 (R:Int),.int .i64 (C:Int),.Bj (.own 114002 tB) .u64 (Fc (wQ (R:Int)) (wQ (C:Int)) l (i:Int) (k:Int) v t)],.int .i64 0])
 have hlt:(((((BI (i:Int) (0:Int))||(BI (R:Int) (wj v:Int)))||(BI (Bg ((R:Int)-(wj v:Int))) (i:Int)))||(BI (k:Int) (0:Int)))||(BI (C:Int) (k:Int)))=x5:=by rw[B9,B9,B9,B9,B9,Bz (by omega) (by omega),Ag (by omega),Ag (by omega),Ag (by omega),Ag (by omega),Ag (by omega)]; rfl
 rw[BC.Apply.ev,hc,show((0:Int) !=(0:Int))=x5 from rfl,Af,hlt,Af,Ac (show 0+l.length<=G2 by unfold G2; omega),Aa,zX,Ad,Ad];have:=Abn (R:=R) (C:=C) (i:=i) (k:=k) (l:=l) (v:=v) (t:=t) 8 r6 c6 (by omega) hr al av ht (by omega) (C-k) k 8 (by omega) (by omega) (by omega);rw[Ahn hl] at this;exact this
open Go Go.Den Go.Ck Go.Proofs
set_option maxRecDepth 100000
section
variable{n Q:Nat}{l m:Bf}
end
theorem Zs{r c:Int}{l:Bf}(h:BU r c l=0):BA r c l=xZ/\DA l=xZ:=by
 unfold BU at h;by_cases h1:BA r c l=xZ
 ·rw[Az h1] at h;by_cases h2:DA l=xZ
  ·exact⟨h1,h2⟩
  ·rw[Ay h2] at h; exact absurd h (by decide)
 ·rw[Ay h1] at h; exact absurd h (by decide)
theorem M6{r c:Int}{l:Bf}(h1:BA r c l=xZ)(h2:DA l=xZ):BU r c l=0:=by unfold BU; rw[Az h1,Az h2]
theorem neI{x:Int}(h:x≠0):(x !=(0:Int))=xZ:=by simpa using h
theorem Na{x:Int}(h:x=0):(x !=(0:Int))=x5:=by rw[h]; rfl
theorem Afp{b:Nat}{n:Int}(h:b<2^64):(Cl b n).1<2^64:=by
 unfold Cl;by_cases h4:Bk b=4
 ·rw[Az h4]; exact(by decide:NW<2^64)
 rw[Ay h4];by_cases h3:Bk b=3\/Bk b=0
 ·rw[Az h3]; exact h
 rw[Ay h3];exact Nl _ _ _
theorem Gi{b n:Int}(h:Br b=xZ):Br (BX b n)=xZ:=by obtain⟨x,rfl,hx⟩:=C9 h;exact CP (Afp (by rw[Ad]; exact hx))
theorem Uu:∀(l:Bf) (m:Nat),m<2^64->IM l m<2^64
 | [],m,h=>h
 | x::l,m,h=>by
   unfold IM;split
   ·exact(by decide:NW<2^64)
   ·have h2:Ea x.toNat<2^63:=We x.toNat;exact Uu l _ (by omega)
theorem Rv(l:Bf):Br (BK l)=xZ:=CP (Uu l 0 (by decide))
theorem WX(x:Int):Br (KQ x)=xZ:=CP (Nat.lt_trans (We x.toNat) (by decide))
theorem Ie(x y:Bf):Br (Fk x y)=xZ:=CP (SI x y 0 (by decide))
def qr.down.hint:Nat->Option BN
 | 0=>xQ { Df:=[1,2,5,6,7],Cg:=[(0,6,100006,.Cu 161 2 []),(6,2,106002,.Bj 43 .u64 [])],Cr:=[1,2,5] }
 | 2=>xQ { Df:=[1,2,5,6,7,8,9,12],Cg:=[(6,2,106002,.Bj 43 .u64 []),(0,6,100006,.Cu 161 2 [])],Cr:=[1,2,5] }
 | _=>xY
def qr.down.E:=D6 (Db [(163,BC.Apply.Bt),(200,BC.Dj.Bt),(68,Bh.Ei.Bt)]) (fun n=>Nat.beq n 46) qr.down.hint (fun _=>xY)
section
variable(N M0 M:Nat)(r c:Int)(l:Bf)(p7:Int)(p6:List (List DV))(p2_2:Bf)(p12_1:Int)(p2_1:Bf)(p7_1:Int)(p8:Bf)(p9:Int)(p6_1:List (List DV))
def qr.down.L0:Option DV:=C6 qr.down.E N f162 (Bw f162) [1,1,1,0,1,0,0,1,0,0,1,1,1,1,0,1,0] [M0] M ⟨Fz 88 [(1,.ptr 1 0 0),(2,.ptr 2 0 0),(5,.ptr 5 0 0),(6,.Dh 100006),(7,.int .i64 p7_1),(8,.Bj .BE .u64 p8),(9,.int .u64 p9),(12,.int .i64 p12_1)],[(1,x5,.box [.int .i64 r,.int .i64 c,.Bj .arg .u64 l]),(2,x5,.box [.int .i64 0,.int .i64 0,.nil]),(5,x5,.box [.int .i64 r,.int .i64 c,.Dh 106002]),(106002,x5,.Bj 43 .u64 p2_1),(100006,x5,.Cu 161 2 p6_1)]⟩
def qr.down.L1:Option DV:=C6 qr.down.E N f162 (Bw f162) [1,1,1,0,1,0] [] M ⟨Fz 88 [(1,.ptr 1 0 0),(2,.ptr 2 0 0),(5,.ptr 5 0 0),(6,.Dh 100006),(7,.int .i64 p7)],[(1,x5,.box [.int .i64 r,.int .i64 c,.Bj .arg .u64 l]),(2,x5,.box [.int .i64 0,.int .i64 0,.nil]),(5,x5,.box [.int .i64 r,.int .i64 c,.Dh 106002]),(100006,x5,.Cu 161 2 p6),(106002,x5,.Bj 43 .u64 p2_2)]⟩
def qr.down.L2:Option DV:=C6 qr.down.E N f162 (Bw f162) [1,1,1,0,1,0] [] M ⟨Fz 88 [(1,.ptr 1 0 0),(2,.ptr 2 0 0),(5,.ptr 5 0 0),(6,.Dh 100006),(7,.int .i64 0)],[(1,x5,.box [.int .i64 r,.int .i64 c,.Bj .arg .u64 l]),(2,x5,.box [.int .i64 0,.int .i64 0,.nil]),(5,x5,.box [.int .i64 r,.int .i64 c,.Bj .arg .u64 l]),(100006,x5,.Cu 161 2 [])]⟩
theorem qr.down.B8:qr.down.L0 N M0 (M+1) r c l p12_1 p2_1 p7_1 p8 p9 p6_1=cond (BI p12_1 r) (bif ((decide (0<=(Bg ((Bg (p12_1*c))+p7_1))))&&(decide ((Bg ((Bg (p12_1*c))+p7_1))<(wj p2_1:Int)))) then cond (decide ((wQ (Bg ((Bg (p12_1*c))+p7_1)))<(wj p2_1))) (qr.down.L0 N M0 M r c l (Bg (p12_1+1)) (zv p2_1 (wQ (Bg ((Bg (p12_1*c))+p7_1))) 0) p7_1 p8 p9 p6_1) xY else xY) (bif (decide ((wj p6_1)+1<=RZ)) then qr.down.L1 N M0 r c l (Bg (p7_1+1)) (p6_1++[[.Bj .arg .u64 p8,.int .u64 p9]]) p2_1 else xY):=by kernel_rfl
theorem qr.down.CT:qr.down.L1 N (M+1) r c l p7 p6 p2_2=cond ((BI p7 c)&&(BI p7 (Bg (r-1)))) (bif (Ht r c p2_2 p7&&Ch (0<=p7/\p7<=r)) then cond (Cq (Dm c p2_2 p7 p7 (wQ (r-p7)))) (bif (((Ce (Dm c p2_2 p7 p7 (wQ (r-p7)))).2.2.2) !=(0:Int)) then xQ (.CR [.agg [.int .i64 0,.int .i64 0,.nil],.nil,.int .i64 2]) else bif (((BA r c p2_2&&MA r c p7 p7 ((Ce (Dm c p2_2 p7 p7 (wQ (r-p7)))).1))&&(Bp p2_2&&Bp ((Ce (Dm c p2_2 p7 p7 (wQ (r-p7)))).1)))&&Br ((Ce (Dm c p2_2 p7 p7 (wQ (r-p7)))).2.1)) then cond ((decide (0<=(Bg ((Bg (p7*c))+p7))))&&(decide ((Bg ((Bg (p7*c))+p7))<(wj (Fc (wQ r) (wQ c) p2_2 p7 p7 ((Ce (Dm c p2_2 p7 p7 (wQ (r-p7)))).1) ((Ce (Dm c p2_2 p7 p7 (wQ (r-p7)))).2.1)):Int)))) (bif (decide ((wQ (Bg ((Bg (p7*c))+p7)))<(wj (Fc (wQ r) (wQ c) p2_2 p7 p7 ((Ce (Dm c p2_2 p7 p7 (wQ (r-p7)))).1) ((Ce (Dm c p2_2 p7 p7 (wQ (r-p7)))).2.1))))) then qr.down.L0 N M N r c l (Bg (p7+1)) (zv (Fc (wQ r) (wQ c) p2_2 p7 p7 ((Ce (Dm c p2_2 p7 p7 (wQ (r-p7)))).1) ((Ce (Dm c p2_2 p7 p7 (wQ (r-p7)))).2.1)) (wQ (Bg ((Bg (p7*c))+p7))) ((Ce (Dm c p2_2 p7 p7 (wQ (r-p7)))).2.2.1)) p7 ((Ce (Dm c p2_2 p7 p7 (wQ (r-p7)))).1) ((Ce (Dm c p2_2 p7 p7 (wQ (r-p7)))).2.1) p6 else xY) xY else xY) xY else xY) (xQ (.CR [.agg [.int .i64 r,.int .i64 c,.Bj (.own 106002 43) .u64 p2_2],.Cu (.own 100006 161) 2 p6,.int .i64 0])) :=Et (B5 (MH (BI p7 c)) (B5 (MH (BI p7 c)) (B5 (JV (BI p7 c)) (B5 (JV (BI p7 c)) (B5 (AcJ (BI p7 c)) (B5 (QG (BI p7 c)) (CQ (tt1 _ _) rfl rfl)))))))
theorem qr.down.IT:qr.down.L2 N (M+1) r c l=cond ((BI 0 c)&&(BI 0 (Bg (r-1)))) (bif (Ht r c l 0&&Ch (0<=(0:Int)/\(0:Int)<=r)) then cond (Cq (Dm c l 0 0 (wQ (r-0)))) (bif (((Ce (Dm c l 0 0 (wQ (r-0)))).2.2.2) !=(0:Int)) then xQ (.CR [.agg [.int .i64 0,.int .i64 0,.nil],.nil,.int .i64 2]) else bif (((BA r c l&&MA r c 0 0 ((Ce (Dm c l 0 0 (wQ (r-0)))).1))&&(Bp l&&Bp ((Ce (Dm c l 0 0 (wQ (r-0)))).1)))&&Br ((Ce (Dm c l 0 0 (wQ (r-0)))).2.1)) then cond ((decide (0<=(Bg ((Bg ((0:Int)*c))+0))))&&(decide ((Bg ((Bg ((0:Int)*c))+0))<(wj (Fc (wQ r) (wQ c) l 0 0 ((Ce (Dm c l 0 0 (wQ (r-0)))).1) ((Ce (Dm c l 0 0 (wQ (r-0)))).2.1)):Int)))) (bif (decide ((wQ (Bg ((Bg ((0:Int)*c))+0)))<(wj (Fc (wQ r) (wQ c) l 0 0 ((Ce (Dm c l 0 0 (wQ (r-0)))).1) ((Ce (Dm c l 0 0 (wQ (r-0)))).2.1))))) then qr.down.L0 N M N r c l 1 (zv (Fc (wQ r) (wQ c) l 0 0 ((Ce (Dm c l 0 0 (wQ (r-0)))).1) ((Ce (Dm c l 0 0 (wQ (r-0)))).2.1)) (wQ (Bg ((Bg ((0:Int)*c))+0))) ((Ce (Dm c l 0 0 (wQ (r-0)))).2.2.1)) 0 ((Ce (Dm c l 0 0 (wQ (r-0)))).1) ((Ce (Dm c l 0 0 (wQ (r-0)))).2.1) [] else xY) xY else xY) xY else xY) (xQ (.CR [.agg [.int .i64 r,.int .i64 c,.Bj .arg .u64 l],.Cu (.own 100006 161) 2 [],.int .i64 0])) :=Et (B5 (MH (BI 0 c)) (B5 (MH (BI 0 c)) (B5 (JV (BI 0 c)) (B5 (JV (BI 0 c)) (B5 (AcJ (BI 0 c)) (B5 (QG (BI 0 c)) (CQ (tt1 _ _) rfl rfl)))))))
theorem qr.down.ev:Cz qr.down.E N f162 (Bw f162) [.agg [.int .i64 r,.int .i64 c,.Bj .arg .u64 l]]=
 qr.down.L2 N N r c l:=by kernel_rfl
end
def qr.DN.hint:Nat->Option BN
 | 0=>xQ { Df:=[2,3,5,6],Cg:=[],Cr:=[2,3] }
 | _=>xY
def qr.DN.GM:List (Nat × Ez):=[(69,DS.Check.Bt),(163,BC.Apply.Bt),(126,Bh.IV.Bt),(162,qr.down.Bt),(66,Bs.Finite.Bt)]
def qr.DN.E:Env:=Rn (Db qr.DN.GM) (fun _=>x5) qr.DN.hint (fun _=>xY) (Zz [(22,[.s .u64]),(43,[.i .u64])])
section
variable(N M:Nat)(r c:Int)(l:Bf)(p6:Int)(p2:Bf)
def qr.DN.L0:Option DV:=C6 qr.DN.E N f120 (Bw f120) [1,0,1,1,1,1,1,1,0,0] [] M ⟨Fz 81 [(2,.ptr 2 0 0),(3,.ptr 3 0 0),(5,.Cu .BE 2 (LQ r c ([]++l))),(6,.int .i64 p6)],[(2,x5,.box [.int .i64 ((KR r).1),.int .i64 ((KR r).2.1),.Bj .BE .u64 p2]),(3,x5,.box [.int .i64 ((Gb r c ([]++l)).1),.int .i64 ((Gb r c ([]++l)).2.1),.Bj .arg .u64 ((Gb r c ([]++l)).2.2.1)])]⟩
theorem qr.DN.B8:qr.DN.L0 N (M+1) r c l p6 p2=cond (BI p6 0) (bif (Cq p2) then cond ((!(DA p2))||(Cq ((Gb r c ([]++l)).2.2.1))) (bif ((!(DA p2))||(!(DA ((Gb r c ([]++l)).2.2.1)))) then xQ (.CR [.agg [.int .i64 0,.int .i64 0,.nil],.agg [.int .i64 0,.int .i64 0,.nil],.int .i64 2]) else xQ (.CR [.agg [.int .i64 ((KR r).1),.int .i64 ((KR r).2.1),.Bj .BE .u64 p2],.agg [.int .i64 ((Gb r c ([]++l)).1),.int .i64 ((Gb r c ([]++l)).2.1),.Bj .arg .u64 ((Gb r c ([]++l)).2.2.1)],.int .i64 0])) xY else xY) (bif ((decide (0<=p6))&&(decide (p6<(wj (LQ r c ([]++l)):Int)))) then cond (OC (.s .u64) (wt (wt (LQ r c ([]++l)) (wQ p6) []) 0 .undef)) (bif ((decide (0<=p6))&&(decide (p6<(wj (LQ r c ([]++l)):Int)))) then cond (OC (.i .u64) (wt (wt (LQ r c ([]++l)) (wQ p6) []) 1 .undef)) (bif (((BA ((KR r).1) ((KR r).2.1) p2&&MA ((KR r).1) ((KR r).2.1) p6 0 (CA (wt (wt (LQ r c ([]++l)) (wQ p6) []) 0 .undef)))&&(Bp p2&&Bp (CA (wt (wt (LQ r c ([]++l)) (wQ p6) []) 0 .undef))))&&Br (Dl (wt (wt (LQ r c ([]++l)) (wQ p6) []) 1 .undef))) then qr.DN.L0 N M r c l (Bg (p6-1)) (Fc (wQ ((KR r).1)) (wQ ((KR r).2.1)) p2 p6 0 (CA (wt (wt (LQ r c ([]++l)) (wQ p6) []) 0 .undef)) (Dl (wt (wt (LQ r c ([]++l)) (wQ p6) []) 1 .undef))) else xY) xY else xY) xY else xY) :=Et (EY (EY (B5 (SU (DA p2)) (B5 (OZ (DA p2)) (CQ (AcI _ _) (B5 (OZ (DA p2)) (B5 (U7 (DA p2)) (CQ (AeP _ _) rfl rfl))) rfl))) rfl) (CQ (IW _ _) (CQ (CF _) (CQ (IW _ _) (CQ (CF _) (CQ (CF _) rfl rfl) rfl) rfl) rfl) rfl))
theorem qr.DN.ev:Cz qr.DN.E N f120 (Bw f120) [.agg [.int .i64 r,.int .i64 c,.Bj .arg .u64 l]]=cond (Bp l) (bif ((BU r c l) !=(0:Int)) then xQ (.CR [.agg [.int .i64 0,.int .i64 0,.nil],.agg [.int .i64 0,.int .i64 0,.nil],.int .i64 (BU r c l)]) else bif (decide (0+(wj l)<=G2)) then cond ((BA r c ([]++l)&&DA ([]++l))&&Bp ([]++l)) (bif (((Gb r c ([]++l)).2.2.2) !=(0:Int)) then xQ (.CR [.agg [.int .i64 0,.int .i64 0,.nil],.agg [.int .i64 0,.int .i64 0,.nil],.int .i64 ((Gb r c ([]++l)).2.2.2)]) else qr.DN.L0 N N r c l (Bg ((wj (LQ r c ([]++l)):Int)-1)) ((KR r).2.2.1)) xY else xY) xY :=Et (EY (EY rfl (CQ (CF _) (CQ (CF _) rfl rfl) rfl)) rfl)
end
abbrev qr.DN.Kn:=Ey prog 120 qr.DN.Bt
theorem qr.DN.D4(hk:Ff prog qr.DN.GM)(h:Hyp qr.DN.E f120 qr.DN.ts qr.DN.pre qr.DN.out):qr.DN.Kn :=FO (SH hk _ _ _ _) func120 (by kernel_rfl) (by kernel_rfl) h
def qr.OF.E:=E0 [(63,Bh.Part.Bt),(120,qr.DN.Bt)]
theorem qr.OF.ev(N:Nat)(r c:Int)(l:Bf):Cz qr.OF.E N f62 (Bw f62) [.agg [.int .i64 r,.int .i64 c,.Bj .arg .u64 l]]=cond (Bp l) (bif ((Fp r c l) !=(0:Int)) then xQ (.CR [.agg [.int .i64 0,.int .i64 0,.nil],.agg [.int .i64 0,.int .i64 0,.nil],.int .i64 (Fp r c l)]) else xQ (.CR [.agg [.int .i64 ((Fy ((qX r c l).1) ((qX r c l).2.1) ((qX r c l).2.2.1) 0 0 r (min r c)).1),.int .i64 ((Fy ((qX r c l).1) ((qX r c l).2.1) ((qX r c l).2.2.1) 0 0 r (min r c)).2.1),.Bj .BE .u64 ((Fy ((qX r c l).1) ((qX r c l).2.1) ((qX r c l).2.2.1) 0 0 r (min r c)).2.2.1)],.agg [.int .i64 ((Fy ((rX r c l).1) ((rX r c l).2.1) ((rX r c l).2.2.1) 0 0 (min r c) c).1),.int .i64 ((Fy ((rX r c l).1) ((rX r c l).2.1) ((rX r c l).2.2.1) 0 0 (min r c) c).2.1),.Bj .BE .u64 ((Fy ((rX r c l).1) ((rX r c l).2.1) ((rX r c l).2.2.1) 0 0 (min r c) c).2.2.1)],.int .i64 0])) xY:=by kernel_rfl
def clS(R C:Nat)(l:Bf)(j:Nat)(x:Int)(i:Nat):Bf:=BZ R C fun a b=>if b=j/\j<=a/\a<i then (if a=j then x else 0) else CE (C:Int) l (a:Int) (b:Int)
section
variable{R C j:Nat}{l:Bf}{x:Int}
theorem AiZ(i:Nat):(clS R C l j x i).length=R*C:=BW _ _ _
theorem VQ(hl:l.length=R*C)(hj:j<C):zv l (j*C+j) x=clS R C l j x (j+1):=by
 unfold clS
 conv=>lhs; rw[<- Oz hl]
 rw[LV hj];refine Eo fun a b ha hb=>?_
 by_cases h:a=j/\b=j
 ·rw[Az h,Az (by omega),Az h.1]
 ·rw[Ay h,Ay (by omega)]
theorem AiY{i:Nat}(hj:j<C)(hi:j<i):zv (clS R C l j x i) (i*C+j) 0=clS R C l j x (i+1):=by
 unfold clS;rw[LV hj];refine Eo fun a b ha hb=>?_
 by_cases h:a=i/\b=j
 ·rw[Az h,Az (by omega),Ay (by omega)]
 ·rw[Ay h];by_cases h2:b=j/\j<=a/\a<i
  ·rw[Az h2,Az (show b=j/\j<=a/\a<i+1 by omega)]
  ·rw[Ay h2,Ay (by omega)]
theorem Aja:clS R C l j x R=M5 R C l j x:=by
 unfold clS M5;refine Eo fun a b ha hb=>?_
 by_cases h:b=j/\j<=a
 ·rw[Az h,Az (by omega)]
 ·rw[Ay h,Ay (by omega)]
end
theorem T9{C i j:Nat}(hi:i<=6)(hC:C<=6)(hj:j<=6):Bg (Bg ((i:Int)*(C:Int))+(j:Int))=((i*C+j:Nat):Int):=by have h36:=AE hi hC;rw[Bz (x:=(i:Int)*(C:Int)) (by rw[<- Ax]; omega) (by rw[<- Ax]; omega),<- Ax,Bz (by omega) (by omega)];omega
section
variable{R C:Nat}
theorem Uj(N M0:Nat)(l0:Bf)(r6:R<=6)(c6:C<=6){j:Nat}(hj:j<C)(l:Bf)(x:Int)(v:Bf)(t:Int)(ms:List (List DV))(hms:ms.length<=100):∀(cnt i F:Nat),i+cnt=R->j<i->cnt<F ->
 qr.down.L0 N M0 F (R:Int) (C:Int) l0 (i:Int) (clS R C l j x i) (j:Int) v t ms=qr.down.L1 N M0 (R:Int) (C:Int) l0 ((j+1:Nat):Int) (ms++[[.Bj .arg .u64 v,.int .u64 t]]) (M5 R C l j x):=by
 intro cnt
 induction cnt with
 | zero =>
   intro i F hi hji hF;obtain⟨F,rfl⟩:∃G,F=G+1:=⟨F-1,by omega⟩
   obtain rfl:i=R:=by omega
   rw[qr.down.B8,B9,Ag (by omega),Af,Ac (by unfold RZ; omega),Aa,Bz (by omega) (by omega),Aja];rfl
 | succ cnt ih =>
   intro i F hi hji hF;obtain⟨F,rfl⟩:∃G,F=G+1:=⟨F-1,by omega⟩
   have hlen:=AiZ (R:=R) (C:=C) (l:=l) (j:=j) (x:=x) i;have hp:=Dw (show i<R by omega) hj;rw[qr.down.B8,B9,Ac (by omega),Aa,T9 (by omega) c6 (by omega),Ac (by omega),Ac (by omega),Ah,Aa,Ad,Ac (by omega),Aa,AiY hj hji,Bz (by omega) (by omega)];exact ih (i+1) F (by omega) (by omega) (by omega)
def OU(r c:Nat)(ms:List (List DV)):Option (Bf × List (Bf × Int))->DV
 | none=>.CR [.agg [.int .i64 0,.int .i64 0,.nil],.nil,.int .i64 2]
 | some x=>.CR [.agg [.int .i64 (r:Int),.int .i64 (c:Int),.Bj (.own 106002 tB) .u64 x.1],.Cu (.own 100006 tMR) 2 (ms++TB x.2),.int .i64 0]
theorem AdZ(N:Nat)(hN:7<N)(l0:Bf)(r6:R<=6)(c6:C<=6):∀(cnt j F:Nat) (l:Bf) (ms:List (List DV)),j+cnt=Fh R C->cnt<F->l.length=R*C->Bp l=xZ->ms.length=j ->
 qr.down.L1 N F (R:Int) (C:Int) l0 (j:Int) ms l=xQ (OU R C ms (HW R C cnt j l)):=by
 intro cnt
 induction cnt with
 | zero =>
   intro j F l ms hj hF hl al hms;obtain⟨F,rfl⟩:∃G,F=G+1:=⟨F-1,by omega⟩
   unfold Fh at hj
   have hlt:(BI (j:Int) (C:Int)&&BI (j:Int) (Bg ((R:Int)-1)))=x5:=by rw[B9,B9,Bz (by omega) (by omega),xF,Av,Av]; omega
   rw[qr.down.CT,hlt,Af];simp[HW,OU,TB]
 | succ cnt ih =>
   intro j F l ms hj hF hl al hms;obtain⟨F,rfl⟩:∃G,F=G+1:=⟨F-1,by omega⟩
   have hj0:=hj;unfold Fh at hj;have hr:=D3 r6 c6 hl
   have hlt:(BI (j:Int) (C:Int)&&BI (j:Int) (Bg ((R:Int)-1)))=xZ:=by rw[B9,B9,Bz (by omega) (by omega),Ac (by omega),Ac (by omega)]; rfl
   have cp:Ht (R:Int) (C:Int) l (j:Int)=xZ:=Bi.2 ⟨hr,Bv.2 (by omega)⟩;have ec:Dm (C:Int) l (j:Int) (j:Int) (wQ ((R:Int)-(j:Int)))=Dv R C l j:=by unfold Dv; rw[show wQ ((R:Int)-(j:Int))=R-j by omega]
   have ca:Bp (Dv R C l j)=xZ:=Ji al;have cl:(Dv R C l j).length=R-j:=Jh _ _ _ _ _;rw[qr.down.CT,hlt,Aa,cp,Bv.2 (show 0<=(j:Int)/\(j:Int)<=(R:Int) by omega),Ah,Aa,ec,Gf ca (by omega),Aa];unfold HW;by_cases he:(Ce (Dv R C l j)).2.2.2=0
   ·have hml:=KB he;have hma:=S7 ca;have hap:MA (R:Int) (C:Int) (j:Int) (j:Int) (Ce (Dv R C l j)).1=xZ:=Ac (by omega);have hp:=Dw (show j<R by omega) (show j<C by omega);have hlen:=LA R C l (j:Int) (j:Int) (Ce (Dv R C l j)).1 (Ce (Dv R C l j)).2.1;have hg:=Uj N F l0 r6 c6 (show j<C by omega) (Fc R C l (j:Int) (j:Int) (Ce (Dv R C l j)).1 (Ce (Dv R C l j)).2.1) (Ce (Dv R C l j)).2.2.1 (Ce (Dv R C l j)).1 (Ce (Dv R C l j)).2.1 ms (by omega) (R-(j+1)) (j+1) N (by omega) (by omega) (by omega);have hn:=ih (j+1) F (LP R C l j) (ms++[[.Bj .arg .u64 (Ce (Dv R C l j)).1,.int .u64 (Ce (Dv R C l j)).2.1]]) (by omega) (by omega) (N6 _ _ _ _) (Mr al j) (by rw[A8,hms]; rfl)
    rw[Na he,Af,hr,hap,al,hma.1,hma.2.1,Ah,Ah,Ah,Aa,T9 (by omega) c6 (by omega),Ad,Ad,Ad,Ac (by omega),Ac (by omega),Ah,Aa,Ac (by omega),Aa,
     VQ hlen (by omega),Bz (by omega) (by omega),Az he]
    refine(hg.trans hn).trans ?_;show xQ (OU R C _ (HW R C cnt (j+1) (LP R C l j)))=xQ (OU R C ms _);cases HW R C cnt (j+1) (LP R C l j) with
    | none=>rfl
    | some x=>simp[OU,TB]
   ·rw[neI he,Aa,Ay he]; rfl
theorem AaU(N:Nat)(hN:7<N){l:Bf}(r6:R<=6)(c6:C<=6)(hl:l.length=R*C)(al:Bp l=xZ)(h0:Fh R C≠0):
 qr.down.L2 N N (R:Int) (C:Int) l=xQ (OU R C [] (Hq R C l)):=by
 obtain⟨cnt,hc⟩:∃cnt,Fh R C=cnt+1:=⟨Fh R C-1,by omega⟩
 obtain⟨F,rfl⟩:∃G,N=G+1:=⟨N-1,by omega⟩
 have hj:=hc;unfold Fh at hj;have hr:=D3 r6 c6 hl
 have hlt:(BI (0:Int) (C:Int)&&BI (0:Int) (Bg ((R:Int)-1)))=xZ:=by rw[B9,B9,Bz (by omega) (by omega),Ac (by omega),Ac (by omega)]; rfl
 have cp:Ht (R:Int) (C:Int) l (0:Int)=xZ:=Bi.2 ⟨hr,Bv.2 (by omega)⟩;have ec:Dm (C:Int) l (0:Int) (0:Int) (wQ ((R:Int)-(0:Int)))=Dv R C l 0:=by unfold Dv; rw[show wQ ((R:Int)-(0:Int))=R-0 by omega]; rfl
 have ca:Bp (Dv R C l 0)=xZ:=Ji al;have cl:(Dv R C l 0).length=R-0:=Jh _ _ _ _ _;unfold Hq;rw[hc,qr.down.IT,hlt,Aa,cp,Bv.2 (show 0<=(0:Int)/\(0:Int)<=(R:Int) by omega),Ah,Aa,ec,Gf ca (by omega),Aa];unfold HW;by_cases he:(Ce (Dv R C l 0)).2.2.2=0
 ·have hml:=KB he;have hma:=S7 ca;have hap:MA (R:Int) (C:Int) (0:Int) (0:Int) (Ce (Dv R C l 0)).1=xZ:=Ac (by omega);have hp:=Dw (show 0<R by omega) (show 0<C by omega);have hlen:=LA R C l (0:Int) (0:Int) (Ce (Dv R C l 0)).1 (Ce (Dv R C l 0)).2.1;have hg:=Uj (F+1) F l r6 c6 (show 0<C by omega) (Fc R C l (0:Int) (0:Int) (Ce (Dv R C l 0)).1 (Ce (Dv R C l 0)).2.1) (Ce (Dv R C l 0)).2.2.1 (Ce (Dv R C l 0)).1 (Ce (Dv R C l 0)).2.1 [] (Nat.zero_le _) (R-1) 1 (F+1) (by omega) (by omega) (by omega);have hn:=AdZ (R:=R) (C:=C) (F+1) hN l r6 c6 cnt 1 F (LP R C l 0) [[.Bj .arg .u64 (Ce (Dv R C l 0)).1,.int .u64 (Ce (Dv R C l 0)).2.1]] (by omega) (by unfold Fh at hc; omega) (N6 _ _ _ _) (Mr al 0) rfl;have mc:=T9 (i:=0) (C:=C) (j:=0) (by omega) c6 (by omega);have mc:Bg (Bg ((0:Int)*(C:Int))+(0:Int))=((0*C+0:Nat):Int):=mc
  rw[Na he,Af,hr,hap,al,hma.1,hma.2.1,Ah,Ah,Ah,Aa,mc,Ad,Ad,Ad,Ac (by omega),Ac (by omega),Ah,Aa,Ac (by omega),Aa,
   VQ hlen (by omega),Az he]
  refine(hg.trans hn).trans ?_;show xQ (OU R C _ (HW R C cnt 1 (LP R C l 0)))=xQ (OU R C [] _);cases HW R C cnt (0+1) (LP R C l 0) with
  | none=>rfl
  | some x=>simp[OU,TB]
 ·rw[neI he,Aa,Ay he]; rfl
end
theorem qr.down.Bn:Kq 162 qr.down.Bt:=ED qr.down.E Tryz.func162 (kc BC.Apply.Bn (kc BC.Dj.Bn (kc Bh.Ei.Bn .nil))) fun r c l hp=>by
 obtain⟨h1,al⟩:=Bi.1 (show((BA r c l&&DA l)&&Bp l)=xZ from hp);obtain⟨hr,hf⟩:=Bi.1 h1;obtain⟨R,C,rfl,rfl,r6,c6,hl⟩:=D9 hr;by_cases h0:Fh R C=0
 ·have hx:Hq R C l=xQ (l,[]):=by unfold Hq; rw[h0]; rfl
  refine⟨8,.CR [.agg [.int .i64 (R:Int),.int .i64 (C:Int),.Bj .arg .u64 l],.Cu (.own 100006 tMR) 2 [],.int .i64 0],[100006],?_,?_⟩
  ·unfold Fh at h0
   have hlt:(BI (0:Int) (C:Int)&&BI (0:Int) (Bg ((R:Int)-1)))=x5:=by rw[B9,B9,Bz (by omega) (by omega),xF,Av,Av]; omega
   rw[qr.down.ev,show(8:Nat)=7+1 from rfl,qr.down.IT,hlt,Af]
  ·show Wk _ _ (DV.CR [.agg [.int .i64 (Gb (R:Int) (C:Int) l).1,.int .i64 (Gb (R:Int) (C:Int) l).2.1,.Bj .arg .u64 (Gb (R:Int) (C:Int) l).2.2.1],.Cu .BE 2 (LQ (R:Int) (C:Int) l),.int .i64 (Gb (R:Int) (C:Int) l).2.2.2]);unfold Gb LQ FY;rw[Ad,Ad,hx];exact Wk.Gr (.cons (Wk.GQ (.cons .int (.cons .int (.cons .X5 .nil)))) (.cons (.Acr _ _ _ _ (ze.2 rfl)) (.cons .int .nil)))
 ·refine⟨8,OU R C [] (Hq R C l),[106002,100006],?_,?_⟩
  ·rw[qr.down.ev];exact AaU 8 (by omega) r6 c6 hl al h0
  ·show Wk _ _ (DV.CR [.agg [.int .i64 (Gb (R:Int) (C:Int) l).1,.int .i64 (Gb (R:Int) (C:Int) l).2.1,.Bj .arg .u64 (Gb (R:Int) (C:Int) l).2.2.1],.Cu .BE 2 (LQ (R:Int) (C:Int) l),.int .i64 (Gb (R:Int) (C:Int) l).2.2.2]);unfold Gb LQ FY;rw[Ad,Ad];cases Hq R C l with
   | none=>exact Wk.Gr (.cons (Wk.GQ (.cons .int (.cons .int (.cons NY .nil)))) (.cons (.Ams _ _) (.cons .int .nil)))
   | some x=>exact Wk.Gr (.cons (Wk.GQ (.cons .int (.cons .int (.cons (.Acs _ _ _ _ AY) .nil)))) (.cons (.Acr _ _ _ _ (AN _ AY)) (.cons .int .nil)))
def V3(e:Int):DV:=.CR [.agg [.int .i64 0,.int .i64 0,.nil],.agg [.int .i64 0,.int .i64 0,.nil],.int .i64 e]
theorem V4{r:Nat}:∀{j:Nat} {ms:List (Bf × Int)},Y3 r j ms->∀i:Nat,i<ms.length->Bp (ms.getD i ([],0)).1=xZ/\Br (ms.getD i ([],0)).2=xZ/\(ms.getD i ([],0)).1.length+(j+i)=r
 | _,[],_,i,h=>absurd h (Nat.not_lt_zero _)
 | j,m::ms,hm,0,_=>hm.1
 | j,m::ms,hm,i+1,h=>by have:=V4 hm.2 i (by simpa using h);rw[show j+(i+1)=j+1+i by omega];exact this
theorem AfW{ms:List (Bf × Int)}{i:Nat}(h:i<ms.length):wt (TB ms) i []=[.Bj .arg .u64 (ms.getD i ([],0)).1,.int .u64 (ms.getD i ([],0)).2]:=by unfold TB;rw[Al,Ba,As h,Al,As h]; rfl
theorem Y2(ms:List (Bf × Int)):(TB ms).length=ms.length:=by unfold TB; rw[AO]
theorem Aek{n i:Nat}{ms:List (Bf × Int)}(h:i<ms.length)(q:Bf):I5 n i (ms.drop i) q=Fc n n (I5 n (i+1) (ms.drop (i+1)) q) (i:Int) 0 (ms.getD i ([],0)).1 (ms.getD i ([],0)).2:=by rw[xA h,I5,Al,As h]; rfl
theorem Xm{R:Nat}(h:R<=6):KR (R:Int)=((R:Int),(R:Int),F2 R,0):=by unfold KR F2;rw[Az (W7 h),Ad]
theorem AjV{n:Nat}(h:n<=6):n*n<=36:=AE h h
theorem YZ(N:Nat){R C:Nat}{l:Bf}(r6:R<=6){x:Bf × List (Bf × Int)}(hx:Hq R C l=xQ x)(hm:Y3 R 0 x.2)(hxr:Bp x.1=xZ)(hxl:x.1.length<=36):∀(j F:Nat),j<=x.2.length->j<F ->
 qr.DN.L0 N F (R:Int) (C:Int) l ((j:Int)-1) (I5 R j (x.2.drop j) (F2 R))=
 bif NJ R C l then xQ (.CR [.agg [.int .i64 (R:Int),.int .i64 (R:Int),.Bj .BE .u64 (H3 R C l)],.agg [.int .i64 (R:Int),.int .i64 (C:Int),.Bj .arg .u64 (FY R C l)],.int .i64 0])
 else xQ (V3 2):=by
 have hq:H3 R C l=I5 R 0 x.2 (F2 R):=by unfold H3; rw[hx]
 have hr:FY R C l=x.1:=by unfold FY; rw[hx]
 have hd:Gb (R:Int) (C:Int) ([]++l)=((R:Int),(C:Int),x.1,0):=by unfold Gb;rw[zX,Ad,Ad,hx,hr]; rfl
 have hmd:LQ (R:Int) (C:Int) ([]++l)=TB x.2:=by unfold LQ;rw[zX,Ad,Ad,hx]
 have h36:=AjV r6;intro j
 induction j with
 | zero =>
   intro F _ hF;obtain⟨F,rfl⟩:∃G,F=G+1:=⟨F-1,by omega⟩
   have hb:=Q5 R x.2 0 (F2 R) (SF R) (by unfold F2; exact BW _ _ _);have ok1:Cq (I5 R 0 x.2 (F2 R))=xZ:=Gf hb.1 (by omega);have ok2:Cq x.1=xZ:=Gf hxr (by omega);have hfo:NJ R C l=(DA (I5 R 0 x.2 (F2 R))&&DA x.1):=by unfold NJ; rw[hx,hq,hr]; rfl
   rw[qr.DN.B8,B9,Ac (by omega),Aa,List.drop_zero,ok1,Aa,hd,Xm r6,ok2,AV,Aa,hfo,hq,hr];cases DA (I5 R 0 x.2 (F2 R)) with
   | false=>rfl
   | true=>cases DA x.1<;>rfl
 | succ j ih =>
   intro F hj hF;obtain⟨F,rfl⟩:∃G,F=G+1:=⟨F-1,by omega⟩
   have ej:(((j+1:Nat):Int))-1=(j:Int):=by omega
   have hg:=V4 hm j (by omega);have hb:=Q5 R (x.2.drop (j+1)) (j+1) (F2 R) (SF R) (by unfold F2; exact BW _ _ _);have hr1:=D3 r6 r6 hb.2;have hap:MA (R:Int) (R:Int) (j:Int) 0 (x.2.getD j ([],0)).1=xZ:=Ac (by omega);have hmg:=AfW (ms:=x.2) (i:=j) (by omega);rw[qr.DN.B8,ej,B9,Ag (show ¬(j:Int)<0 by omega),Af,hmd,Y2,Ac (show(0:Int)<=(j:Int) by omega),Ac (show(j:Int)<(x.2.length:Int) by omega),Ah,Aa,Ad,hmg,Xm r6]
   show(bif xZ then bif xZ then bif xZ then (bif (((BA (R:Int) (R:Int) (I5 R (j+1) (x.2.drop (j+1)) (F2 R))&&MA (R:Int) (R:Int) (j:Int) (0:Int) (x.2.getD j ([],0)).1)&&(Bp (I5 R (j+1) (x.2.drop (j+1)) (F2 R))&&Bp (x.2.getD j ([],0)).1))&&Br (x.2.getD j ([],0)).2) then
    qr.DN.L0 N F (R:Int) (C:Int) l (Bg ((j:Int)-(1:Int))) (Fc (wQ (R:Int)) (wQ (R:Int)) (I5 R (j+1) (x.2.drop (j+1)) (F2 R)) (j:Int) (0:Int) (x.2.getD j ([],0)).1 (x.2.getD j ([],0)).2) else xY) else xY else xY else xY)=_
   rw[Aa,Aa,Aa,hr1,hap,hb.1,hg.1,hg.2.1,Ah,Ah,Ah,Aa,Ad,Bz (by omega) (by omega),<- Aek (by omega)];exact ih F (by omega) (by omega)
theorem AgO{R C:Nat}{l:Bf}(hl:l.length=R*C)(al:Bp l=xZ){x:Bf × List (Bf × Int)}(hx:Hq R C l=xQ x):Bp x.1=xZ/\x.1.length=R*C/\x.2.length=Fh R C/\Y3 R 0 x.2 :=Uk R C (Fh R C) 0 l x al hl (by unfold Fh; omega) hx
theorem SD{r c:Int}{l:Bf}(h:BU r c l=0):Fp r c l=if NJ r.toNat c.toNat l=xZ then 0 else 2:=by unfold Fp; rw[Ay (by rw[h]; decide)]
theorem Zc{r c:Int}{l:Bf}(h:BU r c l≠0):Fp r c l=BU r c l:=by unfold Fp; rw[Az h]
theorem Aar{r c:Int}{l:Bf}{e:Int}(h:Fp r c l=e)(he:e≠0):qX r c l=JJ e/\rX r c l=JJ e:=by unfold qX rX; rw[h,Az he,Az he]; exact⟨rfl,rfl⟩
theorem WJ{r c:Int}{l:Bf}(h:Fp r c l=0):qX r c l=(r,r,H3 r.toNat c.toNat l,0)/\rX r c l=(r,c,FY r.toNat c.toNat l,0):=by unfold qX rX; rw[h]; exact⟨rfl,rfl⟩
theorem Wg{drops:List Nat}{e:Int}{g h:R0}:Wk drops (V3 e) (DV.CR [.agg [.int .i64 (JJ e).1,.int .i64 (JJ e).2.1,.Bj g .u64 (JJ e).2.2.1],.agg [.int .i64 (JJ e).1,.int .i64 (JJ e).2.1,.Bj h .u64 (JJ e).2.2.1],.int .i64 e]) :=Wk.Gr (.cons (Wk.GQ (.cons .int (.cons .int (.cons NY .nil)))) (.cons (Wk.GQ (.cons .int (.cons .int (.cons NY .nil)))) (.cons .int .nil)))
theorem qr.DN.Bn:qr.DN.Kn:=qr.DN.D4 (kc DS.Check.Bn (kc BC.Apply.Bn (kc Bh.IV.Bn (kc qr.down.Bn (kc Bs.Finite.Bn .nil))))) fun r c l hp=>by
 have al:Bp l=xZ:=hp;show ∃N dv drops,_=xQ dv/\Wk drops dv (DV.CR [.agg [.int .i64 (qX r c l).1,.int .i64 (qX r c l).2.1,.Bj .arg .u64 (qX r c l).2.2.1],.agg [.int .i64 (rX r c l).1,.int .i64 (rX r c l).2.1,.Bj .arg .u64 (rX r c l).2.2.1],.int .i64 (Fp r c l)]);by_cases h1:BU r c l=0
 ·obtain⟨hr,hf⟩:=Zs h1;have h36:=Iu hr;obtain⟨R,C,rfl,rfl,r6,c6,hl⟩:=D9 hr;have d0:decide (0+l.length<=G2)=xZ:=Ac (by unfold G2; omega);cases hx:Hq R C l with
  | none =>
    have hfo:NJ R C l=x5:=by unfold NJ; rw[hx]; rfl
    have he:Fp (R:Int) (C:Int) l=2:=by rw[SD h1,Ad,Ad,hfo]; rfl
    obtain⟨e1,e2⟩:=Aar he (by decide)
    have hd:Gb (R:Int) (C:Int) ([]++l)=JJ 2:=by unfold Gb;rw[zX,Ad,Ad,hx]; rfl
    rw[e1,e2,he];exact⟨0,V3 2,[],by rw[qr.DN.ev,al,Aa,Na h1,Af,d0,Aa,hd,zX,hr,hf,al,Ah,Ah,Aa,show((JJ 2).2.2.2 !=(0:Int))=xZ from rfl,Aa]; rfl,Wg⟩
  | some x =>
    obtain⟨x1,x2,x3,x4⟩:=AgO hl al hx
    have hd:Gb (R:Int) (C:Int) ([]++l)=((R:Int),(C:Int),x.1,0):=by unfold Gb FY;rw[zX,Ad,Ad,hx]; rfl
    have hmd:LQ (R:Int) (C:Int) ([]++l)=TB x.2:=by unfold LQ;rw[zX,Ad,Ad,hx]
    have hn:x.2.length<=6:=by rw[x3]; unfold Fh; omega
    have hloop:=YZ 8 r6 hx x4 x1 (by rw[x2]; exact AE r6 c6) x.2.length 8 (AB _) (by omega);rw[Ap (AB _)] at hloop;have hrun:=qr.DN.ev 8 (R:Int) (C:Int) l;rw[al,Aa,Na h1,Af,d0,Aa,hd,hmd,Y2,zX,hr,hf,al,Ah,Ah,Aa,show(((R:Int),(C:Int),x.1,(0:Int)).2.2.2 !=(0:Int))=x5 from rfl,Af,Xm r6,Bz (by omega) (by omega)] at hrun;have hrun:=hrun.trans hloop;cases hfo:NJ R C l with
    | false =>
      have he:Fp (R:Int) (C:Int) l=2:=by rw[SD h1,Ad,Ad,hfo]; rfl
      obtain⟨e1,e2⟩:=Aar he (by decide);rw[hfo,Af] at hrun;rw[e1,e2,he];exact⟨8,V3 2,[],hrun,Wg⟩
    | true =>
      have he:Fp (R:Int) (C:Int) l=0:=by rw[SD h1,Ad,Ad,hfo]; rfl
      obtain⟨e1,e2⟩:=WJ he;rw[hfo,Aa] at hrun;rw[e1,e2,he,Ad,Ad];exact⟨8,_,[],hrun,Wk.Gr (.cons (Wk.GQ (.cons .int (.cons .int (.cons (.BE _ _) .nil)))) (.cons (Wk.GQ (.cons .int (.cons .int (.cons .X5 .nil)))) (.cons .int .nil)))⟩
 ·have he:=Zc h1;obtain⟨e1,e2⟩:=Aar he h1;rw[e1,e2,he];exact⟨0,V3 (BU r c l),[],by rw[qr.DN.ev,al,Aa,neI h1,Aa]; rfl,Wg⟩
theorem Abd{r c:Int}{l:Bf}(h:Fp r c l=0):BU r c l=0:=by
 by_cases h1:BU r c l=0
 ·exact h1
 ·rw[Zc h1] at h; exact absurd h h1
theorem Zb{r c:Int}{l:Bf}(al:Bp l=xZ)(h:Fp r c l=0):∃R C:Nat,r=R/\c=C/\R<=6/\C<=6/\l.length=R*C/\Bp (H3 R C l)=xZ/\(H3 R C l).length=R*R/\Bp (FY R C l)=xZ/\(FY R C l).length=R*C/\DA (H3 R C l)=xZ/\DA (FY R C l)=xZ:=by
 have h1:=Abd h;rw[SD h1] at h;obtain⟨R,C,rfl,rfl,r6,c6,hl⟩:=D9 (Zs h1).1;rw[Ad,Ad] at h;by_cases ho:NJ R C l=xZ
 ·unfold NJ at ho;obtain⟨o1,o2⟩:=Bi.1 ho;obtain⟨o3,o4⟩:=Bi.1 o2;obtain⟨q1,q2⟩:=Xl o1;obtain⟨g1,g2⟩:=Acn al hl o1;exact⟨R,C,rfl,rfl,r6,c6,hl,q1,q2,g1,g2,o3,o4⟩
 ·rw[Ay ho] at h; exact absurd h (by decide)
theorem AbU{R C:Nat}{l:Bf}(r6:R<=6)(c6:C<=6)(hl:l.length=R*C){x y a b:Int}(hp:K8 (R:Int) (C:Int) x y a b=xZ):
 Fy (R:Int) (C:Int) l x y a b=(a,b,BZ a.toNat b.toNat fun i k=>CE (C:Int) l (x+(i:Int)) (y+(k:Int)),0):=by
 unfold Fy; rw[Az (D3 r6 c6 hl),Az hp]
theorem AcK{r c:Int}{l:Bf}(al:Bp l=xZ)(h:Fp r c l=0):
 Fy r r (H3 r.toNat c.toNat l) 0 0 r (min r c)=U8 r c l/\Fy r c (FY r.toNat c.toNat l) 0 0 (min r c) c=PA r c l:=by
 obtain⟨R,C,rfl,rfl,r6,c6,hl,q1,q2,g1,g2,_,_⟩:=Zb al h;unfold U8 PA;rw[h,Ay (by decide),Ay (by decide),Ad,Ad];have p1:K8 (R:Int) (R:Int) 0 0 (R:Int) (min (R:Int) (C:Int))=xZ:=Ac (by omega);have p2:K8 (R:Int) (C:Int) 0 0 (min (R:Int) (C:Int)) (C:Int)=xZ:=Ac (by omega);rw[AbU r6 r6 q2 p1,AbU r6 c6 g2 p2];exact⟨rfl,rfl⟩
theorem qr.OF.Bn:Kq 62 qr.OF.Bt:=ED qr.OF.E Tryz.func62 (kc Bh.Part.Bn (kc qr.DN.Bn .nil)) fun r c l hp=>by
 have al:Bp l=xZ:=hp;show ∃N dv drops,_=xQ dv/\Wk drops dv (DV.CR [.agg [.int .i64 (U8 r c l).1,.int .i64 (U8 r c l).2.1,.Bj .BE .u64 (U8 r c l).2.2.1],.agg [.int .i64 (PA r c l).1,.int .i64 (PA r c l).2.1,.Bj .BE .u64 (PA r c l).2.2.1],.int .i64 (Fp r c l)]);by_cases h:Fp r c l=0
 ·obtain⟨e1,e2⟩:=WJ h;obtain⟨t1,t2⟩:=AcK al h;refine⟨0,DV.CR [.agg [.int .i64 (U8 r c l).1,.int .i64 (U8 r c l).2.1,.Bj .BE .u64 (U8 r c l).2.2.1],.agg [.int .i64 (PA r c l).1,.int .i64 (PA r c l).2.1,.Bj .BE .u64 (PA r c l).2.2.1],.int .i64 0],[],by rw[qr.OF.ev,al,Aa,Na h,Af,e1,e2,t1,t2],by rw[h]; exact Wk.Gr (.cons (Wk.GQ (.cons .int (.cons .int (.cons .Jq .nil)))) (.cons (Wk.GQ (.cons .int (.cons .int (.cons .Jq .nil)))) (.cons .int .nil)))⟩
 ·have e1:U8 r c l=JJ (Fp r c l):=by unfold U8; rw[Az h]
  have e2:PA r c l=JJ (Fp r c l):=by unfold PA; rw[Az h]
  rw[e1,e2];exact⟨0,V3 (Fp r c l),[],by rw[qr.OF.ev,al,Aa,neI h,Aa]; rfl,Wg⟩
def CB.Finite.hint:Nat->Option BN
 | 0=>xQ { Df:=[0,3],Cg:=[],Cr:=[] }
 | _=>xY
def CB.Finite.E:=D6 (Db [(114,Ca.Finite.Bt)]) (fun _=>x5) CB.Finite.hint (fun _=>xY)
section
variable(N M:Nat)(x:Bf)(p3:Int)
def CB.Finite.L0:Option DV:=C6 CB.Finite.E N f74 (Bw f74) [1,0,1,0] [] M ⟨Fz 16 [(0,.Bj .arg .u64 x),(3,.int .i64 p3)],[]⟩
theorem CB.Finite.B8:CB.Finite.L0 N (M+1) x p3=cond (BI p3 (wj x:Int)) (bif ((decide (0<=p3))&&(decide (p3<(wj x:Int)))) then cond (Br (wt x (wQ p3) 0)) (bif (!(D5 (wt x (wQ p3) 0))) then xQ (.bool x5) else CB.Finite.L0 N M x (Bg (p3+1))) xY else xY) (xQ (.bool xZ)):=by kernel_rfl
theorem CB.Finite.ev:Cz CB.Finite.E N f74 (Bw f74) [.Bj .arg .u64 x]=
 CB.Finite.L0 N N x 0:=by kernel_rfl
end
def Dt.Check.E:=E0 [(74,CB.Finite.Bt),(90,Cn.Jd.Bt)]
theorem Dt.Check.ev(N:Nat)(r c:Int)(l:Bf):Cz Dt.Check.E N f35 (Bw f35) [.agg [.int .i64 r,.int .i64 c,.Bj .arg .u64 l]]=cond (!(BA r c l)) (xQ (.int .i64 1)) (bif (Cq l) then cond (!(DA l)) (xQ (.int .i64 4)) (xQ (.int .i64 0)) else xY):=by kernel_rfl
theorem RX(N:Nat){x:Bf}(hx:Cq x=xZ):∀(k i F:Nat),i+k=x.length->k<F->CB.Finite.L0 N F x (i:Int)=xQ (.bool ((x.drop i).all D5)):=by
 obtain⟨hl,hu⟩:=IE hx;intro k
 induction k with
 | zero =>
   intro i F hi hF;obtain⟨F,rfl⟩:∃G,F=G+1:=⟨F-1,by omega⟩
   rw[CB.Finite.B8,B9,Ag (by omega),Af,Ap (by omega)]; rfl
 | succ k ih =>
   intro i F hi hF;obtain⟨F,rfl⟩:∃G,F=G+1:=⟨F-1,by omega⟩
   rw[CB.Finite.B8,B9,Ac (show(i:Int)<(x.length:Int) by omega),Aa,Ac (show(0:Int)<=(i:Int) by omega),Ah,Aa,Ad,hu i (by omega),Aa,Js (by omega),List.all_cons];cases D5 (x.getD i 0) with
   | false=>rfl
   | true =>rw[AH,Af,Bz (by omega) (by omega),AW];exact ih (i+1) F (by omega) (by omega)
theorem CB.Finite.Bn:Kq 74 CB.Finite.Bt:=ED CB.Finite.E Tryz.func74 (kc Ca.Finite.Bn .nil) fun x hp=>by have hp:Cq x=xZ:=hp;refine⟨x.length+1,CB.Finite.out [.l x],[],?_,.bool⟩;show _=xQ (DV.bool (x.all D5));rw[CB.Finite.ev];exact RX _ hp x.length 0 (x.length+1) (by omega) (by omega)
theorem Dt.Check.Bn:Kq 35 Dt.Check.Bt:=ED Dt.Check.E Tryz.func35 (kc CB.Finite.Bn (kc Cn.Jd.Bn .nil)) fun r c l hp=>by
 have hp:Bp l=xZ:=hp;refine⟨0,Dt.Check.out [.i r,.i c,.l l],[],?_,.int⟩;show _=xQ (DV.int .i64 (BU r c l));rw[Dt.Check.ev];unfold BU;by_cases h:BA r c l=xZ
 ·have:=Iu h;rw[h,AH,Af,Gf hp (by omega),Aa,Az rfl];cases DA l<;>rfl
 ·have h':BA r c l=x5:=by simpa using h
  rw[h']; rfl
section
variable{n Q:Nat}{l m:Bf}
end
theorem Nf(a c b:Nat):wQ ((a:Int)*(c:Int)+(b:Int))=a*c+b:=by rw[<- Ax,<- zt,Ad]
section
variable{R C i k:Nat}{l v:Bf}{t:Int}
end
def DF.Rows.hint:Nat->Option BN
 | 0=>xQ { Df:=[1,2,3,4,5,10,13,62,63],Cg:=[(14,2,114002,.Bj 43 .u64 [])],Cr:=[5,10,13] }
 | _=>xY
def DF.Rows.E:=D6 (Db [(121,Bh.Check.Bt),(137,Bs.Add.Bt),(138,Bs.Mul.Bt),(201,Bs.Sub.Bt)]) (fun _=>x5) DF.Rows.hint (fun _=>xY)
section
variable(N M:Nat)(r c:Int)(l:Bf)(i k x y p63:Int)(p2:Bf)
def DF.Rows.L0:Option DV:=C6 DF.Rows.E N f204 (Bw f204) [1,1,1,1,1,0,1,0] [] M ⟨Fz 120 [(1,.int .i64 i),(2,.int .i64 k),(3,.int .u64 x),(4,.int .u64 y),(5,.ptr 5 0 0),(10,.ptr 10 0 0),(13,.ptr 13 0 0),(62,.int .i64 c),(63,.int .i64 p63)],[(5,x5,.box [.int .i64 r,.int .i64 c,.Bj .arg .u64 l]),(10,x5,.box [.int .i64 0,.int .i64 0,.nil]),(13,x5,.box [.int .i64 r,.int .i64 c,.Dh 114002]),(114002,x5,.Bj 43 .u64 p2)]⟩
theorem DF.Rows.B8:DF.Rows.L0 N (M+1) r c l i k x y p63 p2=cond (BI p63 c) (bif ((decide (0<=(Bg ((Bg (i*c))+p63))))&&(decide ((Bg ((Bg (i*c))+p63))<(wj l:Int)))) then cond ((decide (0<=(Bg ((Bg (k*c))+p63))))&&(decide ((Bg ((Bg (k*c))+p63))<(wj l:Int)))) (bif (Br x&&Br (wt l (wQ (Bg ((Bg (i*c))+p63))) 0)) then cond (Br y&&Br (wt l (wQ (Bg ((Bg (k*c))+p63))) 0)) (bif (Br (C0 x (wt l (wQ (Bg ((Bg (i*c))+p63))) 0))&&Br (C0 y (wt l (wQ (Bg ((Bg (k*c))+p63))) 0))) then cond ((decide (0<=(Bg ((Bg (i*c))+p63))))&&(decide ((Bg ((Bg (i*c))+p63))<(wj p2:Int)))) (bif (decide ((wQ (Bg ((Bg (i*c))+p63)))<(wj p2))) then cond (Br x&&Br (wt l (wQ (Bg ((Bg (k*c))+p63))) 0)) (bif (Br y&&Br (wt l (wQ (Bg ((Bg (i*c))+p63))) 0)) then cond (Br (C0 x (wt l (wQ (Bg ((Bg (k*c))+p63))) 0))&&Br (C0 y (wt l (wQ (Bg ((Bg (i*c))+p63))) 0))) (bif ((decide (0<=(Bg ((Bg (k*c))+p63))))&&(decide ((Bg ((Bg (k*c))+p63))<(wj (zv p2 (wQ (Bg ((Bg (i*c))+p63))) (DM (C0 x (wt l (wQ (Bg ((Bg (i*c))+p63))) 0)) (C0 y (wt l (wQ (Bg ((Bg (k*c))+p63))) 0)))):Int)))) then cond (decide ((wQ (Bg ((Bg (k*c))+p63)))<(wj (zv p2 (wQ (Bg ((Bg (i*c))+p63))) (DM (C0 x (wt l (wQ (Bg ((Bg (i*c))+p63))) 0)) (C0 y (wt l (wQ (Bg ((Bg (k*c))+p63))) 0))))))) (DF.Rows.L0 N M r c l i k x y (Bg (p63+1)) (zv (zv p2 (wQ (Bg ((Bg (i*c))+p63))) (DM (C0 x (wt l (wQ (Bg ((Bg (i*c))+p63))) 0)) (C0 y (wt l (wQ (Bg ((Bg (k*c))+p63))) 0)))) (wQ (Bg ((Bg (k*c))+p63))) (Ej (C0 x (wt l (wQ (Bg ((Bg (k*c))+p63))) 0)) (C0 y (wt l (wQ (Bg ((Bg (i*c))+p63))) 0))))) xY else xY) xY else xY) xY else xY) xY else xY) xY else xY) xY else xY) (xQ (.CR [.agg [.int .i64 r,.int .i64 c,.Bj (.own 114002 43) .u64 p2],.int .i64 0])) :=Et (EY (CQ (IW _ _) (CQ (IW _ _) (CQ (CF _) (CQ (CF _) (CQ (CF _) (CQ (IW _ _) (CQ (CF _) (CQ (CF _) (CQ (CF _) (CQ (CF _) (CQ (IW _ _) (CQ (CF _) rfl rfl) rfl) rfl) rfl) rfl) rfl) rfl) rfl) rfl) rfl) rfl) rfl) rfl)
theorem DF.Rows.ev:Cz DF.Rows.E N f204 (Bw f204) [.agg [.int .i64 r,.int .i64 c,.Bj .arg .u64 l],.int .i64 i,.int .i64 k,.int .u64 x,.int .u64 y]=cond ((IL r c l) !=(0:Int)) (xQ (.CR [.agg [.int .i64 0,.int .i64 0,.nil],.int .i64 (IL r c l)])) (bif (((((BI i 0)||(Eg r i))||(BI k 0))||(Eg r k))||(i==k)) then xQ (.CR [.agg [.int .i64 0,.int .i64 0,.nil],.int .i64 7]) else bif (((decide ((0:Int)<=(wj l:Int)))&&(decide ((wj l:Int)<=(wj l:Int))))&&(decide ((wj l:Int)<=G2))) then DF.Rows.L0 N N r c l i k x y 0 (MP (zp (wQ (wj l:Int)) 0) l) else xY) :=Et (EY rfl (B5 (U5 (BI i 0)) (B5 (U5 (BI i 0)) (B5 (RW (BI i 0)) (B5 (tt8 (BI i 0)) (B5 (XT (BI i 0)) (B5 (XS (BI i 0) (Eg r i)) (B5 (ZT (BI i 0) (Eg r i)) (B5 (AhM (BI i 0) (Eg r i)) (B5 (AcF (BI i 0) (Eg r i) (BI k 0)) (B5 (AcF (BI i 0) (Eg r i) (BI k 0)) (B5 (AcG (BI i 0) (Eg r i) (BI k 0)) (B5 (Al9 (BI i 0) (Eg r i) (BI k 0)) (B5 (AhN (BI i 0) (Eg r i) (BI k 0)) (B5 (AcH (BI i 0) (Eg r i) (BI k 0) (Eg r k)) (B5 (AcH (BI i 0) (Eg r i) (BI k 0) (Eg r k)) (B5 (AjM (BI i 0) (Eg r i) (BI k 0) (Eg r k)) (B5 (AjN (BI i 0) (Eg r i) (BI k 0) (Eg r k)) (CQ (AlA _ _ _ _ _) rfl (CQ (Ann _ _ _) rfl rfl))))))))))))))))))))
end
def DF.P9.E:=E0 [(204,DF.Rows.Bt),(203,Bh.D0.Bt)]
theorem DF.P9.ev(N:Nat)(r c:Int)(l:Bf)(i k:Int)(x y:Int):Cz DF.P9.E N f170 (Bw f170) [.agg [.int .i64 r,.int .i64 c,.Bj .arg .u64 l],.int .i64 i,.int .i64 k,.int .u64 x,.int .u64 y]=cond (((E3 r c l).2.2.2) !=(0:Int)) (xQ (.CR [.agg [.int .i64 0,.int .i64 0,.nil],.int .i64 ((E3 r c l).2.2.2)])) (bif (BA ((E3 r c l).1) ((E3 r c l).2.1) ((E3 r c l).2.2.1)&&(Bp ((E3 r c l).2.2.1)&&((Br x&&Br y)&&Ch (0<=i/\i<((E3 r c l).1)/\0<=k/\k<((E3 r c l).1)/\i≠k)))) then xQ (.CR [.agg [.int .i64 ((E3 ((E3 r c l).1) ((E3 r c l).2.1) (LK (wQ ((E3 r c l).1)) (wQ ((E3 r c l).2.1)) ((E3 r c l).2.2.1) (wQ i) (wQ k) x y)).1),.int .i64 ((E3 ((E3 r c l).1) ((E3 r c l).2.1) (LK (wQ ((E3 r c l).1)) (wQ ((E3 r c l).2.1)) ((E3 r c l).2.2.1) (wQ i) (wQ k) x y)).2.1),.Bj .BE .u64 ((E3 ((E3 r c l).1) ((E3 r c l).2.1) (LK (wQ ((E3 r c l).1)) (wQ ((E3 r c l).2.1)) ((E3 r c l).2.2.1) (wQ i) (wQ k) x y)).2.2.1)],.int .i64 ((E3 ((E3 r c l).1) ((E3 r c l).2.1) (LK (wQ ((E3 r c l).1)) (wQ ((E3 r c l).2.1)) ((E3 r c l).2.2.1) (wQ i) (wQ k) x y)).2.2.2)]) else xY):=by kernel_rfl
end Go.Proofs.S1
namespace Go.Ck
open Go.Den
theorem YM(key:Int->Int)(x:Int)(l:Bf):(NF key x l).length=l.length+1:=by
 induction l with
 | nil=>rfl
 | cons y t ih =>
   unfold NF;split
   ·rw[zj,ih,zj]
   ·rfl
theorem Agr{key:Int->Int}{x z:Int}{l:Bf}(h:z∈NF key x l):z=x\/z∈l:=by
 induction l with
 | nil=>exact .inl (ze.1 h)
 | cons y t ih =>
   unfold NF at h;split at h
   ·rcases zF.1 h with h | h
    ·exact .inr (h ▸ AY)
    ·rcases ih h with h | h
     ·exact .inl h
     ·exact .inr (AN _ h)
   ·rcases zF.1 h with h | h
    ·exact .inl h
    ·exact .inr h
theorem Qt{n:Nat}{x:Bf}(h:Im n x=xZ){j:Nat}(hj:j<x.length):0<=x.getD j 0/\x.getD j 0<(n:Int):=by have:=zB.1 h (x.getD j 0) (by rw[Al,As hj]; exact zU hj);exact A6 this
theorem KG{n:Nat}{x:Bf}:Im n x=xZ↔∀z∈x,0<=z/\z<(n:Int):=by unfold Im;rw[zB];exact forall_congr' fun z=>forall_congr' fun _=>decide_eq_true_iff
theorem Aad(key:Int->Int)(l:Bf)(x:Int):OH key (l++[x])=NF key x (OH key l):=by unfold OH; rw[List.foldl_append]; rfl
theorem PM(key:Int->Int)(l:Bf):(OH key l).length=l.length:=by
 suffices h:∀acc:Bf,(l.foldl (fun acc x=>NF key x acc) acc).length=acc.length+l.length by have:=h []; rw[List.length_nil,AS] at this; exact this
 induction l with
 | nil=>intro acc; rfl
 | cons y t ih=>intro acc; rw[List.foldl_cons,ih,YM,zj]; omega
theorem Vf{key:Int->Int}{l:Bf}{z:Int}(h:z∈OH key l):z∈l:=by
 suffices g:∀acc:Bf,z∈l.foldl (fun acc x=>NF key x acc) acc->z∈acc\/z∈l by
  rcases g [] h with h | h
  ·cases h
  ·exact h
 clear h
 induction l with
 | nil=>intro acc h; exact .inl h
 | cons y t ih =>
   intro acc h;rcases ih _ h with h | h
   ·rcases Agr h with h | h
    ·exact .inr (h ▸ AY)
    ·exact .inl h
   ·exact .inr (AN _ h)
theorem AcN(A B:Bf)(y v:Int):((A++y::v::B).set (A.length+1) y).set A.length v=A++v::y::B:=by
 induction A with
 | nil=>rfl
 | cons a A ih =>rw[zj,List.cons_append,wC,wC,ih];rfl
theorem YS(A B:Bf)(v:Int):(A++v::B).getD A.length 0=v:=by rw[Al,AX (AB _),Nat.sub_self]; rfl
def rgF(n:Nat)(l:Bf)(i k:Nat)(c s:Int)(a b:Nat):Int:=
 if a=i then DM (C0 c (CE (n:Int) l (i:Int) (b:Int))) (C0 s (CE (n:Int) l (k:Int) (b:Int)))
 else if a=k then Ej (C0 c (CE (n:Int) l (k:Int) (b:Int))) (C0 s (CE (n:Int) l (i:Int) (b:Int))) else CE (n:Int) l (a:Int) (b:Int)
def rgS(R n:Nat)(l:Bf)(i k:Nat)(c s:Int)(j:Nat):Bf:=BZ R n fun a b=>if b<j then rgF n l i k c s a b else CE (n:Int) l (a:Int) (b:Int)
theorem Af1{R n:Nat}{l:Bf}(h:l.length=R*n)(i k:Nat)(c s:Int):rgS R n l i k c s 0=l:=by
 unfold rgS
 conv=>rhs; rw[<- Oz h]
 exact Eo fun a b _ _=>Ay (by omega)
theorem Aif(R n:Nat)(l:Bf)(i k:Nat)(c s:Int):rgS R n l i k c s n=LK R n l i k c s:=by unfold rgS LK;exact Eo fun a b _ hb=>Az hb
theorem Aie(R n:Nat)(l:Bf)(i k:Nat)(c s:Int)(j:Nat):(rgS R n l i k c s j).length=R*n:=BW _ _ _
theorem Af2{R n:Nat}{l:Bf}{i k:Nat}{c s:Int}{j:Nat}(hj:j<n)(hik:i≠k):
 ((rgS R n l i k c s j).set (i*n+j) (DM (C0 c (CE (n:Int) l (i:Int) (j:Int))) (C0 s (CE (n:Int) l (k:Int) (j:Int))))).set (k*n+j)
   (Ej (C0 c (CE (n:Int) l (k:Int) (j:Int))) (C0 s (CE (n:Int) l (i:Int) (j:Int))))=rgS R n l i k c s (j+1):=by
 unfold rgS;rw[LV hj,LV hj];refine Eo fun a b _ _=>?_
 by_cases hb:b=j
 ·subst hb;by_cases h1:a=k
  ·subst h1;rw[Az ⟨rfl,rfl⟩,Az (wJ _)];unfold rgF;rw[Ay (Ne.symm hik),Az rfl]
  ·rw[Ay (fun h=>h1 h.1),Az (wJ _)];by_cases h2:a=i
   ·subst h2;rw[Az ⟨rfl,rfl⟩];unfold rgF;rw[Az rfl]
   ·rw[Ay (fun h=>h2 h.1),Ay (Nat.lt_irrefl _)];unfold rgF;rw[Ay h2,Ay h1]
 ·rw[Ay (fun h=>hb h.2),Ay (fun h=>hb h.2)];by_cases h:b<j
  ·rw[Az h,Az (by omega)]
  ·rw[Ay h,Ay (by omega)]
theorem Uo{R n:Nat}{l:Bf}(hl:Bp l=xZ)(i k:Nat)(c s:Int):Bp (Hs R n l i k c s)=xZ:=FA fun a b=>by
 split
 ·exact P5 (F8 _ _) (F8 _ _)
 ·split
  ·exact Pc (F8 _ _) (F8 _ _)
  ·exact Ft hl
theorem Aec{R n:Nat}{l:Bf}{i k:Nat}(hi:i<n)(hk:k<n)(c s:Int):
 (BZ R n fun a b=>CE (R:Int) (LK n R (BZ n R fun a b=>CE (n:Int) l (b:Int) (a:Int)) i k c s) (b:Int) (a:Int))=Hs R n l i k c s:=by
 unfold Hs;refine Eo fun a b ha hb=>?_
 unfold LK;rw[EU hb ha];by_cases h1:b=i
 ·rw[Az h1,Az h1,EU hi ha,EU hk ha]
 ·rw[Ay h1,Ay h1];by_cases h2:b=k
  ·rw[Az h2,Az h2,EU hi ha,EU hk ha]
  ·rw[Ay h2,Ay h2,EU hb ha]
theorem Aeb{l x:Bf}(h:l.length=x.length):MP l x=x:=by unfold MP;rw[h,List.take_length,Ap (by omega),yA]
def HI(R n:Nat)(s:Bf × Bf × Bool):Prop:=(s.1.length=R*n/\Bp s.1=xZ)/\s.2.1.length=n*n/\Bp s.2.1=xZ
theorem VP(R n:Nat)(l:Bf)(i k:Nat)(c s:Int):(Hs R n l i k c s).length=R*n:=BW _ _ _
theorem HI.J1{be:Bf->Bf->Int->Bool}{R n:Nat}{low:Int}{p q:Nat}{s:Bf × Bf × Bool}(h:HI R n s):HI R n (J1 be R n low p q s):=by
 unfold Go.Ck.J1;split
 ·exact h
 ·exact⟨⟨VP ..,Uo h.1.2 ..⟩,VP ..,Uo h.2.2 ..⟩
theorem HI.KP{be:Bf->Bf->Int->Bool}{R n:Nat}{low:Int}{p:Nat}:∀(d q:Nat) {s:Bf × Bf × Bool},HI R n s->HI R n (KP be R n low p d q s)
 | 0,_,_,h=>h
 | d+1,q,_,h=>HI.KP d (q+1) h.J1
theorem HI.ID{be:Bf->Bf->Int->Bool}{R n:Nat}{low:Int}:∀(d p:Nat) {s:Bf × Bf × Bool},HI R n s->HI R n (ID be R n low d p s)
 | 0,_,_,h=>h
 | d+1,p,_,h=>HI.ID d (p+1) (HI.KP _ _ h)
theorem HI.DL{R n:Nat}{low:Int}:∀(m:Nat) {w v:Bf},HI R n (w,v,xZ)->HI R n ((DL R n low m w v).1,(DL R n low m w v).2.1,xZ)
 | 0,_,_,h=>h
 | m+1,w,v,h=>by
   have g:HI R n (GC R n low w v):=HI.ID n 0 h;unfold Go.Ck.DL;split
   ·exact⟨g.1,g.2⟩
   ·exact HI.DL m ⟨g.1,g.2⟩
theorem Vq{R n:Nat}{low:Int}:∀(m:Nat) (w v:Bf),(DL R n low m w v).2.2=0\/(DL R n low m w v).2.2=6
 | 0,_,_=>.inr rfl
 | m+1,w,v=>by
   unfold Go.Ck.DL;split
   ·exact .inl rfl
   ·exact Vq m _ _
theorem Fj(R n:Nat)(l ps:Bf):(Dz R n l ps).length=R*n:=BW _ _ _
theorem Jp{R n:Nat}{l ps:Bf}(h:Bp l=xZ):Bp (Dz R n l ps)=xZ:=FA fun _ _=>Ft h
theorem Jl(R n:Nat)(l:Bf):(CX R n l).length=n:=by unfold CX; rw[AO,AL]
theorem Rb(R n:Nat)(l:Bf):Bp (CX R n l)=xZ:=Uz fun _=>Kd _
theorem Hm(l:Bf)(k:Int):(B6 l k).length=l.length:=by unfold B6; rw[AO]
theorem QN{l:Bf}{k:Int}(h:Bp l=xZ):Bp (B6 l k)=xZ:=Bv.2 fun x hx=>by obtain⟨y,hy,rfl⟩:=zh.1 hx;exact Gi (Bv.1 h y hy)
theorem Nx(n:Nat):(Kb n).length=n:=by unfold Kb; rw[AO,AL]
theorem WK(n:Nat):Im n (Kb n)=xZ:=KG.2 fun z hz=>by obtain⟨i,hi,rfl⟩:=zh.1 hz;have:=List.mem_range.1 hi;omega
theorem Ve(l x:Bf):(EC l x).length=x.length:=by unfold EC; rw[wa,PM]
theorem Ye{n:Nat}{l x:Bf}(h:Im n x=xZ):Im n (EC l x)=xZ:=KG.2 fun z hz=>KG.1 h z (Vf (List.mem_reverse.1 hz))
theorem Aco(i k:Int):Br (Mv i k)=xZ:=by
 unfold Mv;split
 ·exact WN
 ·exact CP (n:=0) (by decide)
end Go.Ck
namespace Go.Proofs.S1
open Go Go.Den Go.Ck Go.Proofs
theorem Pl{R C i j:Nat}(r6:R<=6)(c6:C<=6)(hi:i<R)(hj:j<C):Bg (Bg ((i:Int)*(C:Int))+(j:Int))=((i*C+j:Nat):Int)/\i*C+j<R*C:=by have h:=Dw hi hj;have:R*C<=36:=AE r6 c6;have e:(i:Int)*(C:Int)=((i*C:Nat):Int):=(Ax _ _).symm;refine⟨?_,h⟩;have e0:Bg ((i*C:Nat):Int)=((i*C:Nat):Int):=Bz (by omega) (by omega);rw[e,e0,Bz (by omega) (by omega)];omega
theorem AdR{R C:Nat}{l:Bf}{i k:Nat}{x y:Int}(r6:R<=6)(c6:C<=6)(hl:l.length=R*C)(al:Bp l=xZ)(hx:Br x=xZ)(hy:Br y=xZ)(hi:i<R)(hk:k<R)(hik:i≠k)(N:Nat):
 ∀(d j F:Nat),j+d=C->d<F->DF.Rows.L0 N F (R:Int) (C:Int) l (i:Int) (k:Int) x y (j:Int) (rgS R C l i k x y j)=xQ (.CR [.agg [.int .i64 (R:Int),.int .i64 (C:Int),.Bj (.own 114002 tB) .u64 (LK R C l i k x y)],.int .i64 (0:Int)]):=by
 intro d
 induction d with
 | zero =>
   intro j F hj hF;obtain⟨F,rfl⟩:∃G,F=G+1:=⟨F-1,by omega⟩
   obtain rfl:j=C:=by omega
   rw[DF.Rows.B8,B9,Ag (by omega),Af,Aif]
 | succ d ih =>
   intro j F hj hF;obtain⟨F,rfl⟩:∃G,F=G+1:=⟨F-1,by omega⟩
   obtain⟨e1,b1⟩:=Pl r6 c6 hi (show j<C by omega);obtain⟨e2,b2⟩:=Pl r6 c6 hk (show j<C by omega);have a1:wt l (i*C+j) 0=CE (C:Int) l (i:Int) (j:Int):=by unfold CE; rw[Nf]
   have a2:wt l (k*C+j) 0=CE (C:Int) l (k:Int) (j:Int):=by unfold CE; rw[Nf]
   have g:∀n:Nat,n<R*C->(decide ((0:Int)<=(n:Int))&&decide ((n:Int)<((R*C:Nat):Int)))=xZ:=fun n hn=>by rw[Ac (by omega),Ac (by omega)]; rfl
   rw[DF.Rows.B8,B9,Ac (by omega),Aa,e1,e2,Ad,Ad,yN,Aie,hl,a1,a2,g _ b1,g _ b2,Aa,Aa,hx,hy,Ft al,Ft al,Ah,Aa,Aa,F8,F8,Ah,Aa,Aa,
    Ac b1,Ac b2,Aa,Aa,Aa,F8,F8,Ah,Aa,Aa,Aa,Af2 (show j<C by omega) hik,Bz (by omega) (by omega)]
   exact ih (j+1) F (by omega) (by omega)
theorem DF.Rows.Bn:Kq 204 DF.Rows.Bt:=ED DF.Rows.E Tryz.func204 (kc Bh.Check.Bn (kc Bs.Add.Bn (kc Bs.Mul.Bn (kc Bs.Sub.Bn .nil)))) fun r c l i k x y hp=>by
 obtain⟨hr,hp⟩:=Bi.1 (show(BA r c l&&(Bp l&&((Br x&&Br y)&&Ch (0<=i/\i<r/\0<=k/\k<r/\i≠k))))=xZ from hp);obtain⟨al,hp⟩:=Bi.1 hp;obtain⟨hxy,hp⟩:=Bi.1 hp;obtain⟨hx,hy⟩:=Bi.1 hxy;obtain⟨i0,i1,k0,k1,hik⟩:=Bv.1 hp;obtain⟨R,C,rfl,rfl,r6,c6,hl⟩:=D9 hr;obtain⟨i,rfl⟩:∃j:Nat,i=j:=⟨i.toNat,by omega⟩
 obtain⟨k,rfl⟩:∃j:Nat,k=j:=⟨k.toNat,by omega⟩
 have hlen:l.length<=36:=by rw[hl]; exact AE r6 c6
 refine⟨C+1,.CR [.agg [.int .i64 (R:Int),.int .i64 (C:Int),.Bj (.own 114002 tB) .u64 (LK R C l i k x y)],.int .i64 (0:Int)],[114002],?_,?_⟩
 ·have ec:IL (R:Int) (C:Int) l=0:=by unfold IL; rw[hr]; rfl
  have hn:zp (wQ ((l.length:Nat):Int)) (0:Int)=zp l.length 0:=by rw[Ad]
  rw[DF.Rows.ev,ec,show((0:Int) !=0)=x5 from rfl,Af,B9,B9,E1,E1,Ag (by omega),Ag (by omega),Ag (by omega),Ag (by omega),
   show(((i:Int))==(k:Int))=x5 from by simpa using(fun h=>hik h)]
  simp only[Bool.or_self,Af];rw[Ac (by omega),Ac (yI _),Ac (by unfold G2; omega),Ah,Ah,Aa,hn,Aeb (List.length_replicate ..)];have:=AdR r6 c6 hl al hx hy (by omega) (by omega) (i:=i) (k:=k) (fun h=>hik (by omega)) (C+1) C 0 (C+1) (by omega) (by omega);rw[Af1 hl] at this;exact this
 ·exact Wk.Gr (.cons (SN (ze.2 rfl)) (.cons .int .nil))
theorem DF.P9.Bn:Kq 170 DF.P9.Bt:=ED DF.P9.E Tryz.func170 (kc DF.Rows.Bn (kc Bh.D0.Bn .nil)) fun r c l i k x y hp=>by
 obtain⟨hr,hp⟩:=Bi.1 (show(BA r c l&&(Bp l&&((Br x&&Br y)&&Ch (0<=i/\i<c/\0<=k/\k<c/\i≠k))))=xZ from hp);obtain⟨al,hp⟩:=Bi.1 hp;obtain⟨hxy,hp⟩:=Bi.1 hp;obtain⟨i0,i1,k0,k1,hik⟩:=Bv.1 hp;obtain⟨R,C,rfl,rfl,r6,c6,hl⟩:=D9 hr;obtain⟨i,rfl⟩:∃j:Nat,i=j:=⟨i.toNat,by omega⟩
 obtain⟨k,rfl⟩:∃j:Nat,k=j:=⟨k.toNat,by omega⟩
 have t1:E3 (R:Int) (C:Int) l=((C:Int),(R:Int),BZ C R fun a b=>CE (C:Int) l (b:Int) (a:Int),0):=by unfold E3; rw[Az hr,Ad,Ad]
 have r2:BA (C:Int) (R:Int) (BZ C R fun a b=>CE (C:Int) l (b:Int) (a:Int))=xZ:=Ub _ c6 r6;have r3:BA (C:Int) (R:Int) (LK C R (BZ C R fun a b=>CE (C:Int) l (b:Int) (a:Int)) i k x y)=xZ:=Ub _ c6 r6
 have t2:E3 (C:Int) (R:Int) (LK C R (BZ C R fun a b=>CE (C:Int) l (b:Int) (a:Int)) i k x y)=((R:Int),(C:Int),Hs R C l i k x y,0):=by unfold E3; rw[Az r3,Ad,Ad,Aec (by omega) (by omega)]
 refine⟨0,.CR [.agg [.int .i64 (R:Int),.int .i64 (C:Int),.Bj .BE .u64 (Hs R C l i k x y)],.int .i64 (0:Int)],[],?_,?_⟩
 ·rw[DF.P9.ev,t1,show((0:Int) !=0)=x5 from rfl,Af,r2,show Bp (BZ C R fun a b=>CE (C:Int) l (b:Int) (a:Int))=xZ from FA fun a b=>Ft al,hxy,show Ch (0<=(i:Int)/\(i:Int)<(C:Int)/\0<=(k:Int)/\(k:Int)<(C:Int)/\(i:Int)≠(k:Int))=xZ from Bv.2 ⟨i0,i1,k0,k1,hik⟩];simp only[Ah,Aa,Ad];rw[t2]
 ·exact Wk.Gr (.cons (Wk.GQ (.cons .int (.cons .int (.cons (.BE _ _) .nil)))) (.cons .int .nil))
open Go Go.Den Go.Ck Go.Proofs
set_option maxRecDepth 100000
def Cx.Fe.E:=E0 [(131,compare.Order.Bt)]
theorem Cx.Fe.ev(N:Nat)(i k:Int)(l:Bf):Cz Cx.Fe.E N f130 (Bw f130) [.int .i64 i,.int .i64 k,.CS [.Bj .arg .u64 l]]=cond ((decide (0<=k))&&(decide (k<(wj l:Int)))) (bif ((decide (0<=i))&&(decide (i<(wj l:Int)))) then cond (Br (wt l (wQ k) 0)&&Br (wt l (wQ i) 0)) (xQ (.int .i64 (G4 (wt l (wQ k) 0) (wt l (wQ i) 0)))) xY else xY) xY :=Et (CQ (IW _ _) (CQ (IW _ _) (CQ (CF _) rfl rfl) rfl) rfl)
def BP.Bu.hint:Nat->Option BN
 | 0=>xQ { Df:=[0,1,2,3,8],Cg:=[(0,0,100000,.Bj 3 .i64 [])],Cr:=[] }
 | 2=>xQ { Df:=[0,1,2,3,8,9],Cg:=[(0,0,100000,.Bj 3 .i64 [])],Cr:=[] }
 | _=>xY
def BP.Bu.GM:List (Nat × Ez):=[(130,Cx.Fe.Bt)]
def BP.Bu.E:Env:=Uh (Db BP.Bu.GM) (fun _=>x5) BP.Bu.hint (fun _=>xY) (fun _=>xY) 1
section
variable(N:Nat)(x:Bf)(M0 M:Nat)(a b:Int)(l:Bf)(p9:Int)(p0:Bf)(p8_1 p8:Int)(p0_1:Bf)
def BP.Bu.L0:Option (Bf):=Qk BP.Bu.E N f205 (Bw f205) tI .i64 [1,0] [] M ⟨Fz 53 [(0,.Dh 100000),(1,.int .i64 a),(2,.int .i64 b),(3,.fn 130 [] [.CS [.Bj .arg .u64 l]]),(8,.int .i64 p8)],[(100000,x5,.Bj 3 .i64 p0_1)]⟩
def BP.Bu.L1:Option (Bf):=Qk BP.Bu.E N f205 (Bw f205) tI .i64 [1,0,0,1,0,0,1,0] [M0] M ⟨Fz 53 [(0,.Dh 100000),(1,.int .i64 a),(2,.int .i64 b),(3,.fn 130 [] [.CS [.Bj .arg .u64 l]]),(8,.int .i64 p8_1),(9,.int .i64 p9)],[(100000,x5,.Bj 3 .i64 p0)]⟩
theorem BP.Bu.B8:BP.Bu.L0 N (M+1) a b l p8 p0_1=cond (BI p8 b) (BP.Bu.L1 N M N a b l p8 p0_1 p8) (xQ p0_1):=by kernel_rfl
theorem BP.Bu.CT:BP.Bu.L1 N M0 (M+1) a b l p9 p0 p8_1=cond ((!(BI a p9))||((decide (0<=p9))&&(decide (p9<(wj p0:Int))))) (bif ((!(BI a p9))||(decide ((wQ p9)<(wj p0)))) then cond ((!(BI a p9))||((decide (0<=(Bg (p9-1))))&&(decide ((Bg (p9-1))<(wj p0:Int))))) (bif ((!(BI a p9))||(decide ((wQ (Bg (p9-1)))<(wj p0)))) then cond ((!(BI a p9))||(Cq l&&Ch (0<=(wt p0 (wQ p9) 0)/\(wt p0 (wQ p9) 0)<((wj l:Nat):Int)/\0<=(wt p0 (wQ (Bg (p9-1))) 0)/\(wt p0 (wQ (Bg (p9-1))) 0)<((wj l:Nat):Int)))) (bif ((BI a p9)&&(BI (G4 (NC l (wt p0 (wQ (Bg (p9-1))) 0)) (NC l (wt p0 (wQ p9) 0))) 0)) then cond ((decide (0<=(Bg (p9-1))))&&(decide ((Bg (p9-1))<(wj p0:Int)))) (bif (decide ((wQ (Bg (p9-1)))<(wj p0))) then cond ((decide (0<=p9))&&(decide (p9<(wj p0:Int)))) (bif (decide ((wQ p9)<(wj p0))) then cond ((decide (0<=p9))&&(decide (p9<(wj p0:Int)))) (bif (decide ((wQ p9)<(wj p0))) then cond ((decide (0<=(Bg (p9-1))))&&(decide ((Bg (p9-1))<(wj (zv p0 (wQ p9) (wt p0 (wQ (Bg (p9-1))) 0)):Int)))) (bif (decide ((wQ (Bg (p9-1)))<(wj (zv p0 (wQ p9) (wt p0 (wQ (Bg (p9-1))) 0))))) then BP.Bu.L1 N M0 M a b l (Bg (p9-1)) (zv (zv p0 (wQ p9) (wt p0 (wQ (Bg (p9-1))) 0)) (wQ (Bg (p9-1))) (wt p0 (wQ p9) 0)) p8_1 else xY) xY else xY) xY else xY) xY else xY) xY else BP.Bu.L0 N M0 a b l (Bg (p8_1+1)) p0) xY else xY) xY else xY) xY :=Et (B5 (XU (BI a p9)) (B5 (XU (BI a p9)) (B5 (XU (BI a p9)) (CQ (Al4 _ _ _) (CQ (Al5 _ _) (B5 (XU (BI a p9)) (B5 (XU (BI a p9)) (B5 (Al6 (BI a p9)) (CQ (Al4 _ _ _) (CQ (Al5 _ _) (CQ (Anl _ _) (B5 (Al6 (BI a p9)) (B5 (Anm (BI a p9)) (CQ (tt1 _ _) (CQ (IW _ _) (CQ (CF _) (CQ (IW _ _) (CQ (CF _) (CQ (IW _ _) (CQ (CF _) (CQ (IW _ _) (CQ (CF _) rfl rfl) rfl) rfl) rfl) rfl) rfl) rfl) rfl) rfl))) rfl) rfl) rfl)))) rfl) rfl))))
theorem BP.Bu.ev:wrD BP.Bu.E N f205 (Bw f205) tI .i64 x [.int .i64 a,.int .i64 b,.fn 130 [] [.CS [.Bj .arg .u64 l]]]=
 BP.Bu.L0 N N a b l (Bg (a+1)) x:=by kernel_rfl
end
abbrev BP.Bu.Kn:Prop:=LC prog 205 (XK tI .i64 BP.Bu.ts BP.Bu.pre BP.Bu.Tx)
theorem BP.Bu.D4(hk:Ff prog BP.Bu.GM)(h:∀(x:Bf) (a b:Int) (l:Bf),BP.Bu.pre [.l x,.i a,.i b,.l l]=xZ->∃N,wrD BP.Bu.E N f205 (Bw f205) tI .i64 x [.int .i64 a,.int .i64 b,.fn 130 [] [.CS [.Bj .arg .u64 l]]]=xQ (BP.Bu.Tx [.l x,.i a,.i b,.l l])):BP.Bu.Kn:=by
 refine SM (E:=BP.Bu.E) (SG hk AjD _ _ _ _) (by decide) func205 (show f205.body=xQ (Bw f205) by kernel_rfl) (by kernel_rfl) (Io func205 (by kernel_rfl) (show f205.body=xQ (Bw f205) by kernel_rfl)) fun x ats dvs he hp=>?_
 obtain⟨a,_,_,rfl,rfl,he0⟩:=he.VG;obtain⟨b,_,_,rfl,rfl,he1⟩:=he0.VG;obtain⟨_,_,_,_,rfl,rfl,hs2,he2⟩:=he1.AaM;obtain⟨_,_,_,_,rfl,rfl,hs3,he3⟩:=hs2.AaW;obtain⟨l,_,_,rfl,rfl,he4⟩:=hs3.Yj;obtain⟨rfl,rfl⟩:=he4.Ib;obtain⟨rfl,rfl⟩:=he3.Ib;obtain⟨rfl,rfl⟩:=he2.Ib;exact h x a b l hp
def BP.BB.hint:Nat->Option BN
 | 0=>xQ { Df:=[0,1,2,6,7,8],Cg:=[(0,0,100000,.Bj 3 .i64 [])],Cr:=[] }
 | 2=>xQ { Df:=[0,1,2,6],Cg:=[(0,0,100000,.Bj 3 .i64 [])],Cr:=[] }
 | 4=>xQ { Df:=[0,1,2,6,7,8],Cg:=[(0,0,100000,.Bj 3 .i64 [])],Cr:=[] }
 | _=>xY
def BP.BB.GM:List (Nat × Ez):=[]
def BP.BB.E:Env:=Uh (Db BP.BB.GM) (fun _=>x5) BP.BB.hint (fun _=>xY) (wr1 205 (XK tI .i64 BP.Bu.ts BP.Bu.pre BP.Bu.Tx)) 1
section
variable(N:Nat)(x:Bf)(M0 M:Nat)(n:Int)(l:Bf)(p6_1 p8_1:Int)(p0_2:Bf)(p6:Int)(p0_1:Bf)(p7 p8:Int)(p0:Bf)
def BP.BB.L0:Option (Bf):=Qk BP.BB.E N f171 (Bw f171) tI .i64 [1,1,0,0] [] M ⟨Fz 63 [(0,.Dh 100000),(1,.int .i64 n),(2,.fn 130 [] [.CS [.Bj .arg .u64 l]]),(6,.int .i64 20),(7,.int .i64 p7),(8,.int .i64 p8)],[(100000,x5,.Bj 3 .i64 p0)]⟩
def BP.BB.L1:Option (Bf):=Qk BP.BB.E N f171 (Bw f171) tI .i64 [1,1,1,1,0] [] M ⟨Fz 63 [(0,.Dh 100000),(1,.int .i64 n),(2,.fn 130 [] [.CS [.Bj .arg .u64 l]]),(6,.int .i64 p6)],[(100000,x5,.Bj 3 .i64 p0_1)]⟩
def BP.BB.L2:Option (Bf):=Qk BP.BB.E N f171 (Bw f171) tI .i64 [1,1,1,1,0,0,1,0,1,0,0] [M0] M ⟨Fz 63 [(0,.Dh 100000),(1,.int .i64 n),(2,.fn 130 [] [.CS [.Bj .arg .u64 l]]),(6,.int .i64 p6_1),(7,.int .i64 0),(8,.int .i64 p8_1)],[(100000,x5,.Bj 3 .i64 p0_2)]⟩
theorem BP.BB.B8:BP.BB.L0 N (M+1) n l p7 p8 p0=cond (Eg p8 n) (bif (Cq l&&Ch (Im (wj l) p0=xZ/\wj p0<=6/\p7=0/\p8=((wj p0:Nat):Int))) then BP.BB.L0 N M n l p8 (Bg (p8+20)) (EC l p0) else xY) (bif (Cq l&&Ch (Im (wj l) p0=xZ/\wj p0<=6/\p7=0/\n=((wj p0:Nat):Int))) then BP.BB.L1 N N n l 20 (EC l p0) else xY):=by kernel_rfl
theorem BP.BB.CT:BP.BB.L1 N (M+1) n l p6 p0_1=cond (BI p6 n) (BP.BB.L2 N M N n l p6 (Bg ((2:Int)*p6)) p0_1) (xQ p0_1):=by kernel_rfl
theorem BP.BB.ev:wrD BP.BB.E N f171 (Bw f171) tI .i64 x [.int .i64 n,.fn 130 [] [.CS [.Bj .arg .u64 l]]]=
 BP.BB.L0 N N n l 0 20 x:=by kernel_rfl
end
abbrev BP.BB.Kn:Prop:=LC prog 171 (XK tI .i64 BP.BB.ts BP.BB.pre BP.BB.Tx)
theorem BP.BB.D4(hk:Ff prog BP.BB.GM)(hw:BP.Bu.Kn)(h:∀(x:Bf) (n:Int) (l:Bf),BP.BB.pre [.l x,.i n,.l l]=xZ->∃N,wrD BP.BB.E N f171 (Bw f171) tI .i64 x [.int .i64 n,.fn 130 [] [.CS [.Bj .arg .u64 l]]]=xQ (BP.BB.Tx [.l x,.i n,.l l])):BP.BB.Kn:=by
 refine SM (E:=BP.BB.E) (SG hk (ZD hw) _ _ _ _) (by decide) func171 (show f171.body=xQ (Bw f171) by kernel_rfl) (by kernel_rfl) (Io func171 (by kernel_rfl) (show f171.body=xQ (Bw f171) by kernel_rfl)) fun x ats dvs he hp=>?_
 obtain⟨n,_,_,rfl,rfl,he0⟩:=he.VG;obtain⟨_,_,_,_,rfl,rfl,hs1,he1⟩:=he0.AaM;obtain⟨_,_,_,_,rfl,rfl,hs2,he2⟩:=hs1.AaW;obtain⟨l,_,_,rfl,rfl,he3⟩:=hs2.Yj;obtain⟨rfl,rfl⟩:=he3.Ib;obtain⟨rfl,rfl⟩:=he2.Ib;obtain⟨rfl,rfl⟩:=he1.Ib;exact h x n l hp
def BP.BF.GM:List (Nat × Ez):=[]
def BP.BF.E:Env:=Uh (Db BP.BF.GM) (fun _=>x5) (fun _=>xY) (fun _=>xY) (wr1 171 (XK tI .i64 BP.BB.ts BP.BB.pre BP.BB.Tx)) 1
theorem BP.BF.ev(N:Nat)(x l:Bf):wrD BP.BF.E N f129 (Bw f129) tI .i64 x [.fn 130 [] [.CS [.Bj .arg .u64 l]]]=cond (Cq l&&Ch (Im (wj l) x=xZ/\wj x<=6/\(wj x:Int)=((wj x:Nat):Int))) (xQ (EC l x)) xY:=by kernel_rfl
abbrev BP.BF.Kn:Prop:=LC prog 129 (XK tI .i64 BP.BF.ts BP.BF.pre BP.BF.Tx)
theorem BP.BF.D4(hk:Ff prog BP.BF.GM)(hw:BP.BB.Kn)(h:∀(x l:Bf),BP.BF.pre [.l x,.l l]=xZ->∃N,wrD BP.BF.E N f129 (Bw f129) tI .i64 x [.fn 130 [] [.CS [.Bj .arg .u64 l]]]=xQ (BP.BF.Tx [.l x,.l l])):BP.BF.Kn:=by
 refine SM (E:=BP.BF.E) (SG hk (ZD hw) _ _ _ _) (by decide) func129 (show f129.body=xQ (Bw f129) by kernel_rfl) (by kernel_rfl) (Io func129 (by kernel_rfl) (show f129.body=xQ (Bw f129) by kernel_rfl)) fun x ats dvs he hp=>?_
 obtain⟨_,_,_,_,rfl,rfl,hs0,he0⟩:=he.AaM;obtain⟨_,_,_,_,rfl,rfl,hs1,he1⟩:=hs0.AaW;obtain⟨l,_,_,rfl,rfl,he2⟩:=hs1.Yj;obtain⟨rfl,rfl⟩:=he2.Ib;obtain⟨rfl,rfl⟩:=he1.Ib;obtain⟨rfl,rfl⟩:=he0.Ib;exact h x l hp
theorem Cx.Fe.Bn:Kq 130 Cx.Fe.Bt:=ED Cx.Fe.E Tryz.func130 (kc compare.Order.Bn .nil) fun i k l hp=>by obtain⟨hl,hp⟩:=Bi.1 (show(Cq l&&Ch (0<=i/\i<((wj l:Nat):Int)/\0<=k/\k<((wj l:Nat):Int)))=xZ from hp);obtain⟨h1,h2,h3,h4⟩:=Bv.1 hp;obtain⟨_,hu⟩:=IE hl;refine⟨0,.int .i64 (G4 (NC l k) (NC l i)),[],?_,.int⟩;rw[Cx.Fe.ev,Ac h3,Ac h4,Ah,Aa,Ac h1,Ac h2,Ah,Aa,hu _ (by omega),hu _ (by omega),Ah,Aa];rfl
theorem AdL(N M0:Nat){l:Bf}(hl:Cq l=xZ){b p8 v:Int}:∀(R B:Bf) (F:Nat),Im l.length (R.reverse++v::B)=xZ->R.length<F->R.length+B.length<=100 ->
 BP.Bu.L1 N M0 F 0 b l (R.length:Int) (R.reverse++v::B) p8=BP.Bu.L0 N M0 0 b l (Bg (p8+1)) ((NF (NC l) v R).reverse++B):=by
 intro R
 induction R with
 | nil =>
   intro B F hx hF hs;obtain⟨F,rfl⟩:∃G,F=G+1:=⟨F-1,by simp at hF; omega⟩
   rw[BP.Bu.CT,B9,Ag (show ¬(0:Int)<((([]:Bf).length:Nat):Int) by simp)];simp only[Bc,Bool.true_or,Aa,Bool.false_and,Af];rfl
 | cons y t ih =>
   intro B F hx hF hs;obtain⟨F,rfl⟩:∃G,F=G+1:=⟨F-1,by simp at hF; omega⟩
   have hlen:(((y::t).reverse++v::B).length)=t.length+2+B.length:=by simp; omega
   have e1:Bg (((y::t).length:Int)-1)=(t.length:Int):=by rw[Bz (by simp) (by simp at hs ⊢; omega)]; simp
   have eA:(y::t).reverse++v::B=t.reverse++y::v::B:=by simp
   have g1:wt ((y::t).reverse++v::B) (t.length+1) 0=v:=by have:=YS (y::t).reverse B v;rw[wa] at this; exact this
   have g2:wt ((y::t).reverse++v::B) t.length 0=y:=by rw[eA];have:=YS t.reverse (v::B) y;rw[wa] at this; exact this
   have p1:=Qt hx (j:=t.length+1) (by omega);have p2:=Qt hx (j:=t.length) (by omega);rw[g1] at p1; rw[g2] at p2;rw[BP.Bu.CT,e1,B9,Ac (show(0:Int)<(((y::t).length:Nat):Int) by simp)];simp only[AH,Bool.false_or,AW]
   rw[show wQ (((y::t).length:Nat):Int)=t.length+1 by simp,Ad,g1,g2,yN,hlen,
    Ac (show(0:Int)<=(((y::t).length:Nat):Int) by omega),Ac (show(((y::t).length:Nat):Int)<((t.length+2+B.length:Nat):Int) by simp; omega),Ah,Aa,
    Ac (show t.length+1<t.length+2+B.length by omega),Aa,Ac (show(0:Int)<=((t.length:Nat):Int) by omega),Ac (show((t.length:Nat):Int)<((t.length+2+B.length:Nat):Int) by omega),Ah,Aa,
    Ac (show t.length<t.length+2+B.length by omega),Aa,show(Cq l&&Ch (0<=v/\v<((wj l:Nat):Int)/\0<=y/\y<((wj l:Nat):Int)))=xZ from Bi.2 ⟨hl,Bv.2 ⟨p1.1,p1.2,p2.1,p2.2⟩⟩,Aa,B9]
   by_cases hlt:G4 (NC l y) (NC l v)<0
   ·rw[Ac hlt];simp only[Aa]
    have hsw:(zv (zv ((y::t).reverse++v::B) (t.length+1) y) t.length v)=t.reverse++v::(y::B):=by rw[eA];have:=AcN t.reverse B y v;rw[wa] at this; exact this
    rw[hsw]
    have hx':Im l.length (t.reverse++v::(y::B))=xZ:=KG.2 fun z hz=>KG.1 hx z (by
     rw[eA];simp only[zA,zF] at hz ⊢;rcases hz with h | h | h | h
     ·exact .inl h
     ·exact .inr (.inr (.inl h))
     ·exact .inr (.inl h)
     ·exact .inr (.inr (.inr h)))
    rw[ih (y::B) F hx' (by simp at hF; omega) (by simp at hs ⊢; omega)];congr 1;rw[show NF (NC l) v (y::t)=y::NF (NC l) v t from Az hlt];simp
   ·rw[Ag hlt,Af,show NF (NC l) v (y::t)=v::y::t from Ay hlt];congr 1;simp
theorem AdK(N:Nat){l x:Bf}(hl:Cq l=xZ)(hx:Im l.length x=xZ)(h6:x.length<=6):∀(k i F:Nat),i+k=x.length->k<F->6<N ->
 BP.Bu.L0 N F 0 (x.length:Int) l (i:Int) ((OH (NC l) (x.take i)).reverse++x.drop i)=xQ (EC l x):=by
 intro k
 induction k with
 | zero =>
   intro i F hi hF hN;obtain⟨F,rfl⟩:∃G,F=G+1:=⟨F-1,by omega⟩
   rw[BP.Bu.B8,B9,Ag (by omega),Af,yD (by omega),Ap (by omega),yA]; rfl
 | succ k ih =>
   intro i F hi hF hN;obtain⟨F,rfl⟩:∃G,F=G+1:=⟨F-1,by omega⟩
   have hd:x.drop i=x.getD i 0::x.drop (i+1):=by rw[xA (by omega),Al,As (by omega)]; rfl
   have hlen:(OH (NC l) (x.take i)).length=i:=by rw[PM,zM]; omega
   have:=AdL N F hl (b:=(x.length:Int)) (p8:=(i:Int)) (v:=x.getD i 0) (OH (NC l) (x.take i)) (x.drop (i+1)) N (KG.2 fun z hz=>KG.1 hx z (by
    rw[zA,List.mem_reverse,zF] at hz;rcases hz with h | h | h
    ·exact List.mem_of_mem_take (Vf h)
    ·rw[h,Al,As (show i<x.length by omega)]; exact zU _
    ·exact List.mem_of_mem_drop h)) (by omega) (by rw[List.length_drop]; omega)
   rw[hlen] at this;rw[BP.Bu.B8,B9,Ac (by omega),Aa,hd,this,Bz (by omega) (by omega),<- Aad]
   have e:x.take i++[x.getD i 0]=x.take (i+1):=by rw[xh (by omega),Al,As (show i<x.length by omega)]; rfl
   rw[e];exact ih (i+1) F (by omega) (by omega) hN
theorem BP.Bu.Bn:BP.Bu.Kn:=BP.Bu.D4 (kc Cx.Fe.Bn .nil) fun x a b l hp=>by
 obtain⟨hl,hp⟩:=Bi.1 (show(Cq l&&Ch (Im (wj l) x=xZ/\wj x<=6/\a=0/\b=((wj x:Nat):Int)))=xZ from hp);obtain⟨hx,h6,rfl,rfl⟩:=Bv.1 hp;refine⟨8,?_⟩;rw[BP.Bu.ev,Bz (by decide) (by decide)];show _=xQ (EC l x);cases x with
 | nil=>rw[BP.Bu.B8,B9,Ag (by simp),Af]; rfl
 | cons y t =>have:=AdK 8 hl hx h6 t.length 1 8 (by simp; omega) (by simp at h6; omega) (by decide);exact this
theorem BP.BB.Bn:BP.BB.Kn:=BP.BB.D4 .nil BP.Bu.Bn fun x n l hp=>by obtain⟨hl,hp⟩:=Bi.1 (show(Cq l&&Ch (Im (wj l) x=xZ/\wj x<=6/\n=((wj x:Nat):Int)))=xZ from hp);obtain⟨hx,h6,rfl⟩:=Bv.1 hp;refine⟨1,?_⟩;rw[BP.BB.ev,BP.BB.B8,E1,Ag (by omega),Af,show(Cq l&&Ch (Im (wj l) x=xZ/\wj x<=6/\(0:Int)=0/\((wj x:Nat):Int)=((wj x:Nat):Int)))=xZ from Bi.2 ⟨hl,Bv.2 ⟨hx,h6,rfl,rfl⟩⟩,Aa,BP.BB.CT,B9,Ag (by omega),Af];rfl
theorem BP.BF.Bn:BP.BF.Kn:=BP.BF.D4 .nil BP.BB.Bn fun x l hp=>by obtain⟨hl,hp⟩:=Bi.1 (show(Cq l&&Ch (Im (wj l) x=xZ/\wj x<=6))=xZ from hp);obtain⟨hx,h6⟩:=Bv.1 hp;refine⟨0,?_⟩;rw[BP.BF.ev,show(Cq l&&Ch (Im (wj l) x=xZ/\wj x<=6/\((wj x:Nat):Int)=((wj x:Nat):Int)))=xZ from Bi.2 ⟨hl,Bv.2 ⟨hx,h6,rfl⟩⟩,Aa];rfl
def Cx.Ek.GM:List (Nat × Ez):=[(80,compare.XI.Bt),(78,compare.MT.Bt),(68,Bh.Ei.Bt),(81,soft.EZ.Bt),(181,soft.Sign.Bt),(137,Bs.Add.Bt),(82,Bs.Div.Bt),(134,Bs.P8.Bt),(138,Bs.Mul.Bt),(67,Bs.Norm.Bt),(79,Bs.CM.Bt),(139,Bs.Sqrt.Bt),(201,Bs.Sub.Bt)]
def Cx.Ek.live:Nat->Option (List Nat)
 | 2=>xQ [3,8,9,10]
 | 5=>xQ [3,8,9,10,11,13,15]
 | 8=>xQ [8,9,10,15]
 | 11=>xQ [8,22]
 | 12=>xQ [8,22,23]
 | 13=>xQ [8,22,24]
 | 15=>xQ [8,24]
 | _=>xY
def Cx.Ek.E:Env:=D6 (Db Cx.Ek.GM) (fun _=>x5) (fun _=>xY) Cx.Ek.live
section
variable(N:Nat)(r c:Int)(l:Bf)(i k p24_1 p22 p24 p23 b:Int)(p9 p10:Bf)(p11 p13 p15:Int)
def Cx.Ek.C2:Option DV:=cutAt Cx.Ek.E N f169 (Bw f169) [1,1] [] ⟨Fz 114 [(3,.int .u64 b),(8,.ptr 8 0 0),(9,.Bj .BE .u64 p9),(10,.Bj .BE .u64 p10)],[(8,x5,.box [.int .u64 0,.int .u64 0,.bool x5]),(4,x5,.box [.int .i64 r,.int .i64 c,.Bj .arg .u64 l])]⟩
def Cx.Ek.C5:Option DV:=cutAt Cx.Ek.E N f169 (Bw f169) [1,1,1,1,1] [] ⟨Fz 114 [(3,.int .u64 b),(8,.ptr 8 0 0),(9,.Bj .BE .u64 p9),(10,.Bj .BE .u64 p10),(11,.int .u64 p11),(13,.int .u64 p13),(15,.int .u64 p15)],[(8,x5,.box [.int .u64 0,.int .u64 0,.bool x5]),(4,x5,.box [.int .i64 r,.int .i64 c,.Bj .arg .u64 l])]⟩
def Cx.Ek.C8:Option DV:=cutAt Cx.Ek.E N f169 (Bw f169) [1,1,1,1,1,1,1] [] ⟨Fz 114 [(8,.ptr 8 0 0),(9,.Bj .BE .u64 p9),(10,.Bj .BE .u64 p10),(15,.int .u64 p15)],[(8,x5,.box [.int .u64 0,.int .u64 0,.bool x5]),(4,x5,.box [.int .i64 r,.int .i64 c,.Bj .arg .u64 l])]⟩
def Cx.Ek.C11:Option DV:=cutAt Cx.Ek.E N f169 (Bw f169) [1,1,1,1,1,1,1,1,1,1] [] ⟨Fz 114 [(8,.ptr 8 0 0),(22,.int .u64 p22)],[(8,x5,.box [.int .u64 0,.int .u64 0,.bool x5]),(4,x5,.box [.int .i64 r,.int .i64 c,.Bj .arg .u64 l])]⟩
def Cx.Ek.C12:Option DV:=cutAt Cx.Ek.E N f169 (Bw f169) [1,1,1,1,1,1,1,1,1,1,1] [] ⟨Fz 114 [(8,.ptr 8 0 0),(22,.int .u64 p22),(23,.int .u64 p23)],[(8,x5,.box [.int .u64 0,.int .u64 0,.bool x5]),(4,x5,.box [.int .i64 r,.int .i64 c,.Bj .arg .u64 l])]⟩
def Cx.Ek.C13:Option DV:=cutAt Cx.Ek.E N f169 (Bw f169) [1,1,1,1,1,1,1,1,1,1,1,1,0] [] ⟨Fz 114 [(8,.ptr 8 0 0),(22,.int .u64 p22),(24,.int .u64 p24)],[(8,x5,.box [.int .u64 0,.int .u64 0,.bool x5]),(4,x5,.box [.int .i64 r,.int .i64 c,.Bj .arg .u64 l])]⟩
def Cx.Ek.C15:Option DV:=cutAt Cx.Ek.E N f169 (Bw f169) [1,1,1,1,1,1,1,1,1,1,1,1,1] [] ⟨Fz 114 [(8,.ptr 8 0 0),(24,.int .u64 p24_1)],[(8,x5,.box [.int .u64 0,.int .u64 0,.bool x5]),(4,x5,.box [.int .i64 r,.int .i64 c,.Bj .arg .u64 l])]⟩
theorem Cx.Ek.Ah3:Cx.Ek.C2 N r c l b p9 p10=cond (Cq p9&&Ch (wj p9<=64)) (bif (Cq p10&&Ch (wj p10<=64)) then cond ((NI p9 p10&&Bp p9)&&Bp p10) (Cx.Ek.C5 N r c l b p9 p10 (Cb p9) (Cb p10) (Fk p9 p10)) xY else xY) xY:=(DY _ _ _ _ _ _ _).trans (by kernel_rfl)
theorem Cx.Ek.Ah2:Cx.Ek.C5 N r c l b p9 p10 p11 p13 p15=cond (Br p11&&Br p13) (bif (Ew (C0 p11 p13) (-44:Int)) then cond (Br b&&Br p11) (bif ((!(decide (G4 b p11<0)))||(Br b&&Br p13)) then cond (((!(decide (G4 b p11<0)))||(!(decide (G4 b p13<0))))||(Br p15)) (bif (((!(decide (G4 b p11<0)))||(!(decide (G4 b p13<0))))||(Br (BX (C0 p11 p13) (-44:Int))&&Br (KQ p15))) then cond (((!(decide (G4 b p11<0)))||(!(decide (G4 b p13<0))))||(!(decide (G4 (BX (C0 p11 p13) (-44:Int)) (KQ p15)<0)))) (xQ (.agg [.int .u64 0,.int .u64 0,.bool xZ])) (Cx.Ek.C8 N r c l p9 p10 p15) else xY) xY else xY) xY else xY) xY:=
 yS ((DY _ _ _ _ _ _ _).trans (by kernel_rfl))
 (EY (EY (EY (B5 (SU (decide (G4 b p11<0))) (B5 (SU (decide (G4 b p11<0))) (CQ (AlZ _ _) (B5 (OZ (decide (G4 b p11<0))) (B5 (U7 (decide (G4 b p11<0))) (B5 (AeN (decide (G4 b p11<0)) (decide (G4 b p13<0))) (B5 (AeN (decide (G4 b p11<0)) (decide (G4 b p13<0))) (CQ (Ama _ _ _) (CQ (Amb _ _ _) (B5 (AeO (decide (G4 b p11<0)) (decide (G4 b p13<0))) (B5 (AlM (decide (G4 b p11<0)) (decide (G4 b p13<0))) (CQ (Amc _ _ _) rfl rfl))) rfl) rfl))))) rfl))) rfl) rfl) rfl)
theorem Cx.Ek.Ah1:Cx.Ek.C8 N r c l p9 p10 p15=cond ((NI p9 p9&&Bp p9)&&Bp p9) (bif ((NI p10 p10&&Bp p10)&&Bp p10) then cond (Br (Fk p10 p10)&&Br (Fk p9 p9)) (bif (Br p15&&Br p15) then cond (Br (Ej (Fk p10 p10) (Fk p9 p9))&&Br (DM p15 p15)) (Cx.Ek.C11 N r c l (Fl (Ej (Fk p10 p10) (Fk p9 p9)) (DM p15 p15))) xY else xY) xY else xY) xY:=(DY _ _ _ _ _ _ _).trans (by kernel_rfl)
theorem Cx.Ek.Aby:Cx.Ek.C11 N r c l p22=cond (Br p22&&Br p22) (bif (Br 4607182418800017408&&Br (C0 p22 p22)) then cond (Br (DM 4607182418800017408 (C0 p22 p22))) (Cx.Ek.C12 N r c l p22 (DQ (DM 4607182418800017408 (C0 p22 p22)))) xY else xY) xY:=(DY _ _ _ _ _ _ _).trans (by kernel_rfl)
theorem Cx.Ek.Abx:Cx.Ek.C12 N r c l p22 p23=cond (Br p22) (bif (Br (KQ p22)&&Br p23) then cond (Br 4607182418800017408&&Br (DM (KQ p22) p23)) (Cx.Ek.C13 N r c l p22 (Fl 4607182418800017408 (DM (KQ p22) p23))) xY else xY) xY:=(DY _ _ _ _ _ _ _).trans (by kernel_rfl)
theorem Cx.Ek.XE:Cx.Ek.C13 N r c l p22 p24=cond (Br p22) (bif (DX p22) then cond (Br p24) (Cx.Ek.C15 N r c l (C1 p24)) xY else Cx.Ek.C15 N r c l p24) xY:=(DY _ _ _ _ _ _ _).trans (by kernel_rfl)
theorem Cx.Ek.AkX:Cx.Ek.C15 N r c l p24_1=cond (Br p24_1&&Br p24_1) (bif (Br 4607182418800017408&&Br (C0 p24_1 p24_1)) then cond (Br (DM 4607182418800017408 (C0 p24_1 p24_1))) (bif (Br 4607182418800017408&&Br (DQ (DM 4607182418800017408 (C0 p24_1 p24_1)))) then cond (Br (Fl 4607182418800017408 (DQ (DM 4607182418800017408 (C0 p24_1 p24_1))))&&Br p24_1) (xQ (.agg [.int .u64 (Fl 4607182418800017408 (DQ (DM 4607182418800017408 (C0 p24_1 p24_1)))),.int .u64 (C0 (Fl 4607182418800017408 (DQ (DM 4607182418800017408 (C0 p24_1 p24_1)))) p24_1),.bool x5])) xY else xY) xY else xY) xY:=(DY _ _ _ _ _ _ _).trans (by kernel_rfl)
theorem Cx.Ek.ev:Cz Cx.Ek.E N f169 (Bw f169) [.agg [.int .i64 r,.int .i64 c,.Bj .arg .u64 l],.int .i64 i,.int .i64 k,.int .u64 b]=cond (Ht r c l i&&Ch (0<=(0:Int)/\(0:Int)<=r)) (bif (Ht r c l k&&Ch (0<=(0:Int)/\(0:Int)<=r)) then Cx.Ek.C2 N r c l b (Dm c l i 0 (wQ (r-0))) (Dm c l k 0 (wQ (r-0))) else xY) xY :=Et (CQ (CF _) (CQ (CF _) rfl rfl) rfl)
end
def Cx.rounds.hint:Nat->Option BN
 | 0=>xQ { Df:=[2,3,4,6,7,13],Cg:=[],Cr:=[3,4,6,7] }
 | 2=>xQ { Df:=[2,3,4,6,7,9,13,16,17],Cg:=[],Cr:=[3,4,6,7] }
 | 4=>xQ { Df:=[2,3,4,6,7,9,10,11,13,16,17],Cg:=[],Cr:=[3,4,6,7] }
 | _=>xY
def Cx.rounds.E:=D6 (Db [(170,DF.P9.Bt),(81,soft.EZ.Bt),(169,Cx.Ek.Bt)]) (fun _=>x5) Cx.rounds.hint (fun _=>xY)
section
variable(N M0 M1 M:Nat)(r c:Int)(l:Bf)(p q:Int)(m:Bf)(b p11:Int)(p9:Bool)(p3 p4:Bf)(p10 p17_1 p13_2 p17:Int)(p9_1:Bool)(p3_1 p4_1:Bf)(p13_1 p13:Int)(p3_2 p4_2:Bf)
def Cx.rounds.L0:Option DV:=C6 Cx.rounds.E N f127 (Bw f127) [1,0,1,0] [] M ⟨Fz 66 [(2,.int .u64 b),(3,.ptr 3 0 0),(4,.ptr 4 0 0),(6,.ptr 6 0 0),(7,.ptr 7 0 0),(13,.int .i64 p13)],[(3,x5,.box [.int .i64 r,.int .i64 c,.Bj .arg .u64 p3_2]),(4,x5,.box [.int .i64 p,.int .i64 q,.Bj .arg .u64 p4_2]),(6,x5,.box [.int .i64 0,.int .i64 0,.nil]),(7,x5,.box [.int .i64 0,.int .i64 0,.nil])]⟩
def Cx.rounds.L1:Option DV:=C6 Cx.rounds.E N f127 (Bw f127) [1,0,1,0,0,1,1,0,0,0,1,1,0,1,0] [M0] M ⟨Fz 66 [(2,.int .u64 b),(3,.ptr 3 0 0),(4,.ptr 4 0 0),(6,.ptr 6 0 0),(7,.ptr 7 0 0),(9,.bool p9_1),(13,.int .i64 p13_1),(16,.int .i64 c),(17,.int .i64 p17)],[(3,x5,.box [.int .i64 r,.int .i64 c,.Bj .arg .u64 p3_1]),(4,x5,.box [.int .i64 p,.int .i64 q,.Bj .arg .u64 p4_1]),(6,x5,.box [.int .i64 0,.int .i64 0,.nil]),(7,x5,.box [.int .i64 0,.int .i64 0,.nil])]⟩
def Cx.rounds.L2:Option DV:=C6 Cx.rounds.E N f127 (Bw f127) [1,0,1,0,0,1,1,0,0,0,1,1,0,1,0,0,1,1,0,0,1,0,1,0] [M0,M1] M ⟨Fz 66 [(2,.int .u64 b),(3,.ptr 3 0 0),(4,.ptr 4 0 0),(6,.ptr 6 0 0),(7,.ptr 7 0 0),(9,.bool p9),(10,.int .i64 p10),(11,.int .i64 p11),(13,.int .i64 p13_2),(16,.int .i64 c),(17,.int .i64 p17_1)],[(3,x5,.box [.int .i64 r,.int .i64 c,.Bj .arg .u64 p3]),(4,x5,.box [.int .i64 p,.int .i64 q,.Bj .arg .u64 p4]),(6,x5,.box [.int .i64 0,.int .i64 0,.nil]),(7,x5,.box [.int .i64 0,.int .i64 0,.nil])]⟩
theorem Cx.rounds.B8:Cx.rounds.L0 N (M+1) r c p q b p13 p3_2 p4_2=cond (BI p13 60) (Cx.rounds.L1 N M N r c p q b 0 xZ p3_2 p4_2 p13) (xQ (.CR [.agg [.int .i64 r,.int .i64 c,.Bj .arg .u64 p3_2],.agg [.int .i64 p,.int .i64 q,.Bj .arg .u64 p4_2],.int .i64 6])):=by kernel_rfl
theorem Cx.rounds.CT:Cx.rounds.L1 N M0 (M+1) r c p q b p17 p9_1 p3_1 p4_1 p13_1=cond (BI p17 c) (Cx.rounds.L2 N M0 M N r c p q b (Bg (p17+1)) p9_1 p3_1 p4_1 p17 p17 p13_1) (bif p9_1 then xQ (.CR [.agg [.int .i64 r,.int .i64 c,.Bj .arg .u64 p3_1],.agg [.int .i64 p,.int .i64 q,.Bj .arg .u64 p4_1],.int .i64 0]) else Cx.rounds.L0 N M0 r c p q b (Bg (p13_1+1)) p3_1 p4_1):=by kernel_rfl
theorem Cx.rounds.IT:Cx.rounds.L2 N M0 M1 (M+1) r c p q b p11 p9 p3 p4 p10 p17_1 p13_2=cond (BI p11 c) (bif (BA r c p3&&(Bp p3&&(Br b&&Ch (0<=p10/\p10<c/\0<=p11/\p11<c)))) then cond (MW (Du (wQ r) (wQ c) p3 (wQ p10)) (Du (wQ r) (wQ c) p3 (wQ p11)) b) (Cx.rounds.L2 N M0 M1 M r c p q b (Bg (p11+1)) p9 p3 p4 p10 p17_1 p13_2) (bif (Br (trS (Du (wQ r) (wQ c) p3 (wQ p10)) (Du (wQ r) (wQ c) p3 (wQ p11)) b)) then cond (BA r c p3&&(Bp p3&&((Br (trC (Du (wQ r) (wQ c) p3 (wQ p10)) (Du (wQ r) (wQ c) p3 (wQ p11)) b)&&Br (C1 (trS (Du (wQ r) (wQ c) p3 (wQ p10)) (Du (wQ r) (wQ c) p3 (wQ p11)) b)))&&Ch (0<=p10/\p10<c/\0<=p11/\p11<c/\p10≠p11)))) (bif (Br (trS (Du (wQ r) (wQ c) p3 (wQ p10)) (Du (wQ r) (wQ c) p3 (wQ p11)) b)) then cond (BA p q p4&&(Bp p4&&((Br (trC (Du (wQ r) (wQ c) p3 (wQ p10)) (Du (wQ r) (wQ c) p3 (wQ p11)) b)&&Br (C1 (trS (Du (wQ r) (wQ c) p3 (wQ p10)) (Du (wQ r) (wQ c) p3 (wQ p11)) b)))&&Ch (0<=p10/\p10<q/\0<=p11/\p11<q/\p10≠p11)))) (Cx.rounds.L2 N M0 M1 M r c p q b (Bg (p11+1)) x5 (Hs (wQ r) (wQ c) p3 (wQ p10) (wQ p11) (trC (Du (wQ r) (wQ c) p3 (wQ p10)) (Du (wQ r) (wQ c) p3 (wQ p11)) b) (C1 (trS (Du (wQ r) (wQ c) p3 (wQ p10)) (Du (wQ r) (wQ c) p3 (wQ p11)) b))) (Hs (wQ p) (wQ q) p4 (wQ p10) (wQ p11) (trC (Du (wQ r) (wQ c) p3 (wQ p10)) (Du (wQ r) (wQ c) p3 (wQ p11)) b) (C1 (trS (Du (wQ r) (wQ c) p3 (wQ p10)) (Du (wQ r) (wQ c) p3 (wQ p11)) b))) p10 p17_1 p13_2) xY else xY) xY else xY) else xY) (Cx.rounds.L1 N M0 M1 r c p q b (Bg (p17_1+1)) p9 p3 p4 p13_2) :=Et (EY (EY (EY rfl (CQ (CF _) (CQ (CF _) (CQ (CF _) (CQ (CF _) rfl rfl) rfl) rfl) rfl)) rfl) rfl)
theorem Cx.rounds.ev:Cz Cx.rounds.E N f127 (Bw f127) [.agg [.int .i64 r,.int .i64 c,.Bj .arg .u64 l],.agg [.int .i64 p,.int .i64 q,.Bj .arg .u64 m],.int .u64 b]=
 Cx.rounds.L0 N N r c p q b 0 l m:=by kernel_rfl
end
def Cx.CG.hint:Nat->Option BN
 | 0=>xQ { Df:=[1,4,5,14,15,16],Cg:=[(6,2,106002,.Bj 43 .u64 [])],Cr:=[4,5] }
 | _=>xY
def Cx.CG.E:=D6 (Db [(79,Bs.CM.Bt)]) (fun _=>x5) Cx.CG.hint (fun _=>xY)
section
variable(N M:Nat)(r c:Int)(l:Bf)(k p16:Int)(p2:Bf)
def Cx.CG.L0:Option DV:=C6 Cx.CG.E N f125 (Bw f125) [1,1,0,1,0] [] M ⟨Fz 30 [(1,.int .i64 k),(4,.ptr 4 0 0),(5,.ptr 5 0 0),(14,.Bj .arg .u64 l),(15,.int .i64 (wj l:Int)),(16,.int .i64 p16)],[(4,x5,.box [.int .i64 0,.int .i64 0,.nil]),(5,x5,.box [.int .i64 r,.int .i64 c,.Dh 106002]),(106002,x5,.Bj 43 .u64 p2)]⟩
theorem Cx.CG.B8:Cx.CG.L0 N (M+1) r c l k p16 p2=cond (BI p16 (wj l:Int)) (bif ((decide (0<=p16))&&(decide (p16<(wj l:Int)))) then cond (Ew (wt l (wQ p16) 0) k) (bif (decide ((wj p2)+1<=G2)) then Cx.CG.L0 N M r c l k (Bg (p16+1)) (p2++[(BX (wt l (wQ p16) 0) k)]) else xY) xY else xY) (xQ (.agg [.int .i64 r,.int .i64 c,.Bj (.own 106002 43) .u64 p2])) :=Et (EY (EY (CQ (CF _) (CQ (CF _) rfl rfl) rfl) rfl) rfl)
theorem Cx.CG.ev:Cz Cx.CG.E N f125 (Bw f125) [.agg [.int .i64 r,.int .i64 c,.Bj .arg .u64 l],.int .i64 k]=
 Cx.CG.L0 N N r c l k 0 []:=by kernel_rfl
end
def Cx.at.hint:Nat->Option BN
 | 0=>xQ { Df:=[1,2,4,5,15,16],Cg:=[(6,2,106002,.Bj 43 .u64 [])],Cr:=[2,4,5] }
 | 2=>xQ { Df:=[1,2,4,5,6,15,16,19,20,21],Cg:=[(6,2,106002,.Bj 43 .u64 [])],Cr:=[2,4,5] }
 | _=>xY
def Cx.at.E:=D6 (Db []) (fun _=>x5) Cx.at.hint (fun _=>xY)
section
variable(N M0 M:Nat)(r c:Int)(l x:Bf)(p6 p16_1 p21:Int)(p2:Bf)(p16:Int)(p2_1:Bf)
def Cx.at.L0:Option DV:=C6 Cx.at.E N f132 (Bw f132) [1,1,0,1,0] [] M ⟨Fz 43 [(1,.Bj .arg .i64 x),(2,.ptr 2 0 0),(4,.ptr 4 0 0),(5,.ptr 5 0 0),(15,.int .i64 r),(16,.int .i64 p16)],[(2,x5,.box [.int .i64 r,.int .i64 c,.Bj .arg .u64 l]),(4,x5,.box [.int .i64 0,.int .i64 0,.nil]),(5,x5,.box [.int .i64 r,.int .i64 c,.Dh 106002]),(106002,x5,.Bj 43 .u64 p2_1)]⟩
def Cx.at.L1:Option DV:=C6 Cx.at.E N f132 (Bw f132) [1,1,0,1,0,0,1,1,0,0,1,1,0] [M0] M ⟨Fz 43 [(1,.Bj .arg .i64 x),(2,.ptr 2 0 0),(4,.ptr 4 0 0),(5,.ptr 5 0 0),(6,.int .i64 p6),(15,.int .i64 r),(16,.int .i64 p16_1),(19,.Bj .arg .i64 x),(20,.int .i64 (wj x:Int)),(21,.int .i64 p21)],[(2,x5,.box [.int .i64 r,.int .i64 c,.Bj .arg .u64 l]),(4,x5,.box [.int .i64 0,.int .i64 0,.nil]),(5,x5,.box [.int .i64 r,.int .i64 c,.Dh 106002]),(106002,x5,.Bj 43 .u64 p2)]⟩
theorem Cx.at.B8:Cx.at.L0 N (M+1) r c l x p16 p2_1=cond (BI p16 r) (Cx.at.L1 N M N r c l x p16 p16 0 p2_1) (xQ (.agg [.int .i64 r,.int .i64 c,.Bj (.own 106002 43) .u64 p2_1])):=by kernel_rfl
theorem Cx.at.CT:Cx.at.L1 N M0 (M+1) r c l x p6 p16_1 p21 p2=cond (BI p21 (wj x:Int)) (bif ((decide (0<=p21))&&(decide (p21<(wj x:Int)))) then cond ((decide (0<=(Bg ((Bg (p6*c))+(wt x (wQ p21) 0)))))&&(decide ((Bg ((Bg (p6*c))+(wt x (wQ p21) 0)))<(wj l:Int)))) (bif (decide ((wj p2)+1<=G2)) then Cx.at.L1 N M0 M r c l x p6 p16_1 (Bg (p21+1)) (p2++[(wt l (wQ (Bg ((Bg (p6*c))+(wt x (wQ p21) 0)))) 0)]) else xY) xY else xY) (Cx.at.L0 N M0 r c l x (Bg (p16_1+1)) p2) :=Et (EY (EY (CQ (IW _ _) (CQ (CF _) rfl rfl) rfl) rfl) rfl)
theorem Cx.at.ev:Cz Cx.at.E N f132 (Bw f132) [.agg [.int .i64 r,.int .i64 c,.Bj .arg .u64 l],.Bj .arg .i64 x]=
 Cx.at.L0 N N r c l x 0 []:=by kernel_rfl
end
def Cx.G8.hint:Nat->Option BN
 | 0=>xQ { Df:=[1,3,8,9],Cg:=[(0,3,100003,.Bj 43 .u64 [])],Cr:=[1] }
 | _=>xY
def Cx.G8.E:=D6 (Db [(68,Bh.Ei.Bt),(67,Bs.Norm.Bt)]) (fun _=>x5) Cx.G8.hint (fun _=>xY)
section
variable(N M:Nat)(r c:Int)(l:Bf)(p9:Int)(p3:Bf)
def Cx.G8.L0:Option DV:=C6 Cx.G8.E N f128 (Bw f128) [1,1,0,1,0] [] M ⟨Fz 25 [(1,.ptr 1 0 0),(3,.Dh 100003),(8,.int .i64 c),(9,.int .i64 p9)],[(1,x5,.box [.int .i64 r,.int .i64 c,.Bj .arg .u64 l]),(100003,x5,.Bj 43 .u64 p3)]⟩
theorem Cx.G8.B8:Cx.G8.L0 N (M+1) r c l p9 p3=cond (BI p9 c) (bif (Ht r c l p9&&Ch (0<=(0:Int)/\(0:Int)<=r)) then cond (Cq (Dm c l p9 0 (wQ (r-0)))&&Ch (wj (Dm c l p9 0 (wQ (r-0)))<=64)) (bif (decide ((wj p3)+1<=G2)) then Cx.G8.L0 N M r c l (Bg (p9+1)) (p3++[(Cb (Dm c l p9 0 (wQ (r-0))))]) else xY) xY else xY) (xQ (.Bj (.own 100003 43) .u64 p3)):=by kernel_rfl
theorem Cx.G8.ev:Cz Cx.G8.E N f128 (Bw f128) [.agg [.int .i64 r,.int .i64 c,.Bj .arg .u64 l]]=
 Cx.G8.L0 N N r c l 0 []:=by kernel_rfl
end
def Cx.BY.hint:Nat->Option BN
 | 0=>xQ { Df:=[2,3,6,9,10,56,57],Cg:=[(0,10,100010,.Bj 3 .i64 [])],Cr:=[2,3,9] }
 | _=>xY
def Cx.BY.GM:List (Nat × Ez):=[(69,DS.Check.Bt),(123,compare.MZ.Bt),(126,Bh.IV.Bt),(132,Cx.at.Bt),(128,Cx.G8.Bt),(127,Cx.rounds.Bt),(125,Cx.CG.Bt),(124,Bs.DT.Bt),(66,Bs.Finite.Bt),(67,Bs.Norm.Bt),(79,Bs.CM.Bt)]
def Cx.BY.live:Nat->Option (List Nat)
 | 5=>xQ [1,2,3,6]
 | 8=>xQ [1,2,3,6,7]
 | 11=>xQ [1,2,3,6]
 | 18=>xQ [2,3,6,9,10]
 | 20=>xQ [2,3]
 | _=>xY
def Cx.BY.E:Env:=Uh (Db Cx.BY.GM) (fun _=>x5) Cx.BY.hint Cx.BY.live (wr1 129 (XK tI .i64 BP.BF.ts BP.BF.pre BP.BF.Tx)) 0
section
variable(N M:Nat)(r c:Int)(l:Bf)(p6 p7 p3 p3_1:Int)(p3_3 p2_1:Bf)(p57:Int)(p10 p3_2 p2:Bf)
def Cx.BY.C5:Option DV:=cutAt Cx.BY.E N f64 (Bw f64) [1,1,1] [] ⟨Fz 92 [(1,.ptr 1 0 0),(2,.ptr 2 0 0),(3,.ptr 3 0 0),(6,.int .i64 p6)],[(3,x5,.box [.int .i64 0,.int .i64 0,.nil]),(2,x5,.box [.int .i64 0,.int .i64 0,.nil]),(1,x5,.box [.int .i64 r,.int .i64 c,.Bj .arg .u64 l])]⟩
def Cx.BY.C8:Option DV:=cutAt Cx.BY.E N f64 (Bw f64) [1,1,1,1,1,1,0] [] ⟨Fz 92 [(1,.ptr 1 0 0),(2,.ptr 2 0 0),(3,.ptr 3 0 0),(6,.int .i64 p6),(7,.int .u64 p7)],[(3,x5,.box [.int .i64 p3,.int .i64 p3_1,.Bj .BE .u64 p3_2]),(2,x5,.box [.int .i64 r,.int .i64 c,.Bj .arg .u64 p2]),(1,x5,.box [.int .i64 r,.int .i64 c,.Bj .arg .u64 l])]⟩
def Cx.BY.C11:Option DV:=cutAt Cx.BY.E N f64 (Bw f64) [1,1,1,1,1,1,1] [] ⟨Fz 92 [(1,.ptr 1 0 0),(2,.ptr 2 0 0),(3,.ptr 3 0 0),(6,.int .i64 p6)],[(1,x5,.box [.int .i64 r,.int .i64 c,.Bj .arg .u64 l]),(3,x5,.box [.int .i64 p3,.int .i64 p3_1,.Bj .arg .u64 p3_3]),(2,x5,.box [.int .i64 r,.int .i64 c,.Bj .arg .u64 p2_1])]⟩
def Cx.BY.L0:Option DV:=C6 Cx.BY.E N f64 (Bw f64) [1,1,1,1,1,1,1,1,1,0,1,0] [] M ⟨Fz 92 [(2,.ptr 2 0 0),(3,.ptr 3 0 0),(6,.int .i64 p6),(9,.ptr 9 0 0),(10,.Dh 100010),(56,.int .i64 c),(57,.int .i64 p57)],[(2,x5,.box [.int .i64 r,.int .i64 c,.Bj .arg .u64 p2_1]),(3,x5,.box [.int .i64 p3,.int .i64 p3_1,.Bj .arg .u64 p3_3]),(9,x5,.box [.Bj .BE .u64 (CX (wQ r) (wQ c) p2_1)]),(100010,x5,.Bj 3 .i64 p10)]⟩
def Cx.BY.C18:Option DV:=cutAt Cx.BY.E N f64 (Bw f64) [1,1,1,1,1,1,1,1,1,1] [] ⟨Fz 92 [(2,.ptr 2 0 0),(3,.ptr 3 0 0),(6,.int .i64 p6),(9,.ptr 9 0 0),(10,.Dh 100010)],[(2,x5,.box [.int .i64 r,.int .i64 c,.Bj .arg .u64 p2_1]),(3,x5,.box [.int .i64 p3,.int .i64 p3_1,.Bj .arg .u64 p3_3]),(9,x5,.box [.Bj .BE .u64 (CX (wQ r) (wQ c) p2_1)]),(100010,x5,.Bj 3 .i64 p10)]⟩
def Cx.BY.C20:Option DV:=cutAt Cx.BY.E N f64 (Bw f64) [1,1,1,1,1,1,1,1,1,1,1,1,0] [] ⟨Fz 92 [(2,.ptr 2 0 0),(3,.ptr 3 0 0)],[(2,x5,.box [.int .i64 r,.int .i64 c,.Bj .arg .u64 (B6 (Dz (wQ r) (wQ c) p2_1 (EC (CX (wQ r) (wQ c) p2_1) p10)) p6)]),(3,x5,.box [.int .i64 p3,.int .i64 p3_1,.Bj .BE .u64 (Dz (wQ p3) (wQ p3_1) p3_3 (EC (CX (wQ r) (wQ c) p2_1) p10))]),(9,x5,.box [.Bj .BE .u64 (CX (wQ r) (wQ c) p2_1)]),(100010,x5,.Bj 3 .i64 (EC (CX (wQ r) (wQ c) p2_1) p10))]⟩
theorem Cx.BY.Ah2:Cx.BY.C5 N r c l p6=cond (Cq l&&Ch (wj l<=1000/\-2300<=(Bg (0-p6))/\(Bg (0-p6))<=2300)) (bif (Cq (B6 l (Bg (0-p6)))&&Ch (wj (B6 l (Bg (0-p6)))<=64)) then Cx.BY.C8 N r c l p6 (Cb (B6 l (Bg (0-p6)))) ((KR c).1) ((KR c).2.1) ((KR c).2.2.1) (B6 l (Bg (0-p6))) else xY) xY:=(DY _ _ _ _ _ _ _).trans (by kernel_rfl)
theorem Cx.BY.Ah1:Cx.BY.C8 N r c l p6 p7 p3 p3_1 p3_2 p2=cond (Ew p7 (-44:Int)) (bif ((BA r c p2&&BA p3 p3_1 p3_2)&&((Bp p2&&Bp p3_2)&&(Br (BX p7 (-44:Int))&&Ch (p3=c/\p3_1=c)))) then cond (((DL (wQ r) (wQ c) (BX p7 (-44:Int)) 60 p2 p3_2).2.2) !=(0:Int)) (xQ (.CR [.agg [.int .i64 0,.int .i64 0,.nil],.agg [.int .i64 0,.int .i64 0,.nil],.nil,.int .i64 ((DL (wQ r) (wQ c) (BX p7 (-44:Int)) 60 p2 p3_2).2.2)])) (Cx.BY.C11 N r c l p6 p3 p3_1 ((DL (wQ r) (wQ c) (BX p7 (-44:Int)) 60 p2 p3_2).2.1) ((DL (wQ r) (wQ c) (BX p7 (-44:Int)) 60 p2 p3_2).1)) else xY) xY:=
 yS ((DY _ _ _ _ _ _ _).trans (by kernel_rfl))
 (CQ (CF _) (CQ (CF _) rfl rfl) rfl)
theorem Cx.BY.Aby:Cx.BY.C11 N r c l p6 p3 p3_1 p3_3 p2_1=cond (BA r c p2_1&&Bp p2_1) (Cx.BY.L0 N N r c p6 p3 p3_1 p3_3 p2_1 0 []) xY:=(DY _ _ _ _ _ _ _).trans (by kernel_rfl)
theorem Cx.BY.B8:Cx.BY.L0 N (M+1) r c p6 p3 p3_1 p3_3 p2_1 p57 p10=cond (BI p57 c) (bif (decide ((wj p10)+1<=G2)) then Cx.BY.L0 N M r c p6 p3 p3_1 p3_3 p2_1 (Bg (p57+1)) (p10++[p57]) else xY) (Cx.BY.C18 N r c p6 p3 p3_1 p3_3 p2_1 p10):=by kernel_rfl
theorem Cx.BY.Abv:Cx.BY.C18 N r c p6 p3 p3_1 p3_3 p2_1 p10=cond (Cq (CX (wQ r) (wQ c) p2_1)&&Ch (Im (wj (CX (wQ r) (wQ c) p2_1)) p10=xZ/\wj p10<=6)) (bif (BA r c p2_1&&Ch (((wj (EC (CX (wQ r) (wQ c) p2_1) p10):Nat):Int)=c/\Im (wQ c) (EC (CX (wQ r) (wQ c) p2_1) p10)=xZ)) then cond (Cq (Dz (wQ r) (wQ c) p2_1 (EC (CX (wQ r) (wQ c) p2_1) p10))&&Ch (wj (Dz (wQ r) (wQ c) p2_1 (EC (CX (wQ r) (wQ c) p2_1) p10))<=1000/\-2300<=p6/\p6<=2300)) (bif (BA p3 p3_1 p3_3&&Ch (((wj (EC (CX (wQ r) (wQ c) p2_1) p10):Nat):Int)=p3_1/\Im (wQ p3_1) (EC (CX (wQ r) (wQ c) p2_1) p10)=xZ)) then Cx.BY.C20 N r c p6 p3 p3_1 p3_3 p2_1 p10 else xY) xY else xY) xY:=
 yS ((DY _ _ _ _ _ _ _).trans (by kernel_rfl))
 (EY (CQ (CF _) (CQ (CF _) (CQ (CF _) rfl rfl) rfl) rfl) rfl)
theorem Cx.BY.AkU:Cx.BY.C20 N r c p6 p3 p3_1 p3_3 p2_1 p10=cond (Cq (B6 (Dz (wQ r) (wQ c) p2_1 (EC (CX (wQ r) (wQ c) p2_1) p10)) p6)) (bif ((!(DA (B6 (Dz (wQ r) (wQ c) p2_1 (EC (CX (wQ r) (wQ c) p2_1) p10)) p6)))||(Cq (Dz (wQ p3) (wQ p3_1) p3_3 (EC (CX (wQ r) (wQ c) p2_1) p10)))) then cond ((!(DA (B6 (Dz (wQ r) (wQ c) p2_1 (EC (CX (wQ r) (wQ c) p2_1) p10)) p6)))||(!(DA (Dz (wQ p3) (wQ p3_1) p3_3 (EC (CX (wQ r) (wQ c) p2_1) p10))))) (xQ (.CR [.agg [.int .i64 0,.int .i64 0,.nil],.agg [.int .i64 0,.int .i64 0,.nil],.nil,.int .i64 2])) (bif (BA r c (B6 (Dz (wQ r) (wQ c) p2_1 (EC (CX (wQ r) (wQ c) p2_1) p10)) p6)&&Bp (B6 (Dz (wQ r) (wQ c) p2_1 (EC (CX (wQ r) (wQ c) p2_1) p10)) p6)) then xQ (.CR [.agg [.int .i64 r,.int .i64 c,.Bj .arg .u64 (B6 (Dz (wQ r) (wQ c) p2_1 (EC (CX (wQ r) (wQ c) p2_1) p10)) p6)],.agg [.int .i64 p3,.int .i64 p3_1,.Bj .BE .u64 (Dz (wQ p3) (wQ p3_1) p3_3 (EC (CX (wQ r) (wQ c) p2_1) p10))],.Bj .BE .u64 (CX (wQ r) (wQ c) (B6 (Dz (wQ r) (wQ c) p2_1 (EC (CX (wQ r) (wQ c) p2_1) p10)) p6)),.int .i64 0]) else xY) else xY) xY:=
 yS ((DY _ _ _ _ _ _ _).trans (by kernel_rfl))
 (EY (B5 (SU (DA (B6 (Dz (wQ r) (wQ c) p2_1 (EC (CX (wQ r) (wQ c) p2_1) p10)) p6))) (B5 (OZ (DA (B6 (Dz (wQ r) (wQ c) p2_1 (EC (CX (wQ r) (wQ c) p2_1) p10)) p6))) (CQ (AcI _ _) (B5 (OZ (DA (B6 (Dz (wQ r) (wQ c) p2_1 (EC (CX (wQ r) (wQ c) p2_1) p10)) p6))) (B5 (U7 (DA (B6 (Dz (wQ r) (wQ c) p2_1 (EC (CX (wQ r) (wQ c) p2_1) p10)) p6))) (CQ (AeP _ _) rfl (CQ (CF _) rfl rfl)))) rfl))) rfl)
theorem Cx.BY.ev:Cz Cx.BY.E N f64 (Bw f64) [.agg [.int .i64 r,.int .i64 c,.Bj .arg .u64 l]]=cond (Bp l) (bif ((BU r c l) !=(0:Int)) then xQ (.CR [.agg [.int .i64 0,.int .i64 0,.nil],.agg [.int .i64 0,.int .i64 0,.nil],.nil,.int .i64 (BU r c l)]) else bif (Cq l) then cond (Br (BK l)) (Cx.BY.C5 N r c l (BQ (BK l))) xY else xY) xY:=by kernel_rfl
end
abbrev Cx.BY.Kn:=Ey prog 64 Cx.BY.Bt
theorem Cx.BY.D4(hk:Ff prog Cx.BY.GM)(hw:BP.BF.Kn)(h:Hyp Cx.BY.E f64 Cx.BY.ts Cx.BY.pre Cx.BY.out):Cx.BY.Kn :=FO (SG hk (ZD hw) _ _ _ _) func64 (by kernel_rfl) (by kernel_rfl) h
theorem Pm:Br (4607182418800017408:Int)=xZ:=WN
theorem XQ(N:Nat)(r c:Int)(l:Bf){t:Int}(ht:Br t=xZ):Cx.Ek.C15 N r c l t=xQ (.agg [.int .u64 (EP t),.int .u64 (Es t),.bool x5]):=by have h1:Br (DM (4607182418800017408:Int) (C0 t t))=xZ:=P5 Pm (F8 _ _);rw[Cx.Ek.AkX,ht,Ah,Aa,Pm,F8,Ah,Aa,h1,Aa,Su h1,Ah,Aa,NL,Ah,Aa];rfl
theorem AeK(N:Nat)(r c:Int)(l:Bf){z:Int}(hz:Br z=xZ):Cx.Ek.C11 N r c l z=xQ (.agg [.int .u64 (EP (KX z)),.int .u64 (Es (KX z)),.bool x5]):=by
 have h1:Br (DM (4607182418800017408:Int) (C0 z z))=xZ:=P5 Pm (F8 _ _);have h2:=Su h1;have h3:Br (DM (KQ z) (DQ (DM (4607182418800017408:Int) (C0 z z))))=xZ:=P5 (WX z) h2;rw[Cx.Ek.Aby,hz,Ah,Aa,Pm,F8,Ah,Aa,h1,Aa,Cx.Ek.Abx,hz,Aa,WX,h2,Ah,Aa,Pm,h3,Ah,Aa,Cx.Ek.XE,hz,Aa,NL,Aa]
 have e:KX z=cond (DX z) (C1 (Fl (4607182418800017408:Int) (DM (KQ z) (DQ (DM (4607182418800017408:Int) (C0 z z)))))) (Fl (4607182418800017408:Int) (DM (KQ z) (DQ (DM (4607182418800017408:Int) (C0 z z))))):=by unfold KX SR Ty;cases DX z<;>rfl
 rw[e];cases DX z with
 | true=>rw[Aa,Aa]; exact XQ N r c l (Qh (NL _ _))
 | false=>rw[Af,Af]; exact XQ N r c l (NL _ _)
theorem AaO{x y:Bf}(hx:Bp x=xZ)(hy:Bp y=xZ)(h:x.length=y.length)(h6:x.length<=6):((NI x y&&Bp x)&&Bp y)=xZ:=by unfold NI;rw[Ac h,Ac (by omega),hx,hy]; rfl
theorem WO{x:Bf}(hx:Bp x=xZ)(h6:x.length<=6):(Cq x&&Ch (wj x<=64))=xZ:=Bi.2 ⟨Gf hx (by omega),Bv.2 (by omega)⟩
theorem AhH(N:Nat)(r c:Int)(l:Bf){b:Int}(hb:Br b=xZ){x y:Bf}(hx:Bp x=xZ)(hy:Bp y=xZ)(h:x.length=y.length)(h6:x.length<=6):
 Cx.Ek.C2 N r c l b x y=xQ (.agg [.int .u64 (trC x y b),.int .u64 (trS x y b),.bool (MW x y b)]):=by
 have f:=AaO hx hy h h6;have sc:Ew (C0 (Cb x) (Cb y)) (-44:Int)=xZ:=Bi.2 ⟨F8 _ _,Bv.2 (by decide)⟩;have eb:(((!(decide (G4 b (Cb x)<0)))||(!(decide (G4 b (Cb y)<0))))||(!(decide (G4 (BX (C0 (Cb x) (Cb y)) (-44:Int)) (KQ (Fk x y))<0))))=MW x y b:=rfl;rw[Cx.Ek.Ah3,WO hx h6,Aa,WO hy (by omega),Aa,f,Aa,Cx.Ek.Ah2,Kd,Kd,Ah,Aa,sc,Aa,hb,Ah,Aa,AV,Aa,Ie,AV,Aa,Gi (F8 _ _),WX,Ah,AV,Aa,eb];unfold trC trS;cases MW x y b with
 | true=>rw[Aa]; rfl
 | false =>rw[Af,Cx.Ek.Ah1,AaO hx hx rfl h6,Aa,AaO hy hy rfl (by omega),Aa,Ie,Ie,Ah,Aa,Ie,Ah,Aa,Pc (Ie _ _) (Ie _ _),P5 (Ie _ _) (Ie _ _),Ah,Aa];exact AeK N r c l (NL _ _)
theorem Cx.Ek.Bn:Kq 169 Cx.Ek.Bt:=ED Cx.Ek.E Tryz.func169 (kc compare.XI.Bn (kc compare.MT.Bn (kc Bh.Ei.Bn (kc soft.EZ.Bn (kc soft.Sign.Bn (kc Bs.Add.Bn (kc Bs.Div.Bn (kc Bs.P8.Bn (kc Bs.Mul.Bn (kc Bs.Norm.Bn (kc Bs.CM.Bn (kc Bs.Sqrt.Bn (kc Bs.Sub.Bn .nil))))))))))))) fun r c l i k b hp=>by
 obtain⟨hr,hp⟩:=Bi.1 (show(BA r c l&&(Bp l&&(Br b&&Ch (0<=i/\i<c/\0<=k/\k<c))))=xZ from hp);obtain⟨al,hp⟩:=Bi.1 hp;obtain⟨hb,hp⟩:=Bi.1 hp;obtain⟨i0,i1,k0,k1⟩:=Bv.1 hp;obtain⟨R,C,rfl,rfl,r6,c6,hl⟩:=D9 hr;obtain⟨i,rfl⟩:∃j:Nat,i=j:=⟨i.toNat,by omega⟩
 obtain⟨k,rfl⟩:∃j:Nat,k=j:=⟨k.toNat,by omega⟩
 have z:Ch (0<=(0:Int)/\(0:Int)<=(R:Int))=xZ:=Bv.2 ⟨yI _,by omega⟩;have cp:∀j:Nat,(j:Int)<(C:Int)->Ht (R:Int) (C:Int) l (j:Int)=xZ:=fun j hj=>Bi.2 ⟨hr,Bv.2 (by omega)⟩
 refine⟨0,.agg [.int .u64 (trC (Du R C l i) (Du R C l k) b),.int .u64 (trS (Du R C l i) (Du R C l k) b),.bool (MW (Du R C l i) (Du R C l k) b)],[],?_,Wk.GQ (.cons .int (.cons .int (.cons .bool .nil)))⟩;rw[Cx.Ek.ev,cp i i1,z,Ah,Aa,cp k k1,Ah,Aa,show wQ ((R:Int)-(0:Int))=R by omega];exact AhH 0 _ _ _ hb (Ji al) (Ji al) (by rw[DO,DO]) (by rw[DO]; exact r6)
section
variable{R C:Nat}{b:Int}(r6:R<=6)(c6:C<=6)(hb:Br b=xZ)(N:Nat)
include r6 c6 hb
theorem Adb{M0 M1:Nat}{p:Nat}{p13:Int}:∀(d q F:Nat) (s:Bf × Bf × Bool),q+d=C->d<F->p<q->HI R C s ->
 Cx.rounds.L2 N M0 M1 F (R:Int) (C:Int) (C:Int) (C:Int) b (q:Int) s.2.2 s.1 s.2.1 (p:Int) (p:Int) p13=
  Cx.rounds.L1 N M0 M1 (R:Int) (C:Int) (C:Int) (C:Int) b (((p+1:Nat):Int)) (KP MW R C b p d q s).2.2 (KP MW R C b p d q s).1 (KP MW R C b p d q s).2.1 p13:=by
 intro d
 induction d with
 | zero =>
   intro q F s hq hF SC hs;obtain⟨F,rfl⟩:∃G,F=G+1:=⟨F-1,by omega⟩
   rw[Cx.rounds.IT,B9,Ag (by omega),Af,Bz (by omega) (by omega)];rfl
 | succ d ih =>
   intro q F s hq hF SC hs;obtain⟨F,rfl⟩:∃G,F=G+1:=⟨F-1,by omega⟩
   have hr:=D3 r6 c6 hs.1.1;have hv:=D3 c6 c6 hs.2.1
   have t1:(BA (R:Int) (C:Int) s.1&&(Bp s.1&&(Br b&&Ch (0<=(p:Int)/\(p:Int)<(C:Int)/\0<=(q:Int)/\(q:Int)<(C:Int)))))=xZ :=Bi.2 ⟨hr,Bi.2 ⟨hs.1.2,Bi.2 ⟨hb,Bv.2 (by omega)⟩⟩⟩
   have cq:Ch (0<=(p:Int)/\(p:Int)<(C:Int)/\0<=(q:Int)/\(q:Int)<(C:Int)/\(p:Int)≠(q:Int))=xZ:=Bv.2 (by omega);have hn:=ih (q+1) F (Go.Ck.J1 MW R C b p q s) (by omega) (by omega) (by omega) hs.J1;rw[Cx.rounds.IT,B9,Ac (by omega),Aa,t1,Aa];simp only[Ad];rw[Bz (by omega) (by omega)];show _=Cx.rounds.L1 N M0 M1 (R:Int) (C:Int) (C:Int) (C:Int) b (((p+1:Nat):Int)) (KP MW R C b p d (q+1) (Go.Ck.J1 MW R C b p q s)).2.2 (KP MW R C b p d (q+1) (Go.Ck.J1 MW R C b p q s)).1 (KP MW R C b p d (q+1) (Go.Ck.J1 MW R C b p q s)).2.1 p13;rw[<- hn];unfold Go.Ck.J1;cases hbe:MW (Du R C s.1 p) (Du R C s.1 q) b with
   | true=>rw[Aa,Az rfl]; rfl
   | false =>
     have iS:Br (trS (Du R C s.1 p) (Du R C s.1 q) b)=xZ:=by unfold trS; rw[hbe]; exact F8 _ _
     have iC:Br (trC (Du R C s.1 p) (Du R C s.1 q) b)=xZ:=by unfold trC; rw[hbe]; exact NL _ _
     rw[Af,iS,Aa,hr,hs.1.2,iC,Qh iS,cq,Ah,Ah,Ah,Ah,Aa,Aa,hv,hs.2.2,Ah,Ah,Aa,Ay (by decide)];have eC:trC (Du R C s.1 p) (Du R C s.1 q) b=EP (KX (OG (Du R C s.1 p) (Du R C s.1 q))):=by unfold trC; rw[hbe]; rfl
     have eS:trS (Du R C s.1 p) (Du R C s.1 q) b=Es (KX (OG (Du R C s.1 p) (Du R C s.1 q))):=by unfold trS; rw[hbe]; rfl
     rw[eC,eS];rfl
theorem Adc{M0:Nat}{p13:Int}(hN:6<N):∀(d p F:Nat) (s:Bf × Bf × Bool),p+d=C->d<F->HI R C s ->
 Cx.rounds.L1 N M0 F (R:Int) (C:Int) (C:Int) (C:Int) b (p:Int) s.2.2 s.1 s.2.1 p13=
  bif (Go.Ck.ID MW R C b d p s).2.2 then xQ (.CR [.agg [.int .i64 (R:Int),.int .i64 (C:Int),.Bj .arg .u64 (Go.Ck.ID MW R C b d p s).1],.agg [.int .i64 (C:Int),.int .i64 (C:Int),.Bj .arg .u64 (Go.Ck.ID MW R C b d p s).2.1],.int .i64 (0:Int)])
  else Cx.rounds.L0 N M0 (R:Int) (C:Int) (C:Int) (C:Int) b (Bg (p13+(1:Int))) (Go.Ck.ID MW R C b d p s).1 (Go.Ck.ID MW R C b d p s).2.1:=by
 intro d
 induction d with
 | zero =>
   intro p F s hp hF hs;obtain⟨F,rfl⟩:∃G,F=G+1:=⟨F-1,by omega⟩
   rw[Cx.rounds.CT,B9,Ag (by omega),Af];rfl
 | succ d ih =>
   intro p F s hp hF hs;obtain⟨F,rfl⟩:∃G,F=G+1:=⟨F-1,by omega⟩
   have h2:=Adb r6 c6 hb N (M0:=M0) (M1:=F) (p:=p) (p13:=p13) (C-(p+1)) (p+1) N s (by omega) (by omega) (by omega) hs;rw[Cx.rounds.CT,B9,Ac (by omega),Aa,Bz (by omega) (by omega)];refine h2.trans ?_;exact ih (p+1) F (KP MW R C b p (C-(p+1)) (p+1) s) (by omega) (by omega) (HI.KP _ _ hs)
theorem Ade(hN:6<N):∀(m F:Nat) (w v:Bf),m<=60->m<F->HI R C (w,v,xZ) ->
 Cx.rounds.L0 N F (R:Int) (C:Int) (C:Int) (C:Int) b ((60-m:Nat):Int) w v=
  xQ (.CR [.agg [.int .i64 (R:Int),.int .i64 (C:Int),.Bj .arg .u64 (Go.Ck.DL R C b m w v).1],.agg [.int .i64 (C:Int),.int .i64 (C:Int),.Bj .arg .u64 (Go.Ck.DL R C b m w v).2.1],.int .i64 (Go.Ck.DL R C b m w v).2.2]):=by
 intro m
 induction m with
 | zero =>
   intro F w v hm hF hs;obtain⟨F,rfl⟩:∃G,F=G+1:=⟨F-1,by omega⟩
   rw[Cx.rounds.B8,B9,Ag (by omega),Af];rfl
 | succ m ih =>
   intro F w v hm hF hs;obtain⟨F,rfl⟩:∃G,F=G+1:=⟨F-1,by omega⟩
   have h1:=Adc r6 c6 hb N (M0:=F) (p13:=((60-(m+1):Nat):Int)) hN C 0 N (w,v,xZ) (by omega) (by omega) hs;rw[Cx.rounds.B8,B9,Ac (by omega),Aa];refine h1.trans ?_;have g:HI R C (GC R C b w v):=HI.ID C 0 hs;show(cond ((GC R C b w v).2.2) _ _)=_;unfold Go.Ck.DL;cases he:(GC R C b w v).2.2 with
   | true=>rw[Aa,Az rfl]; rfl
   | false =>rw[Af,Ay (by decide),Bz (by omega) (by omega),show(((60-(m+1):Nat):Int)+1)=((60-m:Nat):Int) by omega];exact ih F (GC R C b w v).1 (GC R C b w v).2.1 (by omega) (by omega) ⟨g.1,g.2⟩
end
theorem Cx.rounds.Bn:Kq 127 Cx.rounds.Bt:=ED Cx.rounds.E Tryz.func127 (kc DF.P9.Bn (kc soft.EZ.Bn (kc Cx.Ek.Bn .nil))) fun r c l p q m b hp=>by
 obtain⟨h1,hp⟩:=Bi.1 (show((BA r c l&&BA p q m)&&((Bp l&&Bp m)&&(Br b&&Ch (p=c/\q=c))))=xZ from hp);obtain⟨hr,hv⟩:=Bi.1 h1;obtain⟨h2,hp⟩:=Bi.1 hp;obtain⟨al,am⟩:=Bi.1 h2;obtain⟨hb,hp⟩:=Bi.1 hp;obtain⟨rfl,rfl⟩:=Bv.1 hp;obtain⟨R,C,rfl,rfl,r6,c6,hl⟩:=D9 hr
 have hm:m.length=C*C:=by obtain⟨_,_,hm⟩:=GU.1 hv;rw[<- Ax] at hm; omega
 refine⟨62,_,[],(Cx.rounds.ev ..).trans (Ade r6 c6 hb 62 (by decide) 60 62 l m (by decide) (by decide) ⟨⟨hl,al⟩,hm,am⟩),?_⟩;exact Wk.Gr (.cons (Wk.GQ (.cons .int (.cons .int (.cons .X5 .nil)))) (.cons (Wk.GQ (.cons .int (.cons .int (.cons .X5 .nil)))) (.cons .int .nil)))
theorem Yb(N:Nat){r c:Int}{x:Bf}{e:Int}(hx:Cq x=xZ)(hl:x.length<=1000)(he:-2300<=e/\e<=2300):∀(k i F:Nat),i+k=x.length->k<F ->
 Cx.CG.L0 N F r c x e (i:Int) ((x.take i).map fun b=>BX b e)=xQ (.agg [.int .i64 r,.int .i64 c,.Bj (.own 106002 tB) .u64 (B6 x e)]):=by
 obtain⟨_,hu⟩:=IE hx;intro k
 induction k with
 | zero =>
   intro i F hi hF;obtain⟨F,rfl⟩:∃G,F=G+1:=⟨F-1,by omega⟩
   rw[Cx.CG.B8,B9,Ag (by omega),Af,yD (by omega)]; rfl
 | succ k ih =>
   intro i F hi hF;obtain⟨F,rfl⟩:∃G,F=G+1:=⟨F-1,by omega⟩
   rw[Cx.CG.B8,B9,Ac (show(i:Int)<(x.length:Int) by omega),Aa,Ac (show(0:Int)<=(i:Int) by omega),Ah,Aa,Ad,
    show Ew (wt x i 0) e=xZ from Bi.2 ⟨hu i (by omega),Bv.2 he⟩,Aa,Ac (by rw[AO,zM]; unfold G2; omega),Aa,Bz (by omega) (by omega)]
   have:=ih (i+1) F (by omega) (by omega);rw[SX (by omega)] at this;exact this
theorem Cx.CG.Bn:Kq 125 Cx.CG.Bt:=ED Cx.CG.E Tryz.func125 (kc Bs.CM.Bn .nil) fun r c x k hp=>by obtain⟨h1,h2⟩:=Bi.1 (show(Cq x&&Ch (wj x<=1000/\-2300<=k/\k<=2300))=xZ from hp);have h2:=Bv.1 h2;refine⟨x.length+1,.agg [.int .i64 r,.int .i64 c,.Bj (.own 106002 tB) .u64 (B6 x k)],[106002],?_,Wk.GQ (.cons .int (.cons .int (.cons (.Acs _ _ _ _ (ze.2 rfl)) .nil)))⟩;rw[Cx.CG.ev];exact Yb (x.length+1) h1 h2.1 h2.2 x.length 0 (x.length+1) (by omega) (by omega)
theorem AdO{R n i k:Nat}{f:Nat->Nat->Int}(hi:i<R)(hk:k<n):(BZ R n f).take (i*n+k+1)=(BZ R n f).take (i*n+k)++[f i k]:=by
 have h:i*n+k<(BZ R n f).length:=by rw[BW]; exact Dw hi hk
 rw[xh h];have:=YR (r:=R) (c:=n) (f:=f) hi hk;rw[Al,As h] at this;exact congrArg _ (congrArg (fun z=>[z]) this)
section
variable{R C:Nat}{l x:Bf}(r6:R<=6)(c6:C<=6)(hl:l.length=R*C)(hx:x.length=C)(hin:Im C x=xZ)(N:Nat)
include r6 c6 hl hx hin
theorem AmB{M0 i:Nat}(hi:i<R):∀(d k F:Nat),k+d=C->d<F ->
 Cx.at.L1 N M0 F (R:Int) (C:Int) l x (i:Int) (i:Int) (k:Int) ((Dz R C l x).take (i*C+k))=Cx.at.L0 N M0 (R:Int) (C:Int) l x (((i+1:Nat):Int)) ((Dz R C l x).take ((i+1)*C)):=by
 intro d
 induction d with
 | zero =>
   intro k F hk hF;obtain⟨F,rfl⟩:∃G,F=G+1:=⟨F-1,by omega⟩
   obtain rfl:k=C:=by omega
   rw[Cx.at.CT,B9,Ag (by omega),Af,Bz (by omega) (by omega),AM,Nat.one_mul];rfl
 | succ d ih =>
   intro k F hk hF;obtain⟨F,rfl⟩:∃G,F=G+1:=⟨F-1,by omega⟩
   have p:=Qt hin (j:=k) (by omega);obtain⟨j,hj⟩:∃j:Nat,x.getD k 0=j:=⟨(x.getD k 0).toNat,by omega⟩
   have hjC:j<C:=by omega
   obtain⟨e1,b1⟩:=Pl r6 c6 hi hjC
   have hle:(zL (i*C+k) (Dz R C l x)).length+1<=G2:=by rw[zM];have:=Dw hi (show k<C by omega);have:R*C<=36:=AE r6 c6;unfold G2; omega
   have g:wt l (i*C+j) 0=CE (C:Int) l (i:Int) (x.getD k 0):=by rw[hj]; unfold CE; rw[Nf]
   rw[Cx.at.CT,B9,Ac (by omega),Aa,Ac (show(0:Int)<=(k:Int) by omega),Ah,Aa,show wQ ((k:Nat):Int)=k from Ad k,hj,e1,
    Ac (show(0:Int)<=((i*C+j:Nat):Int) by omega),Ac (show((i*C+j:Nat):Int)<((l.length:Nat):Int) by rw[hl]; omega),Ah,Aa,Ac hle,Aa,Ad,g,Bz (by omega) (by omega)]
   have:=ih (k+1) F (by omega) (by omega);rw[<- Nat.add_assoc] at this;unfold Dz at this ⊢;rw[AdO hi (show k<C by omega)] at this;exact this
theorem AmC(hN:6<N):∀(d i F:Nat),i+d=R->d<F ->
 Cx.at.L0 N F (R:Int) (C:Int) l x (i:Int) ((Dz R C l x).take (i*C))=xQ (.agg [.int .i64 (R:Int),.int .i64 (C:Int),.Bj (.own 106002 tB) .u64 (Dz R C l x)]):=by
 intro d
 induction d with
 | zero =>
   intro i F hi hF;obtain⟨F,rfl⟩:∃G,F=G+1:=⟨F-1,by omega⟩
   obtain rfl:i=R:=by omega
   rw[Cx.at.B8,B9,Ag (by omega),Af,yD (by rw[Fj]; omega)]
 | succ d ih =>
   intro i F hi hF;obtain⟨F,rfl⟩:∃G,F=G+1:=⟨F-1,by omega⟩
   rw[Cx.at.B8,B9,Ac (by omega),Aa];have:=AmB r6 c6 hl hx hin N (M0:=F) (i:=i) (by omega) C 0 N (by omega) (by omega);rw[AQ] at this;exact this.trans (ih (i+1) F (by omega) (by omega))
end
theorem Cx.at.Bn:Kq 132 Cx.at.Bt:=ED Cx.at.E Tryz.func132 .nil fun r c l x hp=>by obtain⟨hr,hp⟩:=Bi.1 (show(BA r c l&&Ch (((wj x:Nat):Int)=c/\Im (wQ c) x=xZ))=xZ from hp);obtain⟨hx,hin⟩:=Bv.1 hp;obtain⟨R,C,rfl,rfl,r6,c6,hl⟩:=D9 hr;rw[Ad] at hin;refine⟨8,.agg [.int .i64 (R:Int),.int .i64 (C:Int),.Bj (.own 106002 tB) .u64 (Dz R C l x)],[106002],?_,SN (ze.2 rfl)⟩;rw[Cx.at.ev];have:=AmC r6 c6 hl (by omega) hin 8 (by decide) R 0 8 (by omega) (by omega);rw[Nat.zero_mul,List.take_zero] at this;exact this
theorem Aax{R C:Nat}{l:Bf}(r6:R<=6)(c6:C<=6)(hr:BA (R:Int) (C:Int) l=xZ)(al:Bp l=xZ)(N:Nat):∀(d k F:Nat),k+d=C->d<F ->
 Cx.G8.L0 N F (R:Int) (C:Int) l (k:Int) ((List.range k).map fun c=>Cb (Du R C l c))=xQ (.Bj (.own 100003 tB) .u64 (CX R C l)):=by
 intro d
 induction d with
 | zero =>
   intro k F hk hF;obtain⟨F,rfl⟩:∃G,F=G+1:=⟨F-1,by omega⟩
   obtain rfl:k=C:=by omega
   rw[Cx.G8.B8,B9,Ag (by omega),Af];rfl
 | succ d ih =>
   intro k F hk hF;obtain⟨F,rfl⟩:∃G,F=G+1:=⟨F-1,by omega⟩
   have cp:(Ht (R:Int) (C:Int) l (k:Int)&&Ch (0<=(0:Int)/\(0:Int)<=(R:Int)))=xZ:=Bi.2 ⟨Bi.2 ⟨hr,Bv.2 (by omega)⟩,Bv.2 (by omega)⟩;have ln:(Dm (C:Int) l (k:Int) 0 R).length<=6:=by rw[DO]; exact r6
   rw[Cx.G8.B8,B9,Ac (by omega),Aa,cp,Aa,show wQ ((R:Int)-(0:Int))=R by omega,WO (Ji al) ln,Aa,Ac (by rw[AO,AL]; unfold G2; omega),Aa,Bz (by omega) (by omega)];have:=ih (k+1) F (by omega) (by omega);rw[y6,yi] at this;exact this
theorem Cx.G8.Bn:Kq 128 Cx.G8.Bt:=ED Cx.G8.E Tryz.func128 (kc Bh.Ei.Bn (kc Bs.Norm.Bn .nil)) fun r c l hp=>by obtain⟨hr,al⟩:=Bi.1 (show(BA r c l&&Bp l)=xZ from hp);obtain⟨R,C,rfl,rfl,r6,c6,hl⟩:=D9 hr;exact⟨8,.Bj (.own 100003 tB) .u64 (CX R C l),[100003],(Cx.G8.ev ..).trans (Aax r6 c6 hr al 8 C 0 8 (by omega) (by omega)),.drop _ _ _ _ (ze.2 rfl)⟩
theorem ZF{drops:List Nat}{e:Int}:Wk drops (.CR [.agg [.int .i64 (0:Int),.int .i64 (0:Int),.nil],.agg [.int .i64 (0:Int),.int .i64 (0:Int),.nil],.nil,.int .i64 e])
 (.CR [.agg [.int .i64 (0:Int),.int .i64 (0:Int),.Bj .arg .u64 []],.agg [.int .i64 (0:Int),.int .i64 (0:Int),.Bj .BE .u64 []],.Bj .BE .u64 [],.int .i64 e]):=
 Wk.Gr (.cons (Wk.GQ (.cons .int (.cons .int (.cons (.nil _ _) .nil)))) (.cons (Wk.GQ (.cons .int (.cons .int (.cons (.nil _ _) .nil)))) (.cons (.nil _ _) (.cons .int .nil))))
theorem ZL{r c:Int}{l:Bf}{e:Int}(h:GW r c l=e)(he:e≠0):Cx.BY.out [.i r,.i c,.l l]=
 .CR [.agg [.int .i64 (0:Int),.int .i64 (0:Int),.Bj .arg .u64 []],.agg [.int .i64 (0:Int),.int .i64 (0:Int),.Bj .BE .u64 []],.Bj .BE .u64 [],.int .i64 e]:=by
 show DV.CR [.agg [.int .i64 (GL r c l).1,.int .i64 (GL r c l).2.1,.Bj .arg .u64 (GL r c l).2.2.1],.agg [.int .i64 (It r c l).1,.int .i64 (It r c l).2.1,.Bj .BE .u64 (It r c l).2.2.1],.Bj .BE .u64 (O6 r c l),.int .i64 (GW r c l)]=_;unfold GL It O6;rw[h,Az he,Az he,Az he];rfl
theorem AhC{R C:Nat}{l:Bf}(h:GW (R:Int) (C:Int) l=0):Cx.BY.out [.i (R:Int),.i (C:Int),.l l]=
 .CR [.agg [.int .i64 (R:Int),.int .i64 (C:Int),.Bj .arg .u64 (EF R C l)],.agg [.int .i64 (C:Int),.int .i64 (C:Int),.Bj .BE .u64 (Fv R C l)],.Bj .BE .u64 (CX R C (EF R C l)),.int .i64 0]:=by
 show DV.CR [.agg [.int .i64 (GL (R:Int) (C:Int) l).1,.int .i64 (GL (R:Int) (C:Int) l).2.1,.Bj .arg .u64 (GL (R:Int) (C:Int) l).2.2.1],.agg [.int .i64 (It (R:Int) (C:Int) l).1,.int .i64 (It (R:Int) (C:Int) l).2.1,.Bj .BE .u64 (It (R:Int) (C:Int) l).2.2.1],.Bj .BE .u64 (O6 (R:Int) (C:Int) l),.int .i64 (GW (R:Int) (C:Int) l)]=_;unfold GL It O6;rw[h,Ay (by decide),Ay (by decide),Ay (by decide)];rfl
section
variable{R C:Nat}{l:Bf}(r6:R<=6)(c6:C<=6)(hl:l.length=R*C)(al:Bp l=xZ)(N:Nat)
include r6 c6 hl al
omit r6 c6 in
theorem Si:HI R C (B6 l (-(CC l)),F2 C,xZ):=⟨⟨by rw[Hm]; exact hl,QN al⟩,(show(F2 C).length=C*C from BW _ _ _),(show Bp (F2 C)=xZ from FA fun i k=>Aco _ _)⟩
theorem AhD(hc:BU (R:Int) (C:Int) l=0)(he:(De R C l).2.2=0):
 Cx.BY.C20 N (R:Int) (C:Int) (CC l) (C:Int) (C:Int) (De R C l).2.1 (De R C l).1 (Kb C)=xQ (.CR [.agg [.int .i64 (R:Int),.int .i64 (C:Int),.Bj .arg .u64 (EF R C l)],.agg [.int .i64 (C:Int),.int .i64 (C:Int),.Bj .BE .u64 (Fv R C l)],.Bj .BE .u64 (CX R C (EF R C l)),.int .i64 0])/\GW (R:Int) (C:Int) l=0 \/
 Cx.BY.C20 N (R:Int) (C:Int) (CC l) (C:Int) (C:Int) (De R C l).2.1 (De R C l).1 (Kb C)=xQ (.CR [.agg [.int .i64 (0:Int),.int .i64 (0:Int),.nil],.agg [.int .i64 (0:Int),.int .i64 (0:Int),.nil],.nil,.int .i64 2])/\GW (R:Int) (C:Int) l=2:=by
 have hi:HI R C ((De R C l).1,(De R C l).2.1,xZ):=HI.DL 60 (Si hl al);have rc:R*C<=36:=AE r6 c6;have cc:C*C<=36:=AE c6 c6;have hW:Bp (EF R C l)=xZ:=QN (Jp hi.1.2);have hV:Bp (Fv R C l)=xZ:=Jp hi.2.2;have lW:(EF R C l).length=R*C:=by unfold EF; rw[Hm,Fj]
 have lV:(Fv R C l).length=C*C:=Fj ..;have oW:Cq (EF R C l)=xZ:=Gf hW (by omega);have oV:Cq (Fv R C l)=xZ:=Gf hV (by omega)
 have eE:GW (R:Int) (C:Int) l=if (DA (EF R C l)&&DA (Fv R C l))=xZ then 0 else 2:=by unfold GW;rw[Ay (by rw[hc]; decide),Ad,Ad,Ay (by rw[he]; decide)]
 rw[Cx.BY.AkU];simp only[Ad];show(_\/_);rw[show B6 (Dz R C (De R C l).1 (EC (CX R C (De R C l).1) (Kb C))) (CC l)=EF R C l from rfl,show Dz C C (De R C l).2.1 (EC (CX R C (De R C l).1) (Kb C))=Fv R C l from rfl,oW,oV,AV,Aa,Aa,D3 r6 c6 lW,hW,Ah,Aa,eE];cases DA (EF R C l) with
 | true =>
   cases DA (Fv R C l) with
   | true=>exact .inl ⟨rfl,rfl⟩
   | false=>exact .inr ⟨rfl,rfl⟩
 | false=>exact .inr ⟨rfl,rfl⟩
omit r6 al in
theorem ZK(p6 p3 p3_1:Int)(v w:Bf):∀(d k F:Nat),k+d=C->d<F ->
 Cx.BY.L0 N F (R:Int) (C:Int) p6 p3 p3_1 v w (k:Int) (Kb k)=Cx.BY.C18 N (R:Int) (C:Int) p6 p3 p3_1 v w (Kb C):=by
 intro d
 induction d with
 | zero =>
   intro k F hk hF;obtain⟨F,rfl⟩:∃G,F=G+1:=⟨F-1,by omega⟩
   obtain rfl:k=C:=by omega
   rw[Cx.BY.B8,B9,Ag (by omega),Af]
 | succ d ih =>
   intro k F hk hF;obtain⟨F,rfl⟩:∃G,F=G+1:=⟨F-1,by omega⟩
   rw[Cx.BY.B8,B9,Ac (by omega),Aa,Ac (by rw[Nx]; unfold G2; omega),Aa,Bz (by omega) (by omega)];have:=ih (k+1) F (by omega) (by omega);unfold Kb at this ⊢;rw[y6,yi] at this;exact this
theorem AhE:
 Cx.BY.C18 N (R:Int) (C:Int) (CC l) (C:Int) (C:Int) (De R C l).2.1 (De R C l).1 (Kb C)=Cx.BY.C20 N (R:Int) (C:Int) (CC l) (C:Int) (C:Int) (De R C l).2.1 (De R C l).1 (Kb C):=by
 have hi:HI R C ((De R C l).1,(De R C l).2.1,xZ):=HI.DL 60 (Si hl al);have rc:R*C<=36:=AE r6 c6;have ek:=Xn (BK l)
 have n1:(Cq (CX R C (De R C l).1)&&Ch (Im (wj (CX R C (De R C l).1)) (Kb C)=xZ/\wj (Kb C)<=6))=xZ :=Bi.2 ⟨Gf (Rb ..) (by rw[Jl]; omega),Bv.2 ⟨by rw[Jl]; exact WK C,by rw[Nx]; exact c6⟩⟩
 have ps:Ch (((wj (EC (CX R C (De R C l).1) (Kb C)):Nat):Int)=(C:Int)/\Im C (EC (CX R C (De R C l).1) (Kb C))=xZ)=xZ :=Bv.2 ⟨by rw[Ve,Nx],Ye (WK C)⟩
 have og:(Cq (Dz R C (De R C l).1 (EC (CX R C (De R C l).1) (Kb C)))&&Ch (wj (Dz R C (De R C l).1 (EC (CX R C (De R C l).1) (Kb C)))<=1000/\-2300<=CC l/\CC l<=2300))=xZ :=Bi.2 ⟨Gf (Jp hi.1.2) (by rw[Fj]; omega),Bv.2 ⟨by rw[Fj]; omega,by unfold CC; omega,by unfold CC; omega⟩⟩
 rw[Cx.BY.Abv];simp only[Ad];rw[n1,Aa,D3 r6 c6 hi.1.1,ps,Ah,Aa,og,Aa,D3 c6 c6 hi.2.1,Ah,Aa]
end
theorem Cx.BY.Bn:Cx.BY.Kn:=Cx.BY.D4 (kc DS.Check.Bn (kc compare.MZ.Bn (kc Bh.IV.Bn (kc Cx.at.Bn (kc Cx.G8.Bn (kc Cx.rounds.Bn (kc Cx.CG.Bn (kc Bs.DT.Bn (kc Bs.Finite.Bn (kc Bs.Norm.Bn (kc Bs.CM.Bn .nil))))))))))) BP.BF.Bn fun r c l hp=>by
 have al:Bp l=xZ:=hp;by_cases hc:BU r c l=0
 ·have hr:BA r c l=xZ:=by
   unfold BU at hc;by_cases h:BA r c l=xZ
   ·exact h
   ·rw[Ay h] at hc; cases hc
  obtain⟨R,C,rfl,rfl,r6,c6,hl⟩:=D9 hr;have rc:R*C<=36:=AE r6 c6;have ek:=Xn (BK l);have hS:=Si hl al
  have ks:Bg ((0:Int)-BQ (BK l))=-(CC l):=by rw[Bz (by omega) (by omega)]; unfold CC; omega
  have o1:Cq l=xZ:=Gf al (by omega);have c1:Ch (wj l<=1000/\-2300<=-(CC l)/\-(CC l)<=2300)=xZ:=Bv.2 ⟨by omega,by unfold CC; omega,by unfold CC; omega⟩;have o2:(Cq (B6 l (-(CC l)))&&Ch (wj (B6 l (-(CC l)))<=64))=xZ:=Bi.2 ⟨Gf hS.1.2 (by rw[Hm]; omega),Bv.2 (by rw[Hm]; omega)⟩;have sp:Ew (Cb (B6 l (-(CC l)))) (-44:Int)=xZ:=Bi.2 ⟨Kd _,Bv.2 (by decide)⟩
  have big:Cx.BY.C5 8 (R:Int) (C:Int) l (CC l)=(bif ((De R C l).2.2 !=(0:Int)) then xQ (.CR [.agg [.int .i64 (0:Int),.int .i64 (0:Int),.nil],.agg [.int .i64 (0:Int),.int .i64 (0:Int),.nil],.nil,.int .i64 ((De R C l).2.2)])
   else Cx.BY.C11 8 (R:Int) (C:Int) l (CC l) (C:Int) (C:Int) (De R C l).2.1 (De R C l).1):=by
   have rr:=D3 r6 c6 hS.1.1;have re:=D3 c6 c6 hS.2.1;rw[Cx.BY.Ah2];rw[show Bg ((0:Int)-CC l)=-(CC l) from ks,o1,c1,Ah,Aa,o2,Aa,Xm c6,Cx.BY.Ah1,sp,Aa];simp only[Ad];rw[rr,re,hS.1.2,hS.2.2,Gi (Kd _),Bv.2 (show True/\True from⟨trivial,trivial⟩),Ah,Ah,Ah,Aa];rfl
  have pre:Cz Cx.BY.E 8 Tryz.f64 (Bw Tryz.f64) [.agg [.int .i64 (R:Int),.int .i64 (C:Int),.Bj .arg .u64 l]]=Cx.BY.C5 8 (R:Int) (C:Int) l (CC l):=by rw[Cx.BY.ev,al,Aa,hc,show((0:Int) !=0)=x5 from rfl,Af,o1,Aa,Rv,Aa];rfl
  rcases Vq (R:=R) (n:=C) (low:=BX (Cb (B6 l (-(CC l)))) (-44)) 60 (B6 l (-(CC l))) (F2 C) with he | he
  ·have he:(De R C l).2.2=0:=he;have hi:HI R C ((De R C l).1,(De R C l).2.1,xZ):=HI.DL 60 hS;have c20:=AhD r6 c6 hl al 8 hc he
   have chain:Cz Cx.BY.E 8 Tryz.f64 (Bw Tryz.f64) [.agg [.int .i64 (R:Int),.int .i64 (C:Int),.Bj .arg .u64 l]]=Cx.BY.C20 8 (R:Int) (C:Int) (CC l) (C:Int) (C:Int) (De R C l).2.1 (De R C l).1 (Kb C):=by rw[pre,big,he,show((0:Int) !=0)=x5 from rfl,Af,Cx.BY.Aby,D3 r6 c6 hi.1.1,hi.1.2,Ah,Aa];exact(ZK c6 hl 8 (CC l) (C:Int) (C:Int) (De R C l).2.1 (De R C l).1 C 0 8 (by omega) (by omega)).trans (AhE r6 c6 hl al 8)
   rcases c20 with ⟨h1,h2⟩ | ⟨h1,h2⟩
   ·exact⟨8,_,[],chain.trans h1,by show Wk _ _ (Cx.BY.out [.i (R:Int),.i (C:Int),.l l]); rw[AhC h2]; exact Wk.Gr (.cons (Wk.GQ (.cons .int (.cons .int (.cons .X5 .nil)))) (.cons XM (.cons .Jq (.cons .int .nil))))⟩
   ·exact⟨8,_,[],chain.trans h1,by show Wk _ _ (Cx.BY.out [.i (R:Int),.i (C:Int),.l l]); rw[ZL h2 (by decide)]; exact ZF⟩
  ·have he:(De R C l).2.2=6:=he
   have hE:GW (R:Int) (C:Int) l=6:=by unfold GW;rw[Ay (by rw[hc]; decide),Ad,Ad,Az (by rw[he]; decide)]
   refine⟨8,_,[],(pre.trans big).trans ?_,by show Wk _ _ (Cx.BY.out [.i (R:Int),.i (C:Int),.l l]); rw[ZL hE (by decide)]; exact ZF⟩;rw[he]; rfl
 ·have hE:GW r c l=BU r c l:=by unfold GW; rw[Az hc]
  refine⟨8,_,[],?_,by show Wk _ _ (Cx.BY.out [.i r,.i c,.l l]); rw[ZL hE hc]; exact ZF⟩;rw[Cx.BY.ev,al,Aa,show((BU r c l) !=(0:Int))=xZ from by simpa using hc,Aa]
theorem Aab{R P C:Nat}{l m:Bf}(hl:l.length=R*C)(hm:m.length=P*C):
 (BZ (R+P) C fun(i k:Nat)=>Jf (R:Int) (C:Int) l (C:Int) m (i:Int) (k:Int))=l++m:=by
 have h:(l++m).length=(R+P)*C:=by rw[A8,hl,hm,AM]
 conv=>rhs; rw[<- Oz h]
 refine Eo fun i k hi hk=>?_
 unfold Jf;by_cases hlt:(i:Int)<(R:Int)
 ·have:=Dw (r:=R) (c:=C) (i:=i) (k:=k) (by omega) hk;rw[Az hlt,M9,M9,Al,Al,List.getElem?_append_left (by omega)]
 ·have es:(i:Int)-(R:Int)=((i-R:Nat):Int):=by omega
  have e2:i*C=R*C+(i-R)*C:=by rw[<- AM]; congr 1; omega
  rw[Ay hlt,es,M9,M9,Al,Al,AX (by omega),hl,e2];congr 2; omega
end Go.Proofs.S1
namespace Go.Ck
open Go.Den
structure Good(x:Int):Prop where
 word:Br x=xZ
 k3:Bk x.toNat≠3
 k4:Bk x.toNat≠4
 ne:x.toNat≠2^63
theorem KV{x:Int}(h:Br x=xZ):x.toNat<2^64:=by have:=Bv.1 h;omega
end Go.Ck
end
