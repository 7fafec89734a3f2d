/- A verified evaluator of the program's form and its use for this seat: MakV, AppV, AppW, HouV, FacV, QuoL, S1EqRef11Q, S1PQ, S1PQa, S1PQb, S1PQc, S1EqTame, S1PTame, S1EqLaw23U, S1PLaw23U, S1EqRef18, S1PRef18, FacW, FacX, FacY, FroV, UpV, UpW, UpX, GradV, S1PExaA, S1PExaB, LeaV, LeaW. -/
import Derived.Test.YthajngaadbanfaaGreatTL
import Derived.Test.YthajngaadbanfaaGreatTF
import Derived.Test.YthajngaadbanfaaGreatTE
import Derived.Test.YthajngaadbanfaaGreatTJ
import Derived.Test.YthajngaadbanfaaGreatTI
import Derived.Test.YthajngaadbanfaaGreatTK
set_option linter.unusedVariables false
set_option linter.unusedSimpArgs false
open Option renaming some->xQ,none->xY
open Bool renaming true->xZ,false->x5
open Int renaming toNat->wQ
open List renaming length->wj,getD->wt
open Rat renaming le_trans->zn,mul_nonneg->zc,le_of_lt->za,mul_le_mul_of_nonneg_right->zb,mul_le_mul_of_nonneg_left->zd,add_zero->xG,natCast_add->yk,le_refl->zI,le_total->yT,natCast_mul->zQ,le_of_mul_le_mul_right->zS
open List renaming all_eq_true->zB,getElem_mem->zU,mem_map->zh,length_cons->zj,map_append->yi
open Nat renaming add_sub_cancel_left->xt,succ_mul->z8
open Int renaming natCast_add->zt,zero_add->yJ
open Bool renaming or_eq_true->zK,or_self->wc
noncomputable section
open Go.Proofs.Tryz
namespace Go.Ck
open Go.Den
def vH(n:Nat)(v:Nat->Rat)(t:Rat)(a:Nat->Rat)(i:Nat):Rat:=a i-t*(sm n fun j=>v j*a j)*v i
theorem Ae9{n:Nat}{v:Nat->Rat}{t c:Rat}{a b:Nat->Rat}(i:Nat):vH n v t (fun j=>c*a j+b j) i=c*vH n v t a i+vH n v t b i:=by
 unfold vH
 have e:sm n (fun j=>v j*(c*a j+b j))=c*sm n (fun j=>v j*a j)+sm n (fun j=>v j*b j):=by rw[<- EG,<- Eh];exact BD n fun j _=>by grind
 rw[e]; grind
theorem PE{n:Nat}{v:Nat->Rat}{t:Rat}{a b:Nat->Rat}(h:∀j,j<n->a j=b j){i:Nat}(hi:i<n):vH n v t a i=vH n v t b i:=by unfold vH;rw[BD n (f:=fun j=>v j*a j) (g:=fun j=>v j*b j) fun j hj=>by rw[h j hj],h i hi]
theorem Alk{n:Nat}{v a:Nat->Rat}{t s:Rat}(ht:Ab t (21 / 10))(hv:sq n v<=201 / 100)(ha:Ln n a s):Ln n (vH n v t a) (6*s):=by
 have lv:Ln n v (3 / 2):=⟨by decide +kernel,zn hv (by decide +kernel)⟩
 have hd:=lv.dot ha
 have hc:Ab (t*sm n fun j=>v j*a j) (21 / 10*(3 / 2*s)):=by have h1:=CU (Gd ht) (Gd hd) (by decide +kernel) (DZ _);rw[<- Ep] at h1;have:=G1 (t*sm n fun j=>v j*a j);unfold Ab at *; grind
 have h2:=lv.scale hc;have h3:=ha.sub h2;have s0:=ha.1;exact(h3.congr fun i _=>rfl).mono (by grind)
structure AkS(n:Nat)(x v:Nat->Rat)(t b s:Rat):Prop where
 tt:av (t*(t*sq n v-2))<=220*uR
 tb:Ab t (21 / 10)
 vv:sq n v<=201 / 100
 mir:Ln n (fun i=>vH n v t x i-if i=0 then b else 0) (205*uR*s+Ci)
theorem Yk{n:Nat}(hn:n≠0)(i:Nat):rv (GX n fun _=>0) i=if i=0 then 1 else 0:=by
 cases i with
 | zero =>rw[Az rfl];unfold rv GX;rw[List.getD_cons_zero];exact ZI
 | succ i =>
   rw[Ay (by omega)];have z:vR (wQ 0)=0:=HZ x5;by_cases hi:i+1<n
   ·rw[Afs hi]; exact z
   ·unfold rv;rw[Al,Bb (by rw[Mh hn]; omega)];exact z
theorem Aaw{x:Bf}{i:Nat}(h:Fi (x.drop 1)=xZ)(hi:0<i):rv x i=0:=by
 unfold rv;by_cases hl:i<x.length
 ·have hm:x.getD i 0∈x.drop 1:=by rw[Al,As hl];refine List.mem_iff_getElem.2 ⟨i-1,by rw[List.length_drop]; omega,?_⟩;rw[List.getElem_drop];show x[1+(i-1)]=x[i];congr 1; omega
  have:=A6 (zB.1 h _ hm);refine Gh ?_;unfold BH at this;omega
 ·rw[Al,Bb (by omega)];exact HZ x5
theorem TC{x:Bf}{k:Nat}{s:Rat}(hk:x.length=k+1)(h6:k<=6)(ax:Bp x=xZ)(he:(Ce x).2.2.2=0)(hs:Ln (k+1) (rv x) s):
 AkS (k+1) (rv x) (rv (Ce x).1) (vR (Ce x).2.1.toNat) (vR (Ce x).2.2.1.toNat) s:=by
 have u0:=Dc;have e0:=Ee;have s0:=hs.1;have us:=zc (za u0) s0;unfold Ce at he ⊢;by_cases h1:x.length=0\/64<x.length
 ·rw[Az h1] at he; exact absurd he (by decide)
 rw[Ay h1] at he ⊢;by_cases hf':¬DA x=xZ
 ·rw[Ay hf'] at he; exact absurd he (by decide)
 have hf:=Classical.not_not.1 hf';rw[Az hf] at he ⊢;unfold Y1 at he ⊢;by_cases h3:Fi (x.drop 1)=xZ
 ·rw[Az h3];dsimp only;have hv:∀i,rv (GX x.length fun _=>0) i=if i=0 then 1 else 0:=Yk (by omega)
  have z:vR (wQ 0)=0:=HZ x5;rw[z]
  have sv:sq (k+1) (rv (GX x.length fun _=>0))=1:=by
   rw[K2,hv 0,Az rfl]
   have:sq k (fun i=>rv (GX x.length fun _=>0) (i+1))=0:=by
    unfold sq
    rw[BD k (g:=fun _=>0) fun i _=>by dsimp only;rw[hv (i+1),Ay (by omega)]; grind]
    exact FW k
   rw[this]; grind
  refine⟨?_,by unfold Ab; grind,by rw[sv]; decide +kernel,?_⟩
  ·have:av (0*(0*sq (k+1) (rv (GX x.length fun _=>0))-2))=0:=by rw[Rat.zero_mul]; decide
   rw[this]; grind
  ·refine((Ln.zero (k+1)).congr fun i hi=>?_).mono (by grind);unfold vH;cases i with
   | zero =>rw[Az rfl];show rv x 0-0*_*_-vR (x.getD 0 0).toNat=0;have:rv x 0=vR (x.getD 0 0).toNat:=rfl;rw[this]; grind
   | succ i =>rw[Ay (by omega),Aaw h3 (by omega)]; grind
 ·rw[Ay h3] at he ⊢;by_cases h4':¬D5 (Gc x)=xZ
  ·rw[Ay h4'] at he; exact absurd he (by decide)
  have h4:=Classical.not_not.1 h4';rw[Az h4];dsimp only;have hsome:=Rp h3;have M:=Ad5 hk h6 hf ax hsome;have hM:=M.Akr;obtain⟨n2,tb,vv⟩:=M.AfO;have one:=M.one;have hlen:=M.len;obtain⟨m1,m2,m3,m4⟩:=Y0 hf (by omega) hsome
  have hb:Nr (vR (Gc x).toNat) (vR (L5 x).toNat*tw (BQ (BK x))) Ci:=by have eb:(Gc x).toNat=(Cl (L5 x).toNat (BQ (BK x))).1:=Cj _ _;rw[eb];refine GS m1.1 m1.2.1 ?_;rw[<- eb];exact(Lp h4).1
  have hK:tw (BQ (BK x))*tw (-BQ (BK x))=1:=by rw[<- Eu,show BQ (BK x)+-BQ (BK x)=0 by omega]; exact KW
  have hK0:=DP (BQ (BK x));have hsb:=Hl hf
  have hd:∀i,i<k+1->av (rv x i-tw (BQ (BK x))*rv (B6 x (-BQ (BK x))) i)<=Ci*tw (BQ (BK x)):=fun i hi=>by
   have hm:x.getD i 0∈x:=by rw[Al,As (show i<x.length by omega)];exact zU _
   have xk:=Lp (Gl hf _ hm);have yb:=hsb _ (zh.2 ⟨x.getD i 0,hm,rfl⟩);rw[Cj] at yb;have h5:=G7.1 (GS (n:=-BQ (BK x)) xk.1 xk.2 yb.1);have ex:rv x i=vR (x.getD i 0).toNat:=rfl;rw[PS (by omega),ex];generalize vR (Cl (x.getD i 0).toNat (-BQ (BK x))).1=Y at *
   generalize vR (x.getD i 0).toNat=X at *
   have e:X-tw (BQ (BK x))*Y=-(Y-X*tw (-BQ (BK x)))*tw (BQ (BK x)):=by
    have:X=X*(tw (BQ (BK x))*tw (-BQ (BK x))):=by rw[hK]; grind
    grind
   rw[e,Ep,Uy,Zx (za hK0)];exact zb h5 (za hK0)
  generalize rv (B6 x (-BQ (BK x)))=y at *
  generalize vR (L5 x).toNat=μ at *
  generalize rv (Re x)=v at *
  generalize vR (TA x).toNat=t at *
  generalize vR (Gc x).toNat=b at *
  generalize tw (BQ (BK x))=K at *
  generalize rv x=X at *
  have eK:=zc (za e0) (za hK0)
  have lD:Ln (k+1) (fun i=>X i-K*y i) (3*(Ci*K)):=Ln.Jk eK (fun i hi=>by have:=hd i hi;have h2:=G1 (X i-K*y i);unfold Ab at *; grind) (by omega)
  have hKm:K*av μ<=1001 / 1000*s:=by
   have a1:Ln (k+1) (fun i=>K*y i) (s+3*(Ci*K)):=(hs.sub lD).congr fun i _=>by grind
   have a2:sq (k+1) (fun i=>K*y i)=K*K*sq (k+1) y:=by unfold sq;rw[<- EG];exact BD _ fun i _=>by grind
   have a3:=a1.2;rw[a2] at a3;have a4:=hlen.1;have c1:1+40*uR<=10001 / 10000*(10001 / 10000):=by decide +kernel
   have a5:=zb c1 (IA (k+1) y);have a6:=zd (show μ*μ<=10001 / 10000*(10001 / 10000)*sq (k+1) y by grind) (zc (za hK0) (za hK0))
   have a7:K*av μ<=10001 / 10000*(s+3*(Ci*K)):=by
    refine GO (by grind) ?_;have e1:K*av μ*(K*av μ)=K*K*(μ*μ):=by rw[<- GA μ]; grind
    rw[e1];have a8:=zd a3 (show(0:Rat)<=10001 / 10000*(10001 / 10000) by decide +kernel);grind
   have a9:Ci*K<=1 / 1000000*(K*av μ):=by
    have b1:=zd one (za hK0);have b2:Ci<=1 / 1000000:=by decide +kernel
    have b3:=CU b2 b1 (by decide +kernel) (by grind);grind
   grind
  have hM2:=hM.scale (c:=K) (B:=K) (by unfold Ab; grind);have hD2:=Alk tb vv lD
  have hbe:Ln (k+1) (fun i=>if i=0 then μ*K-b else 0) Ci:=by
   refine⟨za e0,?_⟩
   have e:sq (k+1) (fun i=>if i=0 then μ*K-b else 0)=(μ*K-b)*(μ*K-b):=by
    rw[K2]
    have:sq k (fun i=>if i+1=0 then μ*K-b else 0)=0:=by
     unfold sq
     rw[BD k (g:=fun _=>0) fun i _=>by dsimp only;rw[Ay (by omega)]; grind]
     exact FW k
    rw[this,Az rfl]; grind
   rw[e,<- GA];have:=G7.1 hb.symm;exact H7 (DZ _) this
  have hsum:=((hM2.add hD2).add hbe).congr (g:=fun i=>vH (k+1) v t X i-if i=0 then b else 0) fun i hi=>by
   have e1:vH (k+1) v t X i=K*vH (k+1) v t y i+vH (k+1) v t (fun i=>X i-K*y i) i:=by rw[<- Ae9];exact PE (fun j _=>by grind) hi
   have e2:vH (k+1) v t y i=y i-t*gR k y v*v i:=rfl;rw[e1,e2];by_cases h:i=0
   ·rw[Az h,Az h,Az h]; grind
   ·rw[Ay h,Ay h,Ay h]; grind
  refine⟨?_,tb,vv,hsum.mono ?_⟩
  ·rw[Ep];have h1:=CU (Gd tb) (G7.1 n2) (by decide +kernel) (DZ _);grind
  ·have k1:=H6 hKm
   have k2:Ci*K<=uR / 1000000*(K*av μ):=by
    have b1:=zd one (za hK0);have b2:Ci<=uR / 1000000:=by decide +kernel
    have b3:=CU b2 b1 (by grind) (by grind);grind
   grind
open Go.Den
theorem Ln.avs{n:Nat}{f:Nat->Rat}{s:Rat}(h:Ln n f s):Ln n (fun i=>av (f i)) s:=by
 refine⟨h.1,?_⟩;have e:sq n (fun i=>av (f i))=sq n f:=BD n fun i _=>GA (f i)
 rw[e]; exact h.2
theorem Um{c t q T A z t' u e:Rat}(hc:0<=c)(hc2:c<=20)(hT:av T<=A)(hu:0<u)(hu2:u<=1 / 1000000)(he:0<e)
 (h1:Nr t T (3*c*u*A+2*c*e)) (h2:Nr q z (u*av z+e)) (h3:Nr t' (t+q) (u*(A+(3*c*u*A+2*c*e)+(av z+(u*av z+e))))):
 Nr t' (T+z) (3*(c+1)*u*(A+av z)+2*(c+1)*e)/\av (T+z)<=A+av z:=by
 have hA:0<=A:=zn (DZ T) hT;have hz:=DZ z;have a0:=zc (za hu) hA;have b0:=zc (za hu) hz
 have c1:3*c*u<=1:=by have:=zb hc2 (za hu);grind
 have k1:=zb c1 a0;have k2:=zb (show u<=1 by grind) b0
 have c3:(2*c+1)*u<=1:=by have:=zb hc2 (za hu);grind
 have k3:=zb c3 (za he);have k4:=zc hc b0;have:=HA T z;refine⟨?_,by grind⟩;unfold Nr at *
 grind
theorem Zq{j k:Nat}(hjk:j+k<=1000):∀(x y:Bf) (s t:Nat) (T A c:Rat),x.length=y.length->Bl j x->Bl k y->Bm t (j+k) s->0<t->t+x.length<=1000->av T<=A->0<=c->c+(x.length:Rat)<=20->Nr (vR s) T (3*c*uR*A+2*c*Ci) ->
 Nr (vR (Q0 s x y)) (T+sm x.length fun i=>rv x i*rv y i) (3*(c+(x.length:Rat))*uR*(A+sm x.length fun i=>av (rv x i)*av (rv y i))+2*(c+(x.length:Rat))*Ci)
 | [],[],s,t,T,A,c,_,_,_,_,_,_,_,_,_,h=>by have z:((([]:Bf).length:Nat):Rat)=0:=rfl;have e:(sm ([]:Bf).length fun i=>rv [] i*rv [] i)=0:=rfl;have e':(sm ([]:Bf).length fun i=>av (rv [] i)*av (rv [] i))=0:=rfl;rw[z,e,e',xG,xG,xG];exact h
 | [],_::_,_,_,_,_,_,hl,_,_,_,_,_,_,_,_,_=>by simp at hl
 | _::_,[],_,_,_,_,_,hl,_,_,_,_,_,_,_,_,_=>by simp at hl
 | a::x,b::y,s,t,T,A,c,hl,hx,hy,hs,h0,ht,hT,hc,hc2,h=>by
   have el:(((a::x).length:Nat):Rat)=(x.length:Rat)+1:=by rw[zj]; exact yk _ 1
   simp only[zj] at ht hl;rw[el] at hc2 ⊢;have hln:=H9 x.length;have ba:=hx a AY;have bb:=hy b AY;have b2:=Bd.mul (show j+k<=1023 by omega) ba bb;have b3:=Bm.add (k:=j+k) (by omega) (by omega) hjk hs b2.bm;have m1:=Lf ba.1 ba.2.1 bb.1 bb.2.1 b2.1 (B:=av (vR a.toNat*vR b.toNat)) (G1 _);have u0:=Dc;have e0:=Ee
   have m2:=O2 hs.1 hs.2.1 b2.1 b2.2.1 b3.1 (B:=A+(3*c*uR*A+2*c*Ci)+(av (vR a.toNat*vR b.toNat)+(uR*av (vR a.toNat*vR b.toNat)+Ci))) (by
    have n1:=Kw (z:=0) h;have n3:=Kw (z:=0) m1;have n4:=HA (vR s) (vR (En a.toNat b.toNat).1);have n5:=G1 (vR s+vR (En a.toNat b.toNat).1);unfold Ab at *
    grind)
   obtain⟨st,sT⟩:=Um hc (by grind) hT u0 Hh e0 h m1 m2;have ih:=Zq hjk x y _ (t+1) (T+vR a.toNat*vR b.toNat) (A+av (vR a.toNat*vR b.toNat)) (c+1) (by omega) (fun z hz=>hx z (AN _ hz)) (fun z hz=>hy z (AN _ hz)) b3 (by omega) (by omega) sT (by grind) (by grind) st
   have es:(sm (a::x).length fun i=>rv (a::x) i*rv (b::y) i)=vR a.toNat*vR b.toNat+sm x.length fun i=>rv x i*rv y i:=by rw[zj,LI];rfl
   have es':(sm (a::x).length fun i=>av (rv (a::x) i)*av (rv (b::y) i))=av (vR a.toNat*vR b.toNat)+sm x.length fun i=>av (rv x i)*av (rv y i):=by rw[zj,LI,Ep];rfl
   have eq:Q0 s (a::x) (b::y)=Q0 (Ef s (En a.toNat b.toNat).1).1 x y:=rfl;rw[es,es',eq];rw[show T+(vR a.toNat*vR b.toNat+sm x.length fun i=>rv x i*rv y i)=T+vR a.toNat*vR b.toNat+sm x.length fun i=>rv x i*rv y i by grind,show A+(av (vR a.toNat*vR b.toNat)+sm x.length fun i=>av (rv x i)*av (rv y i))=A+av (vR a.toNat*vR b.toNat)+sm x.length fun i=>av (rv x i)*av (rv y i) by grind,show c+((x.length:Rat)+1)=c+1+(x.length:Rat) by grind];exact ih
theorem Xq{j k:Nat}(hjk:j+k<=1000){x y:Bf}{s t:Rat}(hl:x.length=y.length)(h7:x.length<=7)(hx:Bl j x)(hy:Bl k y)(lx:Ln x.length (rv x) s)(ly:Ln x.length (rv y) t):
 Nr (vR (Fk x y).toNat) (sm x.length fun i=>rv x i*rv y i) (21*uR*(s*t)+14*Ci):=by
 have u0:=Dc;have e0:=Ee;have z0:vR 0=0:=HZ x5;have a0:av 0=0:=by decide
 have hlen:(x.length:Rat)<=7:=Cy h7;have hln:=H9 x.length;have h:=Zq hjk x y 0 1 0 0 0 hl hx hy (Bd.zero x5 (j+k)).bm (by decide) (by omega) (by rw[a0]; exact zI) zI (by grind) (by rw[z0]; unfold Nr; grind);have hd:=(lx.avs.dot ly.avs).2;have hd0:0<=sm x.length fun i=>av (rv x i)*av (rv y i):=K3 _ fun i _=>zc (DZ _) (DZ _)
 have e:(Fk x y).toNat=Q0 0 x y:=Ad _;rw[e];rw[Rat.zero_add] at h;refine h.mono ?_;have k1:=H6 hd;have k2:=zc (za u0) hd0;have k3:=zb hlen k2;have k4:=zb hlen (za e0);grind
theorem Afr{c b i:Int}{n m:Nat}{l:Bf}(hm:m<n):rv (Dm c l b i n) m=vR (CE c l (i+(m:Int)) b).toNat:=by unfold rv Dm;rw[Al,Ba,List.getElem?_range hm];rfl
theorem VZ{c i t b:Int}{l v:Bf}{n j:Nat}{s:Rat}(hn:v.length=n)(h7:n<=7)(hj:j<=900)(al:Bp l=xZ)(hl:Bl j l)(hv:Bl 1 v)(ht:Bd 5 t.toNat)
 (vv:sq n (rv v)<=201 / 100) (tb:Ab (vR t.toNat) (21 / 10)) (ha:Ln n (rv (Dm c l b i n)) s):
 Ln n (fun m=>vR (Ej (CE c l (i+(m:Int)) b) (C0 (Ip c l i v t b) (v.getD m 0))).toNat-vH n (rv v) (vR t.toNat) (rv (Dm c l b i n)) m) (120*uR*s+100*Ci):=by
 have u0:=Dc;have us:=Hh;have e0:=Ee;have e1:Ci<=1 / 1000000:=by decide +kernel
 have s0:=ha.1;have us0:=zc (za u0) s0;have ue0:=zc (za u0) (za e0);have uus:uR*(uR*s)<=1 / 1000000*(uR*s):=zb us us0;have ue1:uR*Ci<=1 / 1000000*Ci:=zb us (za e0);have us1:uR*s<=1 / 1000000*s:=zb us s0;have lv:Ln n (rv v) (3 / 2):=⟨by decide +kernel,zn vv (by decide +kernel)⟩
 have sl:(Dm c l b i n).length=n:=DO _ _ _ _ _;have hsg:Bl j (Dm c l b i n):=Tn hl;have hd:=Xq (j:=1) (k:=j) (x:=v) (y:=Dm c l b i n) (s:=3 / 2) (t:=s) (by omega) (by rw[hn,sl]) (by omega) hv hsg (by rw[hn]; exact lv) (by rw[hn]; exact ha);rw[hn] at hd;have db:=Ls (j:=1) (k:=j) (by omega) hv hsg (by omega);have dd:=(lv.dot ha)
 have wb:Bd (j+9) (Ip c l i v t b).toNat:=by unfold Ip;rw[EN,hn];exact(Bd.mul (by omega) ht db).mono (by omega)
 have hw:Nr (vR (Ip c l i v t b).toNat) (vR t.toNat*vR (Fk v (Dm c l b i n)).toNat) (uR*av (vR t.toNat*vR (Fk v (Dm c l b i n)).toNat)+Ci):=by
  have e:(Ip c l i v t b).toNat=(En t.toNat (Fk v (Dm c l b i n)).toNat).1:=by unfold Ip;rw[EN,hn]
  rw[e] at wb ⊢;exact Lf ht.1 ht.2.1 db.1 db.2.1 wb.1 (G1 _)
 generalize Ip c l i v t b=w at *
 have vHe:∀m,vH n (rv v) (vR t.toNat) (rv (Dm c l b i n)) m=rv (Dm c l b i n) m-vR t.toNat*(sm n fun i_1=>rv v i_1*rv (Dm c l b i n) i_1)*rv v m:=fun m=>rfl
 generalize (sm n fun i_1=>rv v i_1*rv (Dm c l b i n) i_1)=D at *
 generalize vR (Fk v (Dm c l b i n)).toNat=D' at *
 have d1:=Gd dd;have d2:=Kw (z:=0) hd;have t1:=Gd tb;have d3:av D'<=16 / 10*s+15*Ci:=by grind
 have w1:av (vR t.toNat*D')<=34 / 10*s+32*Ci:=by rw[Ep];have:=CU t1 d3 (by decide +kernel) (DZ _);grind
 have w2:=Kw (z:=0) hw;have w3:=H6 w1;have wW:av (vR w.toNat)<=35 / 10*s+34*Ci:=by grind
 have wD:av (vR w.toNat-vR t.toNat*D)<=71*uR*s+32*Ci:=by have h1:=G7.1 hw;have h2:=G7.1 hd;have h3:=HA (vR w.toNat-vR t.toNat*D') (vR t.toNat*(D' - D));rw[show vR w.toNat-vR t.toNat*D'+vR t.toNat*(D' - D)=vR w.toNat-vR t.toNat*D by grind,Ep] at h3;have h4:=CU t1 h2 (by decide +kernel) (DZ _);grind
 have q1:∀m,av (vR (C0 w (v.getD m 0)).toNat-vR w.toNat*rv v m)<=uR*(35 / 10*s+34*Ci)*av (rv v m)+Ci:=fun m=>by have bv:=NO hv m;have bq:=Bd.mul (j:=j+9) (k:=1) (by omega) wb bv;have h1:=G7.1 (Lf wb.1 wb.2.1 bv.1 bv.2.1 bq.1 (G1 _));rw[EN];have e:vR (v.getD m 0).toNat=rv v m:=rfl;rw[e,Ep] at h1;have h2:=zb wW (DZ (rv v m));have h3:=H6 h2;grind
 have o1:∀m,m<n->av (vR (Ej (CE c l (i+(m:Int)) b) (C0 w (v.getD m 0))).toNat-(rv (Dm c l b i n) m-vR (C0 w (v.getD m 0)).toNat))<=uR*av (rv (Dm c l b i n) m-vR (C0 w (v.getD m 0)).toNat):=fun m hm=>by
  have ba:=RR (c:=c) (i:=i+(m:Int)) (j:=b) hl
  have bq:Bd (j+10) (C0 w (v.getD m 0)).toNat:=by rw[EN];exact Bd.mul (j:=j+9) (k:=1) (by omega) wb (NO hv m)
  have bo:=Bd.sub (k:=j+10) (by omega) (KV (F8 _ _)) (ba.mono (by omega)) bq;rw[Afr hm,Sq];exact G7.1 (PG (KV (F8 _ _)) ba.1 ba.2.1 bq.1 bq.2.1 bo.1 (G1 _))
 have L1:=lv.scale (c:=vR t.toNat*D-vR w.toNat) (B:=71*uR*s+32*Ci) (by have:=G1 (vR w.toNat-vR t.toNat*D);unfold Ab at *; grind)
 have Lq:Ln n (fun m=>vR (C0 w (v.getD m 0)).toNat-vR w.toNat*rv v m) (uR*(35 / 10*s+34*Ci)*(3 / 2)+3*Ci):=by
  have k1:=lv.avs.scale (c:=uR*(35 / 10*s+34*Ci)) (B:=uR*(35 / 10*s+34*Ci)) (by have:=zc (za u0) (show 0<=35 / 10*s+34*Ci by grind);unfold Ab; grind)
  have k2:Ln n (fun _=>Ci) (3*Ci):=Ln.Jk (za e0) (fun _ _=>by unfold Ab; grind) (by omega);exact Ln.AfI (fun m _=>q1 m) (k1.add k2)
 have La:Ln n (fun m=>rv (Dm c l b i n) m-vR (C0 w (v.getD m 0)).toNat) (s+((35 / 10*s+34*Ci)*(3 / 2)+(uR*(35 / 10*s+34*Ci)*(3 / 2)+3*Ci))):=by
  have k1:=lv.scale (c:=vR w.toNat) (B:=35 / 10*s+34*Ci) (by have:=G1 (vR w.toNat);unfold Ab at *; grind)
  exact(ha.sub (k1.add Lq)).congr fun m _=>by grind
 have Lo:Ln n (fun m=>vR (Ej (CE c l (i+(m:Int)) b) (C0 w (v.getD m 0))).toNat-(rv (Dm c l b i n) m-vR (C0 w (v.getD m 0)).toNat)) (uR*(s+((35 / 10*s+34*Ci)*(3 / 2)+(uR*(35 / 10*s+34*Ci)*(3 / 2)+3*Ci)))) :=Ln.AfI o1 (La.avs.scale (c:=uR) (B:=uR) (by unfold Ab; grind))
 have hs:=((Lo.sub Lq).add L1).congr (g:=fun m=>vR (Ej (CE c l (i+(m:Int)) b) (C0 w (v.getD m 0))).toNat-vH n (rv v) (vR t.toNat) (rv (Dm c l b i n)) m) fun m _=>by rw[vHe]; grind
 refine hs.mono ?_;clear hs Lo La Lq L1 o1 q1 wD wW w3 w2 w1 d3 d2 d1 vHe hw wb dd db hd hsg lv ha hv hl al;have hA:uR*(35 / 10*s+34*Ci)<=35 / 10*(uR*s)+Ci:=by grind
 have hA1:uR*(35 / 10*s+34*Ci)<=s / 1000+Ci:=by grind
 generalize hAA:uR*(35 / 10*s+34*Ci)=A at *
 have hX:s+((35 / 10*s+34*Ci)*(3 / 2)+(A*(3 / 2)+3*Ci))<=7*s+60*Ci:=by grind
 have hX2:=H6 hX;have hX3:uR*(7*s+60*Ci)<=7*(uR*s)+Ci:=by grind
 have h1:(71*uR*s+32*Ci)*(3 / 2)=213 / 2*(uR*s)+48*Ci:=by grind
 rw[h1];have h2:120*uR*s+100*Ci=120*(uR*s)+100*Ci:=by grind
 rw[h2];generalize uR*(s+((35 / 10*s+34*Ci)*(3 / 2)+(A*(3 / 2)+3*Ci)))=X at *
 generalize uR*(7*s+60*Ci)=Y at *
 generalize uR*s=us' at *
 grind
def vx(j:Nat)(v:Nat->Rat)(i:Nat):Rat:=if i<j then 0 else v (i-j)
theorem W1{j:Nat}{f:Nat->Rat}(h:∀i,i<j->f i=0):∀n,sm (j+n) f=sm n fun m=>f (j+m)
 | 0=>by rw[AQ,BD j (g:=fun _=>0) h,FW];rfl
 | n+1=>by show sm (j+n) f+f (j+n)=sm n (fun m=>f (j+m))+f (j+n);rw[W1 h n]
theorem Ae2(j n:Nat)(v a:Nat->Rat):(sm (j+n) fun i=>vx j v i*a i)=sm n fun m=>v m*a (j+m):=by
 rw[W1 (fun i hi=>by unfold vx; rw[Az hi]; grind)];refine BD n fun m _=>?_
 unfold vx;rw[Ay (by omega),xt]
theorem Ae1(j n:Nat)(v:Nat->Rat):sq (j+n) (vx j v)=sq n v:=by
 unfold sq;rw[Ae2 j n v (vx j v)];refine BD n fun m _=>?_
 unfold vx;rw[Ay (by omega),xt]
theorem Ln.tail{j n:Nat}{f:Nat->Rat}{s:Rat}(h:∀i,i<j->f i=0)(k:Ln n (fun m=>f (j+m)) s):Ln (j+n) f s:=by
 refine⟨k.1,?_⟩;have e:sq (j+n) f=sq n fun m=>f (j+m):=W1 (f:=fun i=>f i*f i) (fun i hi=>by rw[h i hi]; grind) n
 rw[e]; exact k.2
theorem Hj(j:Nat)(f:Nat->Rat):∀n,sm (j+n) f=sm j f+sm n fun m=>f (j+m)
 | 0=>by show sm j f=sm j f+0;grind
 | n+1=>by
   show sm (j+n) f+f (j+n)=sm j f+(sm n (fun m=>f (j+m))+f (j+n))
   rw[Hj j f n]; grind
theorem Ln.behind{j n:Nat}{f:Nat->Rat}{s:Rat}(h:Ln (j+n) f s):Ln n (fun m=>f (j+m)) s:=by
 refine⟨h.1,zn ?_ h.2⟩;unfold sq;rw[Hj j (fun i=>f i*f i) n];have:=K3 (f:=fun i=>f i*f i) j fun i _=>BS _
 grind
theorem UN{j n i:Nat}{v a:Nat->Rat}{t:Rat}:vH (j+n) (vx j v) t a i=if i<j then a i else vH n v t (fun m=>a (j+m)) (i-j):=by
 unfold vH;rw[Ae2];by_cases h:i<j
 ·rw[Az h];unfold vx;rw[Az h]; grind
 ·rw[Ay h];unfold vx;rw[Ay h];dsimp only;rw[show j+(i-j)=i by omega]
structure Mi(r:Nat)(v:Nat->Rat)(t:Rat):Prop where
 tt:av (t*(t*sq r v-2))<=220*uR
 tb:Ab t (21 / 10)
 vv:sq r v<=201 / 100
section
variable{r:Nat}{v a:Nat->Rat}{t s:Rat}
theorem Mi.lv(h:Mi r v t):Ln r v (3 / 2):=⟨by decide +kernel,zn h.vv (by decide +kernel)⟩
theorem AeA(b:Nat->Rat):(sm r fun i=>vH r v t a i*vH r v t b i)=(sm r fun i=>a i*b i)+t*(t*sq r v-2)*((sm r fun i=>v i*a i)*sm r fun i=>v i*b i):=by
 unfold vH;generalize hg:(sm r fun j=>v j*a j)=g;generalize hh:(sm r fun j=>v j*b j)=k
 have e:(sm r fun i=>(a i-t*g*v i)*(b i-t*k*v i))=(sm r fun i=>a i*b i)+(-(t*k)*(sm r fun i=>v i*a i)+(-(t*g)*(sm r fun i=>v i*b i)+t*g*(t*k)*sq r v)):=by unfold sq;rw[<- EG,<- EG,<- EG,<- Eh,<- Eh,<- Eh];exact BD r fun i _=>by grind
 rw[e,hg,hh];grind
theorem Wn(h:Mi r v t)(ha:Ln r a s):Ln r (vH r v t a) ((1+250*uR)*s):=by
 have u0:=Dc;have s0:=ha.1;refine⟨zc (by grind) s0,?_⟩;have e:=AeA (r:=r) (v:=v) (t:=t) (a:=a) a;have hd:=h.lv.dot ha
 have h1:av (t*(t*sq r v-2)*((sm r fun i=>v i*a i)*sm r fun i=>v i*a i))<=220*uR*(9 / 4*(s*s)):=by
  have h2:=Gd hd;have h3:=CU h2 h2 (by grind) (DZ _);have h4:=CU h.tt h3 (by grind) (by rw[GA]; exact BS _);generalize (sm r fun i=>v i*a i)=g at *
  generalize t*(t*sq r v-2)=κ at *
  rw[Ep,Ep];grind
 have h4:=Amx (t*(t*sq r v-2)*((sm r fun i=>v i*a i)*sm r fun i=>v i*a i));have h5:=ha.2;have uss:=zc (za u0) (BS s);have u2:=zc (za u0) uss;unfold sq at *
 rw[e];grind
theorem Ae6(i:Nat):vH r v t (vH r v t a) i=a i+t*(t*sq r v-2)*(sm r fun j=>v j*a j)*v i:=by
 have e:(sm r fun j=>v j*vH r v t a j)=(sm r fun j=>v j*a j)+-(t*(sm r fun j=>v j*a j))*sq r v:=by
  unfold vH sq;generalize hg:(sm r fun j=>v j*a j)=g;rw[<- hg,hg,<- EG]
  conv=>rhs; rw[<- hg]
  rw[<- Eh];exact BD r fun j _=>by grind
 have e2:vH r v t (vH r v t a) i=vH r v t a i-t*(sm r fun j=>v j*vH r v t a j)*v i:=rfl;have e3:vH r v t a i=a i-t*(sm r fun j=>v j*a j)*v i:=rfl;rw[e2,e,e3];grind
theorem AhB(h:Mi r v t)(ha:Ln r a s):Ln r (fun i=>a i-vH r v t (vH r v t a) i) (500*uR*s):=by
 have u0:=Dc;have s0:=ha.1;have us:=zc (za u0) s0;have hd:=h.lv.dot ha
 have h1:=h.lv.scale (c:=-(t*(t*sq r v-2)*(sm r fun j=>v j*a j))) (B:=220*uR*(3 / 2*s)) (by have h2:=CU h.tt (Gd hd) (by grind) (DZ _);rw[<- Ep] at h2;have:=G1 (t*(t*sq r v-2)*sm r fun j=>v j*a j);unfold Ab at *; grind)
 refine(h1.congr fun i _=>?_).mono (by grind);rw[Ae6]; grind
theorem Ae8(b:Nat->Rat)(i:Nat):vH r v t (fun j=>a j-b j) i=vH r v t a i-vH r v t b i:=by
 unfold vH
 have e:(sm r fun j=>v j*(a j-b j))=(sm r fun j=>v j*a j)+(-1)*sm r fun j=>v j*b j:=by rw[<- EG,<- Eh];exact BD r fun j _=>by grind
 rw[e]; grind
theorem Ae7(q:Nat->Nat->Rat)(R:Nat->Rat)(i:Nat):∀k,(sm k fun m=>vH r v t (q m) i*R m)=vH r v t (fun i=>sm k fun m=>q m i*R m) i
 | 0=>by
   show(0:Rat)=vH r v t (fun _=>0) i;unfold vH
   have:(sm r fun j=>v j*0)=0:=by rw[BD r (g:=fun _=>0) fun j _=>by grind];exact FW r
   rw[this]; grind
 | k+1=>by have ih:=Ae7 q R i k;show(sm k fun m=>vH r v t (q m) i*R m)+vH r v t (q k) i*R k=vH r v t (fun i=>(sm k fun m=>q m i*R m)+q k i*R k) i;rw[ih];have:=Ae9 (n:=r) (v:=v) (t:=t) (c:=R k) (a:=q k) (b:=fun i=>sm k fun m=>q m i*R m) i;rw[show(fun i=>(sm k fun m=>q m i*R m)+q k i*R k)=fun j=>R k*q k j+sm k fun m=>q m j*R m from funext fun j=>by grind,this];grind
end
theorem Aks{r:Nat}{e:Nat->Nat->Rat}{R:Nat->Rat}{x s:Rat}(hx:0<=x){k:Nat}(k9:k<=9)(h:∀m,m<k->Ln r (e m) x)(hR:Ln k R s):Ln r (fun i=>sm k fun m=>e m i*R m) (3*x*s):=by
 have h1:∀j,j<=k->Ln r (fun i=>sm j fun m=>e m i*R m) (x*sm j fun m=>av (R m)):=fun j=>by
  induction j with
  | zero =>
    intro _
    have z:x*(sm 0 fun m=>av (R m))=0:=by show x*0=0;grind
    rw[z];exact Ln.zero r
  | succ j ih =>
    intro hj;have h2:=(h j (by omega)).scale (c:=R j) (B:=av (R j)) (G1 _);have h3:=(ih (by omega)).add h2
    have e1:x*(sm (j+1) fun m=>av (R m))=x*(sm j fun m=>av (R m))+av (R j)*x:=by show x*((sm j fun m=>av (R m))+av (R j))=_;grind
    rw[e1]
    exact h3.congr fun i _=>by show(sm j fun m=>e m i*R m)+e j i*R j=(sm j fun m=>e m i*R m)+R j*e j i;grind
 have h2:(sm k fun m=>av (R m))<=3*s:=by have o:Ln k (fun _=>(1:Rat)) (3*1):=Ln.Jk (by decide) (fun _ _=>by unfold Ab; grind) k9;have:=(o.dot hR.avs).2;rw[BD k (g:=fun m=>av (R m)) fun m _=>by grind] at this;grind
 refine(h1 k (AB k)).mono ?_;have:=zd h2 hx;grind
def cl(c:Nat)(l:Bf)(b i:Nat):Rat:=vR (CE (c:Int) l (i:Int) (b:Int)).toNat
theorem Tm{c b j n m:Nat}{l:Bf}(hm:m<n):rv (Dm (c:Int) l (b:Int) (j:Int) n) m=cl c l b (j+m):=by rw[Afr hm];unfold cl;rw[zt]
theorem Rw{r c:Nat}{l v:Bf}{i k t:Int}{a b:Nat}(ha:a<r)(hb:b<c):CE (c:Int) (Fc r c l i k v t) (a:Int) (b:Int)=Gp (c:Int) l i k v t (a:Int) (b:Int):=EU ha hb
theorem Ot{r c j a b:Nat}{l:Bf}(ha:a<r)(hb:b<c):CE (c:Int) (LP r c l j) (a:Int) (b:Int)=if b=j/\j<=a then (if a=j then (Ce (Dv r c l j)).2.2.1 else 0) else Gp (c:Int) l (j:Int) (j:Int) (Ce (Dv r c l j)).1 (Ce (Dv r c l j)).2.1 (a:Int) (b:Int):=by
 unfold LP M5;refine(EU ha hb).trans ?_;split
 ·rfl
 ·exact Rw ha hb
theorem Ad4{n:Nat}{j:Nat}{x v:Nat->Rat}{t b s:Rat}(h:AkS n x v t b s):Mi (j+n) (vx j v) t :=⟨by rw[Ae1]; exact h.tt,h.tb,by rw[Ae1]; exact h.vv⟩
section
variable{r c j k b K:Nat}{l:Bf}{s:Rat}
theorem Afe(hn:j+(k+1)=r)(hr:r<=6)(hj:j<c)(hb:b<c)(al:Bp l=xZ)(hK:Bl K l)(hK9:K<=900)(he:(Ce (Dv r c l j)).2.2.2=0)(hz:∀b i:Nat,b<j->b<i->i<r->cl c l b i=0)(hs:Ln r (cl c l b) s):
 Ln r (fun i=>cl c (LP r c l j) b i-vH r (vx j (rv (Ce (Dv r c l j)).1)) (vR (Ce (Dv r c l j)).2.1.toNat) (cl c l b) i) (205*uR*s+100*Ci):=by
 have u0:=Dc;have e0:=Ee;have s0:=hs.1;have us:=zc (za u0) s0;have lc:(Dv r c l j).length=k+1:=by unfold Dv; rw[DO]; omega
 have ac:Bp (Dv r c l j)=xZ:=Ji al;have ml:=KB he;have bc:Bl K (Dv r c l j):=Tn hK;obtain⟨mb1,mb2,mb3⟩:=Acb (by omega) bc ac (by omega) he
 have rc:∀m,m<k+1->rv (Dv r c l j) m=cl c l j (j+m):=fun m hm=>by unfold Dv;rw[show r-j=k+1 by omega];exact Tm hm
 have base:AkS (k+1) (rv (Dv r c l j)) (rv (Ce (Dv r c l j)).1) (vR (Ce (Dv r c l j)).2.1.toNat) (vR (Ce (Dv r c l j)).2.2.1.toNat) (sq (k+1) (rv (Dv r c l j))+1):=by
  refine TC lc (by omega) ac he ⟨?_,?_⟩
  ·have:=IA (k+1) (rv (Dv r c l j)); grind
  ·have h0:=IA (k+1) (rv (Dv r c l j));generalize sq (k+1) (rv (Dv r c l j))=q at *
   have:=BS q;grind
 generalize hv:(Ce (Dv r c l j)).1=v at *
 generalize ht:(Ce (Dv r c l j)).2.1=t at *
 have vl:v.length=k+1:=by omega
 subst hn;by_cases h1:b<j
 ·refine((Ln.zero (j+(k+1))).congr fun i hi=>?_).mono (by grind)
  have e1:cl c (LP (j+(k+1)) c l j) b i=cl c l b i:=by unfold cl;rw[Ot hi hb,Ay (by omega)];unfold Gp;rw[Ay (by omega)]
  rw[e1];unfold vH
  have z:(sm (j+(k+1)) fun m=>vx j (rv v) m*cl c l b m)=0:=by
   rw[Ae2]
   rw[BD (k+1) (g:=fun _=>0) fun m hm=>by rw[hz b (j+m) h1 (by omega) (by omega)]; grind]
   exact FW _
  rw[z]; grind
 by_cases h2:b=j
 ·subst h2;have hsb:=hs.behind;have M:=TC (s:=s) lc (by omega) ac he (hsb.congr fun m hm=>rc m hm);rw[hv,ht] at M;refine(Ln.tail (s:=205*uR*s+Ci) (fun i hi=>?_) ?_).mono (by grind)
  ·rw[UN,Az hi];unfold cl;rw[Ot (by omega) hb,Ay (by omega)];unfold Gp;rw[Ay (by omega)]; grind
  ·refine M.mir.neg.congr fun m hm=>?_
   rw[UN,Ay (by omega),xt];have e:vH (k+1) (rv v) (vR t.toNat) (fun m=>cl c l b (b+m)) m=vH (k+1) (rv v) (vR t.toNat) (rv (Dv (b+(k+1)) c l b)) m:=PE (fun m hm=>(rc m hm).symm) hm;rw[e];unfold cl;rw[Ot (by omega) hb,Az ⟨rfl,by omega⟩];by_cases h0:m=0
   ·subst h0;rw[AQ,Az rfl,Az rfl]; grind
   ·rw[Ay (by omega),Ay h0];have z:vR (wQ 0)=0:=HZ x5;rw[z]; grind
 ·have hsb:=hs.behind;have A:=VZ (c:=(c:Int)) (i:=(j:Int)) (b:=(b:Int)) (t:=t) (s:=s) vl (by omega) hK9 al hK mb1 mb2 base.vv base.tb (hsb.congr fun m hm=>Tm hm);refine(Ln.tail (s:=120*uR*s+100*Ci) (fun i hi=>?_) ?_).mono (by grind)
  ·rw[UN,Az hi];unfold cl;rw[Ot (by omega) hb,Ay (by omega)];unfold Gp;rw[Ay (by omega)]; grind
  ·refine A.congr fun m hm=>?_
   rw[UN,Ay (by omega),xt];have e:vH (k+1) (rv v) (vR t.toNat) (fun m=>cl c l b (j+m)) m=vH (k+1) (rv v) (vR t.toNat) (rv (Dm (c:Int) l (b:Int) (j:Int) (k+1))) m:=PE (fun m hm=>(Tm hm).symm) hm;rw[e];unfold cl;rw[Ot (by omega) hb,Ay (by omega),hv,ht];unfold Gp;rw[Az (by omega),show(((j+m:Nat):Int)-(j:Int)).toNat=m by omega,zt]
theorem AcS(hj:j<c)(hz:∀b i:Nat,b<j->b<i->i<r->cl c l b i=0):∀b i:Nat,b<j+1->b<i->i<r->cl c (LP r c l j) b i=0:=by
 intro b i hb hbi hi;unfold cl;rw[Ot hi (by omega)];by_cases h:b=j
 ·rw[Az ⟨h,by omega⟩,Ay (by omega)];exact HZ x5
 ·rw[Ay (by omega)];unfold Gp;rw[Ay (by omega)];exact hz b i (by omega) hbi hi
end
theorem W5(n:Nat)(f:Nat->Rat):OI n f=sm n f:=by
 induction n with
 | zero=>rfl
 | succ n ih=>unfold OI sm; rw[ih]
theorem Dg.sum{g t m:Nat}{f:Nat->Rat}:∀n,(∀i,i<n->Dg g t m (f i))->Dg g t (n*m) (OI n f)
 | 0,_=>Dg.zero g t _
 | n+1,h=>by unfold OI;rw[z8];exact(Dg.sum n fun i hi=>h i (by omega)).add (h n (by omega))
theorem Dg.Pb{g t m n k:Nat}{f:Nat->Rat}(hn:n<=k)(h:∀i,i<n->Dg g t m (f i)):Dg g t (k*m) (OI n f):=(Dg.sum n h).mono (An _ hn)
theorem Ds.dq{x:Rat}(h:Ds x):Dq x:=by obtain⟨g,t,n,h1,h2,h3,h⟩:=h;exact h.dq (by omega) (by omega) (by omega)
theorem Dg.ds{g t n:Nat}{x:Rat}(h:Dg g t n x)(hg:g<=15000)(ht:t<=15000)(hn:n<=536870912):Ds x:=⟨g,t,n,hg,ht,hn,h⟩
theorem AkI{x:Rat}(h:Ds x):dsB (BG (mQ x)) (Bo (mQ x)) (eQ x)=xZ:=Bv.2 ⟨x,h,rfl,rfl,rfl⟩
theorem Acq{n:Bool}{a:Bf}{e:Int}(h:dsB n a e=xZ):∃x,Ds x/\n=BG (mQ x)/\a=Bo (mQ x)/\e=eQ x:=Bv.1 h
theorem HN{x:Rat}(h:Dq x):F5 x=x:=H5 h
theorem Jc{x:Rat}(h:Dq x):VN x=xZ:=JM h
theorem AaT{x:Rat}(h:Ds x):dSo x=xZ:=AkI h
theorem Dg.wv(x:Int):Dg 1074 2100 1 (I7 x):=Dg.word _ (by decide)
theorem Dg.wv2(x y:Int):Dg 2148 4200 1 (I7 x*I7 y):=(Dg.wv x).mul (Dg.wv y)
theorem Dg.dot{n:Nat}{f g:Nat->Int}(h:n<=64):Dg 2148 4200 64 (OI n fun i=>I7 (f i)*I7 (g i)):=Dg.Pb (m:=1) h fun i _=>Dg.wv2 _ _
theorem Dg.sq{x:Bf}(h:x.length<=64):Dg 2148 4200 64 (GB x):=Dg.dot h
theorem WH{x:Rat}(h:Dq x):Akf (Ui x)=x:=H5 h
end Go.Ck
namespace Go.Proofs.S1
open Go Go.Den Go.Ck Go.Proofs
set_option maxRecDepth 100000
def CB.D8.q.hint:Nat->Option BN
 | 0=>xQ { Df:=[0,2,3,4],Cg:=[],Cr:=[2,3] }
 | _=>xY
def CB.D8.q.E:=D6 (Db [(11,B4.Add.q.Bt),(23,B4.Mul.q.Bt),(38,Ca.Value.q.Bt)]) (fun _=>x5) CB.D8.q.hint (fun _=>xY)
section
variable(N M:Nat)(x:Bf)(p4:Int)(p3:Bool)(p3_1:Bf)(p3_2:Int)
def CB.D8.q.L0:Option DV:=C6 CB.D8.q.E N f17 (Bw f17) [1,1,0,1,0] [] M ⟨Fz 24 [(0,.Bj .arg .u64 x),(2,.ptr 2 0 0),(3,.ptr 3 0 0),(4,.int .i64 0)],[(2,x5,.box [.bool x5,.nil,.int .i64 0]),(3,x5,.box [.bool x5,.nil,.int .i64 0])]⟩
def CB.D8.q.L1:Option DV:=C6 CB.D8.q.E N f17 (Bw f17) [1,1,0,1,0] [] M ⟨Fz 24 [(0,.Bj .arg .u64 x),(2,.ptr 2 0 0),(3,.ptr 3 0 0),(4,.int .i64 p4)],[(2,x5,.box [.bool x5,.nil,.int .i64 0]),(3,x5,.box [.bool p3,.Bj .arg .u32 p3_1,.int .i64 p3_2])]⟩
theorem CB.D8.q.B8:CB.D8.q.L0 N (M+1) x=cond (BI 0 (wj x:Int)) (bif (decide ((0:Int)<(wj x:Int))) then cond (Br (wt x 0 0)) (bif (VN (I7 (wt x 0 0))&&VN (I7 (wt x 0 0))) then cond (Qz x5 [] 0&&VN (F5 (I7 (wt x 0 0))*F5 (I7 (wt x 0 0)))) (CB.D8.q.L1 N M x 1 (BG (mQ (vQ x5 [] 0+F5 (F5 (I7 (wt x 0 0))*F5 (I7 (wt x 0 0)))))) (Bo (mQ (vQ x5 [] 0+F5 (F5 (I7 (wt x 0 0))*F5 (I7 (wt x 0 0)))))) (eQ (vQ x5 [] 0+F5 (F5 (I7 (wt x 0 0))*F5 (I7 (wt x 0 0)))))) xY else xY) xY else xY) (xQ (.agg [.bool x5,.nil,.int .i64 0])) :=Et (EY (EY (EY (CQ (CF _) (CQ (CF _) rfl rfl) rfl) rfl) rfl) rfl)
theorem CB.D8.q.CT:CB.D8.q.L1 N (M+1) x p4 p3 p3_1 p3_2=cond (BI p4 (wj x:Int)) (bif ((decide (0<=p4))&&(decide (p4<(wj x:Int)))) then cond (Br (wt x (wQ p4) 0)) (bif (VN (I7 (wt x (wQ p4) 0))&&VN (I7 (wt x (wQ p4) 0))) then cond (Qz p3 p3_1 p3_2&&VN (F5 (I7 (wt x (wQ p4) 0))*F5 (I7 (wt x (wQ p4) 0)))) (CB.D8.q.L1 N M x (Bg (p4+1)) (BG (mQ (vQ p3 p3_1 p3_2+F5 (F5 (I7 (wt x (wQ p4) 0))*F5 (I7 (wt x (wQ p4) 0)))))) (Bo (mQ (vQ p3 p3_1 p3_2+F5 (F5 (I7 (wt x (wQ p4) 0))*F5 (I7 (wt x (wQ p4) 0)))))) (eQ (vQ p3 p3_1 p3_2+F5 (F5 (I7 (wt x (wQ p4) 0))*F5 (I7 (wt x (wQ p4) 0)))))) xY else xY) xY else xY) (xQ (.agg [.bool p3,.Bj .arg .u32 p3_1,.int .i64 p3_2])) :=Et (EY (EY (EY (CQ (CF _) (CQ (CF _) rfl rfl) rfl) rfl) rfl) rfl)
theorem CB.D8.q.ev:Cz CB.D8.q.E N f17 (Bw f17) [.Bj .arg .u64 x]=
 CB.D8.q.L0 N N x:=by kernel_rfl
end
def Dt.Iq.E:=E0 [(17,CB.D8.q.Bt)]
theorem Dt.Iq.ev(N:Nat)(r c:Int)(l:Bf):Cz Dt.Iq.E N f12 (Bw f12) [.agg [.int .i64 r,.int .i64 c,.Bj .arg .u64 l]]=cond (Cq l&&Ch (wj l<=64)) (xQ (.agg [.bool (BG (mQ (GB l))),.Bj .arg .u32 (Bo (mQ (GB l))),.int .i64 (eQ (GB l))])) xY:=by kernel_rfl
def Dt.HD.E:=E0 [(40,Bq.Of.Bt),(11,B4.Add.q.Bt),(43,B4.Compare.q.Bt),(39,B4.Of.q.Bt),(41,B4.D7.q.Bt)]
theorem Dt.HD.ev(N:Nat)(n:Bool)(a:Bf)(e:Int)(m:Bool)(b:Bf)(f k:Int):Cz Dt.HD.E N f15 (Bw f15) [.agg [.bool n,.Bj .arg .u32 a,.int .i64 e],.agg [.bool m,.Bj .arg .u32 b,.int .i64 f],.int .i64 k]=cond (Qz m b f&&Ch (-2000<=(Bg ((0:Int)-(Bg ((2:Int)*k))))/\(Bg ((0:Int)-(Bg ((2:Int)*k))))<=2000)) (bif (VF 1) then cond (I8 (BG ((1:Int))) (Bo ((1:Int)))&&Ch (-5000<=(-4000:Int)/\(-4000:Int)<=5000)) (bif (VN (vQ m b f*tw (Bg ((0:Int)-(Bg ((2:Int)*k)))))&&VN (vQ (BG ((1:Int))) (Bo ((1:Int))) (-4000:Int))) then cond (Qz n a e&&VN (F5 (vQ m b f*tw (Bg ((0:Int)-(Bg ((2:Int)*k)))))+F5 (vQ (BG ((1:Int))) (Bo ((1:Int))) (-4000:Int)))) (xQ (.bool (Eg (Abc (vQ n a e) (F5 (F5 (vQ m b f*tw (Bg ((0:Int)-(Bg ((2:Int)*k)))))+F5 (vQ (BG ((1:Int))) (Bo ((1:Int))) (-4000:Int))))) 0))) xY else xY) xY else xY) xY:=by kernel_rfl
open Go Go.Den Go.Ck Go.Proofs
theorem _root_.Go.Ck.Dq.val{x:Rat}(h:Dq x):((mQ x:Int):Rat)*tw (eQ x)=x:=h.parts.1.symm
theorem wq{drops:List Nat}{m m' e e':Int}(h1:m=m')(h2:e=e'):Wk drops (.agg [.bool (BG m),.Bj .arg .u32 (Bo m),.int .i64 e]) (.agg [.bool (BG m'),.Bj .arg .u32 (Bo m'),.int .i64 e']):=by subst h1 h2;exact wdy
theorem ok4{a b c d:Bool}(h1:a=xZ)(h2:b=xZ)(h3:c=xZ)(h4:d=xZ):(((a&&b)&&c)&&d)=xZ:=by rw[h1,h2,h3,h4]; rfl
theorem B4.Add.q.Bn:B4.Add.q.Kn:=Ey.U6 (P:=_) (pre:=B4.Add.pre) (out:=B4.Add.out) B4.Add.Bn [] fun ats h=>by
 unfold B4.Add.q.pre at h;split at h
 ·rename_i n a e m b f;obtain⟨h1,h2⟩:=Bi.1 h;obtain⟨x,hx,rfl,rfl,rfl⟩:=Kh h1;obtain⟨y,hy,rfl,rfl,rfl⟩:=Kh h2;refine⟨ok4 hx.RF hy.RF hx.MQ hy.MQ,?_⟩;have:=AmD (mQ x) (eQ x) (mQ y) (eQ y);rw[hx.val,hy.val] at this;show Wk [] (DV.agg [.bool (BG (KT (wv _ _) _ (wv _ _) _)),.Bj .arg .u32 (Bo (KT (wv _ _) _ (wv _ _) _)),.int .i64 (Z7 (wv _ _) _ (wv _ _) _)]) (DV.agg [.bool (BG (mQ (vQ _ _ _+vQ _ _ _))),.Bj .arg .u32 (Bo (mQ (vQ _ _ _+vQ _ _ _))),.int .i64 (eQ (vQ _ _ _+vQ _ _ _))]);rw[EV,EV,H5 hx,H5 hy];exact wq this.1 this.2
 ·cases h
theorem B4.Sub.q.Bn:B4.Sub.q.Kn:=Ey.U6 (P:=_) (pre:=B4.Sub.pre) (out:=B4.Sub.out) B4.Sub.Bn [] fun ats h=>by
 unfold B4.Sub.q.pre at h;split at h
 ·rename_i n a e m b f;obtain⟨h1,h2⟩:=Bi.1 h;obtain⟨x,hx,rfl,rfl,rfl⟩:=Kh h1;obtain⟨y,hy,rfl,rfl,rfl⟩:=Kh h2;refine⟨ok4 hx.RF hy.RF hx.MQ hy.MQ,?_⟩;have:=AmD (mQ x) (eQ x) (-(mQ y)) (eQ y)
  have e:((mQ x:Int):Rat)*tw (eQ x)+((-(mQ y):Int):Rat)*tw (eQ y)=x-y:=by rw[hx.val,Rat.intCast_neg];have:=hy.val;grind
  rw[e] at this;show Wk [] (DV.agg [.bool (BG (KT (wv _ _) _ (-(wv _ _)) _)),.Bj .arg .u32 (Bo (KT (wv _ _) _ (-(wv _ _)) _)),.int .i64 (Z7 (wv _ _) _ (-(wv _ _)) _)]) (DV.agg [.bool (BG (mQ (vQ _ _ _-vQ _ _ _))),.Bj .arg .u32 (Bo (mQ (vQ _ _ _-vQ _ _ _))),.int .i64 (eQ (vQ _ _ _-vQ _ _ _))]);rw[EV,EV,H5 hx,H5 hy];exact wq this.1 this.2
 ·cases h
theorem B4.Mul.q.Bn:B4.Mul.q.Kn:=Ey.U6 (P:=_) (pre:=B4.Mul.pre) (out:=B4.Mul.out) B4.Mul.Bn [] fun ats h=>by
 unfold B4.Mul.q.pre at h;split at h
 ·rename_i n a e m b f;obtain⟨h1,h2⟩:=Bi.1 h;obtain⟨x,hx,rfl,rfl,rfl⟩:=Kh h1;obtain⟨y,hy,rfl,rfl,rfl⟩:=Kh h2;refine⟨show((okM _ _&&okM _ _)&&(MQ _&&MQ _))=xZ by rw[hx.okM,hy.okM,hx.MQ,hy.MQ]; rfl,?_⟩;have:=AnM (mQ x) (eQ x) (mQ y) (eQ y);rw[hx.val,hy.val] at this;show Wk [] (DV.agg [.bool (BG (mD (wv _ _*wv _ _))),.Bj .arg .u32 (Bo (mD (wv _ _*wv _ _))),.int .i64 (eD (wv _ _*wv _ _) _)]) (DV.agg [.bool (BG (mQ (vQ _ _ _*vQ _ _ _))),.Bj .arg .u32 (Bo (mQ (vQ _ _ _*vQ _ _ _))),.int .i64 (eQ (vQ _ _ _*vQ _ _ _))]);rw[EV,EV,H5 hx,H5 hy];exact wq this.1 this.2
 ·cases h
theorem B4.D7.q.Bn:B4.D7.q.Kn:=Ey.U6 (P:=_) (pre:=B4.D7.pre) (out:=B4.D7.out) B4.D7.Bn [] fun ats h=>by
 unfold B4.D7.q.pre at h;split at h
 ·rename_i n a e k;obtain⟨h1,h2⟩:=Bi.1 h;obtain⟨x,hx,rfl,rfl,rfl⟩:=Kh h1;have hk:=Bv.1 h2;have ok:MQ k=xZ:=Bv.2 (by omega);refine⟨show((I8 _ _&&MQ _)&&MQ _)=xZ by rw[hx.I8,hx.MQ,ok]; rfl,?_⟩;have:=Akm (mQ x) (eQ x+k)
  have e:((mQ x:Int):Rat)*tw (eQ x+k)=x*tw k:=by rw[Eu];have:=hx.val;grind
  rw[e] at this;show Wk [] (DV.agg [.bool (BG (mD (wv _ _))),.Bj .arg .u32 (Bo (mD (wv _ _))),.int .i64 (eD (wv _ _) _)]) (DV.agg [.bool (BG (mQ (vQ _ _ _*tw k))),.Bj .arg .u32 (Bo (mQ (vQ _ _ _*tw k))),.int .i64 (eQ (vQ _ _ _*tw k))]);rw[EV,H5 hx];exact wq this.1 this.2
 ·cases h
theorem B4.Compare.q.Bn:B4.Compare.q.Kn:=Ey.U6 (P:=_) (pre:=B4.Compare.pre) (out:=B4.Compare.out) B4.Compare.Bn [] fun ats h=>by
 unfold B4.Compare.q.pre at h;split at h
 ·rename_i n a e m b f;obtain⟨h1,h2⟩:=Bi.1 h;obtain⟨x,hx,rfl,rfl,rfl⟩:=Kh h1;obtain⟨y,hy,rfl,rfl,rfl⟩:=Kh h2;refine⟨ok4 hx.RF hy.RF hx.MQ hy.MQ,?_⟩;show Wk [] (DV.int .i64 (Sd (wv _ _) _ (wv _ _) _)) (DV.int .i64 (Abc (vQ _ _ _) (vQ _ _ _)));rw[EV,EV,H5 hx,H5 hy,AnU hx hy];exact .int
 ·cases h
theorem B4.Of.q.Bn:B4.Of.q.Kn:=Ey.U6 (P:=_) (pre:=B4.Of.pre) (out:=B4.Of.out) B4.Of.Bn [] fun ats h=>by
 unfold B4.Of.q.pre at h;split at h
 ·rename_i n a e;obtain⟨h1,h2⟩:=Bi.1 h;have hk:=Bv.1 h2;have ok:Pn e=xZ:=Bv.2 (by omega);refine⟨show(I8 _ _&&Pn _)=xZ by rw[h1,ok]; rfl,?_⟩;have:=Akm (wv n a) e;show Wk [] (DV.agg [.bool (BG (mD (wv _ _))),.Bj .arg .u32 (Bo (mD (wv _ _))),.int .i64 (eD (wv _ _) _)]) (DV.agg [.bool (BG (mQ (vQ _ _ _))),.Bj .arg .u32 (Bo (mQ (vQ _ _ _))),.int .i64 (eQ (vQ _ _ _))]);exact wq this.1 this.2
 ·cases h
theorem Ca.Value.q.Bn:Ca.Value.q.Kn:=Ey.U6 (P:=_) (pre:=Ca.Value.pre) (out:=Ca.Value.out) Ca.Value.Bn [] fun ats h=>by
 unfold Ca.Value.q.pre at h;split at h
 ·rename_i x;refine⟨h,?_⟩;have:=Akm (G3 x) (BT x)
  have e:((G3 x:Int):Rat)*tw (BT x)=I7 x:=by unfold G3 BT I7 vR;rw[WC]
  rw[e] at this;show Wk [] (DV.agg [.bool (BG (mD (G3 x))),.Bj .arg .u32 (Bo (mD (G3 x))),.int .i64 (eD (G3 x) (BT x))]) (DV.agg [.bool (BG (mQ (I7 x))),.Bj .arg .u32 (Bo (mQ (I7 x))),.int .i64 (eQ (I7 x))]);exact wq this.1 this.2
 ·cases h
theorem Qi:mQ 0=0/\eQ 0=0:=by
 have h:(0:Rat)=((0:Int):Rat)*tw 0:=by have:((0:Int):Rat)=0:=rfl;rw[this]; grind
 obtain⟨h1,h2⟩:=V6 h;exact⟨h1.trans (Li.2 rfl),h2⟩
theorem Aa0:BG (mQ 0)=x5:=by rw[Qi.1]; rfl
theorem Xa:Bo (mQ 0)=[]:=by rw[Qi.1]; rfl
theorem Acu:Dq 0:=(Dg.zero 0 0 0).dq (by decide) (by decide) (by decide)
theorem ZJ:vQ x5 [] 0=0:=by have:=H5 Acu;rw[Aa0,Xa,Qi.2] at this;exact this
theorem Xp:Qz x5 [] 0=xZ:=by have:=JM Acu;rw[Aa0,Xa,Qi.2] at this;exact this
def dqO(x:Rat):DV:=.agg [.bool (BG (mQ x)),.Bj .arg .u32 (Bo (mQ x)),.int .i64 (eQ x)]
theorem wqO{drops:List Nat}{x:Rat}:Wk drops (dqO x) (dqO x):=wdy
theorem wqN{drops:List Nat}:Wk drops (.agg [.bool x5,.nil,.int .i64 0]) (dqO 0):=by unfold dqO;rw[Aa0,Xa,Qi.2];exact Wk.GQ (.cons .bool (.cons (.nil _ _) (.cons .int .nil)))
theorem AjW{n k:Nat}{f:Nat->Rat}{g t m:Nat}(h:∀i,Dg g t m (f i))(hg:g<=40000)(ht:t<=40000)(hn:n<=k)(hm:k*m<=1073741824):Dq (OI n f):=(Dg.Pb hn fun i _=>h i).dq hg ht hm
theorem AgN(x:Int):Dq (I7 x):=(Dg.wv x).dq (by decide) (by decide) (by decide)
theorem AgM(x y:Int):Dq (I7 x*I7 y):=(Dg.wv2 x y).dq (by decide) (by decide) (by decide)
section
variable{x:Bf}(ax:Bp x=xZ)(hx:x.length<=64)
include ax hx
theorem Wy(N:Nat):∀k i F,i+k=x.length->k<F->CB.D8.q.L1 N F x (i:Int) (BG (mQ (OI i fun j=>I7 (x.getD j 0)*I7 (x.getD j 0)))) (Bo (mQ (OI i fun j=>I7 (x.getD j 0)*I7 (x.getD j 0)))) (eQ (OI i fun j=>I7 (x.getD j 0)*I7 (x.getD j 0)))=xQ (dqO (GB x)):=by
 intro k
 induction k with
 | zero =>
   intro i F hi hF;obtain⟨F,rfl⟩:∃G,F=G+1:=⟨F-1,by omega⟩
   obtain rfl:i=x.length:=by omega
   rw[CB.D8.q.CT,B9,Ag (by omega),Af];rfl
 | succ k ih =>
   intro i F hi hF;obtain⟨F,rfl⟩:∃G,F=G+1:=⟨F-1,by omega⟩
   have d1:=AgN (x.getD i 0);have d2:=AgM (x.getD i 0) (x.getD i 0);have d3:Dq (OI i fun j=>I7 (x.getD j 0)*I7 (x.getD j 0)):=AjW (k:=64) (m:=1) (fun j=>Dg.wv2 _ _) (by decide) (by decide) (by omega) (by decide);have e1:(i:Int)+1=((i+1:Nat):Int):=by omega
   have hu:=MF ax (show i<x.length by omega);rw[CB.D8.q.CT,B9,Ac (show(i:Int)<(x.length:Int) by omega),Ac (show(0:Int)<=(i:Int) by omega),Ad,Bz (by omega) (by omega),e1];simp only[hu,HN d1,HN d2,HN d3,Jc d1,Jc d2,Jc d3,Ah,Aa];exact ih (i+1) F (by omega) (by omega)
end
theorem U9(N F:Nat){x:Bf}(h0:0<x.length)(ax:Bp x=xZ):CB.D8.q.L0 N (F+1) x=CB.D8.q.L1 N F x 1 (BG (mQ (0+I7 (x.getD 0 0)*I7 (x.getD 0 0)))) (Bo (mQ (0+I7 (x.getD 0 0)*I7 (x.getD 0 0)))) (eQ (0+I7 (x.getD 0 0)*I7 (x.getD 0 0))):=by have d1:=AgN (x.getD 0 0);have d2:=AgM (x.getD 0 0) (x.getD 0 0);have hu:=MF ax h0;rw[CB.D8.q.B8,B9,Ac (show(0:Int)<(x.length:Int) by omega)];simp only[hu,ZJ,HN d1,HN d2,Xp,Jc d1,Jc d2,Ah,Aa]
theorem CB.D8.q.Bn:Kq 17 CB.D8.q.Bt:=ED CB.D8.q.E Tryz.func17 (kc B4.Add.q.Bn (kc B4.Mul.q.Bn (kc Ca.Value.q.Bn .nil))) fun x hp=>by
 obtain⟨ox,h⟩:=Bi.1 (show(Cq x&&Ch (x.length<=64))=xZ from hp);have hx:=Bv.1 h;have ax:=Ry ox;show ∃N dv drops,_=xQ dv/\Wk drops dv (dqO (GB x));by_cases h0:x.length=0
 ·refine⟨1,.agg [.bool x5,.nil,.int .i64 0],[],?_,?_⟩
  ·rw[CB.D8.q.ev,CB.D8.q.B8,B9,Ag (by omega),Af]
  ·have:GB x=0:=by unfold GB; rw[h0]; rfl
   rw[this]; exact wqN
 ·exact⟨66,_,[],(CB.D8.q.ev 66 x).trans ((U9 66 65 (by omega) ax).trans (Wy ax hx 66 (x.length-1) 1 65 (by omega) (by omega))),wqO⟩
theorem Dt.Iq.Bn:Kq 12 Dt.Iq.Bt:=ED Dt.Iq.E Tryz.func12 (kc CB.D8.q.Bn .nil) fun r c l hp=>by obtain⟨al,hr⟩:=Bi.1 (show(Bp l&&BA r c l)=xZ from hp);have hl:=Iu hr;show ∃N dv drops,_=xQ dv/\Wk drops dv (dqO (GB l));refine⟨0,_,[],?_,wqO⟩;rw[Dt.Iq.ev,Gf al (by omega),show Ch (l.length<=64)=xZ from Bv.2 (by omega)];rfl
section
variable{x y:Bf}(ax:Bp x=xZ)(ay:Bp y=xZ)(hx:x.length<=64)(hy:x.length=y.length)
include ax ay hx hy
end
section
variable{x:Bf}{y:List (List DV)}(ax:Bp x=xZ)(hy:Amp y x.length=xZ)
include ax hy
end
theorem Akw{y:Rat}{k:Nat}(h:Ds y)(hk:k<=2000):Dq (y*tw (-(k:Int)))/\Dq (y*tw (-(k:Int))+tw (-4000)):=by obtain⟨g,t,n,h1,h2,h3,h⟩:=h;have s:=h.scale k;refine⟨s.dq (by omega) (by omega) (by omega),?_⟩;have a:=s.up (20000-(g+k));rw[show g+k+(20000-(g+k))=20000 by omega] at a;have b:=(Dg.tw 4000).up 16000;have c:=(a.wide (s:=40000) (by omega)).add (b.wide (s:=40000) (by omega));exact c.dq (by omega) (by omega) (by omega)
theorem Dt.HD.Bn:Kq 15 Dt.HD.Bt:=ED Dt.HD.E Tryz.func15 (kc Bq.Of.Bn (kc B4.Add.q.Bn (kc B4.Compare.q.Bn (kc B4.Of.q.Bn (kc B4.D7.q.Bn .nil))))) fun n a e m b f k hp=>by
 obtain⟨h1,h2⟩:=Bi.1 (show((dsB n a e&&dsB m b f)&&Ch (0<=k/\k<=1000))=xZ from hp);obtain⟨h3,h4⟩:=Bi.1 h1;obtain⟨x,hx,rfl,rfl,rfl⟩:=Acq h3;obtain⟨y,hy,rfl,rfl,rfl⟩:=Acq h4;have hk:=Bv.1 h2;obtain⟨j,rfl⟩:∃j:Nat,k=j:=⟨k.toNat,by omega⟩
 have dx:=hx.dq;have dy:=hy.dq;obtain⟨l1,l2⟩:=Akw (k:=2*j) hy (by omega);have ej:(-2*(j:Int))=-((2*j:Nat):Int):=by omega
 have e1:Bg ((0:Int)-Bg ((2:Int)*(j:Int)))=-((2*j:Nat):Int):=by rw[Bz (x:=2*(j:Int)) (by omega) (by omega),Bz (by omega) (by omega)]; omega
 have t4:Dq (tw (-4000)):=(Dg.tw 4000).dq (by decide) (by decide) (by decide)
 have v1:vQ (BG 1) (Bo 1) (-4000)=tw (-4000):=by unfold vQ;rw[EV];have:((1:Int):Rat)=1:=rfl;rw[this]; grind
 refine⟨0,Dt.HD.out [.b (BG (mQ x)),.l (Bo (mQ x)),.i (eQ x),.b (BG (mQ y)),.l (Bo (mQ y)),.i (eQ y),.i (j:Int)],[],?_,.bool⟩;show _=xQ (DV.bool (decide (vQ (BG (mQ x)) (Bo (mQ x)) (eQ x)<=vQ (BG (mQ y)) (Bo (mQ y)) (eQ y)*tw (-2*(j:Int))+tw (-4000))));have i1:VF (1:Int)=xZ:=Bv.2 (by decide);have w1:I8 (BG (1:Int)) (Bo (1:Int))=xZ:=GY (by decide);have c1:Ch (-5000<=(-4000:Int)/\(-4000:Int)<=5000)=xZ:=Bv.2 (by decide);have c2:Ch (-2000<=-((2*j:Nat):Int)/\-((2*j:Nat):Int)<=2000)=xZ:=Bv.2 (by omega);rw[Dt.HD.ev,e1,ej];simp only[HN dx,HN dy,v1,HN l1,HN l2,HN t4,Jc dx,Jc dy,Jc l1,Jc l2,Jc t4,i1,w1,c1,c2,Ah,Aa,E1];congr 2;exact decide_eq_decide.2 (AiX _ _)
section
variable{C K:Nat}{l m h:Bf}
theorem Mh{R:Nat}(hl:l.length=R*C){i:Nat}(hi:i<R):(JZ (C:Int) l (i:Int)).length=C:=by rw[Ym hl hi,AO,AL]
end
section
variable{R C K:Nat}{l m h:Bf}(r6:R<=6)(c6:C<=6)(k6:K<=6)(hl:l.length=R*C)(hm:m.length=C*K)(hh:h.length=R*K)(al:Bp l=xZ)(am:Bp m=xZ)(ah:Bp h=xZ)
include r6 c6 k6 hl hm hh al am ah
omit hh am ah in
omit hh am ah in
end
section
variable{R C K:Nat}{l m h:Bf}
end
section
variable{R C K:Nat}{l m h:Bf}(r6:R<=6)(c6:C<=6)(k6:K<=6)(hl:l.length=R*C)(hm:m.length=C*K)(hh:h.length=R*K)(al:Bp l=xZ)(am:Bp m=xZ)(ah:Bp h=xZ)
include r6 c6 k6 hl hm hh al am ah
end
set_option maxRecDepth 100000
def CB.Gs.hint:Nat->Option BN
 | 0=>xQ { Df:=[0,1,5],Cg:=[],Cr:=[] }
 | _=>xY
def CB.Gs.E:=D6 (Db [(114,Ca.Finite.Bt),(58,Ca.Kind.Bt),(92,K6.MZ.Bt)]) (fun _=>x5) CB.Gs.hint (fun _=>xY)
section
variable(N M:Nat)(x:Bf)(k p5:Int)
def CB.Gs.L0:Option DV:=C6 CB.Gs.E N f91 (Bw f91) [1,0,1,0] [] M ⟨Fz 43 [(0,.Bj .arg .u64 x),(1,.int .i64 k),(5,.int .i64 p5)],[]⟩
theorem CB.Gs.B8:CB.Gs.L0 N (M+1) x k p5=cond (BI p5 (wj x:Int)) (bif ((decide (0<=p5))&&(decide (p5<(wj x:Int)))) then cond (Br (wt x (wQ p5) 0)) (bif (!(D5 (wt x (wQ p5) 0))) then xQ (.bool x5) else bif ((decide (0<=p5))&&(decide (p5<(wj x:Int)))) then cond (N4 (wt x (wQ p5) 0)) (bif ((!((BH (wt x (wQ p5) 0)) !=(0:Int)))||((decide (0<=p5))&&(decide (p5<(wj x:Int))))) then cond ((!((BH (wt x (wQ p5) 0)) !=(0:Int)))||(Br (wt x (wQ p5) 0))) (bif ((!(((BH (wt x (wQ p5) 0)) !=(0:Int))&&(!(BI (BQ (wt x (wQ p5) 0)) (Bg ((0:Int)-k))))))||((decide (0<=p5))&&(decide (p5<(wj x:Int))))) then cond ((!(((BH (wt x (wQ p5) 0)) !=(0:Int))&&(!(BI (BQ (wt x (wQ p5) 0)) (Bg ((0:Int)-k))))))||(Br (wt x (wQ p5) 0))) (bif (((BH (wt x (wQ p5) 0)) !=(0:Int))&&((BI (BQ (wt x (wQ p5) 0)) (Bg ((0:Int)-k)))||(Eg k (BQ (wt x (wQ p5) 0))))) then xQ (.bool x5) else CB.Gs.L0 N M x k (Bg (p5+1))) xY else xY) xY else xY) xY else xY) xY else xY) (xQ (.bool xZ)) :=Et (EY (EY (EY (EY rfl (EY (EY (B5 (MH ((BH (wt x (wQ p5) 0)) !=(0:Int))) (B5 (MH ((BH (wt x (wQ p5) 0)) !=(0:Int))) (CQ (AlE _ _ _) (B5 (JV ((BH (wt x (wQ p5) 0)) !=(0:Int))) (CQ (AlB _ _) (B5 (MH ((BH (wt x (wQ p5) 0)) !=(0:Int))) (B5 (JV ((BH (wt x (wQ p5) 0)) !=(0:Int))) (B5 (AcJ ((BH (wt x (wQ p5) 0)) !=(0:Int))) (B5 (JV ((BH (wt x (wQ p5) 0)) !=(0:Int))) (B5 (AeQ ((BH (wt x (wQ p5) 0)) !=(0:Int)) (BI (BQ (wt x (wQ p5) 0)) (Bg ((0:Int)-k)))) (B5 (AeQ ((BH (wt x (wQ p5) 0)) !=(0:Int)) (BI (BQ (wt x (wQ p5) 0)) (Bg ((0:Int)-k)))) (CQ (Ano _ _ _ _) (B5 (AlU ((BH (wt x (wQ p5) 0)) !=(0:Int)) (BI (BQ (wt x (wQ p5) 0)) (Bg ((0:Int)-k)))) (CQ (Anp _ _ _) (B5 (AeQ ((BH (wt x (wQ p5) 0)) !=(0:Int)) (BI (BQ (wt x (wQ p5) 0)) (Bg ((0:Int)-k)))) (B5 (AlT ((BH (wt x (wQ p5) 0)) !=(0:Int)) (BI (BQ (wt x (wQ p5) 0)) (Bg ((0:Int)-k)))) (B5 (AlX ((BH (wt x (wQ p5) 0)) !=(0:Int)) (BI (BQ (wt x (wQ p5) 0)) (Bg ((0:Int)-k)))) (B5 (QG ((BH (wt x (wQ p5) 0)) !=(0:Int))) (CQ (Anq _ _ _) rfl rfl))))) rfl)) rfl))))))) rfl)) rfl))) rfl) rfl)) rfl) rfl) rfl)
theorem CB.Gs.ev:Cz CB.Gs.E N f91 (Bw f91) [.Bj .arg .u64 x,.int .i64 k]=
 CB.Gs.L0 N N x k 0:=by kernel_rfl
end
def Dt.Gs.E:=E0 [(91,CB.Gs.Bt),(90,Cn.Jd.Bt)]
theorem Dt.Gs.ev(N:Nat)(r c:Int)(l:Bf)(k:Int):Cz Dt.Gs.E N f34 (Bw f34) [.agg [.int .i64 r,.int .i64 c,.Bj .arg .u64 l],.int .i64 k]=cond ((!(BA r c l))||(Cq l&&Ch (0<=k/\k<=1000))) (xQ (.bool (cond (BA r c l) (G5 l k) x5))) xY :=Et (B5 (MH (BA r c l)) (B5 (JV (BA r c l)) (B5 (MH (BA r c l)) (CQ (Al7 _ _) (B5 (QG (BA r c l)) rfl) rfl))))
theorem AcM{k b:Int}(hk:0<=k/\k<=1000):((BH b !=(0:Int))&&((BI (BQ b) (Bg ((0:Int)-k)))||(Eg k (BQ b))))=!(decide (BH b=0)||(decide (-k<=BQ b)&&decide (BQ b<k))):=by rw[Bz (by omega) (by omega),B9,E1,Ar];simp only[Am,zK,Bool.not_eq_true',Bool.or_eq_false_iff,Bool.and_eq_false_iff,Ai,Av,bne_iff_ne,ne_eq];omega
theorem AcL(N:Nat){x:Bf}(ax:Bp x=xZ)(hx:x.length<4611686018427387904){k:Int}(hk:0<=k/\k<=1000):∀(t d:Bf) (F:Nat),x=d++t->t.length<F ->
 CB.Gs.L0 N F x k (d.length:Int)=xQ (.bool (t.all (Vb k))):=by
 intro t
 induction t with
 | nil =>
   intro d F hy hF;obtain⟨F,rfl⟩:∃G,F=G+1:=⟨F-1,by omega⟩
   rw[List.append_nil] at hy;subst hy;rw[CB.Gs.B8,B9,Ag (by omega),Af];rfl
 | cons b t ih =>
   intro d F hy hF;obtain⟨F,rfl⟩:∃G,F=G+1:=⟨F-1,by omega⟩
   have hl:d.length<x.length:=by rw[hy,A8,zj]; omega
   have hb:wt x d.length 0=b:=by rw[hy,Al,AX (AB _),Nat.sub_self]; rfl
   have ib:Br b=xZ:=by rw[<- hb]; exact MF ax hl
   obtain⟨n,hn,_⟩:=C9 ib;have nb:N4 b=xZ:=by rw[hn]; exact N3 n
   rw[CB.Gs.B8,B9,Ac (show(d.length:Int)<(x.length:Int) by omega),Ac (show(0:Int)<=(d.length:Int) by omega),Ad,hb,ib,nb,AcM hk];simp only[Aa,Ah,AV];show(cond (!D5 b) (xQ (DV.bool x5)) _)=xQ (DV.bool ((D5 b&&(decide (BH b=0)||(decide (-k<=BQ b)&&decide (BQ b<k))))&&t.all (Vb k)));cases D5 b with
   | false=>rfl
   | true =>
     rw[AH,Af,AW];cases (decide (BH b=0)||(decide (-k<=BQ b)&&decide (BQ b<k))) with
     | false=>rfl
     | true =>have:=ih (d++[b]) F (by rw[hy,List.append_assoc]; rfl) (by simp only[zj] at hF; omega);rw[A8] at this;rw[AH,Af,AW,Bz (by omega) (by omega)];exact this
theorem CB.Gs.Bn:Kq 91 CB.Gs.Bt:=ED CB.Gs.E Tryz.func91 (kc Ca.Finite.Bn (kc Ca.Kind.Bn (kc K6.MZ.Bn .nil))) fun x k hp=>by obtain⟨ox,hk⟩:=Bi.1 (show(Cq x&&Ch (0<=k/\k<=1000))=xZ from hp);refine⟨x.length+1,.bool (G5 x k),[],?_,.bool⟩;rw[CB.Gs.ev];exact AcL (x.length+1) (Ry ox) (Bv.1 ox).1 (Bv.1 hk) x [] (x.length+1) rfl (by omega)
theorem Dt.Gs.Bn:Kq 34 Dt.Gs.Bt:=ED Dt.Gs.E Tryz.func34 (kc CB.Gs.Bn (kc Cn.Jd.Bn .nil)) fun r c l k hp=>by
 obtain⟨al,hk⟩:=Bi.1 (show(Bp l&&Ch (0<=k/\k<=1000))=xZ from hp);refine⟨0,.bool (BA r c l&&G5 l k),[],?_,.bool⟩;rw[Dt.Gs.ev,hk];cases hr:BA r c l with
 | false=>rfl
 | true =>rw[Gf al (by have:=Iu hr; omega)];rfl
def Cw.fit.hint:Nat->Option BN
 | 0=>xQ { Df:=[3,4,7,8,9],Cg:=[(0,7,100007,.Cu 24 3 []),(0,8,100008,.Bj 3 .i64 [])],Cr:=[3,4] }
 | _=>xY
def Cw.fit.E:=D6 (Db [(74,CB.Finite.Bt),(35,Dt.Check.Bt)]) (fun _=>x5) Cw.fit.hint (fun _=>xY)
theorem Cw.fit.ev(N:Nat)(a1 b1:Int)(l1:Bf)(a2 b2:Int)(l2:Bf)(a3 b3:Int)(l3:Bf)(a4 b4:Int)(l4 x y:Bf)(r c:Int)(l:Bf)(p q:Int)(m:Bf):Cz Cw.fit.E (N+6) f44 (Bw f44) [.agg [.int .i64 a1,.int .i64 b1,.Bj .arg .u64 l1,.int .i64 a2,.int .i64 b2,.Bj .arg .u64 l2,.int .i64 a3,.int .i64 b3,.Bj .arg .u64 l3,.int .i64 a4,.int .i64 b4,.Bj .arg .u64 l4,.Bj .arg .u64 x,.Bj .arg .u64 y],.agg [.int .i64 r,.int .i64 c,.Bj .arg .u64 l],.agg [.int .i64 p,.int .i64 q,.Bj .arg .u64 m]]=cond (Bp l1) (bif ((((BU a1 b1 l1) !=(0:Int))||(a1 !=r))||(b1 !=c)) then xQ (.bool x5) else bif (Bp l2) then cond ((((BU a2 b2 l2) !=(0:Int))||(a2 !=p))||(b2 !=c)) (xQ (.bool x5)) (bif (Bp l3) then cond ((((BU a3 b3 l3) !=(0:Int))||(a3 !=c))||(b3 !=c)) (xQ (.bool x5)) (bif (Bp l4) then cond ((((BU a4 b4 l4) !=(0:Int))||(a4 !=c))||(b4 !=c)) (xQ (.bool x5)) (bif ((!(((wj x:Int)==c)&&((wj y:Int)==c)))||(Cq x)) then cond ((!((((wj x:Int)==c)&&((wj y:Int)==c))&&(DA x)))||(Cq y)) (xQ (.bool (cond (bif (cond ((wj x:Int)==c) ((wj y:Int)==c) x5) then (DA x) else x5) (DA y) x5))) xY else xY) else xY) else xY) else xY) xY:=
 Et (CQ (CF _) (B5 (JN ((BU a1 b1 l1) !=(0:Int))) (B5 (JN ((BU a1 b1 l1) !=(0:Int))) (B5 (MJ ((BU a1 b1 l1) !=(0:Int))) (B5 (MI ((BU a1 b1 l1) !=(0:Int))) (B5 (MI ((BU a1 b1 l1) !=(0:Int))) (B5 (JN ((BU a1 b1 l1) !=(0:Int))) (B5 (JN ((BU a1 b1 l1) !=(0:Int))) (B5 (MJ ((BU a1 b1 l1) !=(0:Int))) (B5 (MI ((BU a1 b1 l1) !=(0:Int))) (B5 (MJ ((BU a1 b1 l1) !=(0:Int))) (B5 (Ab7 ((BU a1 b1 l1) !=(0:Int))) (B5 (MK ((BU a1 b1 l1) !=(0:Int)) (a1 !=r)) (B5 (MK ((BU a1 b1 l1) !=(0:Int)) (a1 !=r)) (B5 (R5 ((BU a1 b1 l1) !=(0:Int)) (a1 !=r)) (B5 (ML ((BU a1 b1 l1) !=(0:Int)) (a1 !=r)) (B5 (ML ((BU a1 b1 l1) !=(0:Int)) (a1 !=r)) (B5 (MK ((BU a1 b1 l1) !=(0:Int)) (a1 !=r)) (B5 (ML ((BU a1 b1 l1) !=(0:Int)) (a1 !=r)) (B5 (R5 ((BU a1 b1 l1) !=(0:Int)) (a1 !=r)) (B5 (Ab8 ((BU a1 b1 l1) !=(0:Int)) (a1 !=r)) (CQ (Ab9 _ _ _) rfl (CQ (CF _) (B5 (JN ((BU a2 b2 l2) !=(0:Int))) (B5 (JN ((BU a2 b2 l2) !=(0:Int))) (B5 (MJ ((BU a2 b2 l2) !=(0:Int))) (B5 (MI ((BU a2 b2 l2) !=(0:Int))) (B5 (MI ((BU a2 b2 l2) !=(0:Int))) (B5 (JN ((BU a2 b2 l2) !=(0:Int))) (B5 (JN ((BU a2 b2 l2) !=(0:Int))) (B5 (MJ ((BU a2 b2 l2) !=(0:Int))) (B5 (MI ((BU a2 b2 l2) !=(0:Int))) (B5 (MJ ((BU a2 b2 l2) !=(0:Int))) (B5 (Ab7 ((BU a2 b2 l2) !=(0:Int))) (B5 (MK ((BU a2 b2 l2) !=(0:Int)) (a2 !=p)) (B5 (MK ((BU a2 b2 l2) !=(0:Int)) (a2 !=p)) (B5 (R5 ((BU a2 b2 l2) !=(0:Int)) (a2 !=p)) (B5 (ML ((BU a2 b2 l2) !=(0:Int)) (a2 !=p)) (B5 (ML ((BU a2 b2 l2) !=(0:Int)) (a2 !=p)) (B5 (MK ((BU a2 b2 l2) !=(0:Int)) (a2 !=p)) (B5 (ML ((BU a2 b2 l2) !=(0:Int)) (a2 !=p)) (B5 (R5 ((BU a2 b2 l2) !=(0:Int)) (a2 !=p)) (B5 (Ab8 ((BU a2 b2 l2) !=(0:Int)) (a2 !=p)) (CQ (Ab9 _ _ _) rfl (CQ (CF _) (B5 (JN ((BU a3 b3 l3) !=(0:Int))) (B5 (JN ((BU a3 b3 l3) !=(0:Int))) (B5 (MJ ((BU a3 b3 l3) !=(0:Int))) (B5 (MI ((BU a3 b3 l3) !=(0:Int))) (B5 (MI ((BU a3 b3 l3) !=(0:Int))) (B5 (JN ((BU a3 b3 l3) !=(0:Int))) (B5 (JN ((BU a3 b3 l3) !=(0:Int))) (B5 (MJ ((BU a3 b3 l3) !=(0:Int))) (B5 (MI ((BU a3 b3 l3) !=(0:Int))) (B5 (MJ ((BU a3 b3 l3) !=(0:Int))) (B5 (Ab7 ((BU a3 b3 l3) !=(0:Int))) (B5 (MK ((BU a3 b3 l3) !=(0:Int)) (a3 !=c)) (B5 (MK ((BU a3 b3 l3) !=(0:Int)) (a3 !=c)) (B5 (R5 ((BU a3 b3 l3) !=(0:Int)) (a3 !=c)) (B5 (ML ((BU a3 b3 l3) !=(0:Int)) (a3 !=c)) (B5 (ML ((BU a3 b3 l3) !=(0:Int)) (a3 !=c)) (B5 (MK ((BU a3 b3 l3) !=(0:Int)) (a3 !=c)) (B5 (ML ((BU a3 b3 l3) !=(0:Int)) (a3 !=c)) (B5 (R5 ((BU a3 b3 l3) !=(0:Int)) (a3 !=c)) (B5 (Ab8 ((BU a3 b3 l3) !=(0:Int)) (a3 !=c)) (CQ (Ab9 _ _ _) rfl (CQ (CF _) (B5 (JN ((BU a4 b4 l4) !=(0:Int))) (B5 (JN ((BU a4 b4 l4) !=(0:Int))) (B5 (MJ ((BU a4 b4 l4) !=(0:Int))) (B5 (MI ((BU a4 b4 l4) !=(0:Int))) (B5 (MI ((BU a4 b4 l4) !=(0:Int))) (B5 (JN ((BU a4 b4 l4) !=(0:Int))) (B5 (JN ((BU a4 b4 l4) !=(0:Int))) (B5 (MJ ((BU a4 b4 l4) !=(0:Int))) (B5 (MI ((BU a4 b4 l4) !=(0:Int))) (B5 (MJ ((BU a4 b4 l4) !=(0:Int))) (B5 (Ab7 ((BU a4 b4 l4) !=(0:Int))) (B5 (MK ((BU a4 b4 l4) !=(0:Int)) (a4 !=c)) (B5 (MK ((BU a4 b4 l4) !=(0:Int)) (a4 !=c)) (B5 (R5 ((BU a4 b4 l4) !=(0:Int)) (a4 !=c)) (B5 (ML ((BU a4 b4 l4) !=(0:Int)) (a4 !=c)) (B5 (ML ((BU a4 b4 l4) !=(0:Int)) (a4 !=c)) (B5 (MK ((BU a4 b4 l4) !=(0:Int)) (a4 !=c)) (B5 (ML ((BU a4 b4 l4) !=(0:Int)) (a4 !=c)) (B5 (R5 ((BU a4 b4 l4) !=(0:Int)) (a4 !=c)) (B5 (Ab8 ((BU a4 b4 l4) !=(0:Int)) (a4 !=c)) (CQ (Ab9 _ _ _) rfl (B5 (MH ((wj x:Int)==c)) (B5 (JV ((wj x:Int)==c)) (B5 (JV ((wj x:Int)==c)) (B5 (MH ((wj x:Int)==c)) (B5 (JV ((wj x:Int)==c)) (B5 (AcJ ((wj x:Int)==c)) (B5 (QG ((wj x:Int)==c)) (B5 (AhJ ((wj x:Int)==c) ((wj y:Int)==c)) (B5 (AcD ((wj x:Int)==c) ((wj y:Int)==c)) (CQ (Al8 _ _ _) (B5 (AhK ((wj x:Int)==c) ((wj y:Int)==c)) (B5 (AjK ((wj x:Int)==c) ((wj y:Int)==c) (DA x)) (B5 (AcE ((wj x:Int)==c) ((wj y:Int)==c) (DA x)) (CQ (AlW _ _ _ _) (B5 (AjL ((wj x:Int)==c) ((wj y:Int)==c) (DA x)) rfl) rfl)))) rfl))))))))))))))))))))))))))))))) rfl)))))))))))))))))))))) rfl)))))))))))))))))))))) rfl)))))))))))))))))))))) rfl)
def Cw.asked.E:=E0 [(25,CN.Dj.Bt),(44,Cw.fit.Bt),(34,Dt.Gs.Bt)]
theorem Cw.asked.ev(N:Nat)(r c:Int)(l:Bf)(p q:Int)(m:Bf):Cz Cw.asked.E N f9 (Bw f9) [.agg [.int .i64 r,.int .i64 c,.Bj .arg .u64 l],.agg [.int .i64 p,.int .i64 q,.Bj .arg .u64 m]]=cond (Bp l&&Ch (0<=(100:Int)/\(100:Int)<=1000)) (bif ((!(BA r c l&&G5 l 100))||(Bp m&&Ch (0<=(100:Int)/\(100:Int)<=1000))) then cond ((!(BA r c l&&G5 l 100))||(!(BA p q m&&G5 m 100))) (xQ (.CR [.agg [.int .i64 0,.int .i64 0,.nil,.int .i64 0,.int .i64 0,.nil,.int .i64 0,.int .i64 0,.nil,.int .i64 0,.int .i64 0,.nil,.nil,.nil],.bool x5,.bool xZ])) (bif (Bp l&&Bp m) then cond ((Di r c l p q m) !=(0:Int)) (xQ (.CR [.agg [.int .i64 0,.int .i64 0,.nil,.int .i64 0,.int .i64 0,.nil,.int .i64 0,.int .i64 0,.nil,.int .i64 0,.int .i64 0,.nil,.nil,.nil],.bool x5,.bool (cond ((Di r c l p q m)==(3:Int)) xZ ((Di r c l p q m)==(6:Int)))])) (bif (((Bp ((Hy r c l p q m).2.2.1)&&Bp ((H0 r c l p q m).2.2.1))&&(Bp ((Hz r c l p q m).2.2.1)&&Bp ((H2 r c l p q m).2.2.1)))&&(Cq (F9 r c l p q m)&&Cq (IJ r c l p q m))) then xQ (.CR [.agg [.int .i64 ((Hy r c l p q m).1),.int .i64 ((Hy r c l p q m).2.1),.Bj .arg .u64 ((Hy r c l p q m).2.2.1),.int .i64 ((H0 r c l p q m).1),.int .i64 ((H0 r c l p q m).2.1),.Bj .BE .u64 ((H0 r c l p q m).2.2.1),.int .i64 ((Hz r c l p q m).1),.int .i64 ((Hz r c l p q m).2.1),.Bj .BE .u64 ((Hz r c l p q m).2.2.1),.int .i64 ((H2 r c l p q m).1),.int .i64 ((H2 r c l p q m).2.1),.Bj .BE .u64 ((H2 r c l p q m).2.2.1),.Bj .BE .u64 (F9 r c l p q m),.Bj .BE .u64 (IJ r c l p q m)],.bool xZ,.bool (AdT ((Hy r c l p q m).1) ((Hy r c l p q m).2.1) ((Hy r c l p q m).2.2.1) ((H0 r c l p q m).1) ((H0 r c l p q m).2.1) ((H0 r c l p q m).2.2.1) ((Hz r c l p q m).1) ((Hz r c l p q m).2.1) ((Hz r c l p q m).2.2.1) ((H2 r c l p q m).1) ((H2 r c l p q m).2.1) ((H2 r c l p q m).2.2.1) (F9 r c l p q m) (IJ r c l p q m) r c p)]) else xY) else xY) else xY) xY :=Et (EY (B5 (SU (BA r c l&&G5 l 100)) (CQ (AcI _ _) (B5 (OZ (BA r c l&&G5 l 100)) (B5 (U7 (BA r c l&&G5 l 100)) (CQ (AeP _ _) rfl (EY (EY (B5 (U5 ((Di r c l p q m)==(3:Int))) (B5 (RW ((Di r c l p q m)==(3:Int))) (B5 (XT ((Di r c l p q m)==(3:Int))) rfl))) (CQ (CF _) rfl rfl)) rfl)))) rfl)) rfl)
section
variable{R C:Nat}{l:Bf}
end
section
variable{R C:Nat}{l:Bf}(r6:R<=6)(c6:C<=6)(hl:l.length=R*C)(al:Bp l=xZ)
include r6 c6 hl al
end
theorem Cw.fit.Bn:Kq 44 Cw.fit.Bt:=ED Cw.fit.E Tryz.func44 (kc CB.Finite.Bn (kc Dt.Check.Bn .nil)) fun a1 b1 l1 a2 b2 l2 a3 b3 l3 a4 b4 l4 x y r c l p q m hp=>by
 obtain⟨h1,h2⟩:=Bi.1 (show(((Bp l1&&Bp l2)&&(Bp l3&&Bp l4))&&(Cq x&&Cq y))=xZ from hp);obtain⟨h3,h4⟩:=Bi.1 h1;obtain⟨a1',a2'⟩:=Bi.1 h3;obtain⟨a3',a4'⟩:=Bi.1 h4;obtain⟨ox,oy⟩:=Bi.1 h2;refine⟨0+6,.bool (AdT a1 b1 l1 a2 b2 l2 a3 b3 l3 a4 b4 l4 x y r c p),[],?_,.bool⟩
 have e:∀k a b u v:Int,(((k !=(0:Int))||(a !=u))||(b !=v))=!(decide (k=0/\a=u/\b=v)):=fun k a b u v=>by by_cases h1:k=0<;>by_cases h2:a=u<;>by_cases h3:b=v<;>simp[h1,h2,h3]
 have f:∀a b:Int,(a==b)=decide (a=b):=fun a b=>by by_cases h:a=b<;>simp[h]
 rw[Cw.fit.ev,a1',a2',a3',a4',ox,oy,e,e,e,e,f,f,AV,AV];simp only[Aa];unfold AdT;cases decide (BU a1 b1 l1=0/\a1=r/\b1=c) with
 | false=>rfl
 | true =>
 cases decide (BU a2 b2 l2=0/\a2=p/\b2=c) with
 | false=>rfl
 | true =>
 cases decide (BU a3 b3 l3=0/\a3=c/\b3=c) with
 | false=>rfl
 | true =>
 cases decide (BU a4 b4 l4=0/\a4=c/\b4=c) with
 | false=>rfl
 | true =>
 cases decide ((x.length:Int)=c)<;>cases decide ((y.length:Int)=c)<;>cases DA x<;>cases DA y<;>rfl
theorem LD.wds{R C:Nat}{x:MX}(h:LD R C x):Bp x.2.2.1=xZ:=by obtain⟨l,rfl,_,_,_,al⟩:=h;exact al
theorem Agx{r c:Int}{l:Bf}{p q:Int}{m:Bf}(al:Bp l=xZ)(am:Bp m=xZ):
 ((Bp (Hy r c l p q m).2.2.1&&Bp (H0 r c l p q m).2.2.1)&&(Bp (Hz r c l p q m).2.2.1&&Bp (H2 r c l p q m).2.2.1))=xZ/\(Cq (F9 r c l p q m)&&Cq (IJ r c l p q m))=xZ:=by
 have o:Bp []=xZ:=Bv.2 fun _ h=>by cases h
 have oo:Cq []=xZ:=Gf o (by decide);unfold Hy H0 Hz H2 F9 IJ gsO AaJ;by_cases h:Di r c l p q m=0
 ·have h':¬Di r c l p q m≠0:=fun k=>k h
  rw[Ay h',Ay h',Ay h',Ay h',Ay h',Ay h'];have k:VH r c l p q m=0:=Decidable.byContradiction fun k=>k ((Ze k).symm.trans h)
  obtain⟨R,C,P,rfl,rfl,rfl,rfl,g⟩:=Acj k
  have kf:Fp ((R:Int)+(P:Int)) (C:Int) (l++m)=0:=Decidable.byContradiction fun kf=>by have:=AjA k kf; rw[h] at this; cases this
  have ku:GW (Hb (R:Int) (C:Int) l (P:Int) m).1 (Hb (R:Int) (C:Int) l (P:Int) m).2.1 (Hb (R:Int) (C:Int) l (P:Int) m).2.2.1=0:=Decidable.byContradiction fun ku=>by have:=AgJ k kf ku; rw[h] at this; exact ku this.symm
  obtain⟨⟨t1,_⟩,t3⟩:=g.parts al am kf;obtain⟨u1,u2,u3,u4⟩:=t1.upr ku;have hU:=g.prod al am kf ku;have hV:LD C C (gsV (R:Int) (C:Int) l (P:Int) m):=u2;refine⟨?_,?_⟩
  ·rw[u1.wds,hU.wds,hV.wds,(g.thin al am kf).2.wds]; rfl
  ·rw[Gf u3 (by rw[u4]; have:=u2.c6; omega),Gf (Rb _ _ _) (by rw[Jl,Ad]; have:=u2.c6; omega)]; rfl
 ·rw[Az h,Az h,Az h,Az h,Az h,Az h];exact⟨by rw[show Bp (JJ (Di r c l p q m)).2.2.1=xZ from o]; rfl,by rw[oo]; rfl⟩
def AfC(x y u v:MX)(a b:Bf):List DV:=[.int .i64 x.1,.int .i64 x.2.1,.Bj .arg .u64 x.2.2.1,.int .i64 y.1,.int .i64 y.2.1,.Bj .arg .u64 y.2.2.1,.int .i64 u.1,.int .i64 u.2.1,.Bj .arg .u64 u.2.2.1,.int .i64 v.1,.int .i64 v.2.1,.Bj .arg .u64 v.2.2.1,.Bj .arg .u64 a,.Bj .arg .u64 b]
theorem Ab1{x y:Bool}:Wk [] (.CR [.agg [.int .i64 (0:Int),.int .i64 (0:Int),.nil,.int .i64 (0:Int),.int .i64 (0:Int),.nil,.int .i64 (0:Int),.int .i64 (0:Int),.nil,.int .i64 (0:Int),.int .i64 (0:Int),.nil,.nil,.nil],.bool x,.bool y])
 (.CR [.agg (AfC (JJ 0) (JJ 0) (JJ 0) (JJ 0) [] []),.bool x,.bool y]):=
 Wk.Gr (.cons (Wk.GQ (.cons .int (.cons .int (.cons (.nil _ _) (.cons .int (.cons .int (.cons (.nil _ _) (.cons .int (.cons .int (.cons (.nil _ _) (.cons .int (.cons .int (.cons (.nil _ _) (.cons (.nil _ _) (.cons (.nil _ _) .nil))))))))))))))) (.cons .bool (.cons .bool .nil)))
theorem Cw.asked.Bn:Kq 9 Cw.asked.Bt:=ED Cw.asked.E Tryz.func9 (kc CN.Dj.Bn (kc Cw.fit.Bn (kc Dt.Gs.Bn .nil))) fun r c l p q m hp=>by
 have hall:(Bp l&&Bp m)=xZ:=hp;obtain⟨al,am⟩:=Bi.1 hall;have k1:Ch (0<=(100:Int)/\(100:Int)<=1000)=xZ:=Bv.2 (by decide);obtain⟨g1,g2⟩:=Agx (r:=r) (c:=c) (p:=p) (q:=q) al am;show ∃N dv drops,_=xQ dv/\Wk drops dv (.CR [.agg (AfC (HB r c l p q m (Hy r c l p q m)) (HB r c l p q m (H0 r c l p q m)) (HB r c l p q m (Hz r c l p q m)) (HB r c l p q m (H2 r c l p q m)) (X4 r c l p q m (F9 r c l p q m)) (X4 r c l p q m (IJ r c l p q m))),.bool (NP r c l p q m),.bool (P3 r c l p q m)]);by_cases ht:Abl r c l p q m=xZ
 ·have t1:(BA r c l&&G5 l 100)=xZ:=(Bi.1 ht).1;have t2:(BA p q m&&G5 m 100)=xZ:=(Bi.1 ht).2;by_cases h0:Di r c l p q m=0
  ·have hi:NP r c l p q m=xZ:=by unfold NP; rw[ht,Ac h0]; rfl
   have ho:P3 r c l p q m=AdS r c p (Hy r c l p q m) (H0 r c l p q m) (Hz r c l p q m) (H2 r c l p q m) (F9 r c l p q m) (IJ r c l p q m):=by unfold P3; rw[Az ht,Az h0]
   unfold HB X4;rw[hi,ho,Az rfl,Az rfl,Az rfl,Az rfl,Az rfl,Az rfl]
   have w:Wk [] (.CR [.agg [.int .i64 ((Hy r c l p q m).1),.int .i64 ((Hy r c l p q m).2.1),.Bj .arg .u64 ((Hy r c l p q m).2.2.1),.int .i64 ((H0 r c l p q m).1),.int .i64 ((H0 r c l p q m).2.1),.Bj .BE .u64 ((H0 r c l p q m).2.2.1),.int .i64 ((Hz r c l p q m).1),.int .i64 ((Hz r c l p q m).2.1),.Bj .BE .u64 ((Hz r c l p q m).2.2.1),.int .i64 ((H2 r c l p q m).1),.int .i64 ((H2 r c l p q m).2.1),.Bj .BE .u64 ((H2 r c l p q m).2.2.1),.Bj .BE .u64 (F9 r c l p q m),.Bj .BE .u64 (IJ r c l p q m)],.bool xZ,.bool (AdS r c p (Hy r c l p q m) (H0 r c l p q m) (Hz r c l p q m) (H2 r c l p q m) (F9 r c l p q m) (IJ r c l p q m))])
    (.CR [.agg (AfC (Hy r c l p q m) (H0 r c l p q m) (Hz r c l p q m) (H2 r c l p q m) (F9 r c l p q m) (IJ r c l p q m)),.bool xZ,.bool (AdS r c p (Hy r c l p q m) (H0 r c l p q m) (Hz r c l p q m) (H2 r c l p q m) (F9 r c l p q m) (IJ r c l p q m))]):=
    Wk.Gr (.cons (Wk.GQ (.cons .int (.cons .int (.cons .X5 (.cons .int (.cons .int (.cons (.BE _ _) (.cons .int (.cons .int (.cons (.BE _ _) (.cons .int (.cons .int (.cons (.BE _ _) (.cons (.BE _ _) (.cons (.BE _ _) .nil))))))))))))))) (.cons .bool (.cons .bool .nil)))
   refine⟨0,_,[],?_,w⟩;rw[Cw.asked.ev,al,am,k1,Ah,Aa,AV,Aa,t1,t2,AH,wc,Af,Aa,Na h0,Af,g1,g2,Ah,Aa];rfl
  ·have hi:NP r c l p q m=x5:=by unfold NP; rw[Ag h0,Bool.and_false]
   have ho:P3 r c l p q m=decide (Di r c l p q m=3\/Di r c l p q m=6):=by unfold P3; rw[Az ht,Ay h0]
   have eo:(cond ((Di r c l p q m)==(3:Int)) xZ ((Di r c l p q m)==(6:Int)))=decide (Di r c l p q m=3\/Di r c l p q m=6):=by by_cases a:Di r c l p q m=3<;>by_cases b:Di r c l p q m=6<;>simp[a,b]
   unfold HB X4;rw[hi,ho,Ay (by decide),Ay (by decide),Ay (by decide),Ay (by decide),Ay (by decide),Ay (by decide)];refine⟨0,_,[],?_,Ab1⟩;rw[Cw.asked.ev,al,am,k1,Ah,Aa,AV,Aa,t1,t2,AH,wc,Af,Aa,neI h0,Aa,eo]
 ·have hi:NP r c l p q m=x5:=by
   unfold NP;cases h:Abl r c l p q m with
   | true=>exact absurd h ht
   | false=>rfl
  have ho:P3 r c l p q m=xZ:=by unfold P3; rw[Ay ht]
  unfold HB X4;rw[hi,ho,Ay (by decide),Ay (by decide),Ay (by decide),Ay (by decide),Ay (by decide),Ay (by decide)];refine⟨0,_,[],?_,Ab1⟩;rw[Cw.asked.ev,al,am,k1,Ah,Aa,AV,Aa]
  have e:((!(BA r c l&&G5 l 100))||(!(BA p q m&&G5 m 100)))=xZ:=by
   unfold Abl at ht;cases h1:(BA r c l&&G5 l 100) with
   | false=>rfl
   | true =>
     cases h2:(BA p q m&&G5 m 100) with
     | false=>rfl
     | true=>exact absurd (by rw[h1,h2]; rfl) ht
  rw[e,Aa]
def BJ.Of.hint:Nat->Option BN
 | 0=>xQ { Df:=[1,2,3,4],Cg:=[(4,2,104002,.Cu 34 3 [])],Cr:=[1,2,3] }
 | _=>xY
def BJ.Of.GM:List (Nat × Ez):=[(38,Ca.Value.q.Bt)]
def BJ.Of.E:Env:=Rn (Db BJ.Of.GM) (fun _=>x5) BJ.Of.hint (fun _=>xY) (Zz [(32,[.b,.s .u32]),(34,[.b,.s .u32,.i .i64])])
section
variable(N M:Nat)(r c:Int)(l:Bf)(p4:Int)(p2:List (List DV))
def BJ.Of.L0:Option DV:=C6 BJ.Of.E N f51 (Bw f51) [1,1,0,1,0] [] M ⟨Fz 29 [(1,.ptr 1 0 0),(2,.ptr 2 0 0),(3,.ptr 3 0 0),(4,.int .i64 p4)],[(1,x5,.box [.int .i64 r,.int .i64 c,.Bj .arg .u64 l]),(2,x5,.box [.int .i64 0,.int .i64 0,.nil]),(3,x5,.box [.int .i64 r,.int .i64 c,.Dh 104002]),(104002,x5,.Cu 34 3 p2)]⟩
theorem BJ.Of.B8:BJ.Of.L0 N (M+1) r c l p4 p2=cond (BI p4 (wj l:Int)) (bif ((decide (0<=p4))&&(decide (p4<(wj l:Int)))) then cond (Br (wt l (wQ p4) 0)) (bif (decide ((wj p2)+1<=RZ)) then BJ.Of.L0 N M r c l (Bg (p4+1)) (p2++[[.bool (BG (mQ (I7 (wt l (wQ p4) 0)))),.Bj .arg .u32 (Bo (mQ (I7 (wt l (wQ p4) 0)))),.int .i64 (eQ (I7 (wt l (wQ p4) 0)))]]) else xY) xY else xY) (xQ (.agg [.int .i64 r,.int .i64 c,.Cu (.own 104002 34) 3 p2])) :=Et (EY (CQ (IW _ _) (CQ (CF _) (CQ (CF _) rfl rfl) rfl) rfl) rfl)
theorem BJ.Of.ev:Cz BJ.Of.E N f51 (Bw f51) [.agg [.int .i64 r,.int .i64 c,.Bj .arg .u64 l]]=
 BJ.Of.L0 N N r c l 0 []:=by kernel_rfl
end
abbrev BJ.Of.Kn:=Ey prog 51 BJ.Of.Bt
theorem BJ.Of.D4(hk:Ff prog BJ.Of.GM)(h:Hyp BJ.Of.E f51 BJ.Of.ts BJ.Of.pre BJ.Of.out):BJ.Of.Kn :=FO (SH hk _ _ _ _) func51 (by kernel_rfl) (by kernel_rfl) h
def BJ.Dd.hint:Nat->Option BN
 | 0=>xQ { Df:=[2,3,4,5,6],Cg:=[(6,2,106002,.Cu 34 3 [])],Cr:=[2,3,4,5] }
 | 2=>xQ { Df:=[2,3,4,5,6,7],Cg:=[(6,2,106002,.Cu 34 3 [])],Cr:=[2,3,4,5] }
 | 4=>xQ { Df:=[2,3,4,5,6,7,8,9],Cg:=[(6,2,106002,.Cu 34 3 [])],Cr:=[2,3,4,5,8] }
 | _=>xY
def BJ.Dd.GM:List (Nat × Ez):=[(11,B4.Add.q.Bt),(23,B4.Mul.q.Bt)]
def BJ.Dd.E:Env:=Rn (Db BJ.Dd.GM) (fun _=>x5) BJ.Dd.hint (fun _=>xY) (Zz [(32,[.b,.s .u32]),(34,[.b,.s .u32,.i .i64])])
section
variable(N M0 M1 M:Nat)(r c:Int)(y:List (List DV))(p q:Int)(z:List (List DV))(p6_2:Int)(p2_1 p2:List (List DV))(p7 p6_1 p9_1:Int)(p8_3:Bool)(p8_4:Bf)(p8_5 p7_2:Int)(p2_3:List (List DV))(p6_4 p7_1:Int)(p2_2:List (List DV))(p6_3:Int)
def BJ.Dd.L0:Option DV:=C6 BJ.Dd.E N f52 (Bw f52) [1,1,0,1,0,0,1,0,0,1,0,0,1,0,0,1,0,1,0] [M0,M1] M ⟨Fz 64 [(2,.ptr 2 0 0),(3,.ptr 3 0 0),(4,.ptr 4 0 0),(5,.ptr 5 0 0),(6,.int .i64 p6_3),(7,.int .i64 p7_1),(8,.ptr 8 0 0),(9,.int .i64 0)],[(2,x5,.box [.int .i64 r,.int .i64 c,.Cu .arg 3 y]),(3,x5,.box [.int .i64 p,.int .i64 q,.Cu .arg 3 z]),(4,x5,.box [.int .i64 0,.int .i64 0,.nil]),(5,x5,.box [.int .i64 r,.int .i64 q,.Dh 106002]),(8,x5,.box [.bool x5,.nil,.int .i64 0]),(106002,x5,.Cu 34 3 p2_2)]⟩
def BJ.Dd.L1:Option DV:=C6 BJ.Dd.E N f52 (Bw f52) [1,1,0,1,0,0,1,0,0,1,0,0,1,0,0,1,0,1,0] [M0,M1] M ⟨Fz 64 [(2,.ptr 2 0 0),(3,.ptr 3 0 0),(4,.ptr 4 0 0),(5,.ptr 5 0 0),(6,.int .i64 p6_4),(7,.int .i64 p7_2),(8,.ptr 8 0 0),(9,.int .i64 p9_1)],[(2,x5,.box [.int .i64 r,.int .i64 c,.Cu .arg 3 y]),(3,x5,.box [.int .i64 p,.int .i64 q,.Cu .arg 3 z]),(4,x5,.box [.int .i64 0,.int .i64 0,.nil]),(5,x5,.box [.int .i64 r,.int .i64 q,.Dh 106002]),(8,x5,.box [.bool p8_3,.Bj .arg .u32 p8_4,.int .i64 p8_5]),(106002,x5,.Cu 34 3 p2_3)]⟩
def BJ.Dd.L2:Option DV:=C6 BJ.Dd.E N f52 (Bw f52) [1,1,0,1,0,0,1,0,0,1,0] [M0] M ⟨Fz 64 [(2,.ptr 2 0 0),(3,.ptr 3 0 0),(4,.ptr 4 0 0),(5,.ptr 5 0 0),(6,.int .i64 p6_1),(7,.int .i64 p7)],[(2,x5,.box [.int .i64 r,.int .i64 c,.Cu .arg 3 y]),(3,x5,.box [.int .i64 p,.int .i64 q,.Cu .arg 3 z]),(4,x5,.box [.int .i64 0,.int .i64 0,.nil]),(5,x5,.box [.int .i64 r,.int .i64 q,.Dh 106002]),(106002,x5,.Cu 34 3 p2)]⟩
def BJ.Dd.L3:Option DV:=C6 BJ.Dd.E N f52 (Bw f52) [1,1,0,1,0] [] M ⟨Fz 64 [(2,.ptr 2 0 0),(3,.ptr 3 0 0),(4,.ptr 4 0 0),(5,.ptr 5 0 0),(6,.int .i64 p6_2)],[(2,x5,.box [.int .i64 r,.int .i64 c,.Cu .arg 3 y]),(3,x5,.box [.int .i64 p,.int .i64 q,.Cu .arg 3 z]),(4,x5,.box [.int .i64 0,.int .i64 0,.nil]),(5,x5,.box [.int .i64 r,.int .i64 q,.Dh 106002]),(106002,x5,.Cu 34 3 p2_1)]⟩
theorem BJ.Dd.B8:BJ.Dd.L0 N M0 M1 (M+1) r c y p q z p7_1 p2_2 p6_3=cond (BI 0 c) (bif ((decide (0<=(Bg ((Bg (p6_3*c))+0))))&&(decide ((Bg ((Bg (p6_3*c))+0))<(wj y:Int)))) then cond ((OC .b (wt (wt y (wQ (Bg ((Bg (p6_3*c))+0))) []) 0 .undef))&&((OC (.s .u32) (wt (wt y (wQ (Bg ((Bg (p6_3*c))+0))) []) 1 .undef))&&(OC (.i .i64) (wt (wt y (wQ (Bg ((Bg (p6_3*c))+0))) []) 2 .undef)))) (bif ((decide (0<=(Bg ((Bg ((0:Int)*q))+p7_1))))&&(decide ((Bg ((Bg ((0:Int)*q))+p7_1))<(wj z:Int)))) then cond ((OC .b (wt (wt z (wQ (Bg ((Bg ((0:Int)*q))+p7_1))) []) 0 .undef))&&((OC (.s .u32) (wt (wt z (wQ (Bg ((Bg ((0:Int)*q))+p7_1))) []) 1 .undef))&&(OC (.i .i64) (wt (wt z (wQ (Bg ((Bg ((0:Int)*q))+p7_1))) []) 2 .undef)))) (bif (Qz (CH (wt (wt y (wQ (Bg ((Bg (p6_3*c))+0))) []) 0 .undef)) (CA (wt (wt y (wQ (Bg ((Bg (p6_3*c))+0))) []) 1 .undef)) (Dl (wt (wt y (wQ (Bg ((Bg (p6_3*c))+0))) []) 2 .undef))&&Qz (CH (wt (wt z (wQ (Bg ((Bg ((0:Int)*q))+p7_1))) []) 0 .undef)) (CA (wt (wt z (wQ (Bg ((Bg ((0:Int)*q))+p7_1))) []) 1 .undef)) (Dl (wt (wt z (wQ (Bg ((Bg ((0:Int)*q))+p7_1))) []) 2 .undef))) then cond (Qz x5 [] 0&&VN (vQ (CH (wt (wt y (wQ (Bg ((Bg (p6_3*c))+0))) []) 0 .undef)) (CA (wt (wt y (wQ (Bg ((Bg (p6_3*c))+0))) []) 1 .undef)) (Dl (wt (wt y (wQ (Bg ((Bg (p6_3*c))+0))) []) 2 .undef))*vQ (CH (wt (wt z (wQ (Bg ((Bg ((0:Int)*q))+p7_1))) []) 0 .undef)) (CA (wt (wt z (wQ (Bg ((Bg ((0:Int)*q))+p7_1))) []) 1 .undef)) (Dl (wt (wt z (wQ (Bg ((Bg ((0:Int)*q))+p7_1))) []) 2 .undef)))) (BJ.Dd.L1 N M0 M1 M r c y p q z 1 (BG (mQ (vQ x5 [] 0+F5 (vQ (CH (wt (wt y (wQ (Bg ((Bg (p6_3*c))+0))) []) 0 .undef)) (CA (wt (wt y (wQ (Bg ((Bg (p6_3*c))+0))) []) 1 .undef)) (Dl (wt (wt y (wQ (Bg ((Bg (p6_3*c))+0))) []) 2 .undef))*vQ (CH (wt (wt z (wQ (Bg ((Bg ((0:Int)*q))+p7_1))) []) 0 .undef)) (CA (wt (wt z (wQ (Bg ((Bg ((0:Int)*q))+p7_1))) []) 1 .undef)) (Dl (wt (wt z (wQ (Bg ((Bg ((0:Int)*q))+p7_1))) []) 2 .undef)))))) (Bo (mQ (vQ x5 [] 0+F5 (vQ (CH (wt (wt y (wQ (Bg ((Bg (p6_3*c))+0))) []) 0 .undef)) (CA (wt (wt y (wQ (Bg ((Bg (p6_3*c))+0))) []) 1 .undef)) (Dl (wt (wt y (wQ (Bg ((Bg (p6_3*c))+0))) []) 2 .undef))*vQ (CH (wt (wt z (wQ (Bg ((Bg ((0:Int)*q))+p7_1))) []) 0 .undef)) (CA (wt (wt z (wQ (Bg ((Bg ((0:Int)*q))+p7_1))) []) 1 .undef)) (Dl (wt (wt z (wQ (Bg ((Bg ((0:Int)*q))+p7_1))) []) 2 .undef)))))) (eQ (vQ x5 [] 0+F5 (vQ (CH (wt (wt y (wQ (Bg ((Bg (p6_3*c))+0))) []) 0 .undef)) (CA (wt (wt y (wQ (Bg ((Bg (p6_3*c))+0))) []) 1 .undef)) (Dl (wt (wt y (wQ (Bg ((Bg (p6_3*c))+0))) []) 2 .undef))*vQ (CH (wt (wt z (wQ (Bg ((Bg ((0:Int)*q))+p7_1))) []) 0 .undef)) (CA (wt (wt z (wQ (Bg ((Bg ((0:Int)*q))+p7_1))) []) 1 .undef)) (Dl (wt (wt z (wQ (Bg ((Bg ((0:Int)*q))+p7_1))) []) 2 .undef))))) p7_1 p2_2 p6_3) xY else xY) xY else xY) xY else xY) (bif (decide ((wj p2_2)+1<=RZ)) then BJ.Dd.L2 N M0 M1 r c y p q z (p2_2++[[.bool x5,.nil,.int .i64 0]]) (Bg (p7_1+1)) p6_3 else xY):=
 Et (EY (CQ (IW _ _) (CQ (R6 _ _ _) (CQ (IW _ _) (CQ (R6 _ _ _) (CQ (CF _) (CQ (CF _) rfl rfl) rfl) rfl) rfl) rfl) rfl) rfl)
theorem BJ.Dd.CT:BJ.Dd.L1 N M0 M1 (M+1) r c y p q z p9_1 p8_3 p8_4 p8_5 p7_2 p2_3 p6_4=cond (BI p9_1 c) (bif ((decide (0<=(Bg ((Bg (p6_4*c))+p9_1))))&&(decide ((Bg ((Bg (p6_4*c))+p9_1))<(wj y:Int)))) then cond ((OC .b (wt (wt y (wQ (Bg ((Bg (p6_4*c))+p9_1))) []) 0 .undef))&&((OC (.s .u32) (wt (wt y (wQ (Bg ((Bg (p6_4*c))+p9_1))) []) 1 .undef))&&(OC (.i .i64) (wt (wt y (wQ (Bg ((Bg (p6_4*c))+p9_1))) []) 2 .undef)))) (bif ((decide (0<=(Bg ((Bg (p9_1*q))+p7_2))))&&(decide ((Bg ((Bg (p9_1*q))+p7_2))<(wj z:Int)))) then cond ((OC .b (wt (wt z (wQ (Bg ((Bg (p9_1*q))+p7_2))) []) 0 .undef))&&((OC (.s .u32) (wt (wt z (wQ (Bg ((Bg (p9_1*q))+p7_2))) []) 1 .undef))&&(OC (.i .i64) (wt (wt z (wQ (Bg ((Bg (p9_1*q))+p7_2))) []) 2 .undef)))) (bif (Qz (CH (wt (wt y (wQ (Bg ((Bg (p6_4*c))+p9_1))) []) 0 .undef)) (CA (wt (wt y (wQ (Bg ((Bg (p6_4*c))+p9_1))) []) 1 .undef)) (Dl (wt (wt y (wQ (Bg ((Bg (p6_4*c))+p9_1))) []) 2 .undef))&&Qz (CH (wt (wt z (wQ (Bg ((Bg (p9_1*q))+p7_2))) []) 0 .undef)) (CA (wt (wt z (wQ (Bg ((Bg (p9_1*q))+p7_2))) []) 1 .undef)) (Dl (wt (wt z (wQ (Bg ((Bg (p9_1*q))+p7_2))) []) 2 .undef))) then cond (Qz p8_3 p8_4 p8_5&&VN (vQ (CH (wt (wt y (wQ (Bg ((Bg (p6_4*c))+p9_1))) []) 0 .undef)) (CA (wt (wt y (wQ (Bg ((Bg (p6_4*c))+p9_1))) []) 1 .undef)) (Dl (wt (wt y (wQ (Bg ((Bg (p6_4*c))+p9_1))) []) 2 .undef))*vQ (CH (wt (wt z (wQ (Bg ((Bg (p9_1*q))+p7_2))) []) 0 .undef)) (CA (wt (wt z (wQ (Bg ((Bg (p9_1*q))+p7_2))) []) 1 .undef)) (Dl (wt (wt z (wQ (Bg ((Bg (p9_1*q))+p7_2))) []) 2 .undef)))) (BJ.Dd.L1 N M0 M1 M r c y p q z (Bg (p9_1+1)) (BG (mQ (vQ p8_3 p8_4 p8_5+F5 (vQ (CH (wt (wt y (wQ (Bg ((Bg (p6_4*c))+p9_1))) []) 0 .undef)) (CA (wt (wt y (wQ (Bg ((Bg (p6_4*c))+p9_1))) []) 1 .undef)) (Dl (wt (wt y (wQ (Bg ((Bg (p6_4*c))+p9_1))) []) 2 .undef))*vQ (CH (wt (wt z (wQ (Bg ((Bg (p9_1*q))+p7_2))) []) 0 .undef)) (CA (wt (wt z (wQ (Bg ((Bg (p9_1*q))+p7_2))) []) 1 .undef)) (Dl (wt (wt z (wQ (Bg ((Bg (p9_1*q))+p7_2))) []) 2 .undef)))))) (Bo (mQ (vQ p8_3 p8_4 p8_5+F5 (vQ (CH (wt (wt y (wQ (Bg ((Bg (p6_4*c))+p9_1))) []) 0 .undef)) (CA (wt (wt y (wQ (Bg ((Bg (p6_4*c))+p9_1))) []) 1 .undef)) (Dl (wt (wt y (wQ (Bg ((Bg (p6_4*c))+p9_1))) []) 2 .undef))*vQ (CH (wt (wt z (wQ (Bg ((Bg (p9_1*q))+p7_2))) []) 0 .undef)) (CA (wt (wt z (wQ (Bg ((Bg (p9_1*q))+p7_2))) []) 1 .undef)) (Dl (wt (wt z (wQ (Bg ((Bg (p9_1*q))+p7_2))) []) 2 .undef)))))) (eQ (vQ p8_3 p8_4 p8_5+F5 (vQ (CH (wt (wt y (wQ (Bg ((Bg (p6_4*c))+p9_1))) []) 0 .undef)) (CA (wt (wt y (wQ (Bg ((Bg (p6_4*c))+p9_1))) []) 1 .undef)) (Dl (wt (wt y (wQ (Bg ((Bg (p6_4*c))+p9_1))) []) 2 .undef))*vQ (CH (wt (wt z (wQ (Bg ((Bg (p9_1*q))+p7_2))) []) 0 .undef)) (CA (wt (wt z (wQ (Bg ((Bg (p9_1*q))+p7_2))) []) 1 .undef)) (Dl (wt (wt z (wQ (Bg ((Bg (p9_1*q))+p7_2))) []) 2 .undef))))) p7_2 p2_3 p6_4) xY else xY) xY else xY) xY else xY) (bif (decide ((wj p2_3)+1<=RZ)) then BJ.Dd.L2 N M0 M1 r c y p q z (p2_3++[[.bool p8_3,.Bj .arg .u32 p8_4,.int .i64 p8_5]]) (Bg (p7_2+1)) p6_4 else xY):=
 Et (EY (CQ (IW _ _) (CQ (R6 _ _ _) (CQ (IW _ _) (CQ (R6 _ _ _) (CQ (CF _) (CQ (CF _) rfl rfl) rfl) rfl) rfl) rfl) rfl) rfl)
theorem BJ.Dd.IT:BJ.Dd.L2 N M0 (M+1) r c y p q z p2 p7 p6_1=cond (BI p7 q) (BJ.Dd.L0 N M0 M N r c y p q z p7 p2 p6_1) (BJ.Dd.L3 N M0 r c y p q z (Bg (p6_1+1)) p2):=by kernel_rfl
theorem BJ.Dd.O4:BJ.Dd.L3 N (M+1) r c y p q z p6_2 p2_1=cond (BI p6_2 r) (BJ.Dd.L2 N M N r c y p q z p2_1 0 p6_2) (xQ (.agg [.int .i64 r,.int .i64 q,.Cu (.own 106002 34) 3 p2_1])):=by kernel_rfl
theorem BJ.Dd.ev:Cz BJ.Dd.E N f52 (Bw f52) [.agg [.int .i64 r,.int .i64 c,.Cu .arg 3 y],.agg [.int .i64 p,.int .i64 q,.Cu .arg 3 z]]=
 BJ.Dd.L3 N N r c y p q z 0 []:=by kernel_rfl
end
abbrev BJ.Dd.Kn:=Ey prog 52 BJ.Dd.Bt
theorem BJ.Dd.D4(hk:Ff prog BJ.Dd.GM)(h:Hyp BJ.Dd.E f52 BJ.Dd.ts BJ.Dd.pre BJ.Dd.out):BJ.Dd.Kn :=FO (SH hk _ _ _ _) func52 (by kernel_rfl) (by kernel_rfl) h
def BJ.KU.hint:Nat->Option BN
 | 0=>xQ { Df:=[2,3,4,5,6],Cg:=[],Cr:=[2,3,4,5] }
 | _=>xY
def BJ.KU.GM:List (Nat × Ez):=[(11,B4.Add.q.Bt),(23,B4.Mul.q.Bt),(56,B4.Sub.q.Bt)]
def BJ.KU.E:Env:=Rn (Db BJ.KU.GM) (fun _=>x5) BJ.KU.hint (fun _=>xY) (Zz [(32,[.b,.s .u32]),(34,[.b,.s .u32,.i .i64])])
section
variable(N M:Nat)(r c:Int)(y:List (List DV))(p q:Int)(z:List (List DV))(p6:Int)(p5:Bool)(p5_1:Bf)(p5_2:Int)
def BJ.KU.L0:Option DV:=C6 BJ.KU.E N f50 (Bw f50) [1,1,0,1,0] [] M ⟨Fz 33 [(2,.ptr 2 0 0),(3,.ptr 3 0 0),(4,.ptr 4 0 0),(5,.ptr 5 0 0),(6,.int .i64 0)],[(2,x5,.box [.int .i64 r,.int .i64 c,.Cu .arg 3 y]),(3,x5,.box [.int .i64 p,.int .i64 q,.Cu .arg 3 z]),(4,x5,.box [.bool x5,.nil,.int .i64 0]),(5,x5,.box [.bool x5,.nil,.int .i64 0])]⟩
def BJ.KU.L1:Option DV:=C6 BJ.KU.E N f50 (Bw f50) [1,1,0,1,0] [] M ⟨Fz 33 [(2,.ptr 2 0 0),(3,.ptr 3 0 0),(4,.ptr 4 0 0),(5,.ptr 5 0 0),(6,.int .i64 p6)],[(2,x5,.box [.int .i64 r,.int .i64 c,.Cu .arg 3 y]),(3,x5,.box [.int .i64 p,.int .i64 q,.Cu .arg 3 z]),(4,x5,.box [.bool x5,.nil,.int .i64 0]),(5,x5,.box [.bool p5,.Bj .arg .u32 p5_1,.int .i64 p5_2])]⟩
theorem BJ.KU.B8:BJ.KU.L0 N (M+1) r c y p q z=cond (BI 0 (wj y:Int)) (bif (decide ((0:Int)<(wj y:Int))) then cond ((OC .b (wt (wt y 0 []) 0 .undef))&&((OC (.s .u32) (wt (wt y 0 []) 1 .undef))&&(OC (.i .i64) (wt (wt y 0 []) 2 .undef)))) (bif (decide ((0:Int)<(wj z:Int))) then cond ((OC .b (wt (wt z 0 []) 0 .undef))&&((OC (.s .u32) (wt (wt z 0 []) 1 .undef))&&(OC (.i .i64) (wt (wt z 0 []) 2 .undef)))) (bif (Qz (CH (wt (wt y 0 []) 0 .undef)) (CA (wt (wt y 0 []) 1 .undef)) (Dl (wt (wt y 0 []) 2 .undef))&&Qz (CH (wt (wt z 0 []) 0 .undef)) (CA (wt (wt z 0 []) 1 .undef)) (Dl (wt (wt z 0 []) 2 .undef))) then cond (VN (vQ (CH (wt (wt y 0 []) 0 .undef)) (CA (wt (wt y 0 []) 1 .undef)) (Dl (wt (wt y 0 []) 2 .undef))-vQ (CH (wt (wt z 0 []) 0 .undef)) (CA (wt (wt z 0 []) 1 .undef)) (Dl (wt (wt z 0 []) 2 .undef)))&&VN (vQ (CH (wt (wt y 0 []) 0 .undef)) (CA (wt (wt y 0 []) 1 .undef)) (Dl (wt (wt y 0 []) 2 .undef))-vQ (CH (wt (wt z 0 []) 0 .undef)) (CA (wt (wt z 0 []) 1 .undef)) (Dl (wt (wt z 0 []) 2 .undef)))) (bif (Qz x5 [] 0&&VN (F5 (vQ (CH (wt (wt y 0 []) 0 .undef)) (CA (wt (wt y 0 []) 1 .undef)) (Dl (wt (wt y 0 []) 2 .undef))-vQ (CH (wt (wt z 0 []) 0 .undef)) (CA (wt (wt z 0 []) 1 .undef)) (Dl (wt (wt z 0 []) 2 .undef)))*F5 (vQ (CH (wt (wt y 0 []) 0 .undef)) (CA (wt (wt y 0 []) 1 .undef)) (Dl (wt (wt y 0 []) 2 .undef))-vQ (CH (wt (wt z 0 []) 0 .undef)) (CA (wt (wt z 0 []) 1 .undef)) (Dl (wt (wt z 0 []) 2 .undef))))) then BJ.KU.L1 N M r c y p q z 1 (BG (mQ (vQ x5 [] 0+F5 (F5 (vQ (CH (wt (wt y 0 []) 0 .undef)) (CA (wt (wt y 0 []) 1 .undef)) (Dl (wt (wt y 0 []) 2 .undef))-vQ (CH (wt (wt z 0 []) 0 .undef)) (CA (wt (wt z 0 []) 1 .undef)) (Dl (wt (wt z 0 []) 2 .undef)))*F5 (vQ (CH (wt (wt y 0 []) 0 .undef)) (CA (wt (wt y 0 []) 1 .undef)) (Dl (wt (wt y 0 []) 2 .undef))-vQ (CH (wt (wt z 0 []) 0 .undef)) (CA (wt (wt z 0 []) 1 .undef)) (Dl (wt (wt z 0 []) 2 .undef))))))) (Bo (mQ (vQ x5 [] 0+F5 (F5 (vQ (CH (wt (wt y 0 []) 0 .undef)) (CA (wt (wt y 0 []) 1 .undef)) (Dl (wt (wt y 0 []) 2 .undef))-vQ (CH (wt (wt z 0 []) 0 .undef)) (CA (wt (wt z 0 []) 1 .undef)) (Dl (wt (wt z 0 []) 2 .undef)))*F5 (vQ (CH (wt (wt y 0 []) 0 .undef)) (CA (wt (wt y 0 []) 1 .undef)) (Dl (wt (wt y 0 []) 2 .undef))-vQ (CH (wt (wt z 0 []) 0 .undef)) (CA (wt (wt z 0 []) 1 .undef)) (Dl (wt (wt z 0 []) 2 .undef))))))) (eQ (vQ x5 [] 0+F5 (F5 (vQ (CH (wt (wt y 0 []) 0 .undef)) (CA (wt (wt y 0 []) 1 .undef)) (Dl (wt (wt y 0 []) 2 .undef))-vQ (CH (wt (wt z 0 []) 0 .undef)) (CA (wt (wt z 0 []) 1 .undef)) (Dl (wt (wt z 0 []) 2 .undef)))*F5 (vQ (CH (wt (wt y 0 []) 0 .undef)) (CA (wt (wt y 0 []) 1 .undef)) (Dl (wt (wt y 0 []) 2 .undef))-vQ (CH (wt (wt z 0 []) 0 .undef)) (CA (wt (wt z 0 []) 1 .undef)) (Dl (wt (wt z 0 []) 2 .undef)))))) else xY) xY else xY) xY else xY) xY else xY) (xQ (.agg [.bool x5,.nil,.int .i64 0])):=
 Et (EY (CQ (CF _) (CQ (R6 _ _ _) (CQ (CF _) (CQ (R6 _ _ _) (CQ (CF _) (CQ (CF _) (CQ (CF _) rfl rfl) rfl) rfl) rfl) rfl) rfl) rfl) rfl)
theorem BJ.KU.CT:BJ.KU.L1 N (M+1) r c y p q z p6 p5 p5_1 p5_2=cond (BI p6 (wj y:Int)) (bif ((decide (0<=p6))&&(decide (p6<(wj y:Int)))) then cond ((OC .b (wt (wt y (wQ p6) []) 0 .undef))&&((OC (.s .u32) (wt (wt y (wQ p6) []) 1 .undef))&&(OC (.i .i64) (wt (wt y (wQ p6) []) 2 .undef)))) (bif ((decide (0<=p6))&&(decide (p6<(wj z:Int)))) then cond ((OC .b (wt (wt z (wQ p6) []) 0 .undef))&&((OC (.s .u32) (wt (wt z (wQ p6) []) 1 .undef))&&(OC (.i .i64) (wt (wt z (wQ p6) []) 2 .undef)))) (bif (Qz (CH (wt (wt y (wQ p6) []) 0 .undef)) (CA (wt (wt y (wQ p6) []) 1 .undef)) (Dl (wt (wt y (wQ p6) []) 2 .undef))&&Qz (CH (wt (wt z (wQ p6) []) 0 .undef)) (CA (wt (wt z (wQ p6) []) 1 .undef)) (Dl (wt (wt z (wQ p6) []) 2 .undef))) then cond (VN (vQ (CH (wt (wt y (wQ p6) []) 0 .undef)) (CA (wt (wt y (wQ p6) []) 1 .undef)) (Dl (wt (wt y (wQ p6) []) 2 .undef))-vQ (CH (wt (wt z (wQ p6) []) 0 .undef)) (CA (wt (wt z (wQ p6) []) 1 .undef)) (Dl (wt (wt z (wQ p6) []) 2 .undef)))&&VN (vQ (CH (wt (wt y (wQ p6) []) 0 .undef)) (CA (wt (wt y (wQ p6) []) 1 .undef)) (Dl (wt (wt y (wQ p6) []) 2 .undef))-vQ (CH (wt (wt z (wQ p6) []) 0 .undef)) (CA (wt (wt z (wQ p6) []) 1 .undef)) (Dl (wt (wt z (wQ p6) []) 2 .undef)))) (bif (Qz p5 p5_1 p5_2&&VN (F5 (vQ (CH (wt (wt y (wQ p6) []) 0 .undef)) (CA (wt (wt y (wQ p6) []) 1 .undef)) (Dl (wt (wt y (wQ p6) []) 2 .undef))-vQ (CH (wt (wt z (wQ p6) []) 0 .undef)) (CA (wt (wt z (wQ p6) []) 1 .undef)) (Dl (wt (wt z (wQ p6) []) 2 .undef)))*F5 (vQ (CH (wt (wt y (wQ p6) []) 0 .undef)) (CA (wt (wt y (wQ p6) []) 1 .undef)) (Dl (wt (wt y (wQ p6) []) 2 .undef))-vQ (CH (wt (wt z (wQ p6) []) 0 .undef)) (CA (wt (wt z (wQ p6) []) 1 .undef)) (Dl (wt (wt z (wQ p6) []) 2 .undef))))) then BJ.KU.L1 N M r c y p q z (Bg (p6+1)) (BG (mQ (vQ p5 p5_1 p5_2+F5 (F5 (vQ (CH (wt (wt y (wQ p6) []) 0 .undef)) (CA (wt (wt y (wQ p6) []) 1 .undef)) (Dl (wt (wt y (wQ p6) []) 2 .undef))-vQ (CH (wt (wt z (wQ p6) []) 0 .undef)) (CA (wt (wt z (wQ p6) []) 1 .undef)) (Dl (wt (wt z (wQ p6) []) 2 .undef)))*F5 (vQ (CH (wt (wt y (wQ p6) []) 0 .undef)) (CA (wt (wt y (wQ p6) []) 1 .undef)) (Dl (wt (wt y (wQ p6) []) 2 .undef))-vQ (CH (wt (wt z (wQ p6) []) 0 .undef)) (CA (wt (wt z (wQ p6) []) 1 .undef)) (Dl (wt (wt z (wQ p6) []) 2 .undef))))))) (Bo (mQ (vQ p5 p5_1 p5_2+F5 (F5 (vQ (CH (wt (wt y (wQ p6) []) 0 .undef)) (CA (wt (wt y (wQ p6) []) 1 .undef)) (Dl (wt (wt y (wQ p6) []) 2 .undef))-vQ (CH (wt (wt z (wQ p6) []) 0 .undef)) (CA (wt (wt z (wQ p6) []) 1 .undef)) (Dl (wt (wt z (wQ p6) []) 2 .undef)))*F5 (vQ (CH (wt (wt y (wQ p6) []) 0 .undef)) (CA (wt (wt y (wQ p6) []) 1 .undef)) (Dl (wt (wt y (wQ p6) []) 2 .undef))-vQ (CH (wt (wt z (wQ p6) []) 0 .undef)) (CA (wt (wt z (wQ p6) []) 1 .undef)) (Dl (wt (wt z (wQ p6) []) 2 .undef))))))) (eQ (vQ p5 p5_1 p5_2+F5 (F5 (vQ (CH (wt (wt y (wQ p6) []) 0 .undef)) (CA (wt (wt y (wQ p6) []) 1 .undef)) (Dl (wt (wt y (wQ p6) []) 2 .undef))-vQ (CH (wt (wt z (wQ p6) []) 0 .undef)) (CA (wt (wt z (wQ p6) []) 1 .undef)) (Dl (wt (wt z (wQ p6) []) 2 .undef)))*F5 (vQ (CH (wt (wt y (wQ p6) []) 0 .undef)) (CA (wt (wt y (wQ p6) []) 1 .undef)) (Dl (wt (wt y (wQ p6) []) 2 .undef))-vQ (CH (wt (wt z (wQ p6) []) 0 .undef)) (CA (wt (wt z (wQ p6) []) 1 .undef)) (Dl (wt (wt z (wQ p6) []) 2 .undef)))))) else xY) xY else xY) xY else xY) xY else xY) (xQ (.agg [.bool p5,.Bj .arg .u32 p5_1,.int .i64 p5_2])):=
 Et (EY (CQ (IW _ _) (CQ (R6 _ _ _) (CQ (IW _ _) (CQ (R6 _ _ _) (CQ (CF _) (CQ (CF _) (CQ (CF _) rfl rfl) rfl) rfl) rfl) rfl) rfl) rfl) rfl)
theorem BJ.KU.ev:Cz BJ.KU.E N f50 (Bw f50) [.agg [.int .i64 r,.int .i64 c,.Cu .arg 3 y],.agg [.int .i64 p,.int .i64 q,.Cu .arg 3 z]]=
 BJ.KU.L0 N N r c y p q z:=by kernel_rfl
end
abbrev BJ.KU.Kn:=Ey prog 50 BJ.KU.Bt
theorem BJ.KU.D4(hk:Ff prog BJ.KU.GM)(h:Hyp BJ.KU.E f50 BJ.KU.ts BJ.KU.pre BJ.KU.out):BJ.KU.Kn :=FO (SH hk _ _ _ _) func50 (by kernel_rfl) (by kernel_rfl) h
def BJ.KM.E:=E0 [(14,Cn.D0.Bt),(50,BJ.KU.Bt),(51,BJ.Of.Bt),(52,BJ.Dd.Bt)]
theorem BJ.KM.ev(N:Nat)(r c:Int)(l:Bf)(p q:Int)(m:Bf)(u v:Int)(h:Bf)(a b:Int)(g:Bf):Cz BJ.KM.E N f13 (Bw f13) [.agg [.int .i64 r,.int .i64 c,.Bj .arg .u64 l],.agg [.int .i64 p,.int .i64 q,.Bj .arg .u64 m],.agg [.int .i64 u,.int .i64 v,.Bj .arg .u64 h],.agg [.int .i64 a,.int .i64 b,.Bj .arg .u64 g]]=cond (Bp l&&Ch (wj l<=64)) (bif (Bp m&&Ch (wj m<=64)) then cond (Bp h&&Ch (wj h<=64)) (bif ((E6 2148 4200 6 (Gg m) (wQ p*wQ q)&&E6 1074 2100 1 (Gg h) (wQ u*wQ v))&&Ch (u=q/\0<=p/\p<=6/\1<=q/\q<=6/\0<=v/\v<=6)) then cond (BA a b g) (bif (Bp (BZ (wQ b) (wQ a) (fun j1 j2=>CE b g j2 j1))&&Ch (wj (BZ (wQ b) (wQ a) (fun j1 j2=>CE b g j2 j1))<=64)) then cond ((E6 2148 4200 6 (Md (wQ p) (wQ q) (wQ v) (Gg m) (Gg h)) (wQ p*wQ v)&&E6 1074 2100 1 (Gg (BZ (wQ b) (wQ a) (fun j1 j2=>CE b g j2 j1))) (wQ b*wQ a))&&Ch (b=v/\0<=p/\p<=6/\1<=v/\v<=6/\0<=a/\a<=6)) (bif (E6 1074 2100 1 (Gg l) (wj (Gg l))&&(E6 3222 6300 36 (Md (wQ p) (wQ v) (wQ a) (Md (wQ p) (wQ q) (wQ v) (Gg m) (Gg h)) (Gg (BZ (wQ b) (wQ a) (fun j1 j2=>CE b g j2 j1)))) (wj (Md (wQ p) (wQ v) (wQ a) (Md (wQ p) (wQ q) (wQ v) (Gg m) (Gg h)) (Gg (BZ (wQ b) (wQ a) (fun j1 j2=>CE b g j2 j1)))))&&Ch (wj (Gg l)=wj (Md (wQ p) (wQ v) (wQ a) (Md (wQ p) (wQ q) (wQ v) (Gg m) (Gg h)) (Gg (BZ (wQ b) (wQ a) (fun j1 j2=>CE b g j2 j1))))/\wj (Gg l)<=36))) then xQ (.agg [.bool (BG (mQ (Xk (Gg l) (Md (wQ p) (wQ v) (wQ a) (Md (wQ p) (wQ q) (wQ v) (Gg m) (Gg h)) (Gg (BZ (wQ b) (wQ a) (fun j1 j2=>CE b g j2 j1))))))),.Bj .arg .u32 (Bo (mQ (Xk (Gg l) (Md (wQ p) (wQ v) (wQ a) (Md (wQ p) (wQ q) (wQ v) (Gg m) (Gg h)) (Gg (BZ (wQ b) (wQ a) (fun j1 j2=>CE b g j2 j1))))))),.int .i64 (eQ (Xk (Gg l) (Md (wQ p) (wQ v) (wQ a) (Md (wQ p) (wQ q) (wQ v) (Gg m) (Gg h)) (Gg (BZ (wQ b) (wQ a) (fun j1 j2=>CE b g j2 j1))))))]) else xY) xY else xY) xY else xY) xY else xY) xY :=Et (CQ (CF _) (CQ (CF _) (CQ (CF _) (CQ (CF _) (CQ (CF _) (CQ (CF _) (CQ (CF _) (CQ (CF _) rfl rfl) rfl) rfl) rfl) rfl) rfl) rfl) rfl)
theorem Zn(z:Rat):OC .b (wt (Ui z) 0 .undef)=xZ:=rfl
theorem Zm(z:Rat):OC (.s .u32) (wt (Ui z) 1 .undef)=xZ:=rfl
theorem Zl(z:Rat):OC (.i .i64) (wt (Ui z) 2 .undef)=xZ:=rfl
theorem Zk(z:Rat):CH (wt (Ui z) 0 .undef)=BG (mQ z):=rfl
theorem Zj(z:Rat):CA (wt (Ui z) 1 .undef)=Bo (mQ z):=rfl
theorem Zi(z:Rat):Dl (wt (Ui z) 2 .undef)=eQ z:=rfl
theorem Nv{g t k:Nat}{y:List (List DV)}{n i:Nat}(h:E6 g t k y n=xZ)(hi:i<n):∃z,Dg g t k z/\y.getD i []=Ui z:=by
 obtain⟨_,h2,h3⟩:=Bv.1 h
 have:y.getD i []∈y:=by rw[Al,As (by omega)]; exact zU (by omega)
 exact h3 _ this
theorem No{y:List (List DV)}{i:Nat}{z:Rat}(h:y.getD i []=Ui z)(hz:Dq z):Sx y i=z:=by unfold Sx; rw[h]; exact WH hz
def ofP(l:Bf)(i:Nat):List (List DV):=(l.take i).map fun x=>Ui (I7 x)
theorem Air(N:Nat)(r c:Int){l:Bf}(al:Bp l=xZ)(h64:l.length<=64):∀d i F,i+d=l.length->d<F ->
 ∃a b,BJ.Of.L0 N F r c l (i:Int) (ofP l i)=xQ (.agg [.int .i64 r,.int .i64 c,.Cu (.own a b) 3 (Gg l)])/\a=104002:=by
 intro d
 induction d with
 | zero =>
   intro i F hi hF;obtain⟨F,rfl⟩:∃G,F=G+1:=⟨F-1,by omega⟩
   obtain rfl:i=l.length:=by omega
   have e:ofP l l.length=Gg l:=by unfold ofP Gg; rw[List.take_length]
   exact⟨_,_,by rw[BJ.Of.B8,B9,Ag (by omega),Af,e],rfl⟩
 | succ d ih =>
   intro i F hi hF;obtain⟨F,rfl⟩:∃G,F=G+1:=⟨F-1,by omega⟩
   have hu:=MF al (show i<l.length by omega);have e1:(i:Int)+1=((i+1:Nat):Int):=by omega
   have ll:(ofP l i).length=i:=by unfold ofP; rw[AO,List.length_take]; omega
   have G2:decide ((ofP l i).length+1<=RZ)=xZ:=Ac (by rw[ll]; unfold RZ; omega)
   have nx:ofP l i++[Ui (I7 (l.getD i 0))]=ofP l (i+1):=by unfold ofP;rw[List.take_succ_eq_append_getElem (show i<l.length by omega),yi,Al,As (by omega)];rfl
   rw[BJ.Of.B8,B9,Ac (show(i:Int)<(l.length:Int) by omega),Ac (show(0:Int)<=(i:Int) by omega),Aa,Ah,Aa,Ad,hu,Aa,G2,Aa,Bz (by omega) (by omega),e1];obtain⟨a,b,h1,h2⟩:=ih (i+1) F (by omega) (by omega);exact⟨a,b,(congrArg (fun z=>BJ.Of.L0 N F r c l ((i+1:Nat):Int) z) nx).trans h1,h2⟩
theorem Aju{r c:Int}{a b:Nat}{y:List (List DV)}:Wk [a] (.agg [.int .i64 r,.int .i64 c,.Cu (.own a b) 3 y]) (.agg [.int .i64 r,.int .i64 c,.Cu .BE 3 y]) :=Wk.GQ (.cons .int (.cons .int (.cons (.Acr _ _ _ _ (List.mem_singleton.2 rfl)) .nil)))
theorem BJ.Of.Bn:BJ.Of.Kn:=BJ.Of.D4 (kc Ca.Value.q.Bn .nil) fun r c l hp=>by obtain⟨al,h6⟩:=Bi.1 (show(Bp l&&Ch (wj l<=64))=xZ from hp);have h64:=Bv.1 h6;obtain⟨a,b,e,_⟩:=Air (l.length+1) r c al h64 l.length 0 (l.length+1) (by omega) (by omega);exact⟨l.length+1,_,[a],(BJ.Of.ev _ _ _ _).trans e,Aju⟩
section
variable{y z:List (List DV)}{n:Nat}(hy:E6 1074 2100 1 y n=xZ)(hz:E6 3222 6300 36 z n=xZ)(n36:n<=36)
def YT(y z:List (List DV))(i:Nat):Rat:=(Sx y i-Sx z i)*(Sx y i-Sx z i)
include hy hz
theorem Xj{i:Nat}(hi:i<n):∃a b,y.getD i []=Ui a/\z.getD i []=Ui b/\Dq a/\Dq b/\Dq (a-b)/\Dg 6444 12600 1369 (YT y z i)/\(a-b)*(a-b)=YT y z i:=by
 obtain⟨a,ha,ea⟩:=Nv hy hi;obtain⟨b,hb,eb⟩:=Nv hz hi;have da:Dq a:=ha.dq (by decide) (by decide) (by decide);have db:Dq b:=hb.dq (by decide) (by decide) (by decide);have d:Dg 3222 6300 (1+36) (a-b):=Dg.sub ((ha.up 2148).wide (s:=6300) (by decide)) hb;have e:(a-b)*(a-b)=YT y z i:=by unfold YT; rw[No ea da,No eb db]
 refine⟨a,b,ea,eb,da,db,d.dq (by decide) (by decide) (by decide),?_,e⟩;rw[<- e]; exact d.mul d
include n36
theorem AkA{i:Nat}(hi:i<=n):Dq (OI i (YT y z)):=by refine(Dg.Pb (g:=6444) (t:=12600) (m:=1369) (k:=36) (by omega) fun j hj=>?_).dq (by decide) (by decide) (by decide);obtain⟨_,_,_,_,_,_,_,d,_⟩:=Xj hy hz (show j<n by omega);exact d
theorem Ag9(N:Nat)(r c p q:Int):∀d i F,i+d=n->d<F ->
 BJ.KU.L1 N F r c y p q z (i:Int) (BG (mQ (OI i (YT y z)))) (Bo (mQ (OI i (YT y z)))) (eQ (OI i (YT y z)))=xQ (dqO (OI n (YT y z))):=by
 obtain⟨_,ly,_⟩:=Bv.1 hy;obtain⟨_,lz,_⟩:=Bv.1 hz;intro d
 induction d with
 | zero =>
   intro i F hi hF;obtain⟨F,rfl⟩:∃G,F=G+1:=⟨F-1,by omega⟩
   obtain rfl:i=n:=by omega
   rw[BJ.KU.CT,B9,Ag (by omega),Af];rfl
 | succ d ih =>
   intro i F hi hF;obtain⟨F,rfl⟩:∃G,F=G+1:=⟨F-1,by omega⟩
   obtain⟨a,b,ea,eb,da,db,dd,dg,ef⟩:=Xj hy hz (show i<n by omega);have d8:Dq (YT y z i):=dg.dq (by decide) (by decide) (by decide);have d9:=AkA hy hz n36 (show i<=n by omega);have e1:(i:Int)+1=((i+1:Nat):Int):=by omega
   have es:OI i (YT y z)+YT y z i=OI (i+1) (YT y z):=rfl;rw[BJ.KU.CT,B9,Ac (show(i:Int)<(y.length:Int) by omega),Ac (show(i:Int)<(z.length:Int) by omega),Ac (show(0:Int)<=(i:Int) by omega),Ad,Bz (by omega) (by omega),e1,ea,eb,Zn,Zm,Zl,Zn,Zm,Zl,Zk,Zj,Zi,Zk,Zj,Zi];simp only[H5 da,H5 db,JM da,JM db,HN dd,Jc dd,ef,HN d8,Jc d8,H5 d9,JM d9,Ah,Aa,es];exact ih (i+1) F (by omega) (by omega)
theorem AdX(N:Nat)(hN:n<N)(r c p q:Int):∃dv,BJ.KU.L0 N N r c y p q z=xQ dv/\Wk [] dv (dqO (OI n (YT y z))):=by
 obtain⟨_,ly,_⟩:=Bv.1 hy;obtain⟨_,lz,_⟩:=Bv.1 hz;obtain⟨G,rfl⟩:∃G,N=G+1:=⟨N-1,by omega⟩
 by_cases h0:n=0
 ·subst h0;exact⟨_,by rw[BJ.KU.B8,B9,Ag (by omega),Af],wqN⟩
 ·obtain⟨a,b,ea,eb,da,db,dd,dg,ef⟩:=Xj hy hz (show 0<n by omega);have d8:Dq (YT y z 0):=dg.dq (by decide) (by decide) (by decide);have es:(0:Rat)+YT y z 0=OI 1 (YT y z):=rfl;have h:=Ag9 hy hz n36 (G+1) r c p q (n-1) 1 G (by omega) (by omega);refine⟨_,?_,wqO⟩;rw[BJ.KU.B8,B9,Ac (show(0:Int)<(y.length:Int) by omega),Ac (show(0:Int)<(z.length:Int) by omega),ea,eb,Zn,Zm,Zl,Zn,Zm,Zl,Zk,Zj,Zi,Zk,Zj,Zi];simp only[H5 da,H5 db,JM da,JM db,HN dd,Jc dd,ef,HN d8,Jc d8,ZJ,Xp,Ah,Aa,es];exact h
end
theorem BJ.KU.Bn:BJ.KU.Kn:=BJ.KU.D4 (kc B4.Add.q.Bn (kc B4.Mul.q.Bn (kc B4.Sub.q.Bn .nil))) fun r c y p q z hp=>by obtain⟨hy,h2⟩:=Bi.1 (show(E6 1074 2100 1 y (wj y)&&(E6 3222 6300 36 z (wj z)&&Ch (wj y=wj z/\wj y<=36)))=xZ from hp);obtain⟨hz,h3⟩:=Bi.1 h2;obtain⟨e,h36⟩:=Bv.1 h3;rw[<- e] at hz;obtain⟨dv,h,w⟩:=AdX hy hz h36 (y.length+1) (by omega) r c p q;exact⟨y.length+1,dv,[],(BJ.KU.ev _ _ _ _ _ _ _).trans h,w⟩
def Z8(C K:Nat)(y z:List (List DV))(m:Nat):List (List DV):=(List.range m).map fun j=>Ui (tmQ C K y z (j / K) (j%K))
theorem AhP(C K:Nat)(y z:List (List DV))(m:Nat):(Z8 C K y z m).length=m:=by unfold Z8; rw[AO,AL]
theorem AeX{C K:Nat}{y z:List (List DV)}{i k:Nat}(hk:k<K):Z8 C K y z (i*K+k)++[Ui (tmQ C K y z i k)]=Z8 C K y z (i*K+(k+1)):=by
 unfold Z8;rw[<- Nat.add_assoc,List.range_succ,yi];congr 1;have h0:0<K:=by omega
 have e1:(i*K+k) / K=i:=by rw[A0,Nat.mul_add_div h0,Nat.div_eq_of_lt hk,AQ]
 have e2:(i*K+k)%K=k:=by rw[A0,Nat.mul_add_mod,Ao hk]
 show _=[Ui (tmQ C K y z ((i*K+k) / K) ((i*K+k)%K))]
 rw[e1,e2]
theorem Aci{i C j:Nat}(hi:i<=6)(hC:C<=6)(hj:j<=6):Bg ((Bg ((i:Int)*(C:Int)))+(j:Int))=((i*C+j:Nat):Int):=by have h:=AE hi hC;have e:(i:Int)*(C:Int)=((i*C:Nat):Int):=(Ax _ _).symm;have e2:((i*C:Nat):Int)+(j:Int)=((i*C+j:Nat):Int):=(zt _ _).symm;rw[e,Bz (x:=((i*C:Nat):Int)) (by omega) (by omega),e2,Bz (by omega) (by omega)]
section
variable{R C K:Nat}{y z:List (List DV)}(r6:R<=6)(c6:C<=6)(k6:K<=6)(c1:1<=C)(hy:E6 2148 4200 6 y (R*C)=xZ)(hz:E6 1074 2100 1 z (C*K)=xZ)
def Z9(C K:Nat)(y z:List (List DV))(i k j:Nat):Rat:=Sx y (i*C+j)*Sx z (j*K+k)
include hy hz
theorem AeV{i j k:Nat}(hi:i<R)(hj:j<C)(hk:k<K):∃a b,y.getD (i*C+j) []=Ui a/\z.getD (j*K+k) []=Ui b/\Dq a/\Dq b/\Dg 3222 6300 6 (Z9 C K y z i k j)/\a*b=Z9 C K y z i k j:=by
 obtain⟨a,ha,ea⟩:=Nv hy (Dw hi hj);obtain⟨b,hb,eb⟩:=Nv hz (Dw hj hk);have da:Dq a:=ha.dq (by decide) (by decide) (by decide);have db:Dq b:=hb.dq (by decide) (by decide) (by decide);have e:a*b=Z9 C K y z i k j:=by unfold Z9; rw[No ea da,No eb db]
 exact⟨a,b,ea,eb,da,db,by rw[<- e]; exact ha.mul hb,e⟩
include c6
theorem AjT{i j k:Nat}(hi:i<R)(hj:j<=C)(hk:k<K):Dg 3222 6300 36 (OI j (Z9 C K y z i k)) :=Dg.Pb (m:=6) (k:=6) (by omega) fun a ha=>by obtain⟨_,_,_,_,_,_,d,_⟩:=AeV hy hz hi (show a<C by omega) hk;exact d
include r6 k6
theorem Ami(N M0 M1:Nat){i k:Nat}(hi:i<R)(hk:k<K):∀d j F,j+d=C->d<F ->
 BJ.Dd.L1 N M0 M1 F (R:Int) (C:Int) y (C:Int) (K:Int) z (j:Int) (BG (mQ (OI j (Z9 C K y z i k)))) (Bo (mQ (OI j (Z9 C K y z i k)))) (eQ (OI j (Z9 C K y z i k))) (k:Int) (Z8 C K y z (i*K+k)) (i:Int)=
 BJ.Dd.L2 N M0 M1 (R:Int) (C:Int) y (C:Int) (K:Int) z (Z8 C K y z (i*K+(k+1))) ((k+1:Nat):Int) (i:Int):=by
 obtain⟨_,ly,_⟩:=Bv.1 hy;obtain⟨_,lz,_⟩:=Bv.1 hz;have pk:=Dw hi hk;have rk:=AE r6 k6;intro d
 induction d with
 | zero =>
   intro j F hj hF;obtain⟨F,rfl⟩:∃G,F=G+1:=⟨F-1,by omega⟩
   obtain rfl:j=C:=by omega
   have G2:decide ((Z8 j K y z (i*K+k)).length+1<=RZ)=xZ:=Ac (by rw[AhP]; unfold RZ; omega);have e1:(k:Int)+1=((k+1:Nat):Int):=by omega
   rw[BJ.Dd.CT,B9,Ag (by omega),Af,G2,Aa,Bz (by omega) (by omega),e1];exact congrArg (fun w=>BJ.Dd.L2 N M0 M1 (R:Int) (j:Int) y (j:Int) (K:Int) z w ((k+1:Nat):Int) (i:Int)) (AeX (C:=j) (y:=y) (z:=z) (i:=i) hk)
 | succ d ih =>
   intro j F hj hF;obtain⟨F,rfl⟩:∃G,F=G+1:=⟨F-1,by omega⟩
   obtain⟨a,b,ea,eb,da,db,dg,ef⟩:=AeV hy hz hi (show j<C by omega) hk;have d8:Dq (Z9 C K y z i k j):=dg.dq (by decide) (by decide) (by decide);have d9:Dq (OI j (Z9 C K y z i k)):=(AjT c6 hy hz hi (by omega) hk).dq (by decide) (by decide) (by decide);have x1:=Aci (i:=i) (C:=C) (j:=j) (by omega) c6 (by omega);have x2:=Aci (i:=j) (C:=K) (j:=k) (by omega) k6 (by omega);have p1:=Dw hi (show j<C by omega);have p2:=Dw (show j<C by omega) hk;have e1:(j:Int)+1=((j+1:Nat):Int):=by omega
   have es:OI j (Z9 C K y z i k)+Z9 C K y z i k j=OI (j+1) (Z9 C K y z i k):=rfl;rw[BJ.Dd.CT,B9,Ac (show(j:Int)<(C:Int) by omega),Aa,x1,x2,Ac (show((i*C+j:Nat):Int)<(y.length:Int) by omega),Ac (show((j*K+k:Nat):Int)<(z.length:Int) by omega),Ac (show(0:Int)<=((i*C+j:Nat):Int) by omega),Ac (show(0:Int)<=((j*K+k:Nat):Int) by omega),Ad,Ad,Bz (by omega) (by omega),e1,ea,eb,Zn,Zm,Zl,Zn,Zm,Zl,Zk,Zj,Zi,Zk,Zj,Zi];simp only[H5 da,H5 db,JM da,JM db,ef,HN d8,Jc d8,H5 d9,JM d9,Ah,Aa,es];exact ih (j+1) F (by omega) (by omega)
include c1
theorem Amj(N M0 M1 F:Nat){i k:Nat}(hi:i<R)(hk:k<K)(hF:C<F+1):
 BJ.Dd.L0 N M0 M1 (F+1) (R:Int) (C:Int) y (C:Int) (K:Int) z (k:Int) (Z8 C K y z (i*K+k)) (i:Int)=
 BJ.Dd.L2 N M0 M1 (R:Int) (C:Int) y (C:Int) (K:Int) z (Z8 C K y z (i*K+(k+1))) ((k+1:Nat):Int) (i:Int):=by
 obtain⟨_,ly,_⟩:=Bv.1 hy;obtain⟨_,lz,_⟩:=Bv.1 hz;obtain⟨a,b,ea,eb,da,db,dg,ef⟩:=AeV hy hz hi (show 0<C by omega) hk;have d8:Dq (Z9 C K y z i k 0):=dg.dq (by decide) (by decide) (by decide);have x1:Bg ((Bg ((i:Int)*(C:Int)))+(0:Int))=((i*C+0:Nat):Int):=Aci (i:=i) (C:=C) (j:=0) (by omega) c6 (by omega);have x2:Bg ((Bg ((0:Int)*(K:Int)))+(k:Int))=((0*K+k:Nat):Int):=Aci (i:=0) (C:=K) (j:=k) (by omega) k6 (by omega);have p1:=Dw hi (show 0<C by omega);have p2:=Dw (show 0<C by omega) hk;have es:(0:Rat)+Z9 C K y z i k 0=OI 1 (Z9 C K y z i k):=rfl;rw[BJ.Dd.B8,B9,Ac (show(0:Int)<(C:Int) by omega),Aa,x1,x2,Ac (show((i*C+0:Nat):Int)<(y.length:Int) by omega),Ac (show((0*K+k:Nat):Int)<(z.length:Int) by omega),Ac (show(0:Int)<=((i*C+0:Nat):Int) by omega),Ac (show(0:Int)<=((0*K+k:Nat):Int) by omega),Ad,Ad,ea,eb,Zn,Zm,Zl,Zn,Zm,Zl,Zk,Zj,Zi,Zk,Zj,Zi];simp only[H5 da,H5 db,JM da,JM db,ef,HN d8,Jc d8,ZJ,Xp,Ah,Aa,es];exact Ami r6 c6 k6 hy hz N M0 M1 hi hk (C-1) 1 F (by omega) (by omega)
theorem Amh(N M0:Nat)(hN:7<N){i:Nat}(hi:i<R):∀d k F,k+d=K->d<F ->
 BJ.Dd.L2 N M0 F (R:Int) (C:Int) y (C:Int) (K:Int) z (Z8 C K y z (i*K+k)) (k:Int) (i:Int)=
 BJ.Dd.L3 N M0 (R:Int) (C:Int) y (C:Int) (K:Int) z ((i+1:Nat):Int) (Z8 C K y z ((i+1)*K)):=by
 obtain⟨G,hG⟩:∃G,N=G+1:=⟨N-1,by omega⟩
 intro d
 induction d with
 | zero =>
   intro k F hk hF;obtain⟨F,rfl⟩:∃G,F=G+1:=⟨F-1,by omega⟩
   obtain rfl:k=K:=by omega
   have e1:(i:Int)+1=((i+1:Nat):Int):=by omega
   rw[BJ.Dd.IT,B9,Ag (by omega),Af,Bz (by omega) (by omega),e1,z8]
 | succ d ih =>
   intro k F hk hF;obtain⟨F,rfl⟩:∃G,F=G+1:=⟨F-1,by omega⟩
   rw[BJ.Dd.IT,B9,Ac (show(k:Int)<(K:Int) by omega),Aa];have h0:BJ.Dd.L0 N M0 F N (R:Int) (C:Int) y (C:Int) (K:Int) z (k:Int) (Z8 C K y z (i*K+k)) (i:Int)=BJ.Dd.L0 N M0 F (G+1) (R:Int) (C:Int) y (C:Int) (K:Int) z (k:Int) (Z8 C K y z (i*K+k)) (i:Int):=congrArg (fun w=>BJ.Dd.L0 N M0 F w (R:Int) (C:Int) y (C:Int) (K:Int) z (k:Int) (Z8 C K y z (i*K+k)) (i:Int)) hG;exact h0.trans ((Amj r6 c6 k6 c1 hy hz N M0 F G hi (show k<K by omega) (by omega)).trans (ih (k+1) F (by omega) (by omega)))
theorem Amg(N:Nat)(hN:7<N):∀d i F,i+d=R->d<F ->
 ∃a b,BJ.Dd.L3 N F (R:Int) (C:Int) y (C:Int) (K:Int) z (i:Int) (Z8 C K y z (i*K))=xQ (.agg [.int .i64 (R:Int),.int .i64 (K:Int),.Cu (.own a b) 3 (Md R C K y z)]):=by
 intro d
 induction d with
 | zero =>
   intro i F hi hF;obtain⟨F,rfl⟩:∃G,F=G+1:=⟨F-1,by omega⟩
   obtain rfl:i=R:=by omega
   exact⟨_,_,by rw[BJ.Dd.O4,B9,Ag (by omega),Af]; rfl⟩
 | succ d ih =>
   intro i F hi hF;obtain⟨F,rfl⟩:∃G,F=G+1:=⟨F-1,by omega⟩
   obtain⟨a,b,h⟩:=ih (i+1) F (by omega) (by omega);refine⟨a,b,?_⟩;rw[BJ.Dd.O4,B9,Ac (show(i:Int)<(R:Int) by omega),Aa];have h2:=Amh r6 c6 k6 c1 hy hz N F hN (show i<R by omega) K 0 N (by omega) (by omega);exact h2.trans h
end
theorem BJ.Dd.Bn:BJ.Dd.Kn:=BJ.Dd.D4 (kc B4.Add.q.Bn (kc B4.Mul.q.Bn .nil)) fun r c y p q z hp=>by
 obtain⟨h1,h2⟩:=Bi.1 (show((E6 2148 4200 6 y (wQ r*wQ c)&&E6 1074 2100 1 z (wQ p*wQ q))&&Ch (p=c/\0<=r/\r<=6/\1<=c/\c<=6/\0<=q/\q<=6))=xZ from hp);obtain⟨hy,hz⟩:=Bi.1 h1;obtain⟨rfl,r0,r6,c1,c6,q0,q6⟩:=Bv.1 h2;obtain⟨R,rfl⟩:∃R:Nat,r=R:=⟨r.toNat,by omega⟩
 obtain⟨C,rfl⟩:∃C:Nat,p=C:=⟨p.toNat,by omega⟩
 obtain⟨K,rfl⟩:∃K:Nat,q=K:=⟨q.toNat,by omega⟩
 rw[Ad,Ad] at hy;rw[Ad,Ad] at hz;obtain⟨N,hN⟩:∃N:Nat,N=8:=⟨8,rfl⟩
 obtain⟨a,b,h⟩:=Amg (R:=R) (C:=C) (K:=K) (by omega) (by omega) (by omega) (by omega) hy hz N (by omega) R 0 N (by omega) (by omega);rw[Nat.zero_mul] at h;refine⟨N,_,[a],(BJ.Dd.ev _ _ _ _ _ _ _).trans h,?_⟩;show Wk [a] _ (.agg [.int .i64 (R:Int),.int .i64 (K:Int),.Cu .BE 3 (Md (wQ (R:Int)) (wQ (C:Int)) (wQ (K:Int)) y z)]);rw[Ad,Ad,Ad];exact Aju
theorem Mq(l:Bf):(Gg l).length=l.length:=by unfold Gg; rw[AO]
theorem KA{l:Bf}(h:l.length<=64):E6 1074 2100 1 (Gg l) l.length=xZ:=Bv.2 ⟨h,Mq l,fun r hr=>by obtain⟨x,_,rfl⟩:=zh.1 hr;exact⟨_,Dg.wv x,rfl⟩⟩
theorem Aiu{l:Bf}(h:l.length<=64):E6 2148 4200 6 (Gg l) l.length=xZ:=Bv.2 ⟨h,Mq l,fun r hr=>by obtain⟨x,_,rfl⟩:=zh.1 hr;exact⟨_,(((Dg.wv x).up 1074).wide (s:=4200) (by decide)).mono (by decide),rfl⟩⟩
theorem Sm(R C K:Nat)(y z:List (List DV)):(Md R C K y z).length=R*K:=by unfold Md; rw[AO,AL]
theorem SW{R C K g t m h s n:Nat}{y z:List (List DV)}(c6:C<=6)(rk:R*K<=64)(k0:0<K\/R*K=0)(hy:E6 g t m y (R*C)=xZ)(hz:E6 h s n z (C*K)=xZ)(hq:g<=40000/\t<=40000/\m<=1073741824)(hq2:h<=40000/\s<=40000/\n<=1073741824):
 E6 (g+h) (t+s) (6*(m*n)) (Md R C K y z) (R*K)=xZ:=Bv.2 ⟨rk,Sm _ _ _ _ _,fun r hr=>by
 obtain⟨j,hj,rfl⟩:=zh.1 hr;have hj:=List.mem_range.1 hj;have h0:0<K:=by omega
 have hi:j / K<R:=(Nat.div_lt_iff_lt_mul h0).2 hj;have hk:j%K<K:=Nat.mod_lt _ h0;refine⟨_,?_,rfl⟩;unfold tmQ;refine Dg.Pb (m:=m*n) c6 fun a ha=>?_
 obtain⟨p,dp,ep⟩:=Nv hy (Dw hi ha);obtain⟨q,dq,eq⟩:=Nv hz (Dw ha hk);rw[No ep (dp.dq hq.1 hq.2.1 hq.2.2),No eq (dq.dq hq2.1 hq2.2.1 hq2.2.2)];exact dp.mul dq⟩
theorem BJ.KM.Bn:Kq 13 BJ.KM.Bt:=ED BJ.KM.E Tryz.func13 (kc Cn.D0.Bn (kc BJ.KU.Bn (kc BJ.Of.Bn (kc BJ.Dd.Bn .nil)))) fun r c l p q m u v h a b g hp=>by
 obtain⟨h1,h2⟩:=Bi.1 (show((BA r c l&&BA p q m)&&((BA u v h&&BA a b g)&&(((Bp l&&Bp m)&&(Bp h&&Bp g))&&decide (p=r/\q=u/\v=b/\a=c/\1<=q/\1<=v))))=xZ from hp);obtain⟨hl,hm⟩:=Bi.1 h1;obtain⟨h3,h4⟩:=Bi.1 h2;obtain⟨hh,hg⟩:=Bi.1 h3;obtain⟨h5,h6⟩:=Bi.1 h4;obtain⟨h7,h8⟩:=Bi.1 h5;obtain⟨al,am⟩:=Bi.1 h7;obtain⟨ah,ag⟩:=Bi.1 h8;obtain⟨rfl,rfl,rfl,rfl,q1,v1⟩:=A6 h6;obtain⟨R,C,rfl,rfl,r6,c6,ll⟩:=D9 hl;obtain⟨R',Q,eR,rfl,_,q6,lm⟩:=D9 hm;obtain rfl:R'=R:=by omega
 obtain⟨Q',V,eQ,rfl,_,v6,lh⟩:=D9 hh;obtain rfl:Q'=Q:=by omega
 obtain⟨C',V',eC,eV,_,_,lg⟩:=D9 hg;obtain rfl:C'=C:=by omega
 obtain rfl:V'=V:=by omega
 have b1:=AE r6 c6;have b2:=AE r6 q6;have b3:=AE q6 v6;have b4:=AE v6 c6;have b5:=AE r6 v6;have lT:(BZ V' C' fun i k=>CE (V':Int) g (k:Int) (i:Int)).length=V'*C':=BW _ _ _;have aT:Bp (BZ V' C' fun i k=>CE (V':Int) g (k:Int) (i:Int))=xZ:=FA fun _ _=>Ft ag
 have dl:E6 1074 2100 1 (Gg l) (R'*C')=xZ:=by rw[<- ll]; exact KA (by omega)
 have dm:E6 2148 4200 6 (Gg m) (R'*Q')=xZ:=by rw[<- lm]; exact Aiu (by omega)
 have dm1:E6 1074 2100 1 (Gg m) (R'*Q')=xZ:=by rw[<- lm]; exact KA (by omega)
 have dh:E6 1074 2100 1 (Gg h) (Q'*V')=xZ:=by rw[<- lh]; exact KA (by omega)
 have dT:E6 1074 2100 1 (Gg (BZ V' C' fun i k=>CE (V':Int) g (k:Int) (i:Int))) (V'*C')=xZ:=by rw[<- lT]; exact KA (by omega)
 have d1:E6 2148 4200 6 (Md R' Q' V' (Gg m) (Gg h)) (R'*V')=xZ:=SW (g:=1074) (t:=2100) (m:=1) (h:=1074) (s:=2100) (n:=1) q6 (by omega) (.inl (by omega)) dm1 dh (by decide) (by decide)
 have d2:E6 3222 6300 36 (Md R' V' C' (Md R' Q' V' (Gg m) (Gg h)) (Gg (BZ V' C' fun i k=>CE (V':Int) g (k:Int) (i:Int)))) (R'*C')=xZ:=by
  refine SW (g:=2148) (t:=4200) (m:=6) (h:=1074) (s:=2100) (n:=1) v6 (by omega) ?_ d1 dT (by decide) (by decide);rcases Nat.eq_zero_or_pos C' with h | h
  ·right; rw[h,Nat.mul_zero]
  ·exact .inl h
 refine⟨0,dqO (Sn R' Q' V' C' l m h g),[],?_,?_⟩
 ·have s1:Ch (wj l<=64)=xZ:=Bv.2 (by omega);have s2:Ch (wj m<=64)=xZ:=Bv.2 (by omega);have s3:Ch (wj h<=64)=xZ:=Bv.2 (by omega);have s4:Ch (wj (BZ V' C' fun i k=>CE (V':Int) g (k:Int) (i:Int))<=64)=xZ:=Bv.2 (by omega);have s5:Ch ((Q':Int)=(Q':Int)/\(0:Int)<=(R':Int)/\(R':Int)<=6/\1<=(Q':Int)/\(Q':Int)<=6/\0<=(V':Int)/\(V':Int)<=6)=xZ:=Bv.2 (by omega);have s6:Ch ((V':Int)=(V':Int)/\(0:Int)<=(R':Int)/\(R':Int)<=6/\1<=(V':Int)/\(V':Int)<=6/\0<=(C':Int)/\(C':Int)<=6)=xZ:=Bv.2 (by omega);have s7:Ch (wj (Gg l)=wj (Md R' V' C' (Md R' Q' V' (Gg m) (Gg h)) (Gg (BZ V' C' fun i k=>CE (V':Int) g (k:Int) (i:Int))))/\wj (Gg l)<=36)=xZ:=Bv.2 (by rw[Mq,Sm,ll]; omega);rw[BJ.KM.ev,al,am,ah,s1,s2,s3,Ad,Ad,Ad,Ad,dm,dh,s5,hg,aT,s4,d1,dT,s6,Mq l,ll,dl,Sm,d2];rw[Mq,Sm,ll] at s7;rw[s7];rfl
 ·show Wk [] (dqO (Sn R' Q' V' C' l m h g)) (dqO (Sn (wQ (R':Int)) (wQ (Q':Int)) (wQ (V':Int)) (wQ (C':Int)) l m h g));rw[Ad,Ad,Ad,Ad];exact wqO
end Go.Proofs.S1
namespace Go.Ck
open Go.Den
theorem Ai0{k:Nat}{x:Bf}(hk:k+4<=1000)(hx:Bl k x)(hl:x.length<=7)(h0:x.length≠0):(Ce x).2.2.2=0:=by
 unfold Ce;have hf:=hx.FU;rw[Ay (by omega),Az hf];unfold Y1;by_cases h3:Fi (x.drop 1)=xZ
 ·rw[Az h3]
 ·rw[Ay h3];have hs:=Rp h3;obtain⟨m1,-⟩:=Y0 hf hl hs
  have hb:Bd (k+4) (Gc x).toNat:=by unfold Gc;rw[Cj];exact Bd.scale (by omega) m1 (by have:=AgI hx hs; omega)
  rw[Az (show D5 (Gc x)=xZ from hb.fin)]
theorem Acv{r c:Nat}(hr:r<=7):∀(n j k:Nat) (l:Bf),Bl k l->Bp l=xZ->k+11*n<=990->j+n<r->∃x,HW r c n j l=xQ x
 | 0,_,_,l,_,_,_,_=>⟨(l,[]),rfl⟩
 | n+1,j,k,l,hl,al,hk,hj=>by
   have h1:(Ce (Dv r c l j)).2.2.2=0:=by
    have e:(Dv r c l j).length=r-j:=by unfold Dv; rw[DO]
    exact Ai0 (k:=k) (by omega) (Tn hl) (by omega) (by omega)
   obtain⟨b1,-⟩:=S5 (by omega) hl al hr h1;obtain⟨x,hx⟩:=Acv (c:=c) hr n (j+1) (k+11) _ b1 (Mr al j) (by omega) (by omega);refine⟨(x.1,((Ce (Dv r c l j)).1,(Ce (Dv r c l j)).2.1)::x.2),?_⟩;unfold HW;rw[Az h1,hx];rfl
theorem AgP{r c:Nat}(h:r≠0):0+Fh r c<r:=by unfold Fh; omega
def dl(a m:Nat):Rat:=if a=m then 1 else 0
section
variable{r c j k b K:Nat}{q v:Bf}{t:Int}{s:Rat}
theorem AjU(hn:j+(k+1)=r)(hr:r<=6)(hb:b<r)(aq:Bp q=xZ)(hq:Bl K q)(hK:K<=900)(vl:v.length=k+1)(mb1:Bl 1 v)(mb2:Bd 5 t.toNat)(M:Mi r (vx j (rv v)) (vR t.toNat))(hs:Ln r (cl r q b) s):
 Ln r (fun i=>cl r (Fc r r q (j:Int) 0 v t) b i-vH r (vx j (rv v)) (vR t.toNat) (cl r q b) i) (120*uR*s+100*Ci):=by
 subst hn;have hsb:=hs.behind;have vv:=M.vv;rw[Ae1] at vv;have A:=VZ (c:=((j+(k+1):Nat):Int)) (i:=(j:Int)) (b:=(b:Int)) (t:=t) (s:=s) vl (by omega) hK aq hq mb1 mb2 vv M.tb (hsb.congr fun m hm=>Tm hm);refine Ln.tail (s:=120*uR*s+100*Ci) (fun i hi=>?_) ?_
 ·rw[UN,Az hi];unfold cl;rw[Rw (by omega) hb];unfold Gp;rw[Ay (by omega)]; grind
 ·refine A.congr fun m hm=>?_
  rw[UN,Ay (by omega),xt];have e:vH (k+1) (rv v) (vR t.toNat) (fun m=>cl (j+(k+1)) q b (j+m)) m=vH (k+1) (rv v) (vR t.toNat) (rv (Dm ((j+(k+1):Nat):Int) q (b:Int) (j:Int) (k+1))) m:=PE (fun m hm=>(Tm hm).symm) hm;rw[e];unfold cl;rw[Rw (by omega) hb];unfold Gp;rw[Az (by omega),show(((j+m:Nat):Int)-(j:Int)).toNat=m by omega,zt j m]
end
structure Ah0(r c n:Nat)(l R Q:Bf):Prop where
 q1:∀m,m<r->Ln r (cl r Q m) (1+1000*uR*(n:Rat))
 q2:∀a m,a<r->m<r->av ((sm r fun i=>cl r Q a i*cl r Q m i)-dl a m)<=1000*uR*(n:Rat)
 f1:∀b s,b<c->tw (-900)<=s->Ln r (cl c l b) s->Ln r (cl c R b) ((1+1000*uR*(n:Rat))*s)
 f2:∀b s,b<c->tw (-900)<=s->Ln r (cl c l b) s->Ln r (fun i=>cl c l b i-sm r fun m=>cl r Q m i*cl c R b m) (1400*uR*(n:Rat)*s)
theorem Uq{r a i:Nat}(ha:a<r)(hi:i<r):cl r (F2 r) a i=dl a i:=by
 unfold cl F2;rw[EU hi ha];unfold Mv dl;by_cases h:a=i
 ·rw[Az (by omega),Az h]; exact ZI
 ·rw[Ay (by omega),Ay h]; exact HZ x5
theorem AgC(r c:Nat)(l:Bf):Ah0 r c 0 l l (F2 r):=by
 have z:((0:Nat):Rat)=0:=rfl
 have d:∀a m,a<r->m<r->(sm r fun i=>cl r (F2 r) a i*cl r (F2 r) m i)=dl a m:=fun a m ha hm=>by
  rw[Pd (k:=a) ha fun i hi h=>by rw[Uq ha hi];unfold dl;rw[Ay (by omega)]; grind]
  rw[Uq ha ha,Uq hm ha];unfold dl;rw[Az rfl];by_cases h:a=m
  ·rw[Az h,Az h.symm]; grind
  ·rw[Ay h,Ay (fun e=>h e.symm)]; grind
 refine⟨fun m hm=>⟨by rw[z]; grind,?_⟩,fun a m ha hm=>?_,fun b s hb hs h=>h.mono (by rw[z]; grind),fun b s hb hs h=>?_⟩
 ·have:=d m m hm hm;unfold sq;rw[this,z];unfold dl;rw[Az rfl]; grind
 ·rw[d a m ha hm,z]
  have:av (dl a m-dl a m)=0:=by rw[Rat.sub_self]; decide
  rw[this]; grind
 ·refine((Ln.zero r).congr fun i hi=>?_).mono (by rw[z]; grind)
  rw[Pd (k:=i) hi fun m hm hne=>by rw[Uq hm hi];unfold dl;rw[Ay hne]; grind]
  rw[Uq hi hi];unfold dl;rw[Az rfl]; grind
open Go.Den
theorem AkF{s:Rat}(h:tw (-900)<=s):100*Ci<=uR*s:=by
 have h1:100*Ci<=uR*tw (-900):=by decide +kernel
 have h2:=H6 h;grind
theorem AnK{u N s:Rat}(hu:0<=u)(hu2:u<=1 / 1000000)(hN:0<=N)(hN5:N<=5)(hs:0<=s):(1+250*u)*(1400*u*N*((1+456*u)*s))<=1400*u*N*s+20*u*s:=by have U:=zc hu hs;have p1:=CU hN5 hu2 (by decide) hu;have p2:=zb p1 U;have p3:=CU hu2 hu2 (by decide +kernel) hu;have p4:=zb p3 U;have p5:=zb hu2 (zc (zc hN hu) U);grind
theorem Amr{u N s:Rat}(hu:0<=u)(hu2:u<=1 / 1000000)(hN5:N<=5)(hs:0<=s):(1+1000*u*N)*((1+456*u)*s)<=(1+1000*u*(N+1))*s:=by have U:=zc hu hs;have p1:=CU hN5 hu2 (by decide) hu;have p2:=zb p1 U;grind
theorem AnJ{u N:Rat}(hu:0<=u)(hu2:u<=1 / 1000000)(hN:0<=N)(hN5:N<=5):1000*u*N<=1 / 100/\0<=u*N:=by have p1:=CU hN5 hu2 (by decide) hu;have:=zc hu hN;grind
section
variable{r c n:Nat}{l l1 R Q Q':Bf}{w:Nat->Rat}{t:Rat}
theorem AgA(n4:n<=5)(r9:r<=9)(M:Mi r w t)
 (hl:∀b s,b<c->Ln r (cl c l b) s->Ln r (fun i=>cl c l1 b i-vH r w t (cl c l b) i) (205*uR*s+100*Ci))
 (hQ:∀b s,b<r->Ln r (cl r Q' b) s->Ln r (fun i=>cl r Q b i-vH r w t (cl r Q' b) i) (120*uR*s+100*Ci))
 (ih:Ah0 r c n l1 R Q'):Ah0 r c (n+1) l R Q:=by
 have u0:=za Dc;have us:=Hh;have e0:=Ee;have N1:((n+1:Nat):Rat)=(n:Rat)+1:=yk n 1;have N0:(0:Rat)<=(n:Rat):=H9 n;have N5:(n:Rat)<=5:=Cy n4;obtain⟨s1,s2⟩:=AnJ u0 us N0 N5;have e1:100*Ci<=uR:=by decide +kernel
 have hx:120*uR*(1+1000*uR*(n:Rat))+100*Ci<=123*uR:=by have:=H6 s1;grind
 have e:=fun b (hb:b<r)=>(hQ b _ hb (ih.q1 b hb)).mono hx
 have hh:=fun b (hb:b<r)=>Wn M (ih.q1 b hb)
 have q1:∀m,m<r->Ln r (cl r Q m) (1+1000*uR*((n:Rat)+1)):=fun m hm=>by refine(((e m hm).add (hh m hm)).congr fun i _=>by grind).mono ?_;have:=H6 s1;grind
 have s1':=fun(b:Nat) (s:Rat) (hb:b<c) (hs:tw (-900)<=s) (h:Ln r (cl c l b) s)=>by have h1:=(hl b s hb h).mono (t:=206*uR*s) (by have:=AkF hs; grind);have h2:Ln r (cl c l1 b) ((1+456*uR)*s):=((h1.add (Wn M h)).congr fun i _=>by grind).mono (by grind);exact And.intro h1 h2
 have ss:=fun(s:Rat) (hs:tw (-900)<=s)=>by have t0:=DP (-900);have:=zc u0 (show 0<=s by grind);exact(show 0<=s/\0<=uR*s/\tw (-900)<=(1+456*uR)*s by grind)
 refine⟨by rw[N1]; exact q1,fun a m ha hm=>?_,fun b s hb hs h=>?_,fun b s hb hs h=>?_⟩
 ·rw[N1];have d:=AeA (r:=r) (v:=w) (t:=t) (a:=cl r Q' a) (cl r Q' m);have i2:=ih.q2 a m ha hm;have da:=M.lv.dot (ih.q1 a ha);have dm:=M.lv.dot (ih.q1 m hm);have x1:=(hh a ha).dot (e m hm);have x2:=(e a ha).dot (q1 m hm)
  have es:(sm r fun i=>cl r Q a i*cl r Q m i)=(sm r fun i=>vH r w t (cl r Q' a) i*vH r w t (cl r Q' m) i)+((sm r fun i=>vH r w t (cl r Q' a) i*(cl r Q m i-vH r w t (cl r Q' m) i))+(sm r fun i=>(cl r Q a i-vH r w t (cl r Q' a) i)*cl r Q m i)):=by rw[<- Eh,<- Eh];exact BD r fun i _=>by grind
  rw[es,d];clear es d
  have k1:av (t*(t*sq r w-2)*((sm r fun i=>w i*cl r Q' a i)*sm r fun i=>w i*cl r Q' m i))<=220*uR*(24 / 10):=by
   have b1:av (sm r fun i=>w i*cl r Q' a i)<=3 / 2*(101 / 100):=by have:=Gd da; grind
   have b2:av (sm r fun i=>w i*cl r Q' m i)<=3 / 2*(101 / 100):=by have:=Gd dm; grind
   have b3:=CU b1 b2 (by decide +kernel) (DZ _);rw[<- Ep] at b3;have b4:=CU M.tt b3 (by grind) (DZ _);rw[<- Ep] at b4;have:220*uR*(3 / 2*(101 / 100)*(3 / 2*(101 / 100)))<=220*uR*(24 / 10):=by grind
   exact zn b4 this
  have x1':=Gd x1;have x2':=Gd x2
  have n1:(1+250*uR)*(1+1000*uR*(n:Rat))*(123*uR)<=126*uR:=by
   have h1:(1+250*uR)*(1+1000*uR*(n:Rat))<=102 / 100:=by have:=H6 s1;grind
   have:=zb h1 (show 0<=123*uR by grind);grind
  have n2:123*uR*(1+1000*uR*((n:Rat)+1))<=126*uR:=by
   have h1:1+1000*uR*((n:Rat)+1)<=102 / 100:=by grind
   have:=zb h1 (show 0<=123*uR by grind);grind
  generalize (sm r fun i=>cl r Q' a i*cl r Q' m i)=A at *
  generalize t*(t*sq r w-2)*((sm r fun i=>w i*cl r Q' a i)*sm r fun i=>w i*cl r Q' m i)=B at *
  generalize (sm r fun i=>vH r w t (cl r Q' a) i*(cl r Q m i-vH r w t (cl r Q' m) i))=C at *
  generalize (sm r fun i=>(cl r Q a i-vH r w t (cl r Q' a) i)*cl r Q m i)=D at *
  have g1:=HA (A-dl a m) (B+(C+D));have g2:=HA B (C+D);have g3:=HA C D;have g4:A+B+(C+D)-dl a m=A-dl a m+(B+(C+D)):=by grind
  rw[g4];clear g4 da dm x1 x2 e hh q1 s1' ss hl hQ M ih;grind
 ·rw[N1];obtain⟨z1,z2,z3⟩:=ss s hs;exact(ih.f1 b _ hb z3 (s1' b s hb hs h).2).mono (Amr u0 us N5 z1)
 ·rw[N1];obtain⟨z1,z2,z3⟩:=ss s hs;obtain⟨h1,h2⟩:=s1' b s hb hs h;have p1:=AhB M h;have p2:=Wn M h1;have p3:=Wn M (ih.f2 b _ hb z3 h2);have R1:=(ih.f1 b _ hb z3 h2).mono (Amr u0 us N5 z1);have p4:=Aks (e:=fun m i=>cl r Q m i-vH r w t (cl r Q' m) i) (show 0<=123*uR by grind) r9 e R1;have hall:=((p1.sub p2).add p3).sub p4;refine(hall.congr fun i hi=>?_).mono ?_
  ·have y1:=Ae8 (r:=r) (v:=w) (t:=t) (a:=cl c l1 b) (vH r w t (cl c l b)) i;have y2:=Ae8 (r:=r) (v:=w) (t:=t) (a:=cl c l1 b) (fun i=>sm r fun m=>cl r Q' m i*cl c R b m) i;have y3:=Ae7 (r:=r) (v:=w) (t:=t) (fun m=>cl r Q' m) (fun m=>cl c R b m) i r
   have y4:(sm r fun m=>cl r Q m i*cl c R b m)=(sm r fun m=>vH r w t (cl r Q' m) i*cl c R b m)+(sm r fun m=>(cl r Q m i-vH r w t (cl r Q' m) i)*cl c R b m):=by rw[<- Eh];exact BD r fun m _=>by grind
   rw[y1,y2,y4,y3];grind
  ·have q1:=AnK u0 us N0 N5 z1
   have q2:(1+250*uR)*(206*uR*s)<=210*uR*s:=by have:=zb us z2;grind
   have q3:3*(123*uR)*((1+1000*uR*((n:Rat)+1))*s)<=380*uR*s:=by
    have h1:1+1000*uR*((n:Rat)+1)<=102 / 100:=by grind
    have:=zb h1 z2;grind
   grind
end
theorem AhV(n:Nat)(x:Nat->Rat):Ln n x (sq n x+1):=by
 have h0:=IA n x;refine⟨by grind,?_⟩;generalize sq n x=q at *
 have:=BS q;grind
theorem AkL{r c j k:Nat}{l:Bf}(hn:j+(k+1)=r)(hr:r<=6)(al:Bp l=xZ)(he:(Ce (Dv r c l j)).2.2.2=0):Mi r (vx j (rv (Ce (Dv r c l j)).1)) (vR (Ce (Dv r c l j)).2.1.toNat)/\(Ce (Dv r c l j)).1.length=k+1:=by
 have lc:(Dv r c l j).length=k+1:=by unfold Dv; rw[DO]; omega
 have ac:Bp (Dv r c l j)=xZ:=Ji al;have ml:=KB he;subst hn;exact⟨Ad4 (TC lc (by omega) ac he (AhV _ _)),by omega⟩
theorem Acm{r c:Nat}(hr:r<=6):∀(n j K:Nat) (l:Bf) (x:Bf × List (Bf × Int)),Bl K l->Bp l=xZ->K+11*n<=900->(∀b i:Nat,b<j->b<i->i<r->cl c l b i=0)->j+n<=c->n=0\/j+n<r->HW r c n j l=xQ x ->
 Ah0 r c n l x.1 (I5 r j x.2 (F2 r))/\∀b i:Nat,b<j+n->b<i->i<r->cl c x.1 b i=0
 | 0,j,K,l,x,_,_,_,hz,_,_,h=>by cases h;exact⟨AgC r c l,hz⟩
 | n+1,j,K,l,x,hK,al,hK9,hz,hc,hj,h=>by
   unfold HW at h;by_cases h1:(Ce (Dv r c l j)).2.2.2=0
   ·rw[Az h1,Option.map_eq_some_iff] at h;obtain⟨y,hy,rfl⟩:=h;have hj:j+(n+1)<r:=by omega
    obtain⟨k,hk⟩:∃k,j+(k+1)=r:=⟨r-j-1,by omega⟩
    obtain⟨M,ml⟩:=AkL hk hr al h1;obtain⟨b1,b2,b3,b4⟩:=S5 (by omega) hK al (by omega) h1;have al1:=Mr (r:=r) (c:=c) al j;obtain⟨ih1,ih2⟩:=Acm hr n (j+1) (K+11) (LP r c l j) y b1 al1 (by omega) (AcS (by omega) hz) (by omega) (by omega) hy;obtain⟨d1,d2,d3⟩:=Ul (by omega) n (j+1) (K+11) _ y b1 al1 (by omega) hy;have qb:=Ux (n:=r) y.2 (j+1) 0 (F2 r) d2 (Acp r) (by omega);have qi:=(Q5 r y.2 (j+1) (F2 r) (SF r) (by unfold F2; exact BW _ _ _)).1;refine⟨?_,fun b i hb=>ih2 b i (by omega)⟩
    exact AgA (by omega) (by omega) M (fun b s hb hs=>Afe hk hr (by omega) hb al hK (by omega) h1 hz hs)
     (fun b s hb hs=>AjU hk hr hb qi qb (by omega) ml b2 b3 M hs) ih1
   ·rw[Ay h1] at h; cases h
theorem Me(f:Nat->Nat->Rat)(r:Nat):∀c,(sm c fun b=>sm r fun i=>f b i)=sm r fun i=>sm c fun b=>f b i
 | 0=>by
   show(0:Rat)=sm r fun _=>0
   rw[FW]
 | c+1=>by
   show(sm c fun b=>sm r fun i=>f b i)+(sm r fun i=>f c i)=sm r fun i=>(sm c fun b=>f b i)+f c i
   rw[Me f r c,<- Eh]
def Fn(r c:Nat)(M:Nat->Nat->Rat)(S:Rat):Prop:=0<=S/\(sm c fun b=>sq r (M b))<=S*S
section
variable{r c:Nat}{M N:Nat->Nat->Rat}{S T t:Rat}{x y:Nat->Rat}
theorem Fn.of{s:Nat->Rat}(h:∀b,b<c->Ln r (M b) (s b))(hS:0<=S)(k:(sm c fun b=>s b*s b)<=S*S):Fn r c M S :=⟨hS,zn (Ja c fun b hb=>(h b hb).2) k⟩
theorem Fn.same{x:Rat}(h:∀b,b<c->Ln r (M b) x)(hx:0<=x)(c9:c<=9):Fn r c M (3*x):=by refine Fn.of (s:=fun _=>x) h (by grind) ?_;rw[LJ];have h2:(c:Rat)<=9:=Cy c9;have:=zb h2 (BS x);grind
theorem Fn.row(h:Fn r c M S){i:Nat}(hi:i<r):Ln c (fun b=>M b i) S :=⟨h.1,zn (Ja c fun b _=>KZ (f:=fun i=>M b i*M b i) hi fun _ _=>BS _) h.2⟩
theorem Fn.ZQ(h:Fn r c M S):Fn c r (fun i b=>M b i) S:=by refine⟨h.1,?_⟩;have:=h.2;unfold sq at this ⊢;rw[Me (fun b i=>M b i*M b i)] at this;exact this
theorem Fn.mul(h:Fn r c M S)(hx:Ln c x t):Ln r (fun i=>sm c fun b=>M b i*x b) (S*t):=by
 refine⟨zc h.1 hx.1,?_⟩
 have h1:sq r (fun i=>sm c fun b=>M b i*x b)<=sm r fun i=>sq c x*sq c (fun b=>M b i):=Ja r fun i _=>by have:=cs (fun b=>M b i) x c;grind
 rw[EG] at h1;have h2:=h.ZQ.2;have h3:=CU h2 hx.2 (BS S) (IA c x);grind
theorem Fn.Ek(h:Fn r c M S)(hy:Ln r y t):Ln c (fun b=>sm r fun i=>M b i*y i) (S*t):=h.ZQ.mul hy
theorem Fn.Jk{B:Rat}(hB:0<=B)(h:∀b i,b<c->i<r->Ab (M b i) B)(c6:c<=6)(r6:r<=6):Fn r c M (6*B):=by
 refine⟨by grind,?_⟩
 have sqa:∀{y:Rat},Ab y B->y*y<=B*B:=fun {y} hy=>by
  unfold Ab at hy;rcases(yT:(0:Rat)<=y\/y<=0) with g | g
  ·exact H7 g hy.2
  ·have:=H7 (x:=-y) (y:=B) (by grind) (by grind);grind
 have h1:(sm c fun b=>sq r (M b))<=sm c fun _=>sm r fun _=>B*B:=Ja c fun b hb=>Ja r fun i hi=>sqa (h b i hb hi)
 rw[LJ,LJ] at h1;have h2:(c:Rat)<=6:=Cy c6;have h3:(r:Rat)<=6:=Cy r6;have h4:=CU h2 h3 (by decide) (H9 r);have:=zb h4 (BS B);grind
end
theorem Vs{q:Rat}(hq:0<q):∃s:Rat,0<s/\q<=s*s/\s*s<=103 / 100*q:=by
 have hd:(0:Rat)<(q.den:Rat):=by have:=q.den_pos;exact Rat.natCast_pos.2 this
 have hn:0<q.num:=by
  have h1:=Rat.num_nonneg.2 (za hq)
  have h2:q.num≠0:=fun e=>by have:=Rat.num_eq_zero.1 e;rw[this] at hq;exact absurd hq (by decide)
  omega
 obtain⟨N,hN⟩:∃N:Nat,q.num=(N:Int):=⟨q.num.toNat,by omega⟩
 have e1:q*(q.den:Rat)=(N:Rat):=by have h:q=mkRat q.num q.den:=(Rat.mkRat_self q).symm;rw[Rat.mkRat_eq_div,hN] at h;have h2:q*(q.den:Rat)=((N:Int):Rat) / (q.den:Rat)*(q.den:Rat):=congrArg (·*(q.den:Rat)) h;rw[h2,KI (by grind)];exact Rat.intCast_natCast N
 have hN1:1<=N:=by omega
 have hD1:1<=q.den:=q.den_pos;generalize q.den=D at *
 have hs:=J8 (N*D*10000)
 have h100:100<=IY (N*D*10000):=Xd (by have:=AE hN1 hD1;omega)
 have e2:q*((100*(D:Rat))*(100*(D:Rat)))=((N*D*10000:Nat):Rat):=by rw[zQ,zQ];have:((10000:Nat):Rat)=10000:=rfl;rw[this];grind
 generalize N*D*10000=n at *
 generalize IY n=r at *
 have a1:=Cy (Nat.le_of_lt hs.2);have a2:=Cy hs.1;have a3:=Cy h100;rw[zQ,yk] at a1;rw[zQ] at a2;have o1:((1:Nat):Rat)=1:=rfl;have o2:((100:Nat):Rat)=100:=rfl;rw[o1] at a1;rw[o2] at a3;have hp:0<100*(D:Rat):=by grind
 generalize 100*(D:Rat)=p at *
 generalize (r:Rat)=ρ at *
 generalize (n:Rat)=ν at *
 have pp:0<p*p:=Rat.mul_pos hp hp;have hs':(ρ+1) / p*p=ρ+1:=by grind
 generalize (ρ+1) / p=s at *
 have hs0:0<s:=by
  rcases(yT:s<=0\/0<=s) with h | h
  ·have:=zc (show 0<=-s by grind) (za hp);grind
  ·have:s≠0:=fun e=>by rw[e] at hs'; grind
   grind
 have e3:s*s*(p*p)=(ρ+1)*(ρ+1):=by
  have:s*s*(p*p)=(s*p)*(s*p):=by grind
  rw[this,hs']
 refine⟨s,hs0,?_,?_⟩
 ·refine zS ?_ pp;rw[e2,e3]; exact a1
 ·refine zS ?_ pp;rw[show 103 / 100*q*(p*p)=103 / 100*(q*(p*p)) by grind,e2,e3];have b1:=zb a3 (show 0<=ρ by grind);grind
section
variable{c:Int}{l:Bf}{i:Int}{p P:Nat}
end
section
variable{c n p t:Nat}{l:Bf}{b:Nat->Int}
end
section
variable{c:Int}{l:Bf}{i:Int}{p P:Nat}
end
section
variable{c n p t:Nat}{l:Bf}{b:Nat->Int}{T x B:Rat}
end
section
variable{r c:Nat}{M R q:Nat->Nat->Rat}{x b c1:Nat->Rat}{S X B P e:Rat}
end
end Go.Ck
namespace Go.Proofs.S1
open Go Go.Den Go.Ck Go.Proofs
def BL(k:Nat)(l:Bf):Prop:=∀x∈l,Bd k x.toNat
theorem AhR{k:Nat}{x:Int}(h:Vb (k:Int) x=xZ):Bd k x.toNat:=by
 unfold Vb at h;rw[Am,zK,Am,Ai,Ai,Ai] at h;obtain⟨hf,h⟩:=h;refine .Ako hf fun h0=>?_
 have kn:Bk x.toNat≠0:=fun e=>by
  unfold Bk at e;unfold By at h0;split at e
  ·split at e<;>omega
  ·split at e
   ·omega
   ·split at e
    ·omega
    ·rw[Az (by omega)] at h0; omega
 rcases h with h | ⟨_,h⟩
 ·exact absurd (show Bk x.toNat=0 by unfold BH at h; omega) kn
 ·unfold BQ E2 at h;rw[Az ⟨hf,kn⟩] at h;exact h
theorem Va{k:Nat}{l:Bf}(h:G5 l (k:Int)=xZ):BL k l/\DA l=xZ:=by unfold G5 at h;rw[zB] at h;refine⟨fun x hx=>AhR (h x hx),?_⟩;unfold DA;rw[zB];exact fun x hx=>(Bi.1 (h x hx)).1
open Go Go.Den Go.Ck Go.Proofs
end Go.Proofs.S1
namespace Go.Ck
open Go.Den Go.Proofs.S1
open Go.Den Go.Proofs.S1
def El(r c:Nat)(l:Bf):Bf:=BZ c c fun i k=>CE (c:Int) (FY r c l) (i:Int) (k:Int)
def K0(r c:Nat)(l:Bf):Bf:=BZ r c fun i k=>CE (r:Int) (H3 r c l) (i:Int) (k:Int)
theorem QZ{R C a b:Nat}{l:Bf}(hr:BA (R:Int) (C:Int) l=xZ)(ha:a<=R)(hb:b<=C):Fy (R:Int) (C:Int) l 0 0 (a:Int) (b:Int)=((a:Int),(b:Int),BZ a b fun i k=>CE (C:Int) l (i:Int) (k:Int),0):=by
 unfold Fy;rw[Az hr,Az (show K8 (R:Int) (C:Int) 0 0 (a:Int) (b:Int)=xZ from Ac (by omega)),Ad,Ad];have:(fun i k:Nat=>CE (C:Int) l (0+(i:Int)) (0+(k:Int)))=fun i k:Nat=>CE (C:Int) l (i:Int) (k:Int):=funext fun i=>funext fun k=>by rw[yJ,yJ]
 rw[this]
theorem AfT{R C K:Nat}{l m:Bf}(hl:BA (R:Int) (K:Int) l=xZ)(hm:BA (K:Int) (C:Int) m=xZ):Pq (R:Int) (K:Int) l (K:Int) (C:Int) m=((R:Int),(C:Int),BZ R C fun i k=>Fk (JZ (K:Int) l (i:Int)) (MS (K:Int) (C:Int) m (k:Int)),0):=by unfold Pq;rw[hl,hm,Ah,Az rfl,Az rfl,Ad,Ad]
section
variable{r c q:Nat}{l m:Bf}
end
end Go.Ck
end
