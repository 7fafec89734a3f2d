/- A verified evaluator of the program's form and its use for this seat: SvdU, SvdV, SvdX, SvdY, SvdZ, SvdP, SvdO, SvdI, MakV, AppV, AppW, HouV, FacV, FacW, FacX, FacY, FroV, SvdQ, SvdJ, SvdK, SvdM, WhoW, DyQ, QuoW, QuoL, TotW, SvdR, SvdG. -/
import Derived.Test.YthajngaadbanfaaGreatTE
import Derived.Test.YthajngaadbanfaaGreatTD
set_option linter.unusedVariables false
set_option linter.unusedSimpArgs false
open Rat renaming mul_nonneg->zd,mul_le_mul_of_nonneg_left->zl,le_of_lt->zc,not_lt->xC,le_refl->zY,le_trans->zZ,mul_le_mul_of_nonneg_right->ze,le_of_mul_le_mul_right->xk,mul_pos->yD,natCast_add->yK,le_total->xB,natCast_mul->zT,mul_eq_zero->wD,intCast_mul->xD,intCast_add->vh
open Nat renaming zero_le->zA,mul_le_mul_left->yQ,succ_mul->yj
open List renaming mem_map->zw,mem_range->yg,getElem_mem->yz,mem_iff_getElem->wC
open Int renaming zero_add->y8,toNat_of_nonneg->xL,le_refl->yU,natAbs_mul->yA,natCast_add->yu
open Classical renaming byContradiction->yZ
noncomputable section
open Int (toNat)
open List (length getD)
namespace Go.Ct
open Go.Den
theorem Ac5:vR 4607182418800017408=1:=by decide +kernel
theorem Xr:Fu<=uR / 1000000:=by decide +kernel
theorem Sk:uR<=1 / 1000000:=by decide +kernel
theorem A93:tw ((0:Nat):Int)=1:=by decide +kernel
structure Aao(T p q r c s:Rat):Prop where
 ht:Ab T 1
 hp:Nr p (T*T) (11 / 10*uR)
 hq:Nr q (1+p) (uR*(1+p))
 hr:Nr (r*r) q (8*uR*q)
 h0:0<=r
 hc:∃i,i*r=1/\∀B,Ab i B->Nr c i (2*uR*B+Fu)
 hs:∀B,Ab (c*T) B->Nr s (c*T) (uR*B+Fu)
theorem Asr{T:Rat}(h:Ab T 1):0<=T*T/\T*T<=1:=by have h1:=Px T;have h2:=Py h;have h3:=Agk T;rw[<- h3];exact⟨zd h1 h1,by have:=Fq h2 h2 (by grind) h1; grind⟩
theorem Aao.rr{T p q r c s:Rat}(h:Aao T p q r c s):Nr (r*r) (1+T*T) (20*uR):=by
 obtain⟨h1,h2⟩:=Asr h.ht;have hu:=Sk;have h0:=Gj;have hp:=h.hp;have hq:=h.hq;have hr:=h.hr;generalize uR=u at *
 generalize T*T=X at *
 generalize r*r=Y at *
 have e1:p<=11 / 10/\-1 / 10<=p:=by unfold Nr at hp; grind
 have e2:u*(1+p)<=21 / 10*u:=by have:=zl (show 1+p<=21 / 10 by grind) (zc h0); grind
 have e3:Nr q (1+X) (32 / 10*u):=by unfold Nr at *; grind
 have e4:q<=2001 / 1000:=by unfold Nr at e3; grind
 have e5:8*u*q<=1601 / 100*u:=by have:=zl e4 (show 0<=8*u by grind); grind
 unfold Nr at *; grind
theorem Aao.rb{T p q r c s:Rat}(h:Aao T p q r c s):99 / 100<=r/\r<=143 / 100:=by
 obtain⟨h1,h2⟩:=Asr h.ht;have hu:=Sk;have h0:=Gj;have hr:=h.rr;have r0:=h.h0;unfold Nr at hr;constructor
 ·refine xC.1 fun k=>?_
  have:=Fq (zc k) (zc k) (by grind) r0;grind
 ·refine xC.1 fun k=>?_
  have:=Fq (zc k) (zc k) r0 (by grind);grind
theorem Aao.cr{T p q r c s:Rat}(h:Aao T p q r c s):Nr (c*r) 1 (3*uR)/\Ab c (102 / 100):=by
 obtain⟨r1,r2⟩:=h.rb;obtain⟨i,hi,hc⟩:=h.hc;have hu:=Sk;have h0:=Gj;have he:=Xr;have hep:=J2
 have i0:0<=i:=xC.1 fun k=>by
  have:i*r<=0:=by have:=zd (show 0<=-i by grind) (show 0<=r by grind);grind
  grind
 have i1:i<=102 / 100:=xC.1 fun k=>by have:=Fq (zc k) r1 i0 (by grind);grind
 have hc:=hc i ⟨by grind,zY⟩;have n1:Nr (c*r) (i*r) ((2*uR*i+Fu)*r):=hc.scale h.h0
 have e1:(2*uR*i+Fu)*r<=3*uR:=by
  have a1:(2*uR*i+Fu)*r=2*uR*(i*r)+Fu*r:=by grind
  have a2:Fu*r<=Fu*2:=zl (by grind) (zc hep);rw[a1,hi]; grind
 rw[hi] at n1;refine⟨n1.mono e1,?_⟩;have a3:uR*i<=uR*(102 / 100):=zl i1 (zc h0)
 have i2:i<=1011 / 1000:=xC.1 fun k=>by have:=Fq (zc k) r1 i0 (by grind);grind
 unfold Nr at hc;unfold Ab;constructor
 ·grind
 ·grind
theorem Aao.one{T p q r c s:Rat}(h:Aao T p q r c s):Nr (c*c+s*s) 1 (32*uR)/\Ab s (102 / 100):=by
 obtain⟨hcr,hc⟩:=h.cr;have hrr:=h.rr;obtain⟨t0,t1⟩:=Asr h.ht;have hu:=Sk;have h0:=Gj;have he:=Xr;have hep:=J2
 have cT:Ab (c*T) (102 / 100):=by have:=Fq (Py hc) (Py h.ht) (by grind) (Px T);have e:=Aah (c*T);rw[Ab0] at e;unfold Ab at *; grind
 have hs:=h.hs _ cT
 have s1:Nr (s*s) (c*T*(c*T)) (3*uR):=by
  refine(Ajt hs cT (by grind)).mono ?_;have d1:uR*(102 / 100)+Fu<=103 / 100*uR:=by grind
  have:=Fq d1 (show 2*(102 / 100)+(uR*(102 / 100)+Fu)<=(205 / 100:Rat) by grind) (by grind) (by grind);grind
 have c1:Nr (c*r*(c*r)) 1 (7*uR):=by
  have:=Ajt hcr (show Ab (1:Rat) 1 by unfold Ab; grind) (by grind);have e:(1:Rat)*1=1:=by grind
  rw[e] at this;refine this.mono ?_;have:=zl (show 2*1+3*uR<=(21 / 10:Rat) by grind) (show 0<=3*uR by grind);grind
 have cc:0<=c*c/\c*c<=105 / 100:=by have a:=Agk c;have b:=Fq (Py hc) (Py hc) (by grind) (Px c);rw[<- a];exact⟨zd (Px _) (Px _),by grind⟩
 have c2:Nr (c*c*(r*r)) (c*c*(1+T*T)) (21*uR):=by
  have:=hrr.scale cc.1;have e1:r*r*(c*c)=c*c*(r*r):=by grind
  have e2:(1+T*T)*(c*c)=c*c*(1+T*T):=by grind
  rw[e1,e2] at this;refine this.mono ?_;have:=zl cc.2 (show 0<=20*uR by grind);grind
 have e3:c*r*(c*r)=c*c*(r*r):=by grind
 have e4:c*T*(c*T)=c*c*(T*T):=by grind
 have e5:c*c*(1+T*T)=c*c+c*c*(T*T):=by grind
 rw[e3] at c1;rw[e5] at c2;rw[e4] at s1;constructor
 ·generalize c*c*(T*T)=X at *
  generalize c*c*(r*r)=Y at *
  generalize c*c=Z at *
  generalize s*s=W at *
  unfold Nr at *; grind
 ·have hl:s*s<=1+32*uR:=by
   generalize c*c*(T*T)=X at *
   generalize c*c*(r*r)=Y at *
   generalize c*c=Z at *
   generalize s*s=W at *
   unfold Nr at *; grind
  have a:=Agk s
  have k:av s<=102 / 100:=xC.1 fun k=>by have:=Fq (zc k) (zc k) (Px s) (by grind);grind
  have:=Aah s;unfold Ab at *; grind
open Go.Den
theorem bd3{k a:Nat}(h:Bd k a):Ag a≠3:=h.1
theorem Ar1{a:Nat}(h:Bd 0 a):Ab (vR a) 1:=by have:=A2d h;rw[A93] at this; exact this
theorem A54{a:Nat}(h:Big a):Ag a≠0:=fun e=>by have:=J5 e;have h1:=h.1; have h2:=h.2;rw[It] at h2; rw[Avs] at h1; omega
theorem Api{t:Int}(ht:Bd 0 t.toNat):∃p q r,Aao (vR t.toNat) p q r (vR (Fj t).toNat) (vR (El t).toNat):=by
 obtain⟨q1,q2,q3⟩:=A6k ht;obtain⟨r1,r2,r3⟩:=A6j ht;have cb:=Ad2 ht;have sb:=Alx ht;have mb:Bd 0 (E7 t.toNat t.toNat).1:=Bd.mul (j:=0) (k:=0) (by decide) ht ht;have hT:=Ar1 ht;obtain⟨t0,t1⟩:=Asr hT;have hu:=Sk;have h0:=Gj;have he:=Xr;refine⟨vR (E7 t.toNat t.toNat).1,vR (Fh 4607182418800017408 (E7 t.toNat t.toNat).1).1,vR (Hc (Fh 4607182418800017408 (E7 t.toNat t.toNat).1).1).1,hT,?_,?_,?_,?_,?_,?_⟩
 ·exact(Adl ht.1 ht.2.1 ht.1 ht.2.1 mb.1 (B:=1) ⟨by grind,t1⟩).mono (by grind)
 ·have pn:0<=vR (E7 t.toNat t.toNat).1:=Asg (Jd (Ae3 ht.2.1).1);have:=Aam (bd3 Tq) Tq.2.1 mb.1 mb.2.1 q3.1 (B:=1+vR (E7 t.toNat t.toNat).1) (by rw[Ac5]; unfold Ab; grind);rw[Ac5] at this;exact this
 ·exact(Aea q3.1 q3.2.1 (.inl (Jd q1.1)) r3.1).1
 ·exact(Aea q3.1 q3.2.1 (.inl (Jd q1.1)) r3.1).2.1
 ·have hrp:vR (Hc (Fh 4607182418800017408 (E7 t.toNat t.toNat).1).1).1≠0:=by
   have lo:=Lo.Az8 r3.1 r3.2.1 (a:=(Hc (Fh 4607182418800017408 (E7 t.toNat t.toNat).1).1).1) (by have h:=r2.2; rw[It] at h;rw[Be2 (by omega)]; exact r2.1)
   have:=X5 (a:=(Hc (Fh 4607182418800017408 (E7 t.toNat t.toNat).1).1).1) (by have h:=r2.2; rw[It] at h;rw[Be2 (by omega)]; exact r2.1)
   intro e;rw[e] at this;unfold av at this;revert this;decide +kernel
  refine⟨1 / vR (Hc (Fh 4607182418800017408 (E7 t.toNat t.toNat).1).1).1,Af9 hrp,fun B hB=>?_⟩;rw[Ahk] at cb ⊢;exact At2 (bd3 Tq) Tq.2.1 r3.1 r3.2.1 (A54 r2) cb.1 (by rw[Ac5]; exact Af9 hrp) hB
 ·intro B hB;have e:(El t).toNat=(E7 (Fj t).toNat t.toNat).1:=by unfold El; rw[Nq]
  rw[e] at sb ⊢;exact Adl cb.1 cb.2.1 ht.1 ht.2.1 sb.1 hB
theorem Ayj{t:Int}(ht:Bd 0 t.toNat):Nr (vR (Fj t).toNat*vR (Fj t).toNat+vR (El t).toNat*vR (El t).toNat) 1 (32*uR):=by obtain⟨p,q,r,h⟩:=Api ht;exact h.one.1
theorem Apx{f g:Nat->Rat}{p q N:Nat}(hpq:p<q)(hq:q<N)(h:∀j,j<N->j≠p->j≠q->f j=g j):sm N f=sm N g+(f p-g p)+(f q-g q):=by
 have one:∀n,p<n->n<=q->sm n f=sm n g+(f p-g p):=by
  intro n
  induction n with
  | zero=>intro h; omega
  | succ n ih =>
    intro hp hn;show sm n f+f n=sm n g+g n+(f p-g p)
    by_cases e:p=n
    ·subst e;have:sm p f=sm p g:=Ce p fun i hi=>h i (by omega) (by omega) (by omega)
     rw[this]; grind
    ·rw[ih (by omega) (by omega),h n (by omega) (by omega) (by omega)]; grind
 have two:∀n,q<n->n<=N->sm n f=sm n g+(f p-g p)+(f q-g q):=by
  intro n
  induction n with
  | zero=>intro h; omega
  | succ n ih =>
    intro hn hN;show sm n f+f n=sm n g+g n+(f p-g p)+(f q-g q)
    by_cases e:q=n
    ·subst e;rw[one q hpq (Bfj _)]; grind
    ·rw[ih (by omega) (by omega),h n (by omega) (by omega) (by omega)]; grind
 exact two N hq (Bfj _)
structure Rot(n p q:Nat)(c g:Rat)(x x':Nat->Rat)(E:Rat):Prop where
 hpq:p<q
 hq:q<n
 rest:∀j,j<n->j≠p->j≠q->x' j=x j
 ep:Ab (x' p-(c*x p+g*x q)) E
 eq:Ab (x' q-(c*x q-g*x p)) E
def K6(p q:Nat)(c g:Rat)(x:Nat->Rat)(j:Nat):Rat:=if j=p then c*x p+g*x q else if j=q then c*x q-g*x p else x j
theorem Azk(p q:Nat)(c g:Rat)(x:Nat->Rat):K6 p q c g x p=c*x p+g*x q:=Bfc rfl
theorem Azj{p q:Nat}(h:p<q)(c g:Rat)(x:Nat->Rat):K6 p q c g x q=c*x q-g*x p:=by unfold K6; rw[Bfb (by omega),Bfc rfl]
theorem Azl{p q j:Nat}(h1:j≠p)(h2:j≠q)(c g:Rat)(x:Nat->Rat):K6 p q c g x j=x j:=by unfold K6; rw[Bfb h1,Bfb h2]
def W6(p q:Nat)(x:Nat->Rat)(j:Nat):Rat:=if j=p\/j=q then x j else 0
theorem Asq{n p q:Nat}(hpq:p<q)(hq:q<n)(x a:Nat->Rat):(sm n fun j=>W6 p q x j*W6 p q a j)=x p*a p+x q*a q:=by
 have:=Apx (f:=fun j=>W6 p q x j*W6 p q a j) (g:=fun _=>0) hpq hq (fun j _ h1 h2=>by show W6 p q x j*W6 p q a j=0;unfold W6; rw[Bfb (by omega)]; grind)
 rw[this,K4];show 0+(W6 p q x p*W6 p q a p-0)+(W6 p q x q*W6 p q a q-0)=_;unfold W6;rw[Bfc (.inl rfl),Bfc (.inl rfl),Bfc (.inr rfl),Bfc (.inr rfl)];grind
theorem Aph{n p q:Nat}{x:Nat->Rat}{F:Rat}(h:Ln n x F):Ln n (W6 p q x) F:=by
 refine⟨h.1,zZ (Ue n fun j _=>?_) h.2⟩;show W6 p q x j*W6 p q x j<=x j*x j;unfold W6;split
 ·exact zY
 ·have:=Cd (x j); grind
theorem As6{n p q:Nat}(hpq:p<q)(hq:q<n)(c g:Rat)(x a:Nat->Rat) :
 (sm n fun j=>K6 p q c g x j*K6 p q c g a j)=(sm n fun j=>x j*a j)+(c*c+g*g-1)*(x p*a p+x q*a q):=by
 have:=Apx (f:=fun j=>K6 p q c g x j*K6 p q c g a j) (g:=fun j=>x j*a j) hpq hq (fun j _ h1 h2=>by show K6 p q c g x j*K6 p q c g a j=x j*a j;rw[Azl h1 h2,Azl h1 h2])
 rw[this];show _+(K6 p q c g x p*K6 p q c g a p-x p*a p)+(K6 p q c g x q*K6 p q c g a q-x q*a q)=_;rw[Azk,Azk,Azj hpq,Azj hpq];grind
section
variable{n p q:Nat}{c g:Rat}(hcg:Nr (c*c+g*g) 1 (32*uR))
include hcg
theorem Azm{x:Nat->Rat}{F:Rat}(hpq:p<q)(hq:q<n)(h:Ln n x F):Ln n (K6 p q c g x) ((1+32*uR)*F):=by
 have h0:=Gj;have hF:=h.1;refine⟨zd (by grind) hF,?_⟩;have e:sq n (K6 p q c g x)=sq n x+(c*c+g*g-1)*(x p*x p+x q*x q):=As6 hpq hq c g x x
 have d:x p*x p+x q*x q<=F*F:=by have:=(Aph (p:=p) (q:=q) h).2;unfold sq at this;rw[Asq hpq hq] at this;exact this
 have d0:0<=x p*x p+x q*x q:=by have:=Cd (x p); have:=Cd (x q); grind
 have k:(c*c+g*g-1)*(x p*x p+x q*x q)<=32*uR*(F*F):=by
  have k1:c*c+g*g-1<=32*uR:=by unfold Nr at hcg; grind
  have:=ze k1 d0;have:=zl d (show 0<=32*uR by grind);grind
 have h2:=h.2;rw[e];have f0:=Cd F;have k2:0<=uR*(F*F):=zd (zc h0) f0;have k3:0<=uR*uR*(F*F):=zd (zd (zc h0) (zc h0)) f0;grind
omit hcg in
theorem Rot.err{x x':Nat->Rat}{E:Rat}(h:Rot n p q c g x x' E):Ln n (fun j=>x' j-K6 p q c g x j) (2*E):=by
 have hE:=h.ep.nn;refine⟨by grind,?_⟩;unfold sq
 have:=Apx (f:=fun j=>(x' j-K6 p q c g x j)*(x' j-K6 p q c g x j)) (g:=fun _=>0) h.hpq h.hq (fun j hj h1 h2=>by show(x' j-K6 p q c g x j)*(x' j-K6 p q c g x j)=0;rw[Azl h1 h2,h.rest j hj h1 h2]; grind)
 rw[this,K4];show 0+((x' p-K6 p q c g x p)*(x' p-K6 p q c g x p)-0)+((x' q-K6 p q c g x q)*(x' q-K6 p q c g x q)-0)<=_;rw[Azk,Azj h.hpq];have a:=Fq (Py h.ep) (Py h.ep) hE (Px _);have b:=Fq (Py h.eq) (Py h.eq) hE (Px _);rw[Agk] at a b;have:=Cd E;grind
theorem Rot.ln{x x':Nat->Rat}{E F:Rat}(h:Rot n p q c g x x' E)(hF:Ln n x F):Ln n x' ((1+32*uR)*F+2*E):=by
 refine((Azm hcg h.hpq h.hq hF).add h.err).congr fun j _=>?_
 grind
theorem Rot.dot{x x' a a':Nat->Rat}{E D F H:Rat}(h:Rot n p q c g x x' E)(k:Rot n p q c g a a' D)(hF:Ln n x F)(hH:Ln n a H) :
 Nr (sm n fun j=>x' j*a' j) (sm n fun j=>x j*a j) (32*uR*(F*H)+(1+32*uR)*F*(2*D)+2*E*((1+32*uR)*H+2*D)):=by
 have e:(sm n fun j=>x' j*a' j)=(sm n fun j=>K6 p q c g x j*K6 p q c g a j)+((sm n fun j=>K6 p q c g x j*(a' j-K6 p q c g a j))+(sm n fun j=>(x' j-K6 p q c g x j)*a' j)):=by rw[<- Lm,<- Lm];exact Ce n fun j _=>by grind
 have d1:=(Azm hcg h.hpq h.hq hF).dot k.err;have d2:=h.err.dot (k.ln hcg hH);have d3:=(Aph (p:=p) (q:=q) hF).dot (Aph (p:=p) (q:=q) hH);rw[Asq h.hpq h.hq] at d3;rw[e,As6 h.hpq h.hq]
 have d4:Ab ((c*c+g*g-1)*(x p*a p+x q*a q)) (32*uR*(F*H)):=by have h0:=Gj;have:=Fq (show av (c*c+g*g-1)<=32*uR from Am8.1 hcg) (Py d3) (by grind) (Px _);have e2:=Aah ((c*c+g*g-1)*(x p*a p+x q*a q));rw[Ab0] at e2;unfold Ab at *; grind
 generalize (sm n fun j=>K6 p q c g x j*(a' j-K6 p q c g a j))=X at *
 generalize (sm n fun j=>(x' j-K6 p q c g x j)*a' j)=Y at *
 generalize (c*c+g*g-1)*(x p*a p+x q*a q)=Z at *
 unfold Nr Ab at *
 grind
end
def Bw(n:Nat)(l:List Int)(i j:Nat):Rat:=vR (C1 (n:Int) l (i:Int) (j:Int)).toNat
theorem A2c{j k a:Nat}(h:Bd j a)(g:Ab (vR a) (tw (k:Int))):Bd k a:=by
 refine⟨h.1,h.2.1,?_⟩;rw[Ash,Ap5 (zd (Pn _) (zc (Gy _)))] at g;have e:tw (k:Int)=tw ((k:Int)+1074)*tw (-1074):=by rw[<- G3,Int.add_neg_cancel_right]
 rw[e] at g;have g:=xk g (Gy _);rw[show(k:Int)+1074=((k+1074:Nat):Int) by omega,Ll] at g;exact Rat.natCast_le_natCast.1 g
theorem Bcw:tw ((4:Nat):Int)=16:=by decide +kernel
theorem Afd{n:Nat}{x:Nat->Rat}{F:Rat}(h:Ln n x F){j:Nat}(hj:j<n):Ab (x j) F:=by
 refine Agq h.1 (zZ ?_ h.2);unfold sq
 have:sm n (fun i=>if i=j then x j*x j else 0)=x j*x j:=by rw[Aed hj (fun i _ hi=>Bfb hi),Bfc rfl]
 rw[<- this];refine Ue n fun i _=>?_
 by_cases e:i=j
 ·subst e; rw[Bfc rfl]; exact zY
 ·rw[Bfb e]; exact Cd _
theorem A8r{F:Rat}(h:1<=F):Fu<=uR / 1000000*F:=by have:=Xr;have:=zl h (show 0<=uR / 1000000 by have:=Gj; grind);grind
theorem Am3{a b:Nat}{F:Rat}(ha:Bd 0 a)(hb:Bd 5 b)(a1:Ab (vR a) (102 / 100))(b1:Ab (vR b) F)(h1:1<=F) :
 Nr (vR (E7 a b).1) (vR a*vR b) (103 / 100*uR*F)/\Ab (vR (E7 a b).1) (103 / 100*F)/\Bd 5 (E7 a b).1:=by
 have hm:Bd 5 (E7 a b).1:=Bd.mul (j:=0) (k:=5) (by decide) ha hb;have h0:=Gj;have hu:=Sk;have he:=A8r h1
 have hB:Ab (vR a*vR b) (102 / 100*F):=by have:=Fq (Py a1) (Py b1) (by grind) (Px _);have e:=Aah (vR a*vR b);rw[Ab0] at e;unfold Ab at *; grind
 have uF:0<=uR*F:=zd (zc h0) (by grind);have uF2:uR*F<=1 / 1000000*F:=ze hu (by grind);have e:=(Adl ha.1 ha.2.1 hb.1 hb.2.1 hm.1 hB).mono (show uR*(102 / 100*F)+Fu<=103 / 100*uR*F by grind);refine⟨e,?_,hm⟩;unfold Nr at e;unfold Ab at *
 constructor<;>grind
theorem Atn{a b c d:Nat}{F:Rat}(ha:Bd 0 a)(hb:Bd 5 b)(hc:Bd 0 c)(hd:Bd 5 d)(a1:Ab (vR a) (102 / 100))(b1:Ab (vR b) F)(c1:Ab (vR c) (102 / 100))(d1:Ab (vR d) F)(h1:1<=F) :
 (Ab (vR (Fh (E7 a b).1 (E7 c d).1).1-(vR a*vR b+vR c*vR d)) (6*uR*F)/\Bd 6 (Fh (E7 a b).1 (E7 c d).1).1) /\
 (Ab (vR (Agw (E7 a b).1 (E7 c d).1).1-(vR a*vR b-vR c*vR d)) (6*uR*F)/\Bd 6 (Agw (E7 a b).1 (E7 c d).1).1):=by
 obtain⟨e1,f1,g1⟩:=Am3 ha hb a1 b1 h1;obtain⟨e2,f2,g2⟩:=Am3 hc hd c1 d1 h1;have h0:=Gj;have uF:0<=uR*F:=zd (zc h0) (by grind);have hs:Bd 6 (Fh (E7 a b).1 (E7 c d).1).1:=Bd.add (k:=5) (by decide) g1 g2;have ht:Bd 6 (Agw (E7 a b).1 (E7 c d).1).1:=Bd.sub (k:=5) (by decide) Qg g1 g2;have s1:=Aam g1.1 g1.2.1 g2.1 g2.2.1 hs.1 (B:=206 / 100*F) (by unfold Ab at *; grind);have s2:=A3x Qg g1.1 g1.2.1 g2.1 g2.2.1 ht.1 (B:=206 / 100*F) (by unfold Ab at *; grind);unfold Nr at *
 refine⟨⟨?_,hs⟩,?_,ht⟩
 ·unfold Ab; grind
 ·unfold Ab; grind
def SvS(R n:Nat)(F:Rat)(l:List Int):Prop:=Ah l=true/\(∀i j:Nat,i<R->j<n->Bd 5 (C1 (n:Int) l (i:Int) (j:Int)).toNat)/\∀i,i<R->Ln n (Bw n l i) F
theorem SvS.Db{R n:Nat}{F:Rat}{l:List Int}(h:SvS R n F l)(h1:1<=F)(h15:F<=15){t:Int}(ht:Bd 0 t.toNat){p q:Nat}(hpq:p<q)(hq:q<n) :
 (∀i,i<R->Rot n p q (vR (Fj t).toNat) (vR (B7 (El t)).toNat) (Bw n l i) (Bw n (Jh R n l p q (Fj t) (B7 (El t))) i) (6*uR*F)) /\
 Nr (vR (Fj t).toNat*vR (Fj t).toNat+vR (B7 (El t)).toNat*vR (B7 (El t)).toNat) 1 (32*uR) /\
 SvS R n ((1+45*uR)*F) (Jh R n l p q (Fj t) (B7 (El t))):=by
 obtain⟨al,hb,hl⟩:=h;have cb:=Ad2 ht;have sb:=Alx ht;have s64:(El t).toNat<2^64:=by unfold El; rw[Nq]; exact Qg
 have gb:Bd 0 (B7 (El t)).toNat:=by rw[Wn]; exact Zt s64 sb
 have gv:vR (B7 (El t)).toNat=-(vR (El t).toNat):=by rw[Wn]; exact Ad0 s64
 have hcs:=Ayj ht
 have hcg:Nr (vR (Fj t).toNat*vR (Fj t).toNat+vR (B7 (El t)).toNat*vR (B7 (El t)).toNat) 1 (32*uR):=by
  have e:-(vR (El t).toNat)*-(vR (El t).toNat)=vR (El t).toNat*vR (El t).toNat:=by grind
  rw[gv,e]; exact hcs
 have c1:Ab (vR (Fj t).toNat) (102 / 100):=by have:=Ar1 cb; unfold Ab at *; grind
 have g1:Ab (vR (B7 (El t)).toNat) (102 / 100):=by have:=Ar1 gb; unfold Ab at *; grind
 have h0:=Gj;have hu:=Sk
 have ent:∀i j:Nat,i<R->j<n->C1 (n:Int) (Jh R n l p q (Fj t) (B7 (El t))) (i:Int) (j:Int) =
  if j=p then De (Bz (Fj t) (C1 (n:Int) l (i:Int) (p:Int))) (Bz (B7 (El t)) (C1 (n:Int) l (i:Int) (q:Int)))
  else if j=q then Gg (Bz (Fj t) (C1 (n:Int) l (i:Int) (q:Int))) (Bz (B7 (El t)) (C1 (n:Int) l (i:Int) (p:Int))) else C1 (n:Int) l (i:Int) (j:Int):=fun i j hi hj=>Ju hi hj
 have e1:∀i:Nat,i<R->Ab (Bw n (Jh R n l p q (Fj t) (B7 (El t))) i p-(vR (Fj t).toNat*Bw n l i p+vR (B7 (El t)).toNat*Bw n l i q)) (6*uR*F)/\Bd 6 (C1 (n:Int) (Jh R n l p q (Fj t) (B7 (El t))) (i:Int) (p:Int)).toNat:=fun i hi=>by have k:=(Atn cb (hb i p hi (by omega)) gb (hb i q hi hq) c1 (Afd (hl i hi) (j:=p) (by omega)) g1 (Afd (hl i hi) (j:=q) hq) h1).1;unfold Bw;rw[ent i p hi (by omega),Bfc rfl,Aal,Nq,Nq];exact k
 have e2:∀i:Nat,i<R->Ab (Bw n (Jh R n l p q (Fj t) (B7 (El t))) i q-(vR (Fj t).toNat*Bw n l i q-vR (B7 (El t)).toNat*Bw n l i p)) (6*uR*F)/\Bd 6 (C1 (n:Int) (Jh R n l p q (Fj t) (B7 (El t))) (i:Int) (q:Int)).toNat:=fun i hi=>by have k:=(Atn cb (hb i q hi hq) gb (hb i p hi (by omega)) c1 (Afd (hl i hi) (j:=q) hq) g1 (Afd (hl i hi) (j:=p) (by omega)) h1).2;unfold Bw;rw[ent i q hi hq,Bfb (by omega),Bfc rfl,show(Gg (Bz (Fj t) (C1 (n:Int) l (i:Int) (q:Int))) (Bz (B7 (El t)) (C1 (n:Int) l (i:Int) (p:Int)))).toNat=_ from Ber _,Nq,Nq];exact k
 have rot:∀i,i<R->Rot n p q (vR (Fj t).toNat) (vR (B7 (El t)).toNat) (Bw n l i) (Bw n (Jh R n l p q (Fj t) (B7 (El t))) i) (6*uR*F):=fun i hi =>
  ⟨hpq,hq,fun j hn hp hj=>by unfold Bw; rw[ent i j hi hn,Bfb hp,Bfb hj],(e1 i hi).1,(e2 i hi).1⟩
 have uF:0<=uR*F:=zd (zc h0) (by grind)
 have ln:∀i,i<R->Ln n (Bw n (Jh R n l p q (Fj t) (B7 (El t))) i) ((1+45*uR)*F):=fun i hi =>
  ((rot i hi).ln hcg (hl i hi)).mono (by grind)
 refine⟨rot,hcg,Agb al _ _ _ _,fun i j hi hj=>?_,ln⟩;have uF2:uR*F<=1 / 1000000*F:=ze hu (by grind)
 have h16:Ab (vR (C1 (n:Int) (Jh R n l p q (Fj t) (B7 (El t))) (i:Int) (j:Int)).toNat) (tw ((4:Nat):Int)):=by rw[Bcw];have:Ab (Bw n (Jh R n l p q (Fj t) (B7 (El t))) i j) ((1+45*uR)*F):=Afd (ln i hi) hj;unfold Ab Bw at *; grind
 have b6:Bd 6 (C1 (n:Int) (Jh R n l p q (Fj t) (B7 (El t))) (i:Int) (j:Int)).toNat:=by
  by_cases k1:j=p
  ·subst k1; exact(e1 i hi).2
  ·by_cases k2:j=q
   ·subst k2; exact(e2 i hi).2
   ·rw[ent i j hi hj,Bfb k1,Bfb k2]; exact(hb i j hi hj).mono (by decide)
 exact(A2c b6 h16).mono (by decide)
theorem Ael{b:Nat}{n:Int}(h:Np b):Np (Cq b n).1:=by
 by_cases k:Ag b=3\/Ag b=0
 ·unfold Cq; rw[Bfb h.2,Bfc k]; exact h
 ·refine⟨?_,Ahz h.2⟩;rw[Ms h.2 k,Jd h.1,G0];exact Qe _ _
theorem A4s{a b:Nat}(ha:Np a)(hb:Np b)(a3:Ag a≠3)(b3:Ag b≠3):Np (E7 a b).1:=by
 have e:(Be a !=Be b)=false:=by rw[Jd ha.1,Jd hb.1]; rfl
 have k:=Jf false (Ap a*Ap b) (Aw a+Aw b);rw[G0] at k;unfold E7;rw[Bfb (fun h=>h.elim ha.2 hb.2),Bfb (fun h=>h.elim a3 b3),e,G0];exact⟨Qe _ _,k⟩
theorem A8i{a:Nat}(h:Np a):0<=G5 a:=by rw[A8j h.1]; omega
theorem A6h{a:Nat}(h3:Ag a≠3)(h4:Ag a≠4)(h0:Ag a≠0):vR a≠0:=by
 have hm:Ap a≠0:=fun e=>h0 ((Du h3 h4).1 e)
 have m1:(1:Rat)<=(Ap a:Rat):=Dr (m:=1) (Nat.pos_of_ne_zero hm);have t:=Gy (Aw a);intro e;unfold vR at e
 have:(Ap a:Rat)*tw (Aw a)=0:=by unfold Tb at e;split at e<;>grind
 have:=yD (show(0:Rat)<(Ap a:Rat) by grind) t;grind
theorem Ayg{a k:Nat}(hk:k+1<=1023)(h:Bd k a)(h0:Ag a≠0):Ag (Fh a a).1≠0:=by
 have hb:=Bd.add hk h h;have v:=A6h h.1 h.2.1 h0
 have e:=Aam h.1 h.2.1 h.1 h.2.1 hb.1 (B:=2*av (vR a)) (by have:=Aah (vR a); unfold Ab at *; grind)
 intro k0;rw[Sj k0] at e;have hu:=Sk;have h0':=Gj
 have a0:0<av (vR a):=by
  refine Rat.not_le.1 fun g=>v (Ar2 ?_)
  have:=Px (vR a); grind
 have k:vR a=av (vR a)\/vR a=-av (vR a):=by
  unfold av;split
  ·exact .inl rfl
  ·exact .inr (by grind)
 generalize av (vR a)=A at *
 have l:=ze hu (show 0<=2*A by grind);unfold Nr at e;rcases k with k | k
 ·rw[k] at e; grind
 ·rw[k] at e; grind
theorem Ath{x:List Int}(hf:Ds x=true)(hl:x.length<=6):Np (Bk x).toNat:=by
 refine⟨?_,Am9 hf hl⟩;obtain⟨b3,b4,_,hb⟩:=Wy hf;unfold Bk;by_cases h:Bi x=0\/Dl (Bi x)=false
 ·rw[Bfc h];have:=Wx x 0 (Nx hf) (by rw[Ft]; omega);have e:(Bi x).toNat=Nb x 0:=Ber _;rw[e];unfold Nn; rw[It]; rw[Ft] at this; omega
 ·rw[Bfb h];obtain⟨t,te,t1,_⟩:=Ad9 (-Bs (Bi x)) x 0 (zA _);have te:Jz (-Bs (Bi x)) 0 x=t:=te
  have bm:Bm (1+x.length) 2 (Jz (-Bs (Bi x)) 0 x).toNat:=Ajs x 0 1 (fun z hz=>by have zk:=Acn (Nx hf z hz);exact Bd.down zk.1 zk.2 b3 b4 (hb z hz)) (Bd.zero false 2).bm (by decide) (by omega)
  rw[te,Ber] at bm;rw[te,Eh,Uy,Ber];exact(Ael (Adb ⟨t1,bm.2.1⟩)).1
theorem A41{a g:Int}(ha:Np a.toNat)(h:Sz a (Hq g)=true):Ag g.toNat≠0:=by
 intro k0;have h:=Bff h;unfold Hp Abf at h;rw[Akn] at h;have e:E9 g.toNat=0:=J5 k0;rw[e] at h;have k:=A8i ha;have z:G5 0=0:=by decide +kernel
 rw[z] at h;split at h
 ·exact absurd h (by decide)
 ·split at h
  ·omega
  ·split at h<;>exact absurd h (by decide)
theorem Aul{x y:List Int}{low:Int}(hx:Bl 5 x)(hy:Bl 5 y)(h6:x.length<=6)(h6':y.length<=6)(hb:Wz x y low=false):Ag (Ix x y).toNat≠4:=by
 have nx:=Ath hx.Pu h6;have ny:=Ath hy.Pu h6';unfold Wz at hb;simp only[Bool.or_eq_false_iff,Bool.not_eq_false'] at hb;have gb:Bd 13 (Hi x y).toNat:=Ak3 (j:=5) (k:=5) (by decide) hx hy (by omega);have xb:Bd 13 (Hi x x).toNat:=Ak3 (j:=5) (k:=5) (by decide) hx hx (by omega);have yb:Bd 13 (Hi y y).toNat:=Ak3 (j:=5) (k:=5) (by decide) hy hy (by omega)
 have g0:Ag (Hi x y).toNat≠0:=by
  by_cases k4:Ag (E7 (Bk x).toNat (Bk y).toNat).1=4
  ·exfalso;have h:=Bff hb.2;unfold Hp Abf at h;rw[Eh,Nq] at h
   have e:Ag (Cq (E7 (Bk x).toNat (Bk y).toNat).1 (-44)).1=4:=by unfold Cq; rw[Bfc k4]; decide +kernel
   rw[Bfc (.inl e)] at h;exact absurd h (by decide)
  ·refine A41 ?_ hb.2;rw[Eh,Nq];refine Ael ⟨?_,k4⟩;by_cases k3:Ag (Bk x).toNat=3\/Ag (Bk y).toNat=3
   ·have e:(Be (Bk x).toNat !=Be (Bk y).toNat)=false:=by rw[Jd nx.1,Jd ny.1]; rfl
    unfold E7;rw[Bfb (fun h=>h.elim nx.2 ny.2),Bfc k3,e];split
    ·exact Aqt
    ·rw[G0]; exact Aqu
   ·exact(A4s nx ny (fun h=>k3 (.inl h)) (fun h=>k3 (.inr h))).1
 have nb:Bd 14 (Agw (Hi y y).toNat (Hi x x).toNat).1:=Bd.sub (k:=13) (by decide) (Adt x x 0 (by decide)) yb xb;have db:Bd 14 (Fh (Hi x y).toNat (Hi x y).toNat).1:=Bd.add (k:=13) (by decide) gb gb;have d0:=Ayg (k:=13) (by decide) gb g0;unfold Ix;rw[Aab,Aal,show(Gg (Hi y y) (Hi x x)).toNat=_ from Ber _];unfold Ok
 rw[Bfb (fun h=>h.elim nb.2.1 db.2.1),Bfb (fun h=>by
  rcases h.2 with k | k
  ·exact nb.1 k
  ·exact d0 (h.1 ▸ k)),Bfb nb.1]
 split
 ·exact Aii _
 ·first | exact Jf _ _ _ | (rw[Bfb d0]; exact Jf _ _ _)
theorem A9m:uR<=1 / 1000000000000000:=by decide +kernel
theorem SvS.mono{R n:Nat}{F G:Rat}{l:List Int}(h:SvS R n F l)(g:F<=G):SvS R n G l:=⟨h.1,h.2.1,fun i hi=>(h.2.2 i hi).mono g⟩
theorem SvS.col{R n:Nat}{F:Rat}{l:List Int}(h:SvS R n F l){p:Nat}(hp:p<n):Bl 5 (Dz R n l p):=fun x hx=>by obtain⟨i,hi,rfl⟩:=zw.1 hx;have hi:=yg.1 hi;rw[y8];exact h.2.1 i p hi hp
theorem A1b{F M u:Rat}(hF:1<=F)(hM:0<=M)(hM2:M<=1000)(hu:0<u)(hu2:u<=1 / 1000000000000000):(1+45*u)*(F*(1+60*u*M))<=F*(1+60*u*(M+1)):=by
 have a:u*M<=1 / 1000000000000:=by have:=Fq hu2 hM2 (by grind) hM; grind
 have b:u*(u*M)<=u*(1 / 1000000000000):=zl a (zc hu);have c:(1+45*u)*(1+60*u*M)<=1+60*u*(M+1):=by grind
 have:=zl c (show 0<=F by grind);grind
theorem A1c{F M u:Rat}(hF:1<=F)(hM:0<=M)(hM2:M<=1000)(hu:0<u)(hu2:u<=1 / 1000000000000000) :
 32*u*(F*(1+60*u*M)*(1+60*u*M))+(1+32*u)*(F*(1+60*u*M))*(2*(6*u*(1+60*u*M)))+2*(6*u*(F*(1+60*u*M)))*((1+32*u)*(1+60*u*M)+2*(6*u*(1+60*u*M)))<=60*u*F:=by
 have a:u*M<=1 / 1000000000000:=by have:=Fq hu2 hM2 (by grind) hM; grind
 have a0:0<=u*M:=zd (zc hu) hM;have e:60*u*M=60*(u*M):=by grind
 rw[e];generalize hA:1+60*(u*M)=A at *
 have A1:1<=A/\A<=1001 / 1000:=by grind
 have AA:A*A<=1003 / 1000:=by have:=Fq A1.2 A1.2 (by grind) (by grind); grind
 have AA0:0<=A*A:=Cd A;have k1:32*u*(F*A*A)+(1+32*u)*(F*A)*(2*(6*u*A))+2*(6*u*(F*A))*((1+32*u)*A+2*(6*u*A))=u*F*(A*A)*(56+912*u):=by grind
 rw[k1];have uF:0<=u*F:=zd (zc hu) (by grind);have k2:A*A*(56+912*u)<=1003 / 1000*57:=Fq AA (by grind) (by grind) (by grind);have:=zl (show A*A*(56+912*u)<=60 by grind) uF;grind
structure PI(R n:Nat)(F:Rat)(D:Nat->Nat->Rat)(m:Nat)(s:List Int × List Int × Bool):Prop where
 w:SvS R n (F*(1+60*uR*(m:Rat))) s.1
 v:SvS n n (1*(1+60*uR*(m:Rat))) s.2.1
 d:∀i k,i<R->k<n->Nr (sm n fun j=>Bw n s.1 i j*Bw n s.2.1 k j) (D i k) ((m:Rat)*(60*uR*F))
 e:∀i k,i<n->k<n->Nr (sm n fun j=>Bw n s.2.1 i j*Bw n s.2.1 k j) (if i=k then 1 else 0) ((m:Rat)*(60*uR*1))
theorem PI.Db{R n:Nat}{F:Rat}{D:Nat->Nat->Rat}{m:Nat}{s:List Int × List Int × Bool}(h:PI R n F D m s)(hF:1<=F)(hF2:F<=12)(hm:m<=1000)(r6:R<=6)(low:Int){p q:Nat}(hpq:p<q)(hq:q<n) :
 PI R n F D (m+1) (Ng Wz R n low p q s):=by
 have hu:=Gj;have hu2:=A9m;have M0:0<=(m:Rat):=Pn m;have M1:(m:Rat)<=1000:=Dr (n:=1000) hm;have ec:((m+1:Nat):Rat)=(m:Rat)+1:=yK m 1;have gF:=A1b hF M0 M1 hu hu2;have gV:=A1b (F:=1) (zY) M0 M1 hu hu2
 have uM:uR*(m:Rat)<=1 / 1000000000000:=by have:=Fq hu2 M1 (by grind) M0; grind
 have uM0:0<=uR*(m:Rat):=zd (zc hu) M0;have uF:0<=uR*F:=zd (zc hu) (by grind);have fM:F*(uR*(m:Rat))<=12*(1 / 1000000000000):=Fq hF2 uM (by grind) uM0;have fM0:0<=F*(uR*(m:Rat)):=zd (by grind) uM0;unfold Ng;cases hb:Wz (Dz R n s.1 p) (Dz R n s.1 q) low with
 | true =>
   rw[Bfc rfl];refine⟨h.w.mono ?_,h.v.mono ?_,fun i k hi hk=>(h.d i k hi hk).mono ?_,fun i k hi hk=>(h.e i k hi hk).mono ?_⟩
   ·rw[ec]; grind
   ·rw[ec]; grind
   ·rw[ec]; grind
   ·rw[ec]; grind
 | false =>
   rw[Bfb (by decide)];have lx:(Dz R n s.1 p).length<=6:=by unfold Dz; rw[E1]; exact r6
   have ly:(Dz R n s.1 q).length<=6:=by unfold Dz; rw[E1]; exact r6
   have ht:=Ayl (Aul (h.w.col (p:=p) (by omega)) (h.w.col hq) lx ly hb);obtain⟨w1,w2,w3⟩:=h.w.Db (by grind) (by grind) ht hpq hq;obtain⟨v1,_,v3⟩:=h.v.Db (by grind) (by grind) ht hpq hq;refine⟨?_,?_,fun i k hi hk=>?_,fun i k hi hk=>?_⟩
   ·rw[ec]; exact w3.mono gF
   ·rw[ec]; exact v3.mono gV
   ·have:=((w1 i hi).dot w2 (v1 k hk) (h.w.2.2 i hi) (h.v.2.2 k hk)).trans (h.d i k hi hk);refine this.mono ?_;have g:=A1c hF M0 M1 hu hu2;rw[ec];grind
   ·have:=((v1 i hi).dot w2 (v1 k hk) (h.v.2.2 i hi) (h.v.2.2 k hk)).trans (h.e i k hi hk);refine this.mono ?_;have g:=A1c (F:=1) (zY) M0 M1 hu hu2;rw[ec];grind
section
variable{R n:Nat}{F:Rat}{D:Nat->Nat->Rat}(hF:1<=F)(hF2:F<=12)(r6:R<=6)(low:Int)
include hF hF2 r6
theorem PI.O3{p:Nat}:∀(d q:Nat) {m:Nat} {s:List Int × List Int × Bool},PI R n F D m s->q+d=n->p<q->m+d<=1000->PI R n F D (m+d) (O3 Wz R n low p d q s)
 | 0,_,_,_,h,_,_,_=>h
 | d+1,q,m,s,h,hq,hp,hm=>by have:=PI.O3 (p:=p) d (q+1) (h.Db hF hF2 (by omega) r6 low hp (by omega)) (by omega) (by omega) (by omega);rw[show m+(d+1)=m+1+d by omega];exact this
def Ac0(n:Nat):Nat->Nat->Nat
 | 0,_=>0
 | d+1,p=>(n-(p+1))+Ac0 n d (p+1)
theorem PI.L6:∀(d p:Nat) {m:Nat} {s:List Int × List Int × Bool},PI R n F D m s->p+d=n->m+Ac0 n d p<=1000->PI R n F D (m+Ac0 n d p) (L6 Wz R n low d p s)
 | 0,_,_,_,h,_,_=>h
 | d+1,p,m,s,h,hp,hm=>by have e:Ac0 n (d+1) p=(n-(p+1))+Ac0 n d (p+1):=rfl;rw[e] at hm ⊢;have:=PI.O3 hF hF2 r6 low (p:=p) (n-(p+1)) (p+1) h (by omega) (by omega) (by omega);have:=PI.L6 d (p+1) this (by omega) (by omega);rw[show m+(n-(p+1)+Ac0 n d (p+1))=m+(n-(p+1))+Ac0 n d (p+1) by omega];exact this
end
theorem A8x:∀n:Fin 7,Ac0 n.val n.val 0<=15:=by decide
theorem PI.rounds{R n:Nat}{F:Rat}{D:Nat->Nat->Rat}(hF:1<=F)(hF2:F<=12)(r6:R<=6)(n6:n<=6)(low:Int):∀(k m:Nat) {w v:List Int},PI R n F D m (w,v,true)->m+15*k<=1000 ->
 ∃m',m'<=m+15*k/\PI R n F D m' ((Ec R n low k w v).1,(Ec R n low k w v).2.1,true)
 | 0,m,w,v,h,_=>⟨m,by omega,h⟩
 | k+1,m,w,v,h,hm=>by
   have c:=A8x ⟨n,by omega⟩;have c:Ac0 n n 0<=15:=c;have g:PI R n F D (m+Ac0 n n 0) (Jb R n low w v):=PI.L6 hF hF2 r6 low n 0 h (by omega) (by omega);have g':PI R n F D (m+Ac0 n n 0) ((Jb R n low w v).1,(Jb R n low w v).2.1,true):=⟨g.w,g.v,g.d,g.e⟩
   unfold Ec;split
   ·exact⟨_,by omega,g'⟩
   ·obtain⟨m',h1,h2⟩:=PI.rounds hF hF2 r6 n6 low k (m+Ac0 n n 0) g' (by omega);exact⟨m',by omega,h2⟩
theorem Am0:((0:Nat):Rat)=0:=by decide +kernel
def dlt(i k:Nat):Rat:=if i=k then 1 else 0
theorem Aoe{n i k:Nat}(hi:i<n)(hk:k<n):C1 (n:Int) (Iz n) (i:Int) (k:Int)=if i=k then 4607182418800017408 else 0:=by
 have:C1 (n:Int) (Iz n) (i:Int) (k:Int)=Pc (i:Int) (k:Int):=Ju hi hk;rw[this];unfold Pc;by_cases h:i=k
 ·subst h; rw[Bfc rfl,Bfc rfl]
 ·rw[Bfb h,Bfb (by omega)]
theorem Adq{n i k:Nat}(hi:i<n)(hk:k<n):Bw n (Iz n) i k=dlt i k:=by
 unfold Bw dlt;rw[Aoe hi hk];by_cases h:i=k
 ·rw[Bfc h,Bfc h]; exact Ac5
 ·rw[Bfb h,Bfb h]; decide +kernel
theorem A8p{n i k:Nat}(hi:i<n)(hk:k<n):Bd 5 (C1 (n:Int) (Iz n) (i:Int) (k:Int)).toNat:=by
 rw[Aoe hi hk];by_cases h:i=k
 ·rw[Bfc h]; exact Tq.mono (by decide)
 ·rw[Bfb h]; exact Bd.zero false 5
theorem Apy{n k:Nat}(hk:k<n)(f:Nat->Rat):(sm n fun j=>f j*dlt k j)=f k:=by
 rw[Aed hk (fun j _ hj=>by show f j*dlt k j=0;unfold dlt; rw[Bfb (fun e=>hj e.symm)]; grind)]
 unfold dlt; rw[Bfc rfl]; grind
theorem A8o{n i:Nat}(hi:i<n):Ln n (Bw n (Iz n) i) 1:=by
 refine⟨by decide,?_⟩;have e:sq n (Bw n (Iz n) i)=sm n fun j=>dlt i j*dlt i j:=Ce n fun j hj=>by rw[Adq hi hj]
 rw[e,Apy hi];unfold dlt; rw[Bfc rfl]; grind
theorem A5j{n:Nat}:SvS n n 1 (Iz n):=⟨I3 fun _ _=>Atw _ _,fun _ _ hi hj=>A8p hi hj,fun _ hi=>A8o hi⟩
theorem PI.start{R n:Nat}{F:Rat}{w:List Int}(hw:SvS R n F w):PI R n F (fun i k=>Bw n w i k) 0 (w,Iz n,true):=by
 have e1:F*(1+60*uR*((0:Nat):Rat))=F:=by rw[Am0]; grind
 have e2:(1:Rat)*(1+60*uR*((0:Nat):Rat))=1:=by rw[Am0]; grind
 refine⟨by rw[e1]; exact hw,by rw[e2]; exact A5j,fun i k hi hk=>?_,fun i k hi hk=>?_⟩
 ·have e:(sm n fun j=>Bw n w i j*Bw n (Iz n) k j)=Bw n w i k:=by rw[<- Apy hk (Bw n w i)];exact Ce n fun j hj=>by rw[Adq hk hj]
  show Nr (sm n fun j=>Bw n w i j*Bw n (Iz n) k j) _ _;rw[e,Am0];unfold Nr; grind
 ·have e:(sm n fun j=>Bw n (Iz n) i j*Bw n (Iz n) k j)=if i=k then 1 else 0:=by
   have:(sm n fun j=>Bw n (Iz n) i j*Bw n (Iz n) k j)=sm n fun j=>dlt i j*dlt k j:=Ce n fun j hj=>by rw[Adq hi hj,Adq hk hj]
   rw[this,Apy hk];rfl
  show Nr (sm n fun j=>Bw n (Iz n) i j*Bw n (Iz n) k j) _ _;rw[e,Am0];unfold Nr; grind
def vH(n:Nat)(v:Nat->Rat)(t:Rat)(a:Nat->Rat)(i:Nat):Rat:=a i-t*(sm n fun j=>v j*a j)*v i
structure Ben(n:Nat)(x v:Nat->Rat)(t b s:Rat):Prop where
 tt:av (t*(t*sq n v-2))<=220*uR
 tb:Ab t (21 / 10)
 vv:sq n v<=201 / 100
 mir:Ln n (fun i=>vH n v t x i-if i=0 then b else 0) (205*uR*s+Fu)
theorem Af7{c t q T A z t' u e:Rat}(hc:0<=c)(hc2:c<=20)(hT:av T<=A)(hu:0<u)(hu2:u<=1 / 1000000)(he:0<e)
 (h1:Nr t T (3*c*u*A+2*c*e)) (h2:Nr q z (u*av z+e)) (h3:Nr t' (t+q) (u*(A+(3*c*u*A+2*c*e)+(av z+(u*av z+e))))) :
 Nr t' (T+z) (3*(c+1)*u*(A+av z)+2*(c+1)*e)/\av (T+z)<=A+av z:=by
 have hA:0<=A:=zZ (Px T) hT;have hz:=Px z;have a0:=zd (zc hu) hA;have b0:=zd (zc hu) hz
 have c1:3*c*u<=1:=by have:=ze hc2 (zc hu);grind
 have k1:=ze c1 a0;have k2:=ze (show u<=1 by grind) b0
 have c3:(2*c+1)*u<=1:=by have:=ze hc2 (zc hu);grind
 have k3:=ze c3 (zc he);have k4:=zd hc b0;have:=A81 T z;refine⟨?_,by grind⟩;unfold Nr at *
 grind
def vx(j:Nat)(v:Nat->Rat)(i:Nat):Rat:=if i<j then 0 else v (i-j)
theorem Ame(j:Nat)(f:Nat->Rat):∀n,sm (j+n) f=sm j f+sm n fun m=>f (j+m)
 | 0=>by show sm j f=sm j f+0;grind
 | n+1=>by
   show sm (j+n) f+f (j+n)=sm j f+(sm n (fun m=>f (j+m))+f (j+n))
   rw[Ame j f n]; grind
structure Mi(r:Nat)(v:Nat->Rat)(t:Rat):Prop where
 tt:av (t*(t*sq r v-2))<=220*uR
 tb:Ab t (21 / 10)
 vv:sq r v<=201 / 100
section
variable{r:Nat}{v a:Nat->Rat}{t s:Rat}
end
def cl(c:Nat)(l:List Int)(b i:Nat):Rat:=vR (C1 (c:Int) l (i:Int) (b:Int)).toNat
section
variable{r c j k b K:Nat}{l:List Int}{s:Rat}
end
def dl(a m:Nat):Rat:=if a=m then 1 else 0
section
variable{r c j k b K:Nat}{q v:List Int}{t:Int}{s:Rat}
end
structure Beo(r c n:Nat)(l R Q:List Int):Prop where
 q1:∀m,m<r->Ln r (cl r Q m) (1+1000*uR*(n:Rat))
 q2:∀a m,a<r->m<r->av ((sm r fun i=>cl r Q a i*cl r Q m i)-dl a m)<=1000*uR*(n:Rat)
 f1:∀b s,b<c->tw (-900)<=s->Ln r (cl c l b) s->Ln r (cl c R b) ((1+1000*uR*(n:Rat))*s)
 f2:∀b s,b<c->tw (-900)<=s->Ln r (cl c l b) s->Ln r (fun i=>cl c l b i-sm r fun m=>cl r Q m i*cl c R b m) (1400*uR*(n:Rat)*s)
section
variable{r c n:Nat}{l l1 R Q Q':List Int}{w:Nat->Rat}{t:Rat}
end
theorem Adc(f:Nat->Nat->Rat)(r:Nat):∀c,(sm c fun b=>sm r fun i=>f b i)=sm r fun i=>sm c fun b=>f b i
 | 0=>by
   show(0:Rat)=sm r fun _=>0
   rw[K4]
 | c+1=>by
   show(sm c fun b=>sm r fun i=>f b i)+(sm r fun i=>f c i)=sm r fun i=>(sm c fun b=>f b i)+f c i
   rw[Adc f r c,<- Lm]
def Fn(r c:Nat)(M:Nat->Nat->Rat)(S:Rat):Prop:=0<=S/\(sm c fun b=>sq r (M b))<=S*S
section
variable{r c:Nat}{M N:Nat->Nat->Rat}{S T t:Rat}{x y:Nat->Rat}
theorem Fn.of{s:Nat->Rat}(h:∀b,b<c->Ln r (M b) (s b))(hS:0<=S)(k:(sm c fun b=>s b*s b)<=S*S):Fn r c M S :=⟨hS,zZ (Ue c fun b hb=>(h b hb).2) k⟩
theorem Fn.same{x:Rat}(h:∀b,b<c->Ln r (M b) x)(hx:0<=x)(c9:c<=9):Fn r c M (3*x):=by refine Fn.of (s:=fun _=>x) h (by grind) ?_;rw[Y4];have h2:(c:Rat)<=9:=Dr c9;have:=ze h2 (Cd x);grind
theorem Fn.row(h:Fn r c M S){i:Nat}(hi:i<r):Ln c (fun b=>M b i) S :=⟨h.1,zZ (Ue c fun b _=>Y3 (f:=fun i=>M b i*M b i) hi fun _ _=>Cd _) h.2⟩
theorem Fn.Ayi(h:Fn r c M S):Fn c r (fun i b=>M b i) S:=by refine⟨h.1,?_⟩;have:=h.2;unfold sq at this ⊢;rw[Adc (fun b i=>M b i*M b i)] at this;exact this
theorem Fn.mul(h:Fn r c M S)(hx:Ln c x t):Ln r (fun i=>sm c fun b=>M b i*x b) (S*t):=by
 refine⟨zd h.1 hx.1,?_⟩
 have h1:sq r (fun i=>sm c fun b=>M b i*x b)<=sm r fun i=>sq c x*sq c (fun b=>M b i):=Ue r fun i _=>by have:=cs (fun b=>M b i) x c;grind
 rw[Nh] at h1;have h2:=h.Ayi.2;have h3:=Fq h2 hx.2 (Cd S) (Ab8 c x);grind
theorem Fn.Abh{B:Rat}(hB:0<=B)(h:∀b i,b<c->i<r->Ab (M b i) B)(c6:c<=6)(r6:r<=6):Fn r c M (6*B):=by
 refine⟨by grind,?_⟩
 have sqa:∀{y:Rat},Ab y B->y*y<=B*B:=fun {y} hy=>by
  unfold Ab at hy;rcases(xB:(0:Rat)<=y\/y<=0) with g | g
  ·exact O0 g hy.2
  ·have:=O0 (x:=-y) (y:=B) (by grind) (by grind);grind
 have h1:(sm c fun b=>sq r (M b))<=sm c fun _=>sm r fun _=>B*B:=Ue c fun b hb=>Ue r fun i hi=>sqa (h b i hb hi)
 rw[Y4,Y4] at h1;have h2:(c:Rat)<=6:=Dr c6;have h3:(r:Rat)<=6:=Dr r6;have h4:=Fq h2 h3 (by decide) (Pn r);have:=ze h4 (Cd B);grind
end
theorem Avi{q:Rat}(hq:0<q):∃s:Rat,0<s/\q<=s*s/\s*s<=103 / 100*q:=by
 have hd:(0:Rat)<(q.den:Rat):=by have:=q.den_pos;exact Rat.natCast_pos.2 this
 have hn:0<q.num:=by
  have h1:=Rat.num_nonneg.2 (zc hq)
  have h2:q.num≠0:=fun e=>by have:=Rat.num_eq_zero.1 e;rw[this] at hq;exact absurd hq (by decide)
  omega
 obtain⟨N,hN⟩:∃N:Nat,q.num=(N:Int):=⟨q.num.toNat,by omega⟩
 have e1:q*(q.den:Rat)=(N:Rat):=by have h:q=mkRat q.num q.den:=(Rat.mkRat_self q).symm;rw[Rat.mkRat_eq_div,hN] at h;have h2:q*(q.den:Rat)=((N:Int):Rat) / (q.den:Rat)*(q.den:Rat):=congrArg (·*(q.den:Rat)) h;rw[h2,Af9 (by grind)];exact Rat.intCast_natCast N
 have hN1:1<=N:=by omega
 have hD1:1<=q.den:=q.den_pos;generalize q.den=D at *
 have hs:=Pa (N*D*10000)
 have h100:100<=N5 (N*D*10000):=Akr (by have:=Bfl hN1 hD1;omega)
 have e2:q*((100*(D:Rat))*(100*(D:Rat)))=((N*D*10000:Nat):Rat):=by rw[zT,zT];have:((10000:Nat):Rat)=10000:=rfl;rw[this];grind
 generalize N*D*10000=n at *
 generalize N5 n=r at *
 have a1:=Dr (Nat.le_of_lt hs.2);have a2:=Dr hs.1;have a3:=Dr h100;rw[zT,yK] at a1;rw[zT] at a2;have o1:((1:Nat):Rat)=1:=rfl;have o2:((100:Nat):Rat)=100:=rfl;rw[o1] at a1;rw[o2] at a3;have hp:0<100*(D:Rat):=by grind
 generalize 100*(D:Rat)=p at *
 generalize (r:Rat)=ρ at *
 generalize (n:Rat)=ν at *
 have pp:0<p*p:=yD hp hp;have hs':(ρ+1) / p*p=ρ+1:=by grind
 generalize (ρ+1) / p=s at *
 have hs0:0<s:=by
  rcases(xB:s<=0\/0<=s) with h | h
  ·have:=zd (show 0<=-s by grind) (zc hp);grind
  ·have:s≠0:=fun e=>by rw[e] at hs'; grind
   grind
 have e3:s*s*(p*p)=(ρ+1)*(ρ+1):=by
  have:s*s*(p*p)=(s*p)*(s*p):=by grind
  rw[this,hs']
 refine⟨s,hs0,?_,?_⟩
 ·refine xk ?_ pp;rw[e2,e3]; exact a1
 ·refine xk ?_ pp;rw[show 103 / 100*q*(p*p)=103 / 100*(q*(p*p)) by grind,e2,e3];have b1:=ze a3 (show 0<=ρ by grind);grind
theorem V8(c:Rat)(f:Nat->Rat)(n:Nat):sm n (fun i=>f i*c)=sm n f*c:=by
 have:=Nh c f n;have e:sm n (fun i=>f i*c)=sm n fun i=>c*f i:=Ce n fun i _=>by grind
 rw[e,this]; grind
theorem Asx(n m:Nat)(a b:Nat->Rat):sm n a*sm m b=sm n fun k=>sm m fun l=>a k*b l:=by rw[<- V8];exact Ce n fun k _=>by rw[<- Nh]
theorem Qz(f:Nat->Nat->Rat)(n:Nat):(sm n fun i=>sm n fun j=>f i j)=sm n fun j=>sm n fun i=>f i j:=Adc f n n
theorem Awv(n:Nat)(v:Nat->Nat->Rat) :
 (sm n fun i=>sm n fun j=>(sm n fun k=>v k i*v k j)*(sm n fun k=>v k i*v k j))=sm n fun k=>sm n fun l=>(sm n fun i=>v k i*v l i)*(sm n fun i=>v k i*v l i):=by
 have e1:(sm n fun i=>sm n fun j=>(sm n fun k=>v k i*v k j)*(sm n fun k=>v k i*v k j))=sm n fun i=>sm n fun j=>sm n fun k=>sm n fun l=>(v k i*v k j)*(v l i*v l j) :=Ce n fun i _=>Ce n fun j _=>Asx n n _ _
 have e2:(sm n fun k=>sm n fun l=>(sm n fun i=>v k i*v l i)*(sm n fun i=>v k i*v l i))=sm n fun k=>sm n fun l=>sm n fun i=>sm n fun j=>(v k i*v l i)*(v k j*v l j) :=Ce n fun k _=>Ce n fun l _=>Asx n n _ _
 rw[e1,e2]
 have s1:(sm n fun i=>sm n fun j=>sm n fun k=>sm n fun l=>(v k i*v k j)*(v l i*v l j))=sm n fun i=>sm n fun k=>sm n fun j=>sm n fun l=>(v k i*v k j)*(v l i*v l j) :=Ce n fun i _=>Qz _ n
 have s2:(sm n fun i=>sm n fun k=>sm n fun j=>sm n fun l=>(v k i*v k j)*(v l i*v l j))=sm n fun k=>sm n fun i=>sm n fun j=>sm n fun l=>(v k i*v k j)*(v l i*v l j):=Qz _ n
 have s3:(sm n fun k=>sm n fun i=>sm n fun j=>sm n fun l=>(v k i*v k j)*(v l i*v l j))=sm n fun k=>sm n fun i=>sm n fun l=>sm n fun j=>(v k i*v k j)*(v l i*v l j) :=Ce n fun k _=>Ce n fun i _=>Qz _ n
 have s4:(sm n fun k=>sm n fun i=>sm n fun l=>sm n fun j=>(v k i*v k j)*(v l i*v l j))=sm n fun k=>sm n fun l=>sm n fun i=>sm n fun j=>(v k i*v k j)*(v l i*v l j) :=Ce n fun k _=>Qz _ n
 rw[s1,s2,s3,s4];exact Ce n fun k _=>Ce n fun l _=>Ce n fun i _=>Ce n fun j _=>by grind
theorem Aji(n:Nat)(v:Nat->Nat->Rat) :
 (sm n fun i=>sm n fun j=>((sm n fun k=>v k i*v k j)-if i=j then 1 else 0)*((sm n fun k=>v k i*v k j)-if i=j then 1 else 0)) =
 sm n fun k=>sm n fun l=>((sm n fun i=>v k i*v l i)-if k=l then 1 else 0)*((sm n fun i=>v k i*v l i)-if k=l then 1 else 0):=by
 have ex:∀g:Nat->Nat->Rat,(sm n fun i=>sm n fun j=>(g i j-if i=j then 1 else 0)*(g i j-if i=j then 1 else 0))=(sm n fun i=>sm n fun j=>g i j*g i j)+(-2*(sm n fun i=>g i i)+sm n fun _=>1):=fun g=>by
  rw[<- Nh,<- Lm,<- Lm];refine Ce n fun i hi=>?_
  have:(sm n fun j=>(g i j-if i=j then 1 else 0)*(g i j-if i=j then 1 else 0))=sm n fun j=>g i j*g i j+(if i=j then -2*g i i+1 else 0):=Ce n fun j _=>by
   by_cases h:i=j
   ·subst h; rw[Bfc rfl,Bfc rfl]; grind
   ·rw[Bfb h,Bfb h]; grind
  rw[this,Lm];congr 1;rw[Aed hi (fun j _ hj=>Bfb (fun e=>hj e.symm)),Bfc rfl]
 rw[ex,ex,Awv];congr 2;congr 1;rw[Qz (fun i k=>v k i*v k i) n]
theorem Bbp{n:Nat}{f:Nat->Rat}(h:∀i,i<n->0<=f i){j:Nat}(hj:j<n):f j<=sm n f:=by
 have e:(sm n fun i=>if i=j then f i else 0)=f j:=by rw[Aed hj (fun i _ hi=>Bfb hi),Bfc rfl]
 rw[<- e];refine Ue n fun i hi=>?_
 by_cases k:i=j
 ·rw[Bfc k]; exact zY
 ·rw[Bfb k]; exact h i hi
theorem Apz(c:Rat):∀n:Nat,sm n (fun _=>c)=(n:Rat)*c
 | 0=>by rw[Am0]; show(0:Rat)=_; grind
 | n+1=>by have e:((n+1:Nat):Rat)=(n:Rat)+1:=yK n 1;show sm n (fun _=>c)+c=_;rw[Apz c n,e]; grind
theorem As3{b:Nat}(hb:b<2^64)(h4:Ag b≠4):(Cq b 0).1=b:=by
 by_cases k:Ag b=3\/Ag b=0
 ·unfold Cq; rw[Bfb h4,Bfc k]
 ·rw[Ms h4 k,Int.add_zero,Afv hb h4]
theorem Aa2{b:Nat}{n:Int}(h:b<2^64):(Cq b n).1<2^64:=by
 unfold Cq;split
 ·decide
 ·split
  ·exact h
  ·exact U2 _ _ _
theorem Aeg{x:List Int}{k:Int}{j:Nat}(h:j<x.length):(A4 x k).getD j 0=A7 (x.getD j 0) k:=by unfold A4;rw[Bez,Bf6,Bez,Be6 h];rfl
theorem Aht(k:Int):∀(l:List Int) (s:Int),(∀x∈l,x.toNat<2^64/\Dl x=true)->Bl 1 (A4 l k)->Jz k s l=Jz 0 s (A4 l k)
 | [],_,_,_=>rfl
 | x::l,s,h,hb=>by
   have e:A7 (A7 x k) 0=A7 x k:=by
    have b:=hb (A7 x k) (zw.2 ⟨x,Bf4,rfl⟩);have lt:(A7 x k).toNat<2^64:=by rw[Eh]; exact Aa2 (h x Bf4).1
    show((Cq (A7 x k).toNat 0).1:Int)=A7 x k;rw[As3 lt b.2.1];exact xL (Int.natCast_nonneg _)
   show Jz k (De s (Bz (A7 x k) (A7 x k))) l=Jz 0 (De s (Bz (A7 (A7 x k) 0) (A7 (A7 x k) 0))) (A4 l k);rw[e];exact Aht k l _ (fun z hz=>h z (Bfu _ hz)) fun z hz=>hb z (Bfu _ hz)
theorem Bcg{y:List Int}(hb:Bl 1 y)(h:∀x∈y,x.toNat<2^64){j:Nat}(hj:j<y.length):zR 0 (y.getD j 0)=rv y j:=by
 have m:y.getD j 0∈y:=by rw[Bez,Be6 hj]; exact yz hj
 unfold zR rv;rw[As3 (h _ m) (hb _ m).2.1]
theorem Av2{y:List Int}(hb:Bl 1 y)(h:∀x∈y,x.toNat<2^64)(hl:y.length<=7)(h1:∃z∈y,pw 0<=z.toNat%2^63) :
 Nr (vR (Dt (Jz 0 0 y)).toNat*vR (Dt (Jz 0 0 y)).toNat) (sq y.length (rv y)) (31*uR*sq y.length (rv y))/\0<=vR (Dt (Jz 0 0 y)).toNat/\1<=sq y.length (rv y)/\Bd 3 (Dt (Jz 0 0 y)).toNat:=by
 have hm1:1<=sq y.length (rv y):=by
  obtain⟨z,hz,g⟩:=h1;obtain⟨j,hj,rfl⟩:=wC.1 hz;have e:rv y j=vR (y[j]).toNat:=by unfold rv; rw[Bez,Be6 hj]; rfl
  have h1:=X5 g;rw[<- e] at h1;have h2:=Y3 (f:=fun i=>rv y i*rv y i) hj fun i _=>Cd _
  have h3:=O0 (x:=1) (y:=av (rv y j)) (by decide) h1;rw[Agk] at h3;unfold sq;grind
 obtain⟨t,te,t1,_⟩:=Ad9 0 y 0 (zA _);have te:Jz 0 0 y=t:=te;have z0:vR 0=0:=Ac4 false;have hlen:(y.length:Rat)<=7:=Dr hl;have se:=Asw (k:=0) (yU 0) y 0 1 0 0 hb (Bd.zero false 2).bm (by decide) (by omega) (zY) (zY) (by grind) (by rw[z0]; unfold Nr; grind);have se:Nr (vR (Jz 0 0 y).toNat) _ _:=se;have bm:=Apv (k:=0) (yU 0) y 0 1 hb (Bd.zero false 2).bm (by decide) (by omega);have bm:Bm (1+y.length) 2 (Jz 0 0 y).toNat:=bm;rw[te,Ber] at bm se
 have eT:(0:Rat)+sm y.length (fun j=>zR 0 (y.getD j 0)*zR 0 (y.getD j 0))=sq y.length (rv y):=by rw[Rat.zero_add];exact Ce _ fun j hj=>by rw[Bcg hb h hj]
 rw[eT] at se;have bt:Bd (3+3) t:=(bm.bd (j:=3) (by omega)).mono (by decide);have br:Bd 3 (Hc t).1:=Bd.root (by decide) bt (Jd t1);have hr:=Aea bt.1 bt.2.1 (.inl (Jd t1)) br.1;have er:(Dt (Jz 0 0 y)).toNat=(Hc t).1:=by rw[te,Uy,Ber]
 rw[er];refine⟨?_,hr.2.1,hm1,br⟩;have hr1:=hr.1;generalize vR (Hc t).1*vR (Hc t).1=r2 at *
 generalize vR t=S at *
 generalize sq y.length (rv y)=Q at *
 have u0:=Gj;have u1:=Sk;have e1:Fu<=uR / 1000000:=Xr;have ln:=Pn y.length
 have c1:3*(0+(y.length:Rat))*uR*Q<=21*(uR*Q):=by have:=ze hlen (zd (zc u0) (show 0<=Q by grind)); grind
 have c2:2*(0+(y.length:Rat))*Fu<=14*Fu:=by have:=ze hlen (zc J2); grind
 have uQ:uR<=uR*Q:=by have:=zl hm1 (zc u0); grind
 have se:Nr S Q (211 / 10*(uR*Q)):=se.mono (by grind);have uQ2:uR*(uR*Q)<=1 / 1000000*(uR*Q):=ze u1 (by grind);have uS:uR*S<=uR*(Q+211 / 10*(uR*Q)):=zl se.1 (zc u0);unfold Nr at *
 grind
theorem Aq5{x:List Int}{i:Nat}(hi:i<x.length):x.getD i 0∈x:=by rw[Bez,Be6 hi]; exact yz hi
theorem A0a{k:Nat}{x:List Int}(hx:Bl k x)(hk:k<=900)(h:∀z∈x,z.toNat<2^64)(hl:x.length<=7) :
 0<=vR (Bk x).toNat/\Bd (k+5) (Bk x).toNat/\Ln x.length (rv x) (vR (Bk x).toNat*(1+20*uR)+8*Fu)/\∀s,Ln x.length (rv x) s->vR (Bk x).toNat<=s*(1+20*uR)+8*Fu:=by
 have hf:=hx.Pu;have u0:=Gj;have u1:=Sk;have e0:=J2;have e1:Fu<=uR / 1000000:=Xr;by_cases h0:∃z∈x,Bb z≠0
 ·obtain⟨b3,b4,ba,hb⟩:=Wy hf;obtain⟨w,hw,w0,we⟩:=Adw hf h0;have yb:=Y5 hf;have y1:=Ahw hf h0;have yl:(A4 x (-Bs (Bi x))).length=x.length:=by unfold A4; rw[Bfv]
  have y64:∀z∈A4 x (-Bs (Bi x)),z.toNat<2^64:=fun z hz=>by obtain⟨v,hv,rfl⟩:=zw.1 hz;rw[Eh]; exact Aa2 (h v hv)
  obtain⟨c1,c2,c3,c4⟩:=Av2 yb y64 (by rw[yl]; exact hl) y1;have wk:=Acn (Nx hf w hw);have ee:Bs (Bi x)=Pp w.toNat:=by unfold Bs; rw[we,Adr w.toNat]; rfl
  have nz:¬(Bi x=0\/Dl (Bi x)=false):=fun g=>by
   rcases g with g | g
   ·have:E9 w.toNat=0:=by rw[<- we,g]; rfl
    exact w0 (abs_zero this)
   ·unfold Dl at g; rw[Qs] at g; simp[b3,b4] at g
  have en:Bk x=A7 (Dt (Jz 0 0 (A4 x (-Bs (Bi x))))) (Bs (Bi x)):=by unfold Bk;rw[Bfb nz,Aht _ x 0 (fun z hz=>⟨h z hz,Nx hf z hz⟩) yb]
  have wm:Ap w.toNat≠0:=fun e=>w0 ((Du wk.1 wk.2).1 e)
  have lg:=(hx w hw).log wm;obtain⟨x1,_⟩:=Z9 wk.1 wk.2 w0;have Ku:Bs (Bi x)<=(k:Int):=by rw[ee,x1]; omega
  have nb:Bd (k+5) (Bk x).toNat:=by rw[en,Eh]; exact Bd.scale (by omega) c4 (by omega)
  have nb':=nb;have sc:=We (n:=Bs (Bi x)) c4.1 c4.2.1 (by rw[<- Eh,<- en]; exact nb.1);rw[<- Eh,<- en] at sc
  have n0:0<=vR (Bk x).toNat:=by
   have np:Np (Bk x).toNat:=by
    obtain⟨t,te,t1,_⟩:=Ad9 0 (A4 x (-Bs (Bi x))) 0 (zA _);have te:Jz 0 0 (A4 x (-Bs (Bi x)))=t:=te
    have:Np t:=⟨t1,by have bm:=Apv (k:=0) (yU 0) _ 0 1 yb (Bd.zero false 2).bm (by decide) (by rw[yl]; omega);have bm:Bm _ 2 (Jz 0 0 (A4 x (-Bs (Bi x)))).toNat:=bm;rw[te,Ber] at bm; exact bm.2.1⟩
    rw[en,Eh,te,Uy,Ber];exact Ael (Adb this)
   exact Asg (Jd np.1)
  have ye:∀i,i<x.length->Nr (rv (A4 x (-Bs (Bi x))) i) (rv x i*tw (-Bs (Bi x))) Fu:=fun i hi=>by have m:=hx _ (Aq5 hi);have mb:=yb _ (Aq5 (x:=A4 x (-Bs (Bi x))) (i:=i) (by rw[yl]; exact hi));rw[Aeg hi,Eh] at mb;rw[Ay7 hi];exact We m.1 m.2.1 mb.1
  have tt:tw (Bs (Bi x))*tw (-Bs (Bi x))=1:=by rw[<- G3,Int.add_right_neg]; exact Yw
  have t0:=Gy (Bs (Bi x));have s0:=Gy (-Bs (Bi x));rw[yl] at c1 c3;clear en nb c4;generalize vR (Dt (Jz 0 0 (A4 x (-Bs (Bi x))))).toNat=r at *
  generalize rv (A4 x (-Bs (Bi x)))=y at *
  generalize tw (Bs (Bi x))=T at *
  generalize tw (-Bs (Bi x))=I at *
  generalize vR (Bk x).toNat=N at *
  have er:Ln x.length (fun i=>rv x i*I-y i) (3*Fu):=Ln.Abh (zc e0) (fun i hi=>by have:=ye i hi; unfold Nr at this; unfold Ab; grind) (by omega)
  have er2:Ln x.length (fun i=>y i-rv x i*I) (3*Fu):=er.neg.congr fun i _=>by grind
  generalize hQ:sq x.length y=Q at *
  have uQ:uR<=uR*Q:=by have:=zl c3 (zc u0); grind
  have rr:999 / 1000<=r*r:=by unfold Nr at c1; have:=ze u1 (show 0<=Q by grind); grind
  have r1:9 / 10<=r:=Rb c2 (by grind)
  have ly:Ln x.length y (r*(1+17*uR)):=by refine⟨zd c2 (by grind),?_⟩;rw[hQ];have k1:=c1.2;have k2:0<=uR*(r*r):=zd (zc u0) (Cd r);have k3:uR*(31*uR*Q)<=1 / 1000000*(31*uR*Q):=ze u1 (by grind);have k4:0<=uR*(uR*(r*r)):=zd (zc u0) k2;have k5:=zl k1 (zc u0);grind
  have ur:uR*(9 / 10)<=uR*r:=zl r1 (zc u0);refine⟨n0,nb',?_,fun s hs=>?_⟩
  ·have l1:Ln x.length (fun i=>rv x i*I) (r*(1+18*uR)):=((ly.add er).congr fun i _=>by grind).mono (by grind);have l2:=l1.scale (c:=T) (B:=T) (by unfold Ab; grind)
   have l3:Ln x.length (rv x) (T*(r*(1+18*uR))):=l2.congr fun i _=>by
    have:T*(rv x i*I)=T*I*rv x i:=by grind
    rw[this,tt]; grind
   refine l3.mono ?_;have k1:=sc.2;have k2:=ze k1 (show 0<=1+18*uR by grind);have k3:=zl u1 (zc e0);have k4:=zd (zc u0) n0;grind
  ·have hs0:=hs.1;have l1:Ln x.length (fun i=>rv x i*I) (I*s):=(hs.scale (c:=I) (B:=I) (by unfold Ab; grind)).congr fun i _=>by grind
   have l2:Ln x.length y (I*s+3*Fu):=(l1.add er2).congr fun i _=>by grind
   have q1:=l2.2;rw[hQ] at q1;have z0:0<=I*s:=zd (zc s0) hs0;have g1:(1:Rat)<=I*s+3*Fu:=Rb (by grind) (by grind);have g2:9 / 10<=I*s:=by grind
   have us:uR*(9 / 10)<=uR*(I*s):=zl g2 (zc u0);have g3:I*s+3*Fu<=I*s*(1+uR):=by grind
   have g0:0<=I*s*(1+uR):=zd z0 (by grind);have q2:Q<=I*s*(1+uR)*(I*s*(1+uR)):=zZ q1 (O0 (by grind) g3)
   have q3:r*r<=I*s*(1+18*uR)*(I*s*(1+18*uR)):=by
    have k1:=c1.1;have p0:=Cd (I*s);generalize I*s=p at *
    have k2:=ze q2 (show 0<=1+31*uR by grind);have k3:0<=uR*(p*p):=zd (zc u0) p0;have k4:uR*(uR*(p*p))<=1 / 1000000*(uR*(p*p)):=ze u1 k3;have k5:uR*(uR*(uR*(p*p)))<=1 / 1000000*(uR*(uR*(p*p))):=ze u1 (zd (zc u0) k3);have k6:0<=uR*(uR*(p*p)):=zd (zc u0) k3;grind
   have q4:r<=I*s*(1+18*uR):=Rb (zd z0 (by grind)) q3;have q5:=ze q4 (zc t0)
   have q6:I*s*(1+18*uR)*T=s*(1+18*uR):=by
    have:I*s*(1+18*uR)*T=T*I*(s*(1+18*uR)):=by grind
    rw[this,tt]; grind
   have k1:=sc.1;have k4:=zd (zc u0) hs0;grind
 ·
  have hz:∀z∈x,Ag z.toNat=0:=fun z hz=>by
   have:Bb z=0:=yZ fun g=>h0 ⟨z,hz,g⟩
   unfold Bb at this; omega
  have b0:Bi x=0:=by
   have eb:Bi x=(Nb x 0:Int):=rfl;rcases Adv x 0 with g | g | ⟨z,hz',_,g⟩
   ·obtain⟨_,b4,_,_⟩:=Wy hf;exfalso; apply b4; rw[eb,g]; decide
   ·rw[eb,g]; rfl
   ·rw[eb,g];have:=J5 (hz z hz');unfold E9; rw[this]; rfl
  have en:Bk x=0:=by unfold Bk; rw[Bfc (.inl b0),b0]
  have v0:vR 0=0:=Ac4 false;have r0:∀i,i<x.length->rv x i=0:=fun i hi=>Sj (hz _ (Aq5 hi))
  rw[en];show 0<=vR 0/\Bd (k+5) 0/\Ln x.length (rv x) (vR 0*(1+20*uR)+8*Fu)/\∀s,Ln x.length (rv x) s->vR 0<=s*(1+20*uR)+8*Fu;rw[v0];refine⟨zY,Bd.zero false _,?_,fun s hs=>?_⟩
  ·exact((Ln.zero x.length).congr fun i hi=>r0 i hi).mono (by grind)
  ·have:=zd hs.1 (show 0<=1+20*uR by grind);grind
theorem Ape:uR<=1112 / 10000000000000000000:=by decide +kernel
def Uj:Rat:=55000*uR
theorem Af1:0<Uj:=by have:=Gj; unfold Uj; grind
theorem Atx:Uj<=6116 / 1000000000000000:=by have:=Ape; unfold Uj; grind
theorem PI.A8e{R n:Nat}{F:Rat}{D:Nat->Nat->Rat}{m:Nat}{s:List Int × List Int × Bool}(_h:PI R n F D m s)(hm:m<=900):0<=(m:Rat)*(60*uR*1)/\(m:Rat)*(60*uR*1)<=54 / 55*Uj:=by have hu:=Gj;have M0:=Pn m;have M1:(m:Rat)<=900:=Dr (n:=900) hm;have:=ze M1 (show 0<=60*uR*1 by grind);refine⟨zd M0 (by grind),?_⟩;unfold Uj; grind
section
variable{R n:Nat}{F:Rat}{D:Nat->Nat->Rat}{m:Nat}{s:List Int × List Int × Bool}(h:PI R n F D m s)(hm:m<=900)(n6:n<=6)
include h hm n6
theorem PI.Bbr{p:Nat}(hp:p<n):Ln n (fun j=>(sm n fun k=>Bw n s.2.1 k j*Bw n s.2.1 k p)-if j=p then 1 else 0) (6*Uj):=by
 have e0:=Af1;obtain⟨k0,k1⟩:=h.A8e hm;generalize hK:(m:Rat)*(60*uR*1)=K at *
 have sw:=Aji n fun k i=>Bw n s.2.1 k i
 have b:(sm n fun k=>sm n fun l=>((sm n fun i=>Bw n s.2.1 k i*Bw n s.2.1 l i)-if k=l then 1 else 0)*((sm n fun i=>Bw n s.2.1 k i*Bw n s.2.1 l i)-if k=l then 1 else 0))<=sm n fun _=>sm n fun _=>K*K :=Ue n fun k hk=>Ue n fun l hl=>by have e:=h.e k l hk hl;rw[hK,Am8] at e;have:=Fq e e k0 (Px _);rw[Agk] at this;exact this
 have c:(sm n fun _=>sm n fun _=>K*K)=(n:Rat)*K*((n:Rat)*K):=by rw[Apz,Apz]; grind
 have n1:(n:Rat)<=6:=Dr (n:=6) n6;have n0:=Pn n
 have nk:(n:Rat)*K<=6*Uj:=by have:=Fq n1 k1 (by grind) k0; grind
 refine⟨by grind,?_⟩;have l2:=Bbp (f:=fun j=>sm n fun i=>((sm n fun k=>Bw n s.2.1 k i*Bw n s.2.1 k j)-if i=j then 1 else 0)*((sm n fun k=>Bw n s.2.1 k i*Bw n s.2.1 k j)-if i=j then 1 else 0)) (fun i _=>Aee n fun j _=>Cd _) hp;rw[Qz (fun j i=>((sm n fun k=>Bw n s.2.1 k i*Bw n s.2.1 k j)-if i=j then 1 else 0)*((sm n fun k=>Bw n s.2.1 k i*Bw n s.2.1 k j)-if i=j then 1 else 0)) n,sw] at l2;refine zZ l2 (zZ b ?_);rw[c];exact O0 (zd n0 k0) nk
theorem PI.one{p:Nat}(hp:p<n):Nr (sm n fun k=>Bw n s.2.1 k p*Bw n s.2.1 k p) 1 (6*Uj):=by
 have:=(h.Bbr hm n6 hp).at hp;rw[show(if p=p then (1:Rat) else 0)=1 from Bfc rfl] at this;unfold Nr Ab at *
 grind
theorem PI.A9k{p:Nat}(hp:p<n):Ln n (fun k=>Bw n s.2.1 k p) (101 / 100):=by have e:=h.one hm n6 hp;have:=Atx;refine⟨by grind,?_⟩;show(sm n fun k=>Bw n s.2.1 k p*Bw n s.2.1 k p)<=_;unfold Nr at e;grind
theorem PI.back(r6:R<=6)(hF:1<=F){M:Nat->Nat->Rat}(hd:∀i k,i<R->k<n->Nr (sm n fun j=>Bw n s.1 i j*Bw n s.2.1 k j) (M i k) (Uj*F)){p:Nat}(hp:p<n) :
 Ln R (fun i=>(sm n fun k=>M i k*Bw n s.2.1 k p)-Bw n s.1 i p) (25*Uj*F):=by
 have e0:=Af1;have e1:=Atx;have hu:=Gj;have g:=h.Bbr hm n6 hp;have v:=h.A9k hm n6 hp;have fe:0<=Uj*F:=zd (zc e0) (by grind)
 have wl:∀i,i<R->Ln n (Bw n s.1 i) (101 / 100*F):=fun i hi=>(h.w.2.2 i hi).mono (by
  obtain⟨k0,k1⟩:=h.A8e hm;have:F*(1+60*uR*(m:Rat))=F*(1+(m:Rat)*(60*uR*1)):=by grind
  rw[this];have:=zl (show 1+(m:Rat)*(60*uR*1)<=101 / 100 by grind) (show 0<=F by grind);grind)
 have W:Fn R n (fun j i=>Bw n s.1 i j) (3*(101 / 100*F)):=(Fn.same (r:=n) (c:=R) (M:=fun i j=>Bw n s.1 i j) wl (by grind) (by omega)).Ayi;have t1:=W.mul g
 have E:Fn R n (fun k i=>M i k-sm n fun j=>Bw n s.1 i j*Bw n s.2.1 k j) (6*(Uj*F)):=Fn.Abh fe (fun k i hk hi=>by have:=hd i k hi hk; unfold Nr at this; unfold Ab; grind) n6 r6
 have t2:=E.mul v;refine((t2.add t1).mono ?_).congr fun i hi=>?_
 ·grind
 ·show(sm n fun k=>M i k*Bw n s.2.1 k p)-Bw n s.1 i p=(sm n fun k=>(M i k-sm n fun j=>Bw n s.1 i j*Bw n s.2.1 k j)*Bw n s.2.1 k p)+sm n fun j=>Bw n s.1 i j*((sm n fun k=>Bw n s.2.1 k j*Bw n s.2.1 k p)-if j=p then 1 else 0)
  have a1:(sm n fun k=>(M i k-sm n fun j=>Bw n s.1 i j*Bw n s.2.1 k j)*Bw n s.2.1 k p)=(sm n fun k=>M i k*Bw n s.2.1 k p)+sm n fun k=>sm n fun j=>-(Bw n s.1 i j*Bw n s.2.1 k j*Bw n s.2.1 k p):=by
   rw[<- Lm];refine Ce n fun k _=>?_
   have:(sm n fun j=>-(Bw n s.1 i j*Bw n s.2.1 k j*Bw n s.2.1 k p))=-((sm n fun j=>Bw n s.1 i j*Bw n s.2.1 k j)*Bw n s.2.1 k p):=by
    rw[<- V8];have e:=Nh (-1) (fun j=>Bw n s.1 i j*Bw n s.2.1 k j*Bw n s.2.1 k p) n;have:(sm n fun j=>-(Bw n s.1 i j*Bw n s.2.1 k j*Bw n s.2.1 k p))=sm n fun j=>-1*(Bw n s.1 i j*Bw n s.2.1 k j*Bw n s.2.1 k p):=Ce n fun j _=>by grind
    rw[this,e]; grind
   rw[this]; grind
  have a2:(sm n fun j=>Bw n s.1 i j*((sm n fun k=>Bw n s.2.1 k j*Bw n s.2.1 k p)-if j=p then 1 else 0))=(sm n fun j=>sm n fun k=>Bw n s.1 i j*Bw n s.2.1 k j*Bw n s.2.1 k p)+-Bw n s.1 i p:=by
   have o:(sm n fun j=>if j=p then -Bw n s.1 i j else 0)=-Bw n s.1 i p:=by rw[Aed hp (fun j _ hj=>Bfb hj),Bfc rfl]
   rw[<- o,<- Lm];refine Ce n fun j _=>?_
   have:(sm n fun k=>Bw n s.1 i j*Bw n s.2.1 k j*Bw n s.2.1 k p)=Bw n s.1 i j*sm n fun k=>Bw n s.2.1 k j*Bw n s.2.1 k p:=by rw[<- Nh]; exact Ce n fun k _=>by grind
   rw[this];split<;>grind
  rw[a1,a2,Qz (fun j k=>Bw n s.1 i j*Bw n s.2.1 k j*Bw n s.2.1 k p) n]
  have a3:(sm n fun k=>sm n fun j=>-(Bw n s.1 i j*Bw n s.2.1 k j*Bw n s.2.1 k p))+(sm n fun k=>sm n fun j=>Bw n s.1 i j*Bw n s.2.1 k j*Bw n s.2.1 k p)=0:=by
   rw[<- Lm];rw[Ce n (g:=fun _=>0) fun k _=>?_]
   ·exact K4 n
   ·rw[<- Lm,Ce n (g:=fun _=>0) fun j _=>by grind];exact K4 n
  grind
end
structure Wh(x:Int)(v:Int):Prop where
 word:Af x=true
 k3:Ag x.toNat≠3
 k4:Ag x.toNat≠4
 val:∃g:Int,g<=0/\g<=Aw x.toNat/\Gc x.toNat g=v*((2^(-g).toNat:Nat):Int)
theorem A5n{v e w f:Int}(h:(v:Rat)*tw e=(w:Rat)*tw f):mD v=mD w/\eD v e=eD w f:=by
 have key:∀{v e w f:Int},e<=f->(v:Rat)*tw e=(w:Rat)*tw f->mD v=mD w/\eD v e=eD w f:=by
  intro v e w f hef h
  have e1:tw f=((2^(f-e).toNat:Nat):Rat)*tw e:=by rw[<- Ll,<- G3]; congr 1; omega
  have h2:((v:Rat)-(w:Rat)*((2^(f-e).toNat:Nat):Rat))*tw e=0:=by rw[e1] at h; grind
  have h3:(v:Rat)=(w:Rat)*((2^(f-e).toNat:Nat):Rat):=by
   rcases wD.1 h2 with k | k
   ·grind
   ·exact absurd k (A92 e)
  have h4:((v:Int):Rat)=((w*((2^(f-e).toNat:Nat):Int):Int):Rat):=by rw[xD]; exact h3
  have h5:v=w*((2^(f-e).toNat:Nat):Int):=Rat.intCast_inj.1 h4;refine⟨by rw[h5,A8g],?_⟩;have h6:=A8t w f (f-e).toNat;rw[<- h5,show f-((f-e).toNat:Int)=e by omega] at h6;exact h6
 rcases Int.le_total e f with k | k
 ·exact key k h
 ·obtain⟨h1,h2⟩:=key k h.symm;exact⟨h1.symm,h2.symm⟩
open Classical in
def dyP(x:Rat):Int × Int:=if h:∃p:Int × Int,x=(p.1:Rat)*tw p.2 then Classical.choose h else (0,0)
def mQ(x:Rat):Int:=mD (dyP x).1
def eQ(x:Rat):Int:=eD (dyP x).1 (dyP x).2
theorem Aid{x:Rat}{v e:Int}(h:x=(v:Rat)*tw e):mQ x=mD v/\eQ x=eD v e:=by
 have hx:∃p:Int × Int,x=(p.1:Rat)*tw p.2:=⟨(v,e),h⟩
 have e1:dyP x=Classical.choose hx:=by unfold dyP; rw[dif_pos hx]
 have h1:=Classical.choose_spec hx;rw[<- e1] at h1;exact A5n (h1.symm.trans h)
theorem A0o(v e:Int):((mD v:Int):Rat)*tw (eD v e)=(v:Rat)*tw e:=by
 by_cases h:v=0
 ·subst h;rw[Ns.2 rfl];have:((0:Int):Rat)=0:=rfl;rw[this]; grind
 ·have e1:=Zv v;have e2:eD v e=e+Um v.natAbs:=by unfold eD; rw[Bfb h]
  have e3:(v:Rat)=((mD v:Int):Rat)*((2^Um v.natAbs:Nat):Rat):=by have h2:((v:Int):Rat)=((mD v*((2^Um v.natAbs:Nat):Int):Int):Rat):=Rat.intCast_inj.2 e1;rw[xD] at h2;exact h2
  rw[e2,G3,Ll,e3,<- e3];grind
structure Dg(g t n:Nat)(x:Rat):Prop where
 ex:∃v:Int,x=(v:Rat)*tw (-(g:Int))/\v.natAbs<=n*2^t
theorem Dg.add{g t n m:Nat}{x y:Rat}(h:Dg g t n x)(k:Dg g t m y):Dg g t (n+m) (x+y):=by
 obtain⟨⟨v,rfl,h⟩⟩:=h;obtain⟨⟨w,rfl,k⟩⟩:=k;refine⟨v+w,?_,?_⟩
 ·rw[vh]; grind
 ·rw[Bft]; omega
theorem Dg.neg{g t n:Nat}{x:Rat}(h:Dg g t n x):Dg g t n (-x):=by obtain⟨⟨v,rfl,h⟩⟩:=h;refine⟨-v,?_,by omega⟩;rw[Rat.intCast_neg]; grind
theorem Dg.sub{g t n m:Nat}{x y:Rat}(h:Dg g t n x)(k:Dg g t m y):Dg g t (n+m) (x-y):=by have:=h.add k.neg;rw[Rat.sub_eq_add_neg]; exact this
theorem Dg.mul{g t n h s m:Nat}{x y:Rat}(a:Dg g t n x)(b:Dg h s m y):Dg (g+h) (t+s) (n*m) (x*y):=by
 obtain⟨⟨v,rfl,a⟩⟩:=a;obtain⟨⟨w,rfl,b⟩⟩:=b;refine⟨v*w,?_,?_⟩
 ·have e:tw (-((g+h:Nat):Int))=tw (-(g:Int))*tw (-(h:Int)):=by rw[<- G3]; congr 1; omega
  rw[xD,e]; grind
 ·rw[yA,Bfe];have:=Bfl a b
  have e:n*m*(2^t*2^s)=n*2^t*(m*2^s):=by rw[Bfg,Nat.mul_left_comm m,<- Bfg]
  rw[e]; exact this
theorem Dg.up{g t n:Nat}{x:Rat}(h:Dg g t n x)(k:Nat):Dg (g+k) (t+k) n x:=by
 obtain⟨⟨v,rfl,h⟩⟩:=h;refine⟨v*((2^k:Nat):Int),?_,?_⟩
 ·have e:tw (-(g:Int))=((2^k:Nat):Rat)*tw (-((g+k:Nat):Int)):=by rw[<- Ll,<- G3]; congr 1; omega
  have e2:(((2^k:Nat):Int):Rat)=((2^k:Nat):Rat):=rfl;rw[xD,e2,e]; grind
 ·rw[yA,Int.natAbs_natCast,Bfe,<- Bfg];exact Be1 _ h
theorem Dg.mono{g t n m:Nat}{x:Rat}(h:Dg g t n x)(k:n<=m):Dg g t m x:=by obtain⟨⟨v,e,h⟩⟩:=h;exact⟨v,e,Bfw h (Be1 _ k)⟩
theorem Dg.wide{g t n s:Nat}{x:Rat}(h:Dg g t n x)(k:t<=s):Dg g s n x:=by obtain⟨⟨v,e,h⟩⟩:=h;exact⟨v,e,Bfw h (yQ _ (Be4 (by decide) k))⟩
theorem Dg.scale{g t n:Nat}{x:Rat}(h:Dg g t n x)(k:Nat):Dg (g+k) t n (x*tw (-(k:Int))):=by
 obtain⟨⟨v,rfl,h⟩⟩:=h;refine⟨v,?_,h⟩;have e:tw (-((g+k:Nat):Int))=tw (-(g:Int))*tw (-(k:Int)):=by rw[<- G3]; congr 1; omega
 rw[e]; grind
theorem Dg.zero(g t n:Nat):Dg g t n 0:=⟨0,by have:((0:Int):Rat)=0:=rfl;rw[this]; grind,zA _⟩
theorem Dg.one:Dg 0 0 1 1:=⟨1,by have:((1:Int):Rat)=1:=rfl;rw[this];have e:Go.Ct.tw (-((0:Nat):Int))=1:=Yw;rw[e]; grind,by decide⟩
theorem Dg.word(a:Nat){t:Nat}(ht:2099<=t):Dg 1074 t 1 (vR a):=by
 obtain⟨p1,p2⟩:=Da a;refine⟨Gc a (-1074),(Ax1 p1).symm,?_⟩;have e:(Gc a (-1074)).natAbs=Ap a*2^(Aw a-(-1074)).toNat:=Q5 a;have h1:Ap a<=2^53:=by have:=F8 a; omega
 have h3:=Bfl h1 (Bfj (2^(Aw a-(-1074)).toNat));rw[<- Bfe] at h3;rw[e,Nat.one_mul];exact Bfw h3 (Be4 (by decide) (by omega))
def Dq(x:Rat):Prop:=∃g t n:Nat,g<=40000/\t<=40000/\n<=1073741824/\Dg g t n x
theorem Dg.dq{g t n:Nat}{x:Rat}(h:Dg g t n x)(hg:g<=40000)(ht:t<=40000)(hn:n<=1073741824):Dq x:=⟨g,t,n,hg,ht,hn,h⟩
theorem Dq.parts{x:Rat}(h:Dq x):x=((mQ x:Int):Rat)*tw (eQ x)/\Ek (mQ x).natAbs<10000/\-50000<=eQ x/\eQ x<=50000/\mD (mQ x)=mQ x:=by
 obtain⟨g,t,n,hg,ht,hn,⟨v,e,hv⟩⟩:=h;obtain⟨h1,h2⟩:=Aid e
 have b1:v.natAbs<=2^(t+30):=by refine Bfw hv ?_;rw[Bfe,Bfd];exact yQ _ hn
 have b2:v.natAbs<2^(t+31):=Bfr b1 (Nat.pow_lt_pow_right (by decide) (by omega));refine⟨?_,?_,?_⟩
 ·rw[h1,h2,A0o]; exact e
 ·rw[h1];have l1:=Abm v;have l2:Ek (mD v).natAbs<=(t+31) / 32+1:=Ou (Bf0 (Bfr l1 b2) (Be4 (by decide) (by omega)));omega
 ·rw[h1,h2];by_cases h0:v=0
  ·rw[show eD v (-(g:Int))=0 by unfold eD; rw[Bfc h0],Ns.2 h0];exact⟨by decide,by decide,Ns.2 rfl⟩
  ·have e2:eD v (-(g:Int))=-(g:Int)+Um v.natAbs:=by unfold eD; rw[Bfb h0]
   have l:=Ayc (n:=v.natAbs) (by omega);have l2:=(Bf5 (n:=v.natAbs) (by omega)).2 b2;refine⟨by omega,by omega,?_⟩;have:=Aid (x:=((mD v:Int):Rat)*tw (eD v (-(g:Int)))) rfl;rw[A0o,<- e,h1] at this;exact this.1.symm
theorem Dq.okV{x:Rat}(h:Dq x):okV (Ba (mQ x)) (Al (mQ x))=true:=Aqr (by have:=h.parts.2.1; omega)
theorem Dq.Nd{x:Rat}(h:Dq x):Nd (Ba (mQ x)) (Al (mQ x))=true:=J7 (by have:=h.parts.2.1; omega)
theorem Dq.okM{x:Rat}(h:Dq x):okM (Ba (mQ x)) (Al (mQ x))=true:=Ak.2 ⟨by unfold Al; rw[Ip]; have:=h.parts.2.1; omega,Agd _⟩
theorem Dq.Ts{x:Rat}(h:Dq x):Ts (eQ x)=true:=Ak.2 (by have:=h.parts.2.2; omega)
def vQ(n:Bool)(a:List Int)(e:Int):Rat:=((wv n a:Int):Rat)*tw e
def dqB(n:Bool)(a:List Int)(e:Int):Bool:=Bq (∃x,Dq x/\n=Ba (mQ x)/\a=Al (mQ x)/\e=eQ x)
theorem Arm{x:Rat}(h:Dq x):dqB (Ba (mQ x)) (Al (mQ x)) (eQ x)=true:=Ak.2 ⟨x,h,rfl,rfl,rfl⟩
theorem Ud{x:Rat}(h:Dq x):vQ (Ba (mQ x)) (Al (mQ x)) (eQ x)=x:=by unfold vQ;rw[Gm]; exact h.parts.1.symm
theorem Qi{n:Bool}{a:List Int}{e:Int}(h:dqB n a e=true):∃x,Dq x/\n=Ba (mQ x)/\a=Al (mQ x)/\e=eQ x:=Ak.1 h
theorem Ajh{v e l:Int}(h:l<=e):((vAt v e l:Int):Rat)*tw l=(v:Rat)*tw e:=by
 unfold vAt
 have e1:tw e=((2^(e-l).toNat:Nat):Rat)*tw l:=by rw[<- Ll,<- G3]; congr 1; omega
 have e2:(((2^(e-l).toNat:Nat):Int):Rat)=((2^(e-l).toNat:Nat):Rat):=rfl;rw[xD,e2,e1]; grind
theorem Asy{v e l:Int}(h:v≠0->l<=e):((Kf v (e-l):Int):Rat)*tw l=(v:Rat)*tw e:=by
 rw[Ajy h];by_cases h0:v=0
 ·subst h0;rw[Jx];have:((0:Int):Rat)=0:=rfl;rw[this]; grind
 ·exact Ajh (h h0)
theorem A2k(v e w f:Int):((Ar8 v e w f:Int):Rat)*tw (Ej v e w f)=(v:Rat)*tw e+(w:Rat)*tw f:=by obtain⟨l1,l2⟩:=A0p (v:=v) (e:=e) (w:=w) (f:=f);unfold Ar8;have h1:=Asy l1;have h2:=Asy l2;rw[vh,<- h1,<- h2]; grind
theorem Bb1(v e w f:Int):Ro v e w f=mQ ((v:Rat)*tw e+(w:Rat)*tw f)/\Aoy v e w f=eQ ((v:Rat)*tw e+(w:Rat)*tw f):=by obtain⟨h1,h2⟩:=Aid (A2k v e w f).symm;exact⟨h1.symm,h2.symm⟩
theorem A75(v e:Int):mD v=mQ ((v:Rat)*tw e)/\eD v e=eQ ((v:Rat)*tw e):=by obtain⟨h1,h2⟩:=Aid (x:=(v:Rat)*tw e) rfl;exact⟨h1.symm,h2.symm⟩
theorem Bdt(v e w f:Int):mD (v*w)=mQ ((v:Rat)*tw e*((w:Rat)*tw f))/\eD (v*w) (e+f)=eQ ((v:Rat)*tw e*((w:Rat)*tw f)):=by
 have h:(v:Rat)*tw e*((w:Rat)*tw f)=((v*w:Int):Rat)*tw (e+f):=by rw[xD,G3]; grind
 obtain⟨h1,h2⟩:=Aid h;exact⟨h1.symm,h2.symm⟩
def Ak7(x y:Rat):Int:=if x<y then -1 else if y<x then 1 else 0
theorem Bdx{x y:Rat}(hx:Dq x)(hy:Dq y):Aac (mQ x) (eQ x) (mQ y) (eQ y)=Ak7 x y:=by
 obtain⟨x1,_,x3,_⟩:=hx.parts;obtain⟨y1,_,y3,_⟩:=hy.parts;have h:=At6 (v:=mQ x) (e:=eQ x) (w:=mQ y) (f:=eQ y) (g:=-50000) (fun _=>x3) (fun _=>y3);have e1:=Ajh (v:=mQ x) x3;have e2:=Ajh (v:=mQ y) y3;rw[<- x1] at e1;rw[<- y1] at e2
 have key:∀a b:Int,a<b↔(a:Rat)*tw (-50000)<(b:Rat)*tw (-50000):=fun a b=>by
  have p:=Gy (-50000);constructor
  ·intro h;exact Rat.mul_lt_mul_of_pos_right (Rat.intCast_lt_intCast.2 h) p
  ·intro h;rcases Int.lt_or_le a b with k | k
   ·exact k
   ·have:=ze (Rat.intCast_le_intCast.2 k) (zc p);grind
 rw[h];unfold Abv Ak7;have k1:=key (vAt (mQ x) (eQ x) (-50000)) (vAt (mQ y) (eQ y) (-50000));have k2:=key (vAt (mQ y) (eQ y) (-50000)) (vAt (mQ x) (eQ x) (-50000));rw[e1,e2] at k1 k2;simp only[k1,k2]
noncomputable abbrev E3 (x:Rat):Rat:=vQ (Ba (mQ x)) (Al (mQ x)) (eQ x)
noncomputable abbrev Vs (x:Rat):Bool:=dqB (Ba (mQ x)) (Al (mQ x)) (eQ x)
def Fo(x:Int):Rat:=vR x.toNat
def N4:Nat->(Nat->Rat)->Rat
 | 0,_=>0
 | n+1,f=>N4 n f+f n
def R8(x:List Int):Rat:=N4 x.length fun i=>Fo (x.getD i 0)*Fo (x.getD i 0)
def Us(x y:List Int):Rat:=N4 x.length fun i=>Fo (x.getD i 0)*Fo (y.getD i 0)
def dyR(x:Rat):List DV:=[.bool (Ba (mQ x)),.ints .arg .u32 (Al (mQ x)),.int .i64 (eQ x)]
def Bbg(y:List (List DV))(n:Nat):Bool:=Bq (n<=64/\y.length=n/\∀r∈y,∃x,Dg 2148 4300 100 x/\r=dyR x)
def lkQ(c:Nat)(l m h:List Int)(q:Nat)(i k:Nat):Rat:=(N4 c fun j=>Fo (C1 (c:Int) l (i:Int) (j:Int))*Fo (C1 (q:Int) m (j:Int) (k:Int)))-Fo (C1 (q:Int) h (i:Int) (k:Int))
def Zb(r c q:Nat)(l m h:List Int):Rat:=N4 r fun i=>N4 q fun k=>lkQ c l m h q i k*lkQ c l m h q i k
theorem Aa0(n:Nat)(f:Nat->Rat):N4 n f=sm n f:=by
 induction n with
 | zero=>rfl
 | succ n ih=>unfold N4 sm; rw[ih]
theorem Au4{f g:Nat->Rat}(n:Nat)(h:∀i,i<n->f i=g i):N4 n f=N4 n g:=by rw[Aa0,Aa0]; exact Ce n h
theorem Dg.sum{g t m:Nat}{f:Nat->Rat}:∀n,(∀i,i<n->Dg g t m (f i))->Dg g t (n*m) (N4 n f)
 | 0,_=>Dg.zero g t _
 | n+1,h=>by unfold N4;rw[yj];exact(Dg.sum n fun i hi=>h i (by omega)).add (h n (by omega))
theorem Dg.Ux{g t m n k:Nat}{f:Nat->Rat}(hn:n<=k)(h:∀i,i<n->Dg g t m (f i)):Dg g t (k*m) (N4 n f):=(Dg.sum n h).mono (Be1 _ hn)
theorem Ic{x:Rat}(h:Dq x):E3 x=x:=Ud h
theorem Ih{x:Rat}(h:Dq x):Vs x=true:=Arm h
theorem Dg.wv(x:Int):Dg 1074 2100 1 (Fo x):=Dg.word _ (by decide)
theorem Dg.wv2(x y:Int):Dg 2148 4200 1 (Fo x*Fo y):=(Dg.wv x).mul (Dg.wv y)
theorem Dg.dot{n:Nat}{f g:Nat->Int}(h:n<=64):Dg 2148 4200 64 (N4 n fun i=>Fo (f i)*Fo (g i)):=Dg.Ux (m:=1) h fun i _=>Dg.wv2 _ _
theorem Dg.lk{c q i k:Nat}{l m h:List Int}(hc:c<=6):Dg 2148 4200 7 (lkQ c l m h q i k):=by unfold lkQ;have h2:Dg (1074+1074) (2100+1074) 1 (Fo (C1 (q:Int) h (i:Int) (k:Int))):=(Dg.wv _).up 1074;exact Dg.sub (n:=6) (m:=1) (Dg.Ux (m:=1) hc fun i _=>Dg.wv2 _ _) (h2.wide (s:=4200) (by decide))
theorem Dg.res{r c q:Nat}{l m h:List Int}(hr:r<=6)(hc:c<=6)(hq:q<=6):Dg 4296 8400 1764 (Zb r c q l m h) :=Dg.Ux (m:=294) hr fun k _=>Dg.Ux (m:=49) hq fun j _=>(Dg.lk hc).mul (Dg.lk hc)
theorem Dg.sq{x:List Int}(h:x.length<=64):Dg 2148 4200 64 (R8 x):=Dg.dot h
def Ac2(r c:Int)(l:List Int)(p q:Int)(m:List Int):Int:=if Ci r c l≠0 then Ci r c l else Ci p q m
def Rl(c:Int)(V:List Int):List Int:=(List.range c.toNat).map fun i:Nat=>B7 (E2 (C1 (c+1) V (i:Int) c) (C1 (c+1) V c c))
def Ays(c:Int)(V:List Int):MX:=if Sz (A7 Va (-20)) (Hq (C1 (c+1) V c c))=true then W9 c 1 (Rl c V) else N6 7
def A3p(r c:Int)(b:List Int):MX:=if Jy r (c+1) b≠0 then N6 (Jy r (c+1) b) else Ays c (Gw r.toNat (c+1).toNat b)
def D9(r c:Int)(l:List Int)(p q:Int)(m:List Int):MX :=
 if Ac2 r c l p q m≠0 then N6 (Ac2 r c l p q m)
 else if p≠r\/q≠1\/c=0\/6<=c then N6 3 else A3p r c (Kb r c l p q m).2.2.1
theorem Wo{R n:Nat}{l:List Int}(hl:l.length=R*n){x:Int}(hx:x∈l):∃i k:Nat,i<R/\k<n/\x=C1 (n:Int) l (i:Int) (k:Int):=by
 obtain⟨j,hj,rfl⟩:=wC.1 hx
 have hn:0<n:=by
  rcases Nat.eq_zero_or_pos n with h | h
  ·subst h; omega
  ·exact h
 refine⟨j / n,j%n,(Nat.div_lt_iff_lt_mul hn).2 (by omega),Nat.mod_lt _ hn,?_⟩;unfold C1
 have:(((j / n:Nat):Int)*(n:Int)+((j%n:Nat):Int)).toNat=j:=by rw[<- Bfa,<- yu,Ber,Bfd];exact Nat.div_add_mod j n
 rw[this,Bez,Be6 hj];rfl
theorem La{R n:Nat}{l:List Int}(hl:l.length=R*n){i k:Nat}(hi:i<R)(hk:k<n):C1 (n:Int) l (i:Int) (k:Int)∈l:=by
 unfold C1
 have e:((i:Int)*(n:Int)+(k:Int)).toNat=i*n+k:=by rw[<- Bfa,<- yu,Ber]
 have:i*n+k<l.length:=by rw[hl]; exact Hk hi hk
 rw[e,Bez,Be6 this];exact yz this
theorem Rs{R n:Nat}{l:List Int}(hl:l.length=R*n){e:Int}{i k:Nat}(hi:i<R)(hk:k<n):C1 (n:Int) (A4 l e) (i:Int) (k:Int)=A7 (C1 (n:Int) l (i:Int) (k:Int)) e:=by
 unfold C1
 have e2:((i:Int)*(n:Int)+(k:Int)).toNat=i*n+k:=by rw[<- Bfa,<- yu,Ber]
 rw[e2];exact Aeg (by rw[hl]; exact Hk hi hk)
theorem Amf(c:Nat)(f:Nat->Rat):∀r,sm (r*c) f=sm r fun i=>sm c fun j=>f (i*c+j)
 | 0=>by rw[Nat.zero_mul]; rfl
 | r+1=>by rw[yj,Ame,Amf c f r];rfl
theorem Aeb{R n:Nat}{l:List Int}(hl:l.length=R*n):R8 l=sm n fun k=>sq R fun i=>Bw n l i k:=by
 unfold R8 sq;rw[Aa0,hl,Amf,Adc];refine Ce n fun b _=>Ce R fun i _=>?_
 unfold Bw Fo C1
 have e2:((i:Int)*(n:Int)+(b:Int)).toNat=i*n+b:=by rw[<- Bfa,<- yu,Ber]
 show vR (l.getD (i*n+b) 0).toNat*vR (l.getD (i*n+b) 0).toNat=vR (l.getD ((i:Int)*(n:Int)+(b:Int)).toNat 0).toNat*vR (l.getD ((i:Int)*(n:Int)+(b:Int)).toNat 0).toNat;rw[e2]
theorem Asm{J:Nat}{l:List Int}(bl:Bl J l)(h:∃z∈l,Bb z≠0):Dp l<=(J:Int):=by
 obtain⟨w,hw,w0,we⟩:=Adw bl.Pu h;have wk:=Acn (Nx bl.Pu w hw);have ee:Bs (Bi l)=Pp w.toNat:=by unfold Bs; rw[we,Adr w.toNat]; rfl
 have wm:Ap w.toNat≠0:=fun e=>w0 ((Du wk.1 wk.2).1 e)
 have lg:=(bl w hw).log wm;obtain⟨x1,_⟩:=Z9 wk.1 wk.2 w0;unfold Dp; rw[ee,x1]; omega
theorem A29{t:Nat}{l:List Int}(hf:Ds l=true)(tl:TL t l)(h:∃z∈l,Bb z≠0):-(t:Int)<=Dp l:=by
 obtain⟨w,hw,w0,we⟩:=Adw hf h;have wk:=Acn (Nx hf w hw);have ee:Bs (Bi l)=Pp w.toNat:=by unfold Bs; rw[we,Adr w.toNat]; rfl
 have lg:=(tl w hw (by unfold Bb; omega)).log;obtain⟨x1,_⟩:=Z9 wk.1 wk.2 w0;unfold Dp; rw[ee,x1]; omega
theorem A63{l:List Int}(hf:Ds l=true)(h:¬∃z∈l,Bb z≠0):Dp l=Bs 0:=by
 have b0:Bi l=0:=by
  have eb:Bi l=(Nb l 0:Int):=rfl;rcases Adv l 0 with g | g | ⟨z,hz',_,g⟩
  ·obtain⟨_,b4,_,_⟩:=Wy hf;exfalso; apply b4; rw[eb,g]; decide
  ·rw[eb,g]; rfl
  ·rw[eb,g];have k:Bb z=0:=yZ fun g=>h ⟨z,hz',g⟩
   have:=J5 (b:=z.toNat) (by unfold Bb at k; omega);unfold E9; rw[this]; rfl
 unfold Dp; rw[b0]
theorem Aml{x e:Int}(h:Bb x=0):(A7 x e).toNat=x.toNat:=by rw[Eh];unfold Bb at h;unfold Cq;rw[Bfb (by omega),Bfc (.inr (by omega))]
section
variable{J R n:Nat}{l:List Int}(bl:Bl J l)(al:Ah l=true)(hl:l.length=R*n)(r6:R<=6)(n6:n<=6)
include bl hl
theorem Asf{i k:Nat}(hi:i<R)(hk:k<n):Nr (Bw n (A4 l (-(Dp l))) i k) (Bw n l i k*tw (-(Dp l))) Fu:=by have b1:=Y5 bl.Pu;have m:=bl _ (La hl hi hk);have m1:=b1 _ (zw.2 ⟨_,La hl hi hk,rfl⟩);unfold Bw;rw[Rs hl hi hk,Eh];rw[Eh] at m1;exact We m.1 m.2.1 m1.1
include al r6 n6
theorem Ahf:∃(F:Rat) (m:Nat),1<=F/\F<=12/\m<=900/\PI R n F (fun i k=>Bw n (A4 l (-(Dp l))) i k) m ((Dj R n l).1,(Dj R n l).2.1,true) /\
 Fn R n (fun k i=>Bw n (A4 l (-(Dp l))) i k) F/\((∀x∈l,Bb x=0)\/(1<=(sm n fun k=>sq R fun i=>Bw n (A4 l (-(Dp l))) i k)/\F*F<=103 / 100*(sm n fun k=>sq R fun i=>Bw n (A4 l (-(Dp l))) i k))):=by
 have b1:Bl 1 (A4 l (-(Dp l))):=Y5 bl.Pu;have l1:(A4 l (-(Dp l))).length=R*n:=by unfold A4; rw[Bfv,hl]
 have one:(∃z∈l,Bb z≠0)->1<=(sm n fun k=>sq R fun i=>Bw n (A4 l (-(Dp l))) i k):=fun h=>by
  obtain⟨y,hy,g⟩:=Ahw bl.Pu h;obtain⟨i,k,hi,hk,e⟩:=Wo l1 hy;have h1:=X5 g;have e1:vR y.toNat=Bw n (A4 l (-(Dp l))) i k:=by unfold Bw; rw[<- e]
  rw[e1] at h1;have h2:=Y3 (f:=fun i=>Bw n (A4 l (-(Dp l))) i k*Bw n (A4 l (-(Dp l))) i k) hi fun i _=>Cd _
  have h3:=Y3 (f:=fun k=>sq R fun i=>Bw n (A4 l (-(Dp l))) i k) hk fun k _=>Ab8 _ _
  have h4:=O0 (x:=1) (by decide) h1;rw[Agk] at h4;unfold sq at h3;unfold sq;grind
 have a64:Ah (A4 l (-(Dp l)))=true:=by
  refine Ak.2 fun x hx=>?_
  obtain⟨z,hz,rfl⟩:=zw.1 hx;exact Hs (Ak.1 al z hz)
 generalize hw:A4 l (-(Dp l))=w at *
 have most:(sm n fun k=>sq R fun i=>Bw n w i k)<=12*12:=by
  have:=(Fn.Abh (r:=R) (c:=n) (M:=fun k i=>Bw n w i k) (B:=2) (by decide) (fun k i hk hi=>by have:=A2d (b1 _ (La l1 hi hk));have t:tw ((1:Nat):Int)=2:=tw1;rw[t] at this; exact this) n6 r6).2
  grind
 have fr:∃F:Rat,1<=F/\F<=12/\(sm n fun k=>sq R fun i=>Bw n w i k)<=F*F/\((∀x∈l,Bb x=0)\/(1<=(sm n fun k=>sq R fun i=>Bw n w i k)/\F*F<=103 / 100*(sm n fun k=>sq R fun i=>Bw n w i k))):=by
  by_cases h:∃z∈l,Bb z≠0
  ·have h1:=one h;generalize (sm n fun k=>sq R fun i=>Bw n w i k)=S at *
   obtain⟨s,s0,s1,s2⟩:=Avi (q:=S) (by grind);have s3:1<=s:=Rb (zc s0) (by grind);by_cases g:s<=12
   ·exact⟨s,s3,g,s1,.inr ⟨h1,s2⟩⟩
   ·refine⟨12,by decide,zY,most,.inr ⟨h1,?_⟩⟩;have:=O0 (x:=12) (y:=s) (by decide) (by grind);grind
  ·refine⟨1,zY,by decide,?_,.inl fun x hx=>yZ fun g=>h ⟨x,hx,g⟩⟩
   have z:(sm n fun k=>sq R fun i=>Bw n w i k)=sm n fun _=>0:=Ce n fun k hk=>by
    unfold sq;rw[<- K4 R];refine Ce R fun i hi=>?_
    have:Bw n w i k=0:=by
     unfold Bw;rw[<- hw,Rs hl hi hk];have k0:Bb (C1 (n:Int) l (i:Int) (k:Int))=0:=yZ fun g=>h ⟨_,La hl hi hk,g⟩
     rw[Aml k0];exact Sj (by unfold Bb at k0; omega)
    show Bw n w i k*Bw n w i k=0;rw[this]; grind
   rw[z,K4]; grind
 obtain⟨F,f1,f12,fS,f3⟩:=fr;have FN:Fn R n (fun k i=>Bw n w i k) F:=⟨by grind,fS⟩
 have sv:SvS R n F w:=⟨a64,fun i j hi hj=>(b1 _ (La l1 hi hj)).mono (by decide),fun i hi=>FN.row hi⟩
 obtain⟨m,hm,p⟩:=PI.rounds f1 f12 r6 n6 (A7 (Bk w) (-44)) 60 0 (PI.start sv) (by omega);refine⟨F,m,f1,f12,by omega,?_,FN,f3⟩;unfold Dj;rw[hw];exact p
end
theorem Ac7{R n:Nat}{l:List Int}{j:Nat}(hj:j<n):∃p:Nat,p<n/\(Yu R n l).getD j 0=(p:Int):=by
 have hp:J1 n (Yu R n l)=true:=Amd (Zd n);have hn:(Yu R n l).length=n:=by unfold Yu A6p; rw[Aaz,Q2]
 obtain⟨h1,h2⟩:=S2 hp (j:=j) (by rw[hn]; exact hj);exact⟨((Yu R n l).getD j 0).toNat,by omega,(xL h1).symm⟩
theorem Asl{R n:Nat}{l:List Int}{i j p:Nat}(hi:i<n)(hj:j<n)(hp:(Yu R n l).getD j 0=(p:Int)):C1 (n:Int) (Gw R n l) (i:Int) (j:Int)=C1 (n:Int) (Dj R n l).2.1 (i:Int) (p:Int):=by unfold Gw Cu;rw[Ju hi hj,hp]
theorem Ac6{R n:Nat}{l:List Int}{i j p:Nat}(hi:i<R)(hj:j<n)(hp:(Yu R n l).getD j 0=(p:Int)):C1 (n:Int) (Gv R n l) (i:Int) (j:Int)=A7 (C1 (n:Int) (Dj R n l).1 (i:Int) (p:Int)) (Dp l):=by unfold Gv;rw[Rs (R:=R) (show(Cu R n (Dj R n l).1 (Yu R n l)).length=R*n from B5 _ _ _) hi hj];unfold Cu;rw[Ju hi hj,hp]
section
variable{J R n:Nat}{l:List Int}{F:Rat}{D:Nat->Nat->Rat}{m:Nat}(h:PI R n F D m ((Dj R n l).1,(Dj R n l).2.1,true))
include h
theorem Asj{i j:Nat}(hi:i<n)(hj:j<n):Bd 5 (C1 (n:Int) (Gw R n l) (i:Int) (j:Int)).toNat:=by obtain⟨p,hp,e⟩:=Ac7 (R:=R) (l:=l) hj;rw[Asl hi hj e];exact h.v.2.1 i p hi hp
theorem Ajj(bl:Bl J l)(hJ:J<=900){i j:Nat}(hi:i<R)(hj:j<n):Bd (J+5) (C1 (n:Int) (Gv R n l) (i:Int) (j:Int)).toNat:=by
 obtain⟨p,hp,e⟩:=Ac7 (R:=R) (l:=l) hj;rw[Ac6 hi hj e,Eh];refine Bd.scale (by omega) (h.w.2.1 i p hi hp) ?_;by_cases k:∃z∈l,Bb z≠0
 ·have:=Asm bl k; omega
 ·have:=A63 bl.Pu k;have e0:Bs 0<=0:=by decide +kernel
  omega
theorem A28:Bl 5 (Gw R n l):=fun x hx=>by obtain⟨i,k,hi,hk,rfl⟩:=Wo (R:=n) (n:=n) (by unfold Gw Cu; exact B5 _ _ _) hx;exact Asj h hi hk
theorem A27(bl:Bl J l)(hJ:J<=900):Bl (J+5) (Gv R n l):=fun x hx=>by obtain⟨i,k,hi,hk,rfl⟩:=Wo (R:=R) (n:=n) (by unfold Gv A4; rw[Bfv]; exact B5 _ _ _) hx;exact Ajj h bl hJ hi hk
theorem Auh(bl:Bl J l)(hJ:J<=900){i j p:Nat}(hi:i<R)(hj:j<n)(hp:p<n)(e:(Yu R n l).getD j 0=(p:Int)):Nr (Bw n (Gv R n l) i j) (Bw n (Dj R n l).1 i p*tw (Dp l)) Fu:=by have b:=h.w.2.1 i p hi hp;have c:=Ajj h bl hJ hi hj;rw[Ac6 hi hj e,Eh] at c;unfold Bw;rw[Ac6 hi hj e,Eh];exact We b.1 b.2.1 c.1
end
theorem Au3{R C:Nat}{B:Nat->Nat->Rat}{t x w:Nat->Rat}{L P S q d:Rat}(_hC:C+1<=6)
 (hP:0<=P) (hS:P*P<=104 / 100*S) (hL:0<=L) (hL2:L<=104 / 100*P) (ht:t C≠0)
 (hw:Ln R w (L+d)) (hd:d<=Uj*P) (hb:Ln R (fun i=>(sm (C+1) fun k=>B i k*t k)-w i) q) (hq:q<=26*Uj*P)
 (hA:Fn R C (fun k i=>B i k) (102 / 100*P)) (h1:Nr (sm (C+1) fun k=>t k*t k) 1 (6*Uj)) (ht1:Ln (C+1) t (101 / 100))
 (hx:∀k,k<C->Ab (t C*x k+t k) (3*uR)) :
 sq R (fun i=>(sm C fun k=>B i k*x k)-B i C)<=(L*L+S*tw (-30))*((sm C fun k=>x k*x k)+1):=by
 have u0:=Gj;have u1:=Ape;have e0:=Af1;have e1:=Atx;have eu:55000*uR=Uj:=rfl;have lx:Ln C (fun k=>t C*x k+t k) (9*uR):=(Ln.Abh (by grind) hx (by omega)).mono (by grind);have la:=hA.mul lx;have lb:=((hw.add hb).neg.add la)
 have q0:=hb.1;have hw0:=hw.1
 have e:Ln R (fun i=>t C*((sm C fun k=>B i k*x k)-B i C)) (L+d+q+102 / 100*P*(9*uR)):=lb.congr fun i _=>by
  have s1:(sm (C+1) fun k=>B i k*t k)=(sm C fun k=>B i k*t k)+B i C*t C:=rfl
  have s2:(sm C fun k=>B i k*(t C*x k+t k))=t C*(sm C fun k=>B i k*x k)+sm C fun k=>B i k*t k:=by rw[<- Nh,<- Lm];exact Ce C fun k _=>by grind
  show t C*((sm C fun k=>B i k*x k)-B i C)=-(w i+((sm (C+1) fun k=>B i k*t k)-w i))+sm C fun k=>B i k*(t C*x k+t k)
  rw[s2,s1]; grind
 have sqe:sq R (fun i=>t C*((sm C fun k=>B i k*x k)-B i C))=t C*t C*sq R (fun i=>(sm C fun k=>B i k*x k)-B i C):=by unfold sq;rw[<- Nh];exact Ce R fun i _=>by grind
 have e2:=e.2;rw[sqe] at e2;have s3:(sm (C+1) fun k=>t k*t k)=(sm C fun k=>t k*t k)+t C*t C:=rfl
 have ltC:Ln C t (101 / 100):=⟨ht1.1,by have:=ht1.2;unfold sq at this ⊢;have s:sm (C+1) (fun i=>t i*t i)=(sm C fun k=>t k*t k)+t C*t C:=rfl;rw[s] at this;have:=Cd (t C);grind⟩
 have dx:=lx.dot ltC
 have s4:t C*t C*(sm C fun k=>x k*x k)=(sm C fun k=>(t C*x k+t k)*(t C*x k+t k))+(-2*(sm C fun k=>(t C*x k+t k)*t k)+sm C fun k=>t k*t k):=by rw[<- Nh,<- Nh,<- Lm,<- Lm];exact Ce C fun k _=>by grind
 have sn:0<=sm C fun k=>(t C*x k+t k)*(t C*x k+t k):=Aee C fun k _=>Cd _
 have m1:1-7*Uj<=t C*t C*((sm C fun k=>x k*x k)+1):=by
  have:t C*t C*((sm C fun k=>x k*x k)+1)=t C*t C*(sm C fun k=>x k*x k)+t C*t C:=by grind
  rw[this,s4];rw[s3] at h1;generalize (sm C fun k=>(t C*x k+t k)*t k)=X at *
  generalize (sm C fun k=>(t C*x k+t k)*(t C*x k+t k))=Y at *
  generalize (sm C fun k=>t k*t k)=Z at *
  unfold Nr at h1;unfold Ab at dx;grind
 clear s4 sn dx s3 sqe e lb la lx h1 hx hA ltC ht1 hb hw;generalize sq R (fun i=>(sm C fun k=>B i k*x k)-B i C)=Q at *
 generalize (sm C fun k=>x k*x k)+1=M at *
 have t2:tw (-30)=1 / 1073741824:=by decide +kernel
 rw[t2]
 have tp:0<t C*t C:=by
  rcases Rat.le_iff_lt_or_eq.1 (Cd (t C)) with h | h
  ·exact h
  ·exact absurd (wD.1 h.symm) (by simp[ht])
 generalize t C*t C=T at *
 have PP:=Cd P
 have z1:d+q+102 / 100*P*(9*uR)<=28*Uj*P:=by have:=ze (show 102 / 100*9*uR<=Uj by grind) hP; grind
 have z2:T*Q<=(L+28*Uj*P)*(L+28*Uj*P):=by
  refine zZ e2 (O0 ?_ ?_)
  ·have:=zd hP (zc u0);have:=hw0;grind
  ·grind
 have lp:L*P<=104 / 100*(P*P):=by have:=ze hL2 hP; grind
 have lp0:=zd hL hP
 have ll:L*L<=109 / 100*(P*P):=by have:=Fq hL2 hL2 (by grind) hL; grind
 have z3:Uj*(L*P)<=6116 / 1000000000000000*(104 / 100*(P*P)):=Fq e1 lp (by grind) lp0
 have z4:Uj*Uj<=1 / 100000000000000000000:=by have:=Fq e1 e1 (by grind) (zc e0); grind
 have z5:Uj*Uj*(P*P)<=1 / 100000000000000000000*(P*P):=ze z4 PP;have z6:Uj*(L*L)<=6116 / 1000000000000000*(109 / 100*(P*P)):=Fq e1 ll (by grind) (Cd L);have z7:T*Q<=L*L+4 / 10000000000*(P*P):=by grind
 have S0:0<=S:=by grind
 have z8:Uj*S<=6116 / 1000000000000000*S:=ze e1 S0;have z9:T*Q<=(L*L+S*(1 / 1073741824))*(1-7*Uj):=by grind
 have z10:=zl m1 (show 0<=L*L+S*(1 / 1073741824) by have:=Cd L; grind);have z11:T*Q<=T*((L*L+S*(1 / 1073741824))*M):=by grind
 exact Rat.le_of_mul_le_mul_left z11 tp
theorem A3h:(A7 Va (-20)).toNat=4517110426252607488:=by decide +kernel
theorem A42{b:Int}(h4:Ag b.toNat≠4)(h3:Ag b.toNat≠3)(h:Sz (A7 Va (-20)) (Hq b)=true):Lo 20 b.toNat:=by
 have h:=Bff h;unfold Hp Abf at h;rw[A3h,Akn] at h;have lo:Lo 20 4517110426252607488:=⟨by decide,by decide,by decide,by decide +kernel⟩
 refine lo.A79 h3 h4 ?_;have k1:G5 4517110426252607488=4517110426252607488:=by decide +kernel
 have k2:G5 (E9 b.toNat)=((E9 b.toNat:Nat):Int):=by have:=Nu false (Ub b.toNat);rw[G0] at this;exact this
 have k3:E9 4517110426252607488=4517110426252607488:=by decide
 rw[k3];rw[k1,k2] at h;split at h
 ·exact absurd h (by decide)
 ·split at h
  ·omega
  ·split at h<;>exact absurd h (by decide)
theorem Avq{T K Q V u e:Rat}(u0:0<u)(h0:0<e)(h1:e<=u / 1000000)(q:Q*T=K)(aT:Ab T (101 / 100))(aK:Ab K (101 / 100))(de:Nr V Q (2*u*av Q+e)):Ab (T*-V+K) (3*u):=by
 have e':T*-V+K=T*(Q-V):=by rw[<- q]; grind
 have a1:=Am8.1 de.symm;have a2:av T*av (Q-V)<=av T*(2*u*av Q+e):=zl a1 (Px T);have a3:av T*av Q=av K:=by rw[<- Ab0,<- q]; congr 1; grind
 have a4:av T<=101 / 100:=Py aT;have a5:av K<=101 / 100:=Py aK;have a6:av T*e<=101 / 100*e:=ze a4 (zc h0);have a7:u*av K<=u*(101 / 100):=zl a5 (zc u0);have a8:=Aah (T*(Q-V));rw[Ab0] at a8;have a9:av T*(2*u*av Q+e)=2*(u*(av T*av Q))+av T*e:=by grind
 rw[a9,a3] at a2;rw[e'];generalize T*(Q-V)=X at *
 generalize av T*av (Q-V)=Y at *
 clear a9 a3 e' de a1 q;unfold Ab at *
 grind
section
variable{J R n:Nat}{l:List Int}
theorem Azf(hl:l.length=R*n)(z:∀x∈l,Bb x=0){i k:Nat}(hi:i<R)(hk:k<n):Bw n l i k=0/\Bw n (A4 l (-(Dp l))) i k=0:=by have k0:=z _ (La hl hi hk);unfold Bw;rw[Rs hl hi hk,Aml k0];have:vR (C1 (n:Int) l (i:Int) (k:Int)).toNat=0:=Sj (by unfold Bb at k0; omega);exact⟨this,this⟩
theorem Bbf{f:Nat->Nat->Rat}(h:∀i k,i<R->k<n->f i k=0):(sm n fun k=>sq R fun i=>f i k)=0:=by
 rw[Ce n (g:=fun _=>0) fun k hk=>?_]
 ·exact K4 _
 ·unfold sq;rw[Ce R (g:=fun _=>0) fun i hi=>?_]
  ·exact K4 R
  ·show f i k*f i k=0;rw[h i k hi hk]; grind
theorem Avz(hl:l.length=R*n)(s1:1<=(sm n fun k=>sq R fun i=>Bw n (A4 l (-(Dp l))) i k)):∃z∈l,Bb z≠0:=yZ fun g=>by rw[Bbf fun i k hi hk=>(Azf hl (fun x hx=>yZ fun g'=>g ⟨x,hx,g'⟩) hi hk).2] at s1;exact absurd s1 (by decide)
theorem Au0(bl:Bl J l)(hl:l.length=R*n)(r6:R<=6)(n6:n<=6):Nr (sm n fun k=>sq R fun i=>Bw n (A4 l (-(Dp l))) i k) (R8 l*(tw (-(Dp l))*tw (-(Dp l)))) uR:=by
 have h0:=J2;have h1:Fu<=uR / 1000000:=Xr;have u6:=Sk;have b1:Bl 1 (A4 l (-(Dp l))):=Y5 bl.Pu;have l1:(A4 l (-(Dp l))).length=R*n:=by unfold A4; rw[Bfv,hl]
 have e:R8 l*(tw (-(Dp l))*tw (-(Dp l)))=sm n fun k=>sq R fun i=>Bw n l i k*tw (-(Dp l)):=by
  rw[Aeb hl,<- V8];refine Ce n fun k _=>?_
  unfold sq;rw[<- V8];exact Ce R fun i _=>by grind
 rw[e]
 have key:∀k,k<n->Nr (sq R fun i=>Bw n (A4 l (-(Dp l))) i k) (sq R fun i=>Bw n l i k*tw (-(Dp l))) ((R:Rat)*(7*Fu)):=fun k hk=>Aju R fun i hi=>by
  have n1:=Asf bl hl hi hk;have n2:=A2d (b1 _ (La l1 hi hk));have t:tw ((1:Nat):Int)=2:=tw1;rw[t] at n2;have n2:Ab (Bw n (A4 l (-(Dp l))) i k) 2:=n2;show Nr (Bw n (A4 l (-(Dp l))) i k*Bw n (A4 l (-(Dp l))) i k) (Bw n l i k*tw (-(Dp l))*(Bw n l i k*tw (-(Dp l)))) (7*Fu);generalize Bw n (A4 l (-(Dp l))) i k=X at *
  generalize Bw n l i k*tw (-(Dp l))=Y at *
  clear e;refine(Ajt (B:=3) n1 ?_ (zc h0)).mono ?_
  ·unfold Nr at n1; unfold Ab at *; grind
  ·have:=zl (show 2*3+Fu<=7 by grind) (zc h0); grind
 refine(Aju n key).mono ?_;have r1:(R:Rat)<=6:=Dr (n:=6) r6;have n1:(n:Rat)<=6:=Dr (n:=6) n6;have r0:=Pn R;have n0:=Pn n;have a1:(R:Rat)*(7*Fu)<=6*(7*Fu):=ze r1 (by grind);have a0:0<=(R:Rat)*(7*Fu):=zd r0 (by grind);have a2:=Fq n1 a1 (by decide) a0;grind
end
theorem A1e{M u e ep F:Rat}(hM:M<=54 / 55*ep)(he:e<=u / 1000000)(hu:0<u)(eu:55000*u=ep)(f1:1<=F):M*F+e<=ep*F:=by have h1:=ze hM (show 0<=F by grind);have h2:=zl f1 (show 0<=1 / 55*ep by grind);grind
theorem Ax3{J R n:Nat}{l:List Int}(bl:Bl J l)(hl:l.length=R*n){F:Rat}{m:Nat}{s:List Int × List Int × Bool}(f1:1<=F)(hm:m<=900)(pi:PI R n F (fun i k=>Bw n (A4 l (-(Dp l))) i k) m s) :
 ∀i k,i<R->k<n->Nr (sm n fun j=>Bw n s.1 i j*Bw n s.2.1 k j) (Bw n l i k*tw (-(Dp l))) (Uj*F):=fun i k hi hk=>by
 refine((pi.d i k hi hk).trans (Asf bl hl hi hk)).mono ?_;have:(m:Rat)*(60*uR*F)=(m:Rat)*(60*uR*1)*F:=by grind
 rw[this];exact A1e (pi.A8e hm).2 Xr Gj rfl f1
theorem Ax2{J R n:Nat}{l:List Int}{F:Rat}{D:Nat->Nat->Rat}{m:Nat}(pi:PI R n F D m ((Dj R n l).1,(Dj R n l).2.1,true))(bl:Bl J l)(hJ:J<=800)(r6:R<=6){j:Nat}(hj:j<n) :
 0<=vR (Bk (Dz R n (Gv R n l) j)).toNat/\Bd (J+10) (Bk (Dz R n (Gv R n l) j)).toNat/\Ln R (fun i=>Bw n (Gv R n l) i j) (vR (Bk (Dz R n (Gv R n l) j)).toNat*(1+20*uR)+8*Fu) /\
 ∀s,Ln R (fun i=>Bw n (Gv R n l) i j) s->vR (Bk (Dz R n (Gv R n l) j)).toNat<=s*(1+20*uR)+8*Fu:=by
 obtain⟨p,hp,ep⟩:=Ac7 (R:=R) (n:=n) (l:=l) (j:=j) hj
 have wb:Bl (J+5) (Dz R n (Gv R n l) j):=fun y hy=>by obtain⟨i,hi,rfl⟩:=zw.1 hy;have hi:=yg.1 hi;rw[y8];exact Ajj pi bl (by omega) hi hj
 have w64:∀y∈Dz R n (Gv R n l) j,y.toNat<2^64:=fun y hy=>by obtain⟨i,hi,rfl⟩:=zw.1 hy;have hi:=yg.1 hi;rw[y8,Ac6 hi hj ep,Eh];refine Aa2 ?_;have:=Ak.1 (show Af (C1 (n:Int) (Dj R n l).1 (i:Int) (p:Int))=true from Hn pi.w.1);omega
 have wl:(Dz R n (Gv R n l) j).length=R:=E1 _ _ _ _ _;obtain⟨n0,n1,n2,n3⟩:=A0a wb (by omega) w64 (by rw[wl]; omega);rw[wl] at n2 n3
 have rw1:∀i,i<R->rv (Dz R n (Gv R n l) j) i=Bw n (Gv R n l) i j:=fun i hi=>by unfold rv Dz Bw B3;rw[Bez,Bf6,List.getElem?_range hi];show vR (C1 (n:Int) (Gv R n l) (0+(i:Int)) (j:Int)).toNat=_;rw[y8]
 exact⟨n0,n1,n2.congr fun i hi=>(rw1 i hi).symm,fun s hs=>n3 s (hs.congr fun i hi=>rw1 i hi)⟩
theorem Apu(R n:Nat)(B:Nat->Nat->Rat)(c:Rat):(sm n fun k=>sq R fun i=>B i k*c)=(sm n fun k=>sq R fun i=>B i k)*(c*c):=by
 rw[<- V8];refine Ce n fun k _=>?_
 unfold sq;rw[<- V8];exact Ce R fun i _=>by grind
theorem Auq{R C:Nat}{B:Nat->Nat->Rat}{v w W x:Nat->Rat}{F T I S s L:Rat}(hC:C+1<=6)(r6:R<=6)(TI:T*I=1)(t20:1 / 1048576<=T)(f1:1<=F)(fs:s<=F*F)(s1:1<=s)(s2:F*F<=103 / 100*s)
 (cl:Nr s (S*(I*I)) uR) (eS:S=sm (C+1) fun k=>sq R fun i=>B i k) (back:Ln R (fun i=>(sm (C+1) fun k=>B i k*I*v k)-w i) (25*Uj*F)) (wn:∀i,i<R->Nr (W i) (w i*T) Fu)
 (n0:0<=L) (n2:Ln R W (L*(1+20*uR)+8*Fu)) (n3:∀s,Ln R W s->L<=s*(1+20*uR)+8*Fu) (v1:Nr (sm (C+1) fun k=>v k*v k) 1 (6*Uj)) (vl:Ln (C+1) v (101 / 100)) (tC:v C≠0)
 (hx:∀k,k<C->Ab (v C*x k+v k) (3*uR)) :
 sq R (fun i=>(sm C fun k=>B i k*x k)-B i C)<=(L*L+S*tw (-30))*((sm C fun k=>x k*x k)+1):=by
 have u0:=Gj;have u6:=Sk;have e0:=Af1;have e1:=Atx;have eu:55000*uR=Uj:=rfl;have h0:=J2;have h1:Fu<=uR / 1000000:=Xr;have T0:0<T:=by grind
 have P0:0<=F*T:=zd (by grind) (zc T0);have PT:T<=F*T:=by have:=ze f1 (zc T0); grind
 have FF:1<=F*F:=by have:=O0 (x:=1) (by decide) f1; grind
 have TT:0<=T*T:=Cd T
 have eP:16*Fu<=uR*(F*T):=by
  have:=zl (show 1 / 1048576<=F*T by grind) (zc u0);have k2:Fu<=uR*uR*uR*uR:=Ark
  have k3:uR*uR*uR*uR<=1 / 1000000*(1 / 1000000*(1 / 1000000))*uR:=by have a1:=Fq u6 u6 (by grind) (zc u0);have a2:=Fq a1 u6 (by grind) (zc u0);have a3:=ze a2 (zc u0);grind
  grind
 have c1:S*(I*I)<=1002 / 1000*(F*F):=by unfold Nr at cl; grind
 have c2:s*(999 / 1000)<=S*(I*I):=by unfold Nr at cl; grind
 have eT:S*(I*I)*(T*T)=S:=by
  have:S*(I*I)*(T*T)=S*((T*I)*(T*I)):=by grind
  rw[this,TI]; grind
 have c3:S<=1002 / 1000*(F*T*(F*T)):=by have:=ze c1 TT;rw[eT] at this; grind
 have c4:F*T*(F*T)<=104 / 100*S:=by have a1:=ze c2 TT;have a2:=ze s2 TT;rw[eT] at a1; grind
 have FM:Fn R (C+1) (fun k i=>B i k*I) (1002 / 1000*F):=⟨by grind,by
  rw[Apu,<- eS];have:1002 / 1000*F*(1002 / 1000*F)=1002 / 1000*(1002 / 1000*(F*F)):=by grind
  rw[this]; grind⟩
 have mv:=FM.mul vl
 have wF:Ln R w (1013 / 1000*F):=((mv.sub back).congr fun i _=>by grind).mono (by have:=ze (show 25*Uj<=9 / 10000 by grind) (show 0<=F by grind);grind)
 have we:Ln R (fun i=>W i-w i*T) (3*Fu):=Ln.Abh (zc h0) (fun i hi=>by have:=wn i hi; unfold Nr at this; unfold Ab; grind) (by omega)
 have wT:Ln R (fun i=>w i*T) (T*(1013 / 1000*F)):=(wF.scale (c:=T) (B:=T) (by unfold Ab; grind)).congr fun i _=>by grind
 have WP:Ln R W (102 / 100*(F*T)):=((wT.add we).congr fun i _=>by grind).mono (by have:=ze u6 P0;grind)
 have L2:L<=104 / 100*(F*T):=by have:=n3 _ WP;have k:=ze u6 P0;grind
 have uL:uR*L<=uR*(104 / 100*(F*T)):=zl L2 (zc u0);have ePu:55000*(uR*(F*T))=Uj*(F*T):=by rw[<- eu]; grind
 have uP0:0<=uR*(F*T):=zd (zc u0) P0;refine Au3 (P:=F*T) (q:=T*(25*Uj*F)+3*Fu) (d:=20*(uR*L)+8*Fu) (t:=v) (w:=W) hC P0 c4 n0 L2 tC (n2.mono (by grind)) (by grind) ?_ (by grind) ?_ v1 vl hx
 ·refine((back.scale (c:=T) (B:=T) (by unfold Ab; grind)).add we.neg).congr fun i _=>?_
  have e:T*(sm (C+1) fun k=>B i k*I*v k)=sm (C+1) fun k=>B i k*v k:=by
   rw[<- Nh];refine Ce _ fun k _=>?_
   have:T*(B i k*I*v k)=T*I*(B i k*v k):=by grind
   rw[this,TI]; grind
  show(sm (C+1) fun k=>B i k*v k)-W i=T*((sm (C+1) fun k=>B i k*I*v k)-w i)+-(W i-w i*T);rw[<- e]; grind
 ·refine⟨by grind,?_⟩;have e:S=(sm C fun k=>sq R fun i=>B i k)+sq R fun i=>B i C:=eS
  have:=Ab8 R fun i=>B i C
  grind
theorem Al1{R C:Nat}{b:List Int}(hb:b.length=R*(C+1))(ab:Ah b=true)(bl:Bl 20 b)(tl:TL 20 b)(r6:R<=6)(c6:C+1<=6)
 (hless:Sz (A7 Va (-20)) (Hq (C1 ((C+1:Nat):Int) (Gw R (C+1) b) (C:Int) (C:Int)))=true) (x:Nat->Int)
 (hx:∀k,k<C->x k=B7 (E2 (C1 ((C+1:Nat):Int) (Gw R (C+1) b) (k:Int) (C:Int)) (C1 ((C+1:Nat):Int) (Gw R (C+1) b) (C:Int) (C:Int)))) :
 (∀k,k<C->Bd 26 (x k).toNat) /\
 sq R (fun i=>(sm C fun k=>Bw (C+1) b i k*vR (x k).toNat)-Bw (C+1) b i C) <=
  (vR (Bk (Dz R (C+1) (Gv R (C+1) b) C)).toNat*vR (Bk (Dz R (C+1) (Gv R (C+1) b) C)).toNat+R8 b*tw (-30))*((sm C fun k=>vR (x k).toNat*vR (x k).toNat)+1):=by
 obtain⟨F,m,f1,f12,hm,pi,fn,fS⟩:=Ahf bl ab hb r6 c6;obtain⟨p,hp,ep⟩:=Ac7 (R:=R) (n:=C+1) (l:=b) (j:=C) (by omega);have u0:=Gj;have u1:=Ape;have u6:=Sk;have e0:=Af1;have eu:55000*uR=Uj:=rfl;have h0:=J2;have h1:Fu<=uR / 1000000:=Xr;have hv:∀k,k<C+1->C1 ((C+1:Nat):Int) (Gw R (C+1) b) (k:Int) (C:Int)=C1 ((C+1:Nat):Int) (Dj R (C+1) b).2.1 (k:Int) (p:Int):=fun k hk=>Asl hk (by omega) ep
 have vb:∀k,k<C+1->Bd 5 (C1 ((C+1:Nat):Int) (Gw R (C+1) b) (k:Int) (C:Int)).toNat:=fun k hk=>Asj pi hk (by omega)
 have lo:=A42 (vb C (by omega)).2.1 (vb C (by omega)).1 hless;have d64:∀k,(Ok (C1 ((C+1:Nat):Int) (Gw R (C+1) b) (k:Int) (C:Int)).toNat (C1 ((C+1:Nat):Int) (Gw R (C+1) b) (C:Int) (C:Int)).toNat).1<2^64:=fun k=>Ak4
 have db:∀k,k<C+1->Bd 25 (Ok (C1 ((C+1:Nat):Int) (Gw R (C+1) b) (k:Int) (C:Int)).toNat (C1 ((C+1:Nat):Int) (Gw R (C+1) b) (C:Int) (C:Int)).toNat).1:=fun k hk=>Bd.div (j:=5) (t:=20) (by decide) (vb k hk) lo
 have xv:∀k,k<C->Bd 26 (x k).toNat/\vR (x k).toNat=-(vR (Ok (C1 ((C+1:Nat):Int) (Gw R (C+1) b) (k:Int) (C:Int)).toNat (C1 ((C+1:Nat):Int) (Gw R (C+1) b) (C:Int) (C:Int)).toNat).1):=fun k hk=>by rw[hx k hk,Wn,Aab];exact⟨(Zt (d64 k) (db k (by omega))).mono (by decide),Ad0 (d64 k)⟩
 refine⟨fun k hk=>(xv k hk).1,?_⟩;have vl:=pi.A9k hm c6 hp;have v1:=pi.one hm c6 hp
 have te:∀k,k<C+1->Bw (C+1) (Dj R (C+1) b).2.1 k p=vR (C1 ((C+1:Nat):Int) (Gw R (C+1) b) (k:Int) (C:Int)).toNat:=fun k hk=>by unfold Bw; rw[hv k hk]
 have tC:Bw (C+1) (Dj R (C+1) b).2.1 C p≠0:=by rw[te C (by omega)]; exact A6h lo.k3 lo.k4 lo.k0
 have xi:∀k,k<C->Ab (Bw (C+1) (Dj R (C+1) b).2.1 C p*vR (x k).toNat+Bw (C+1) (Dj R (C+1) b).2.1 k p) (3*uR):=fun k hk=>by
  have ak:=Afd vl (j:=k) (by omega);have aC:=Afd vl (j:=C) (by omega);have ek:=te k (by omega);have eC:=te C (by omega);rw[(xv k hk).2];have q:Bw (C+1) (Dj R (C+1) b).2.1 k p / Bw (C+1) (Dj R (C+1) b).2.1 C p*Bw (C+1) (Dj R (C+1) b).2.1 C p=Bw (C+1) (Dj R (C+1) b).2.1 k p:=Rat.div_mul_cancel tC;generalize hQ:Bw (C+1) (Dj R (C+1) b).2.1 k p / Bw (C+1) (Dj R (C+1) b).2.1 C p=Q at *
  have de:=At2 (vb k (by omega)).1 (vb k (by omega)).2.1 lo.k3 lo.k4 lo.k0 (db k (by omega)).1 (q:=Q) (B:=av Q) (by rw[<- ek,<- eC]; exact q) (Aah Q);generalize vR (Ok (C1 ((C+1:Nat):Int) (Gw R (C+1) b) (k:Int) (C:Int)).toNat (C1 ((C+1:Nat):Int) (Gw R (C+1) b) (C:Int) (C:Int)).toNat).1=V at *
  generalize Bw (C+1) (Dj R (C+1) b).2.1 C p=T at *
  generalize Bw (C+1) (Dj R (C+1) b).2.1 k p=K at *
  exact Avq u0 h0 h1 q aC ak de
 rcases fS with z | ⟨s1,s2⟩
 ·have zr:∀i k,i<R->k<C+1->Bw (C+1) b i k=0:=fun i k hi hk=>(Azf hb z hi hk).1
  have zq:sq R (fun i=>(sm C fun k=>Bw (C+1) b i k*vR (x k).toNat)-Bw (C+1) b i C)=0:=by
   unfold sq;rw[Ce R (g:=fun _=>0) fun i hi=>?_]
   ·exact K4 R
   ·have:(sm C fun k=>Bw (C+1) b i k*vR (x k).toNat)=0:=by rw[Ce C (g:=fun _=>0) fun k hk=>by rw[zr i k hi (by omega)]; grind];exact K4 C
    show((sm C fun k=>Bw (C+1) b i k*vR (x k).toNat)-Bw (C+1) b i C)*((sm C fun k=>Bw (C+1) b i k*vR (x k).toNat)-Bw (C+1) b i C)=0;rw[this,zr i C hi (by omega)]; grind
  rw[zq];refine zd ?_ ?_
  ·have:=Cd (vR (Bk (Dz R (C+1) (Gv R (C+1) b) C)).toNat);have sb:0<=R8 b:=by rw[Aeb hb]; exact Aee _ fun k _=>Ab8 _ _
   have:=zd sb (zc (Gy (-30)));grind
  ·have:=Aee C (f:=fun k=>vR (x k).toNat*vR (x k).toNat) fun k _=>Cd _
   grind
 have nz:=Avz hb s1;have K1:=Asm bl nz;have K2:=A29 bl.Pu tl nz;have tt:tw (Dp b)*tw (-(Dp b))=1:=by rw[<- G3,Int.add_right_neg]; exact Yw
 have t0:=Gy (Dp b);have i0:=Gy (-(Dp b))
 have t20:1 / 1048576<=tw (Dp b):=by
  have:tw (-20)<=tw (Dp b):=Ayh (by omega);have e:tw (-20)=1 / 1048576:=by decide +kernel
  rw[e] at this; exact this
 have hd:=Ax3 bl hb f1 hm pi;have back:=pi.back hm c6 r6 f1 hd hp;have wn:∀i,i<R->Nr (Bw (C+1) (Gv R (C+1) b) i C) (Bw (C+1) (Dj R (C+1) b).1 i p*tw (Dp b)) Fu:=fun i hi=>Auh pi bl (by decide) hi (by omega) hp ep
 obtain⟨n0,_,n2,n3⟩:=Ax2 pi bl (by decide) r6 (j:=C) (by omega);exact Auq c6 r6 tt t20 f1 fn.2 s1 s2 (Au0 bl hb r6 c6) (Aeb hb) back wn n0 n2 n3 v1 vl tC xi
end Go.Ct
end
