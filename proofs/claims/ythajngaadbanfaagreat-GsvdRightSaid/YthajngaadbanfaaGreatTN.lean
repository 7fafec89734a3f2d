/- A verified evaluator of the program's form and its use for this seat: SvdT, SvdU, SvdV, SvdX, SvdY, SvdZ, SvdP, SvdO, SvdI, SvdQ, SvdJ, SvdK, SvdM, SvdR, FacG, BeN, SvdG, GsvN, GsvP, GsvQ, GsvR, FacZ, ThQ, GsvX. -/
import Derived.Test.YthajngaadbanfaaGreatTL
import Derived.Test.YthajngaadbanfaaGreatTM
import Derived.Test.YthajngaadbanfaaGreatTF
set_option linter.unusedVariables false
set_option linter.unusedSimpArgs false
open Option renaming some->xQ
open Bool renaming true->xZ,false->x5
open Int renaming toNat->wQ
open Rat renaming mul_nonneg->zc,mul_le_mul_of_nonneg_left->zd,le_of_lt->za,not_lt->xu,le_refl->zI,le_trans->zn,mul_le_mul_of_nonneg_right->zb,natCast_add->yk,one_mul->wh
open Nat renaming zero_le->zo,zero_mul->zJ
open List renaming mem_map->zh,mem_range->zT,getElem_mem->zU,mem_iff_getElem->wi,getElem?_range->ym,Perm.refl->wY,range->zf,mem_append->zA,all_eq_true->zB
open Int renaming zero_add->yJ,toNat_of_nonneg->xy,le_refl->yI,add_right_neg->wX,natCast_add->zt
open Classical renaming byContradiction->yG
open Bool renaming or_eq_true->zK,not_eq_true'->yw
namespace Go.Ck
open Go.Den
def Np(a:Nat):Prop:=Nn a/\Bk a≠4
theorem VA(s:Bool):Bk (Co s 0)≠4:=(Bd.zero s 0).2.1
theorem T8{z:Nat}(h4:Bk z≠4):Np (En z z).1:=by
 refine⟨Afk.1,?_⟩;unfold En;rw[Ay (fun h=>h.elim h4 h4)];split
 ·split
  ·rename_i h3 h0;exfalso;omega
  ·cases Cd z<;>decide +kernel
 ·exact Gy _ _ _
theorem Abq{s t:Nat}(hs:Np s)(ht:Np t):Np (Ef s t).1:=by
 refine⟨(U1 hs.1 ht.1).1,?_⟩;unfold Ef;rw[Ay (fun h=>h.elim hs.2 ht.2)];split
 ·rename_i s3;split
  ·rename_i h;exact absurd ((TZ hs.1 s3).trans (TZ ht.1 h.1).symm) h.2
  ·exact hs.2
 ·split
  ·exact ht.2
  ·unfold Ih;split
   ·exact VA _
   ·exact Gy _ _ _
theorem Ss{b:Nat}(h:Np b):Np (E4 b).1:=by
 by_cases k:Bk b=0\/b=E8
 ·rw[Jg h.2 k]; exact h
 ·rw[Nh h.2 k (ET h.1)];have:=Gy x5 (Ev (By b*2^EJ b)) ((B7 b-EJ b) / 2-1);rw[FQ] at this;exact⟨Jx _ _,this⟩
theorem Ra:Np 4607182418800017408/\U4 4607182418800017408:=⟨⟨by unfold Nn; rw[Fx]; decide,by decide +kernel⟩,by unfold U4; rw[RY,Fx]; decide⟩
theorem Mo:Bd 0 4607182418800017408:=by refine .Kc (by decide) (by decide +kernel) ?_;rw[RY]; decide
theorem AgU{d:Nat}(h4:Bk d≠4)(hb:U4 d):Bd 0 (KS 4607182418800017408 d).1:=by
 by_cases h3:Bk d=3
 ·have:(KS 4607182418800017408 d).1=Co (Cd 4607182418800017408 !=Cd d) 0:=by unfold KS;rw[Ay (fun h=>h.elim (by decide +kernel) h4),Ay (fun h=>by rw[h3] at h; exact absurd h.1 (by decide +kernel)),Ay (by decide +kernel),Az (.inl h3)]
  rw[this]; exact Bd.zero _ 0
 ·have hd:d%2^63=d:=by have h:=hb.2; rw[Fx] at h; omega
  exact Bd.div (j:=0) (t:=0) (by decide) Mo (Lo.Po h3 h4 (by rw[hd]; exact hb.1))
theorem Ahv{z:Nat}(h4:Bk z≠4):Np (Ea z):=by refine⟨?_,by rw[Rk]; exact h4⟩;have:=Ago h4;unfold Nn Ea;rw[Fx]; rw[EB] at this; omega
theorem Yz:Ty.toNat=4607182418800017408:=by decide +kernel
theorem QA(a b:Int):(DM a b).toNat=(Ef a.toNat b.toNat).1:=Ad _
theorem LG(a:Int):(DQ a).toNat=(E4 a.toNat).1:=Ad _
theorem S8(a:Int):(KQ a).toNat=Ea a.toNat:=Ad _
theorem Rf(a:Int):(C1 a).toNat=Ec a.toNat:=Ad _
theorem UW{z:Int}(h4:Bk z.toNat≠4):Bd 0 (SR z).toNat:=by unfold SR;rw[Lt,QA,S8,LG,QA,EN,Yz];have a:=Abq Ra.1 (T8 h4);have ab:=(U1 Ra.1.1 (T8 h4).1).2 (.inl Ra.2);have r:=Ss a;have rb:=Ts ab;have d:=Abq (Ahv h4) r;have db:=(U1 (Ahv h4).1 r.1).2 (.inr rb);exact AgU d.2 db
theorem AgS(a b:Int):(Fl a b).toNat<2^64:=by rw[Lt]; exact Acy
theorem AeL{z:Int}(h4:Bk z.toNat≠4):Bd 0 (KX z).toNat:=by
 unfold KX;split
 ·rw[Rf]; exact N7 (AgS _ _) (UW h4)
 ·exact UW h4
theorem Aj0{t:Int}(ht:Bd 0 t.toNat):Np (Ef 4607182418800017408 (En t.toNat t.toNat).1).1/\U4 (Ef 4607182418800017408 (En t.toNat t.toNat).1).1/\Bd 1 (Ef 4607182418800017408 (En t.toNat t.toNat).1).1 :=⟨Abq Ra.1 (T8 ht.2.1),(U1 Ra.1.1 (T8 ht.2.1).1).2 (.inl Ra.2),Bd.add (k:=0) (by decide) Mo (Bd.mul (j:=0) (k:=0) (by decide) ht ht)⟩
theorem Ajz{t:Int}(ht:Bd 0 t.toNat):Np (E4 (Ef 4607182418800017408 (En t.toNat t.toNat).1).1).1/\U4 (E4 (Ef 4607182418800017408 (En t.toNat t.toNat).1).1).1/\Bd 1 (E4 (Ef 4607182418800017408 (En t.toNat t.toNat).1).1).1:=by obtain⟨h1,h2,h3⟩:=Aj0 ht;exact⟨Ss h1,Ts h2,Bd.root (j:=1) (by decide) (h3.mono (by decide)) (ET h1.1)⟩
theorem UX(t:Int):(EP t).toNat=(KS 4607182418800017408 (E4 (Ef 4607182418800017408 (En t.toNat t.toNat).1).1).1).1:=by unfold EP;rw[Lt,LG,QA,EN,Yz]
theorem SS{t:Int}(ht:Bd 0 t.toNat):Bd 0 (EP t).toNat:=by obtain⟨h1,h2,_⟩:=Ajz ht;rw[UX];exact AgU h1.2 h2
theorem XR{t:Int}(ht:Bd 0 t.toNat):Bd 0 (Es t).toNat:=by unfold Es;rw[EN];exact Bd.mul (j:=0) (k:=0) (by decide) (SS ht) ht
open Go.Den
theorem Sg:vR 4607182418800017408=1:=by decide +kernel
theorem NK:Ci<=uR / 1000000:=by decide +kernel
theorem IZ:uR<=1 / 1000000:=by decide +kernel
theorem Al2:tw ((0:Nat):Int)=1:=by decide +kernel
structure QE(T p q r c s:Rat):Prop where
 ht:Ab T 1
 hp:Nr p (T*T) (11 / 10*uR)
 hq:Nr q (1+p) (uR*(1+p))
 hr:Nr (r*r) q (8*uR*q)
 h0:0<=r
 hc:∃i,i*r=1/\∀B,Ab i B->Nr c i (2*uR*B+Ci)
 hs:∀B,Ab (c*T) B->Nr s (c*T) (uR*B+Ci)
theorem Ab6{T:Rat}(h:Ab T 1):0<=T*T/\T*T<=1:=by have h1:=DZ T;have h2:=Gd h;have h3:=GA T;rw[<- h3];exact⟨zc h1 h1,by have:=CU h2 h2 (by grind) h1; grind⟩
theorem QE.rr{T p q r c s:Rat}(h:QE T p q r c s):Nr (r*r) (1+T*T) (20*uR):=by
 obtain⟨h1,h2⟩:=Ab6 h.ht;have hu:=IZ;have h0:=Dc;have hp:=h.hp;have hq:=h.hq;have hr:=h.hr;generalize uR=u at *
 generalize T*T=X at *
 generalize r*r=Y at *
 have e1:p<=11 / 10/\-1 / 10<=p:=by unfold Nr at hp; grind
 have e2:u*(1+p)<=21 / 10*u:=by have:=zd (show 1+p<=21 / 10 by grind) (za h0); grind
 have e3:Nr q (1+X) (32 / 10*u):=by unfold Nr at *; grind
 have e4:q<=2001 / 1000:=by unfold Nr at e3; grind
 have e5:8*u*q<=1601 / 100*u:=by have:=zd e4 (show 0<=8*u by grind); grind
 unfold Nr at *; grind
theorem QE.rb{T p q r c s:Rat}(h:QE T p q r c s):99 / 100<=r/\r<=143 / 100:=by
 obtain⟨h1,h2⟩:=Ab6 h.ht;have hu:=IZ;have h0:=Dc;have hr:=h.rr;have r0:=h.h0;unfold Nr at hr;constructor
 ·refine xu.1 fun k=>?_
  have:=CU (za k) (za k) (by grind) r0;grind
 ·refine xu.1 fun k=>?_
  have:=CU (za k) (za k) r0 (by grind);grind
theorem QE.cr{T p q r c s:Rat}(h:QE T p q r c s):Nr (c*r) 1 (3*uR)/\Ab c (102 / 100):=by
 obtain⟨r1,r2⟩:=h.rb;obtain⟨i,hi,hc⟩:=h.hc;have hu:=IZ;have h0:=Dc;have he:=NK;have hep:=Ee
 have i0:0<=i:=xu.1 fun k=>by
  have:i*r<=0:=by have:=zc (show 0<=-i by grind) (show 0<=r by grind);grind
  grind
 have i1:i<=102 / 100:=xu.1 fun k=>by have:=CU (za k) r1 i0 (by grind);grind
 have hc:=hc i ⟨by grind,zI⟩;have n1:Nr (c*r) (i*r) ((2*uR*i+Ci)*r):=hc.scale h.h0
 have e1:(2*uR*i+Ci)*r<=3*uR:=by
  have a1:(2*uR*i+Ci)*r=2*uR*(i*r)+Ci*r:=by grind
  have a2:Ci*r<=Ci*2:=zd (by grind) (za hep);rw[a1,hi]; grind
 rw[hi] at n1;refine⟨n1.mono e1,?_⟩;have a3:uR*i<=uR*(102 / 100):=zd i1 (za h0)
 have i2:i<=1011 / 1000:=xu.1 fun k=>by have:=CU (za k) r1 i0 (by grind);grind
 unfold Nr at hc;unfold Ab;constructor
 ·grind
 ·grind
theorem QE.one{T p q r c s:Rat}(h:QE T p q r c s):Nr (c*c+s*s) 1 (32*uR)/\Ab s (102 / 100):=by
 obtain⟨hcr,hc⟩:=h.cr;have hrr:=h.rr;obtain⟨t0,t1⟩:=Ab6 h.ht;have hu:=IZ;have h0:=Dc;have he:=NK;have hep:=Ee
 have cT:Ab (c*T) (102 / 100):=by have:=CU (Gd hc) (Gd h.ht) (by grind) (DZ T);have e:=G1 (c*T);rw[Ep] at e;unfold Ab at *; grind
 have hs:=h.hs _ cT
 have s1:Nr (s*s) (c*T*(c*T)) (3*uR):=by
  refine(PL hs cT (by grind)).mono ?_;have d1:uR*(102 / 100)+Ci<=103 / 100*uR:=by grind
  have:=CU d1 (show 2*(102 / 100)+(uR*(102 / 100)+Ci)<=(205 / 100:Rat) by grind) (by grind) (by grind);grind
 have c1:Nr (c*r*(c*r)) 1 (7*uR):=by
  have:=PL hcr (show Ab (1:Rat) 1 by unfold Ab; grind) (by grind);have e:(1:Rat)*1=1:=by grind
  rw[e] at this;refine this.mono ?_;have:=zd (show 2*1+3*uR<=(21 / 10:Rat) by grind) (show 0<=3*uR by grind);grind
 have cc:0<=c*c/\c*c<=105 / 100:=by have a:=GA c;have b:=CU (Gd hc) (Gd hc) (by grind) (DZ c);rw[<- a];exact⟨zc (DZ _) (DZ _),by grind⟩
 have c2:Nr (c*c*(r*r)) (c*c*(1+T*T)) (21*uR):=by
  have:=hrr.scale cc.1;have e1:r*r*(c*c)=c*c*(r*r):=by grind
  have e2:(1+T*T)*(c*c)=c*c*(1+T*T):=by grind
  rw[e1,e2] at this;refine this.mono ?_;have:=zd cc.2 (show 0<=20*uR by grind);grind
 have e3:c*r*(c*r)=c*c*(r*r):=by grind
 have e4:c*T*(c*T)=c*c*(T*T):=by grind
 have e5:c*c*(1+T*T)=c*c+c*c*(T*T):=by grind
 rw[e3] at c1;rw[e5] at c2;rw[e4] at s1;constructor
 ·generalize c*c*(T*T)=X at *
  generalize c*c*(r*r)=Y at *
  generalize c*c=Z at *
  generalize s*s=W at *
  unfold Nr at *; grind
 ·have hl:s*s<=1+32*uR:=by
   generalize c*c*(T*T)=X at *
   generalize c*c*(r*r)=Y at *
   generalize c*c=Z at *
   generalize s*s=W at *
   unfold Nr at *; grind
  have a:=GA s
  have k:av s<=102 / 100:=xu.1 fun k=>by have:=CU (za k) (za k) (DZ s) (by grind);grind
  have:=G1 s;unfold Ab at *; grind
theorem bd3{k a:Nat}(h:Bd k a):Bk a≠3:=h.1
theorem Abj{a:Nat}(h:Bd 0 a):Ab (vR a) 1:=by have:=RQ h;rw[Al2] at this; exact this
theorem Ajg{a:Nat}(h:U4 a):Bk a≠0:=fun e=>by have:=Fq e;have h1:=h.1; have h2:=h.2;rw[Fx] at h2; rw[RY] at h1; omega
theorem ZR{t:Int}(ht:Bd 0 t.toNat):∃p q r,QE (vR t.toNat) p q r (vR (EP t).toNat) (vR (Es t).toNat):=by
 obtain⟨q1,q2,q3⟩:=Aj0 ht;obtain⟨r1,r2,r3⟩:=Ajz ht;have cb:=SS ht;have sb:=XR ht;have mb:Bd 0 (En t.toNat t.toNat).1:=Bd.mul (j:=0) (k:=0) (by decide) ht ht;have hT:=Abj ht;obtain⟨t0,t1⟩:=Ab6 hT;have hu:=IZ;have h0:=Dc;have he:=NK;refine⟨vR (En t.toNat t.toNat).1,vR (Ef 4607182418800017408 (En t.toNat t.toNat).1).1,vR (E4 (Ef 4607182418800017408 (En t.toNat t.toNat).1).1).1,hT,?_,?_,?_,?_,?_,?_⟩
 ·exact(Lf ht.1 ht.2.1 ht.1 ht.2.1 mb.1 (B:=1) ⟨by grind,t1⟩).mono (by grind)
 ·have pn:0<=vR (En t.toNat t.toNat).1:=Wj (ET (T8 ht.2.1).1);have:=O2 (bd3 Mo) Mo.2.1 mb.1 mb.2.1 q3.1 (B:=1+vR (En t.toNat t.toNat).1) (by rw[Sg]; unfold Ab; grind);rw[Sg] at this;exact this
 ·exact(PK q3.1 q3.2.1 (.inl (ET q1.1)) r3.1).1
 ·exact(PK q3.1 q3.2.1 (.inl (ET q1.1)) r3.1).2.1
 ·have hrp:vR (E4 (Ef 4607182418800017408 (En t.toNat t.toNat).1).1).1≠0:=by
   have lo:=Lo.Po r3.1 r3.2.1 (a:=(E4 (Ef 4607182418800017408 (En t.toNat t.toNat).1).1).1) (by have h:=r2.2; rw[Fx] at h;rw[Ao (by omega)]; exact r2.1)
   have:=Jj (a:=(E4 (Ef 4607182418800017408 (En t.toNat t.toNat).1).1).1) (by have h:=r2.2; rw[Fx] at h;rw[Ao (by omega)]; exact r2.1)
   intro e;rw[e] at this;unfold av at this;revert this;decide +kernel
  refine⟨1 / vR (E4 (Ef 4607182418800017408 (En t.toNat t.toNat).1).1).1,KI hrp,fun B hB=>?_⟩;rw[UX] at cb ⊢;exact Xr (bd3 Mo) Mo.2.1 r3.1 r3.2.1 (Ajg r2) cb.1 (by rw[Sg]; exact KI hrp) hB
 ·intro B hB;have e:(Es t).toNat=(En (EP t).toNat t.toNat).1:=by unfold Es; rw[EN]
  rw[e] at sb ⊢;exact Lf cb.1 cb.2.1 ht.1 ht.2.1 sb.1 hB
theorem AeJ{t:Int}(ht:Bd 0 t.toNat):Nr (vR (EP t).toNat*vR (EP t).toNat+vR (Es t).toNat*vR (Es t).toNat) 1 (32*uR):=by obtain⟨p,q,r,h⟩:=ZR ht;exact h.one.1
theorem Aae{f g:Nat->Rat}{p q N:Nat}(SC:p<q)(hq:q<N)(h:∀j,j<N->j≠p->j≠q->f j=g j):sm N f=sm N g+(f p-g p)+(f q-g q):=by
 have one:∀n,p<n->n<=q->sm n f=sm n g+(f p-g p):=by
  intro n
  induction n with
  | zero=>intro h; omega
  | succ n ih =>
    intro hp hn;show sm n f+f n=sm n g+g n+(f p-g p)
    by_cases e:p=n
    ·subst e;have:sm p f=sm p g:=BD p fun i hi=>h i (by omega) (by omega) (by omega)
     rw[this]; grind
    ·rw[ih (by omega) (by omega),h n (by omega) (by omega) (by omega)]; grind
 have two:∀n,q<n->n<=N->sm n f=sm n g+(f p-g p)+(f q-g q):=by
  intro n
  induction n with
  | zero=>intro h; omega
  | succ n ih =>
    intro hn hN;show sm n f+f n=sm n g+g n+(f p-g p)+(f q-g q)
    by_cases e:q=n
    ·subst e;rw[one q SC (AB _)]; grind
    ·rw[ih (by omega) (by omega),h n (by omega) (by omega) (by omega)]; grind
 exact two N hq (AB _)
structure Rot(n p q:Nat)(c g:Rat)(x x':Nat->Rat)(E:Rat):Prop where
 SC:p<q
 hq:q<n
 rest:∀j,j<n->j≠p->j≠q->x' j=x j
 ep:Ab (x' p-(c*x p+g*x q)) E
 eq:Ab (x' q-(c*x q-g*x p)) E
def Hu(p q:Nat)(c g:Rat)(x:Nat->Rat)(j:Nat):Rat:=if j=p then c*x p+g*x q else if j=q then c*x q-g*x p else x j
theorem Afy(p q:Nat)(c g:Rat)(x:Nat->Rat):Hu p q c g x p=c*x p+g*x q:=Az rfl
theorem Afx{p q:Nat}(h:p<q)(c g:Rat)(x:Nat->Rat):Hu p q c g x q=c*x q-g*x p:=by unfold Hu; rw[Ay (by omega),Az rfl]
theorem Afz{p q j:Nat}(h1:j≠p)(h2:j≠q)(c g:Rat)(x:Nat->Rat):Hu p q c g x j=x j:=by unfold Hu; rw[Ay h1,Ay h2]
def O7(p q:Nat)(x:Nat->Rat)(j:Nat):Rat:=if j=p\/j=q then x j else 0
theorem Ab5{n p q:Nat}(SC:p<q)(hq:q<n)(x a:Nat->Rat):(sm n fun j=>O7 p q x j*O7 p q a j)=x p*a p+x q*a q:=by
 have:=Aae (f:=fun j=>O7 p q x j*O7 p q a j) (g:=fun _=>0) SC hq (fun j _ h1 h2=>by show O7 p q x j*O7 p q a j=0;unfold O7; rw[Ay (by omega)]; grind)
 rw[this,FW];show 0+(O7 p q x p*O7 p q a p-0)+(O7 p q x q*O7 p q a q-0)=_;unfold O7;rw[Az (.inl rfl),Az (.inl rfl),Az (.inr rfl),Az (.inr rfl)];grind
theorem ZP{n p q:Nat}{x:Nat->Rat}{F:Rat}(h:Ln n x F):Ln n (O7 p q x) F:=by
 refine⟨h.1,zn (Ja n fun j _=>?_) h.2⟩;show O7 p q x j*O7 p q x j<=x j*x j;unfold O7;split
 ·exact zI
 ·have:=BS (x j); grind
theorem AbO{n p q:Nat}(SC:p<q)(hq:q<n)(c g:Rat)(x a:Nat->Rat):
 (sm n fun j=>Hu p q c g x j*Hu p q c g a j)=(sm n fun j=>x j*a j)+(c*c+g*g-1)*(x p*a p+x q*a q):=by
 have:=Aae (f:=fun j=>Hu p q c g x j*Hu p q c g a j) (g:=fun j=>x j*a j) SC hq (fun j _ h1 h2=>by show Hu p q c g x j*Hu p q c g a j=x j*a j;rw[Afz h1 h2,Afz h1 h2])
 rw[this];show _+(Hu p q c g x p*Hu p q c g a p-x p*a p)+(Hu p q c g x q*Hu p q c g a q-x q*a q)=_;rw[Afy,Afy,Afx SC,Afx SC];grind
section
variable{n p q:Nat}{c g:Rat}(hcg:Nr (c*c+g*g) 1 (32*uR))
include hcg
theorem Af0{x:Nat->Rat}{F:Rat}(SC:p<q)(hq:q<n)(h:Ln n x F):Ln n (Hu p q c g x) ((1+32*uR)*F):=by
 have h0:=Dc;have hF:=h.1;refine⟨zc (by grind) hF,?_⟩;have e:sq n (Hu p q c g x)=sq n x+(c*c+g*g-1)*(x p*x p+x q*x q):=AbO SC hq c g x x
 have d:x p*x p+x q*x q<=F*F:=by have:=(ZP (p:=p) (q:=q) h).2;unfold sq at this;rw[Ab5 SC hq] at this;exact this
 have d0:0<=x p*x p+x q*x q:=by have:=BS (x p); have:=BS (x q); grind
 have k:(c*c+g*g-1)*(x p*x p+x q*x q)<=32*uR*(F*F):=by
  have k1:c*c+g*g-1<=32*uR:=by unfold Nr at hcg; grind
  have:=zb k1 d0;have:=zd d (show 0<=32*uR by grind);grind
 have h2:=h.2;rw[e];have f0:=BS F;have k2:0<=uR*(F*F):=zc (za h0) f0;have k3:0<=uR*uR*(F*F):=zc (zc (za h0) (za h0)) f0;grind
omit hcg in
theorem Rot.err{x x':Nat->Rat}{E:Rat}(h:Rot n p q c g x x' E):Ln n (fun j=>x' j-Hu p q c g x j) (2*E):=by
 have hE:=h.ep.nn;refine⟨by grind,?_⟩;unfold sq
 have:=Aae (f:=fun j=>(x' j-Hu p q c g x j)*(x' j-Hu p q c g x j)) (g:=fun _=>0) h.SC h.hq (fun j hj h1 h2=>by show(x' j-Hu p q c g x j)*(x' j-Hu p q c g x j)=0;rw[Afz h1 h2,h.rest j hj h1 h2]; grind)
 rw[this,FW];show 0+((x' p-Hu p q c g x p)*(x' p-Hu p q c g x p)-0)+((x' q-Hu p q c g x q)*(x' q-Hu p q c g x q)-0)<=_;rw[Afy,Afx h.SC];have a:=CU (Gd h.ep) (Gd h.ep) hE (DZ _);have b:=CU (Gd h.eq) (Gd h.eq) hE (DZ _);rw[GA] at a b;have:=BS E;grind
theorem Rot.ln{x x':Nat->Rat}{E F:Rat}(h:Rot n p q c g x x' E)(hF:Ln n x F):Ln n x' ((1+32*uR)*F+2*E):=by
 refine((Af0 hcg h.SC h.hq hF).add h.err).congr fun j _=>?_
 grind
theorem Rot.dot{x x' a a':Nat->Rat}{E D F H:Rat}(h:Rot n p q c g x x' E)(k:Rot n p q c g a a' D)(hF:Ln n x F)(hH:Ln n a H):
 Nr (sm n fun j=>x' j*a' j) (sm n fun j=>x j*a j) (32*uR*(F*H)+(1+32*uR)*F*(2*D)+2*E*((1+32*uR)*H+2*D)):=by
 have e:(sm n fun j=>x' j*a' j)=(sm n fun j=>Hu p q c g x j*Hu p q c g a j)+((sm n fun j=>Hu p q c g x j*(a' j-Hu p q c g a j))+(sm n fun j=>(x' j-Hu p q c g x j)*a' j)):=by rw[<- Eh,<- Eh];exact BD n fun j _=>by grind
 have d1:=(Af0 hcg h.SC h.hq hF).dot k.err;have d2:=h.err.dot (k.ln hcg hH);have d3:=(ZP (p:=p) (q:=q) hF).dot (ZP (p:=p) (q:=q) hH);rw[Ab5 h.SC h.hq] at d3;rw[e,AbO h.SC h.hq]
 have d4:Ab ((c*c+g*g-1)*(x p*a p+x q*a q)) (32*uR*(F*H)):=by have h0:=Dc;have:=CU (show av (c*c+g*g-1)<=32*uR from G7.1 hcg) (Gd d3) (by grind) (DZ _);have e2:=G1 ((c*c+g*g-1)*(x p*a p+x q*a q));rw[Ep] at e2;unfold Ab at *; grind
 generalize (sm n fun j=>Hu p q c g x j*(a' j-Hu p q c g a j))=X at *
 generalize (sm n fun j=>(x' j-Hu p q c g x j)*a' j)=Y at *
 generalize (c*c+g*g-1)*(x p*a p+x q*a q)=Z at *
 unfold Nr Ab at *
 grind
end
def Bx(n:Nat)(l:Bf)(i j:Nat):Rat:=vR (CE (n:Int) l (i:Int) (j:Int)).toNat
theorem VY{j k a:Nat}(h:Bd j a)(g:Ab (vR a) (tw (k:Int))):Bd k a:=by
 refine⟨h.1,h.2.1,?_⟩;rw[Sh,Aai (zc (H9 _) (za (DP _)))] at g;have e:tw (k:Int)=tw ((k:Int)+1074)*tw (-1074):=by rw[<- Eu,Int.add_neg_cancel_right]
 rw[e] at g;have g:=Rat.le_of_mul_le_mul_right g (DP _);rw[show(k:Int)+1074=((k+1074:Nat):Int) by omega,H8] at g;exact Rat.natCast_le_natCast.1 g
theorem Ank:tw ((4:Nat):Int)=16:=by decide +kernel
theorem V9{n:Nat}{x:Nat->Rat}{F:Rat}(h:Ln n x F){j:Nat}(hj:j<n):Ab (x j) F:=by
 refine U3 h.1 (zn ?_ h.2);unfold sq
 have:sm n (fun i=>if i=j then x j*x j else 0)=x j*x j:=by rw[Pd hj (fun i _ hi=>Ay hi),Az rfl]
 rw[<- this];refine Ja n fun i _=>?_
 by_cases e:i=j
 ·subst e; rw[Az rfl]; exact zI
 ·rw[Ay e]; exact BS _
theorem AkE{F:Rat}(h:1<=F):Ci<=uR / 1000000*F:=by have:=NK;have:=zd h (show 0<=uR / 1000000 by have:=Dc; grind);grind
theorem Yu{a b:Nat}{F:Rat}(ha:Bd 0 a)(hb:Bd 5 b)(a1:Ab (vR a) (102 / 100))(b1:Ab (vR b) F)(h1:1<=F):
 Nr (vR (En a b).1) (vR a*vR b) (103 / 100*uR*F)/\Ab (vR (En a b).1) (103 / 100*F)/\Bd 5 (En a b).1:=by
 have hm:Bd 5 (En a b).1:=Bd.mul (j:=0) (k:=5) (by decide) ha hb;have h0:=Dc;have hu:=IZ;have he:=AkE h1
 have hB:Ab (vR a*vR b) (102 / 100*F):=by have:=CU (Gd a1) (Gd b1) (by grind) (DZ _);have e:=G1 (vR a*vR b);rw[Ep] at e;unfold Ab at *; grind
 have uF:0<=uR*F:=zc (za h0) (by grind);have uF2:uR*F<=1 / 1000000*F:=zb hu (by grind);have e:=(Lf ha.1 ha.2.1 hb.1 hb.2.1 hm.1 hB).mono (show uR*(102 / 100*F)+Ci<=103 / 100*uR*F by grind);refine⟨e,?_,hm⟩;unfold Nr at e;unfold Ab at *
 constructor<;>grind
theorem Ace{a b c d:Nat}{F:Rat}(ha:Bd 0 a)(hb:Bd 5 b)(hc:Bd 0 c)(hd:Bd 5 d)(a1:Ab (vR a) (102 / 100))(b1:Ab (vR b) F)(c1:Ab (vR c) (102 / 100))(d1:Ab (vR d) F)(h1:1<=F):
 (Ab (vR (Ef (En a b).1 (En c d).1).1-(vR a*vR b+vR c*vR d)) (6*uR*F)/\Bd 6 (Ef (En a b).1 (En c d).1).1) /\
 (Ab (vR (O8 (En a b).1 (En c d).1).1-(vR a*vR b-vR c*vR d)) (6*uR*F)/\Bd 6 (O8 (En a b).1 (En c d).1).1):=by
 obtain⟨e1,f1,g1⟩:=Yu ha hb a1 b1 h1;obtain⟨e2,f2,g2⟩:=Yu hc hd c1 d1 h1;have h0:=Dc;have uF:0<=uR*F:=zc (za h0) (by grind);have hs:Bd 6 (Ef (En a b).1 (En c d).1).1:=Bd.add (k:=5) (by decide) g1 g2;have ht:Bd 6 (O8 (En a b).1 (En c d).1).1:=Bd.sub (k:=5) (by decide) Lg g1 g2;have s1:=O2 g1.1 g1.2.1 g2.1 g2.2.1 hs.1 (B:=206 / 100*F) (by unfold Ab at *; grind);have s2:=PG Lg g1.1 g1.2.1 g2.1 g2.2.1 ht.1 (B:=206 / 100*F) (by unfold Ab at *; grind);unfold Nr at *
 refine⟨⟨?_,hs⟩,?_,ht⟩
 ·unfold Ab; grind
 ·unfold Ab; grind
def SvS(R n:Nat)(F:Rat)(l:Bf):Prop:=Bp l=xZ/\(∀i j:Nat,i<R->j<n->Bd 5 (CE (n:Int) l (i:Int) (j:Int)).toNat)/\∀i,i<R->Ln n (Bx n l i) F
theorem SvS.Ek{R n:Nat}{F:Rat}{l:Bf}(h:SvS R n F l)(h1:1<=F)(h15:F<=15){t:Int}(ht:Bd 0 t.toNat){p q:Nat}(SC:p<q)(hq:q<n):
 (∀i,i<R->Rot n p q (vR (EP t).toNat) (vR (C1 (Es t)).toNat) (Bx n l i) (Bx n (Hs R n l p q (EP t) (C1 (Es t))) i) (6*uR*F)) /\
 Nr (vR (EP t).toNat*vR (EP t).toNat+vR (C1 (Es t)).toNat*vR (C1 (Es t)).toNat) 1 (32*uR) /\
 SvS R n ((1+45*uR)*F) (Hs R n l p q (EP t) (C1 (Es t))):=by
 obtain⟨al,hb,hl⟩:=h;have cb:=SS ht;have sb:=XR ht;have s64:(Es t).toNat<2^64:=by unfold Es; rw[EN]; exact Lg
 have gb:Bd 0 (C1 (Es t)).toNat:=by rw[Rf]; exact N7 s64 sb
 have gv:vR (C1 (Es t)).toNat=-(vR (Es t).toNat):=by rw[Rf]; exact SP s64
 have hcs:=AeJ ht
 have hcg:Nr (vR (EP t).toNat*vR (EP t).toNat+vR (C1 (Es t)).toNat*vR (C1 (Es t)).toNat) 1 (32*uR):=by
  have e:-(vR (Es t).toNat)*-(vR (Es t).toNat)=vR (Es t).toNat*vR (Es t).toNat:=by grind
  rw[gv,e]; exact hcs
 have c1:Ab (vR (EP t).toNat) (102 / 100):=by have:=Abj cb; unfold Ab at *; grind
 have g1:Ab (vR (C1 (Es t)).toNat) (102 / 100):=by have:=Abj gb; unfold Ab at *; grind
 have h0:=Dc;have hu:=IZ
 have ent:∀i j:Nat,i<R->j<n->CE (n:Int) (Hs R n l p q (EP t) (C1 (Es t))) (i:Int) (j:Int)=
  if j=p then DM (C0 (EP t) (CE (n:Int) l (i:Int) (p:Int))) (C0 (C1 (Es t)) (CE (n:Int) l (i:Int) (q:Int)))
  else if j=q then Ej (C0 (EP t) (CE (n:Int) l (i:Int) (q:Int))) (C0 (C1 (Es t)) (CE (n:Int) l (i:Int) (p:Int))) else CE (n:Int) l (i:Int) (j:Int):=fun i j hi hj=>EU hi hj
 have e1:∀i:Nat,i<R->Ab (Bx n (Hs R n l p q (EP t) (C1 (Es t))) i p-(vR (EP t).toNat*Bx n l i p+vR (C1 (Es t)).toNat*Bx n l i q)) (6*uR*F)/\Bd 6 (CE (n:Int) (Hs R n l p q (EP t) (C1 (Es t))) (i:Int) (p:Int)).toNat:=fun i hi=>by have k:=(Ace cb (hb i p hi (by omega)) gb (hb i q hi hq) c1 (V9 (hl i hi) (j:=p) (by omega)) g1 (V9 (hl i hi) (j:=q) hq) h1).1;unfold Bx;rw[ent i p hi (by omega),Az rfl,QA,EN,EN];exact k
 have e2:∀i:Nat,i<R->Ab (Bx n (Hs R n l p q (EP t) (C1 (Es t))) i q-(vR (EP t).toNat*Bx n l i q-vR (C1 (Es t)).toNat*Bx n l i p)) (6*uR*F)/\Bd 6 (CE (n:Int) (Hs R n l p q (EP t) (C1 (Es t))) (i:Int) (q:Int)).toNat:=fun i hi=>by have k:=(Ace cb (hb i q hi hq) gb (hb i p hi (by omega)) c1 (V9 (hl i hi) (j:=q) hq) g1 (V9 (hl i hi) (j:=p) (by omega)) h1).2;unfold Bx;rw[ent i q hi hq,Ay (by omega),Az rfl,show(Ej (C0 (EP t) (CE (n:Int) l (i:Int) (q:Int))) (C0 (C1 (Es t)) (CE (n:Int) l (i:Int) (p:Int)))).toNat=_ from Ad _,EN,EN];exact k
 have rot:∀i,i<R->Rot n p q (vR (EP t).toNat) (vR (C1 (Es t)).toNat) (Bx n l i) (Bx n (Hs R n l p q (EP t) (C1 (Es t))) i) (6*uR*F):=fun i hi =>
  ⟨SC,hq,fun j hn hp hj=>by unfold Bx; rw[ent i j hi hn,Ay hp,Ay hj],(e1 i hi).1,(e2 i hi).1⟩
 have uF:0<=uR*F:=zc (za h0) (by grind)
 have ln:∀i,i<R->Ln n (Bx n (Hs R n l p q (EP t) (C1 (Es t))) i) ((1+45*uR)*F):=fun i hi =>
  ((rot i hi).ln hcg (hl i hi)).mono (by grind)
 refine⟨rot,hcg,Uo al _ _ _ _,fun i j hi hj=>?_,ln⟩;have uF2:uR*F<=1 / 1000000*F:=zb hu (by grind)
 have h16:Ab (vR (CE (n:Int) (Hs R n l p q (EP t) (C1 (Es t))) (i:Int) (j:Int)).toNat) (tw ((4:Nat):Int)):=by rw[Ank];have:Ab (Bx n (Hs R n l p q (EP t) (C1 (Es t))) i j) ((1+45*uR)*F):=V9 (ln i hi) hj;unfold Ab Bx at *; grind
 have b6:Bd 6 (CE (n:Int) (Hs R n l p q (EP t) (C1 (Es t))) (i:Int) (j:Int)).toNat:=by
  by_cases k1:j=p
  ·subst k1; exact(e1 i hi).2
  ·by_cases k2:j=q
   ·subst k2; exact(e2 i hi).2
   ·rw[ent i j hi hj,Ay k1,Ay k2]; exact(hb i j hi hj).mono (by decide)
 exact(VY b6 h16).mono (by decide)
theorem To{b:Nat}{n:Int}(h:Np b):Np (Cl b n).1:=by
 by_cases k:Bk b=3\/Bk b=0
 ·unfold Cl; rw[Ay h.2,Az k]; exact h
 ·refine⟨?_,Vl h.2⟩;rw[GR h.2 k,ET h.1,FQ];exact Jx _ _
theorem Aiy{a b:Nat}(ha:Np a)(hb:Np b)(a3:Bk a≠3)(b3:Bk b≠3):Np (En a b).1:=by
 have e:(Cd a !=Cd b)=x5:=by rw[ET ha.1,ET hb.1]; rfl
 have k:=Gy x5 (By a*By b) (B7 a+B7 b);rw[FQ] at k;unfold En;rw[Ay (fun h=>h.elim ha.2 hb.2),Ay (fun h=>h.elim a3 b3),e,FQ];exact⟨Jx _ _,k⟩
theorem Akx{a:Nat}(h:Np a):0<=GG a:=by rw[Aky h.1]; omega
theorem Ajw{a:Nat}(h3:Bk a≠3)(h4:Bk a≠4)(h0:Bk a≠0):vR a≠0:=by
 have hm:By a≠0:=fun e=>h0 ((Da h3 h4).1 e)
 have m1:(1:Rat)<=(By a:Rat):=Cy (m:=1) (Nat.pos_of_ne_zero hm);have t:=DP (B7 a);intro e;unfold vR at e
 have:(By a:Rat)*tw (B7 a)=0:=by unfold Lz at e;split at e<;>grind
 have:=Rat.mul_pos (show(0:Rat)<(By a:Rat) by grind) t;grind
theorem AeI{a k:Nat}(hk:k+1<=1023)(h:Bd k a)(h0:Bk a≠0):Bk (Ef a a).1≠0:=by
 have hb:=Bd.add hk h h;have v:=Ajw h.1 h.2.1 h0
 have e:=O2 h.1 h.2.1 h.1 h.2.1 hb.1 (B:=2*av (vR a)) (by have:=G1 (vR a); unfold Ab at *; grind)
 intro k0;rw[Gh k0] at e;have hu:=IZ;have h0':=Dc
 have a0:0<av (vR a):=by
  refine Rat.not_le.1 fun g=>v (Abk ?_)
  have:=DZ (vR a); grind
 have k:vR a=av (vR a)\/vR a=-av (vR a):=by
  unfold av;split
  ·exact .inl rfl
  ·exact .inr (by grind)
 generalize av (vR a)=A at *
 have l:=zb hu (show 0<=2*A by grind);unfold Nr at e;rcases k with k | k
 ·rw[k] at e; grind
 ·rw[k] at e; grind
theorem AbW{x:Bf}(hf:DA x=xZ)(hl:x.length<=6):Np (Cb x).toNat:=by
 refine⟨?_,AfK hf hl⟩;obtain⟨b3,b4,_,hb⟩:=Jz hf;unfold Cb;by_cases h:BK x=0\/D5 (BK x)=x5
 ·rw[Az h];have:=Q4 x 0 (Gl hf) (by rw[EB]; omega);have e:(BK x).toNat=IM x 0:=Ad _;rw[e];unfold Nn; rw[Fx]; rw[EB] at this; omega
 ·rw[Ay h];obtain⟨t,te,t1,_⟩:=Ng (-BQ (BK x)) x 0 (zo _);have te:FX (-BQ (BK x)) 0 x=t:=te
  have bm:Bm (1+x.length) 2 (FX (-BQ (BK x)) 0 x).toNat:=W0 x 0 1 (fun z hz=>by have zk:=Lp (Gl hf z hz);exact Bd.down zk.1 zk.2 b3 b4 (hb z hz)) (Bd.zero x5 2).bm (by decide) (by omega)
  rw[te,Ad] at bm;rw[te,Cj,LG,Ad];exact(To (Ss ⟨t1,bm.2.1⟩)).1
theorem Ai6{a g:Int}(ha:Np a.toNat)(h:YH a (KQ g)=xZ):Bk g.toNat≠0:=by
 intro k0;have h:=A6 h;unfold G4 Ado at h;rw[S8] at h;have e:Ea g.toNat=0:=Fq k0;rw[e] at h;have k:=Akx ha;have z:GG 0=0:=by decide +kernel
 rw[z] at h;split at h
 ·exact absurd h (by decide)
 ·split at h
  ·omega
  ·split at h<;>exact absurd h (by decide)
theorem AcC{x y:Bf}{low:Int}(hx:Bl 5 x)(hy:Bl 5 y)(h6:x.length<=6)(h6':y.length<=6)(hb:MW x y low=x5):Bk (OG x y).toNat≠4:=by
 have nx:=AbW hx.FU h6;have ny:=AbW hy.FU h6';unfold MW at hb;simp only[Bool.or_eq_false_iff,Bool.not_eq_false'] at hb;have gb:Bd 13 (Fk x y).toNat:=Ls (j:=5) (k:=5) (by decide) hx hy (by omega);have xb:Bd 13 (Fk x x).toNat:=Ls (j:=5) (k:=5) (by decide) hx hx (by omega);have yb:Bd 13 (Fk y y).toNat:=Ls (j:=5) (k:=5) (by decide) hy hy (by omega)
 have g0:Bk (Fk x y).toNat≠0:=by
  by_cases k4:Bk (En (Cb x).toNat (Cb y).toNat).1=4
  ·exfalso;have h:=A6 hb.2;unfold G4 Ado at h;rw[Cj,EN] at h
   have e:Bk (Cl (En (Cb x).toNat (Cb y).toNat).1 (-44)).1=4:=by unfold Cl; rw[Az k4]; decide +kernel
   rw[Az (.inl e)] at h;exact absurd h (by decide)
  ·refine Ai6 ?_ hb.2;rw[Cj,EN];refine To ⟨?_,k4⟩;by_cases k3:Bk (Cb x).toNat=3\/Bk (Cb y).toNat=3
   ·have e:(Cd (Cb x).toNat !=Cd (Cb y).toNat)=x5:=by rw[ET nx.1,ET ny.1]; rfl
    unfold En;rw[Ay (fun h=>h.elim nx.2 ny.2),Az k3,e];split
    ·exact Aay
    ·rw[FQ]; exact Aaz
   ·exact(Aiy nx ny (fun h=>k3 (.inl h)) (fun h=>k3 (.inr h))).1
 have nb:Bd 14 (O8 (Fk y y).toNat (Fk x x).toNat).1:=Bd.sub (k:=13) (by decide) (SI x x 0 (by decide)) yb xb;have db:Bd 14 (Ef (Fk x y).toNat (Fk x y).toNat).1:=Bd.add (k:=13) (by decide) gb gb;have d0:=AeI (k:=13) (by decide) gb g0;unfold OG;rw[Lt,QA,show(Ej (Fk y y) (Fk x x)).toNat=_ from Ad _];unfold KS
 rw[Ay (fun h=>h.elim nb.2.1 db.2.1),Ay (fun h=>by
  rcases h.2 with k | k
  ·exact nb.1 k
  ·exact d0 (h.1 ▸ k)),Ay nb.1]
 split
 ·exact VA _
 ·first | exact Gy _ _ _ | (rw[Ay d0]; exact Gy _ _ _)
theorem Ajx:uR<=1 / 1000000000000000:=by decide +kernel
theorem SvS.mono{R n:Nat}{F G:Rat}{l:Bf}(h:SvS R n F l)(g:F<=G):SvS R n G l:=⟨h.1,h.2.1,fun i hi=>(h.2.2 i hi).mono g⟩
theorem SvS.col{R n:Nat}{F:Rat}{l:Bf}(h:SvS R n F l){p:Nat}(hp:p<n):Bl 5 (Du R n l p):=fun x hx=>by obtain⟨i,hi,rfl⟩:=zh.1 hx;have hi:=zT.1 hi;rw[yJ];exact h.2.1 i p hi hp
theorem Agz{F M u:Rat}(hF:1<=F)(hM:0<=M)(hM2:M<=1000)(hu:0<u)(hu2:u<=1 / 1000000000000000):(1+45*u)*(F*(1+60*u*M))<=F*(1+60*u*(M+1)):=by
 have a:u*M<=1 / 1000000000000:=by have:=CU hu2 hM2 (by grind) hM; grind
 have b:u*(u*M)<=u*(1 / 1000000000000):=zd a (za hu);have c:(1+45*u)*(1+60*u*M)<=1+60*u*(M+1):=by grind
 have:=zd c (show 0<=F by grind);grind
theorem Ag0{F M u:Rat}(hF:1<=F)(hM:0<=M)(hM2:M<=1000)(hu:0<u)(hu2:u<=1 / 1000000000000000):
 32*u*(F*(1+60*u*M)*(1+60*u*M))+(1+32*u)*(F*(1+60*u*M))*(2*(6*u*(1+60*u*M)))+2*(6*u*(F*(1+60*u*M)))*((1+32*u)*(1+60*u*M)+2*(6*u*(1+60*u*M)))<=60*u*F:=by
 have a:u*M<=1 / 1000000000000:=by have:=CU hu2 hM2 (by grind) hM; grind
 have a0:0<=u*M:=zc (za hu) hM;have e:60*u*M=60*(u*M):=by grind
 rw[e];generalize hA:1+60*(u*M)=A at *
 have A1:1<=A/\A<=1001 / 1000:=by grind
 have AA:A*A<=1003 / 1000:=by have:=CU A1.2 A1.2 (by grind) (by grind); grind
 have AA0:0<=A*A:=BS A;have k1:32*u*(F*A*A)+(1+32*u)*(F*A)*(2*(6*u*A))+2*(6*u*(F*A))*((1+32*u)*A+2*(6*u*A))=u*F*(A*A)*(56+912*u):=by grind
 rw[k1];have uF:0<=u*F:=zc (za hu) (by grind);have k2:A*A*(56+912*u)<=1003 / 1000*57:=CU AA (by grind) (by grind) (by grind);have:=zd (show A*A*(56+912*u)<=60 by grind) uF;grind
structure PI(R n:Nat)(F:Rat)(D:Nat->Nat->Rat)(m:Nat)(s:Bf × Bf × Bool):Prop where
 w:SvS R n (F*(1+60*uR*(m:Rat))) s.1
 v:SvS n n (1*(1+60*uR*(m:Rat))) s.2.1
 d:∀i k,i<R->k<n->Nr (sm n fun j=>Bx n s.1 i j*Bx n s.2.1 k j) (D i k) ((m:Rat)*(60*uR*F))
 e:∀i k,i<n->k<n->Nr (sm n fun j=>Bx n s.2.1 i j*Bx n s.2.1 k j) (if i=k then 1 else 0) ((m:Rat)*(60*uR*1))
theorem PI.Ek{R n:Nat}{F:Rat}{D:Nat->Nat->Rat}{m:Nat}{s:Bf × Bf × Bool}(h:PI R n F D m s)(hF:1<=F)(hF2:F<=12)(hm:m<=1000)(r6:R<=6)(low:Int){p q:Nat}(SC:p<q)(hq:q<n):
 PI R n F D (m+1) (J1 MW R n low p q s):=by
 have hu:=Dc;have hu2:=Ajx;have M0:0<=(m:Rat):=H9 m;have M1:(m:Rat)<=1000:=Cy (n:=1000) hm;have ec:((m+1:Nat):Rat)=(m:Rat)+1:=yk m 1;have gF:=Agz hF M0 M1 hu hu2;have gV:=Agz (F:=1) (zI) M0 M1 hu hu2
 have uM:uR*(m:Rat)<=1 / 1000000000000:=by have:=CU hu2 M1 (by grind) M0; grind
 have uM0:0<=uR*(m:Rat):=zc (za hu) M0;have uF:0<=uR*F:=zc (za hu) (by grind);have fM:F*(uR*(m:Rat))<=12*(1 / 1000000000000):=CU hF2 uM (by grind) uM0;have fM0:0<=F*(uR*(m:Rat)):=zc (by grind) uM0;unfold J1;cases hb:MW (Du R n s.1 p) (Du R n s.1 q) low with
 | true =>
   rw[Az rfl];refine⟨h.w.mono ?_,h.v.mono ?_,fun i k hi hk=>(h.d i k hi hk).mono ?_,fun i k hi hk=>(h.e i k hi hk).mono ?_⟩
   ·rw[ec]; grind
   ·rw[ec]; grind
   ·rw[ec]; grind
   ·rw[ec]; grind
 | false =>
   rw[Ay (by decide)];have lx:(Du R n s.1 p).length<=6:=by unfold Du; rw[DO]; exact r6
   have ly:(Du R n s.1 q).length<=6:=by unfold Du; rw[DO]; exact r6
   have ht:=AeL (AcC (h.w.col (p:=p) (by omega)) (h.w.col hq) lx ly hb);obtain⟨w1,w2,w3⟩:=h.w.Ek (by grind) (by grind) ht SC hq;obtain⟨v1,_,v3⟩:=h.v.Ek (by grind) (by grind) ht SC hq;refine⟨?_,?_,fun i k hi hk=>?_,fun i k hi hk=>?_⟩
   ·rw[ec]; exact w3.mono gF
   ·rw[ec]; exact v3.mono gV
   ·have:=((w1 i hi).dot w2 (v1 k hk) (h.w.2.2 i hi) (h.v.2.2 k hk)).trans (h.d i k hi hk);refine this.mono ?_;have g:=Ag0 hF M0 M1 hu hu2;rw[ec];grind
   ·have:=((v1 i hi).dot w2 (v1 k hk) (h.v.2.2 i hi) (h.v.2.2 k hk)).trans (h.e i k hi hk);refine this.mono ?_;have g:=Ag0 (F:=1) (zI) M0 M1 hu hu2;rw[ec];grind
section
variable{R n:Nat}{F:Rat}{D:Nat->Nat->Rat}(hF:1<=F)(hF2:F<=12)(r6:R<=6)(low:Int)
include hF hF2 r6
theorem PI.KP{p:Nat}:∀(d q:Nat) {m:Nat} {s:Bf × Bf × Bool},PI R n F D m s->q+d=n->p<q->m+d<=1000->PI R n F D (m+d) (KP MW R n low p d q s)
 | 0,_,_,_,h,_,_,_=>h
 | d+1,q,m,s,h,hq,hp,hm=>by have:=PI.KP (p:=p) d (q+1) (h.Ek hF hF2 (by omega) r6 low hp (by omega)) (by omega) (by omega) (by omega);rw[show m+(d+1)=m+1+d by omega];exact this
def Sb(n:Nat):Nat->Nat->Nat
 | 0,_=>0
 | d+1,p=>(n-(p+1))+Sb n d (p+1)
theorem PI.ID:∀(d p:Nat) {m:Nat} {s:Bf × Bf × Bool},PI R n F D m s->p+d=n->m+Sb n d p<=1000->PI R n F D (m+Sb n d p) (ID MW R n low d p s)
 | 0,_,_,_,h,_,_=>h
 | d+1,p,m,s,h,hp,hm=>by have e:Sb n (d+1) p=(n-(p+1))+Sb n d (p+1):=rfl;rw[e] at hm ⊢;have:=PI.KP hF hF2 r6 low (p:=p) (n-(p+1)) (p+1) h (by omega) (by omega) (by omega);have:=PI.ID d (p+1) this (by omega) (by omega);rw[show m+(n-(p+1)+Sb n d (p+1))=m+(n-(p+1))+Sb n d (p+1) by omega];exact this
end
theorem AkM:∀n:Fin 7,Sb n.val n.val 0<=15:=by decide
theorem PI.rounds{R n:Nat}{F:Rat}{D:Nat->Nat->Rat}(hF:1<=F)(hF2:F<=12)(r6:R<=6)(n6:n<=6)(low:Int):∀(k m:Nat) {w v:Bf},PI R n F D m (w,v,xZ)->m+15*k<=1000 ->
 ∃m',m'<=m+15*k/\PI R n F D m' ((DL R n low k w v).1,(DL R n low k w v).2.1,xZ)
 | 0,m,w,v,h,_=>⟨m,by omega,h⟩
 | k+1,m,w,v,h,hm=>by
   have c:=AkM ⟨n,by omega⟩;have c:Sb n n 0<=15:=c;have g:PI R n F D (m+Sb n n 0) (GC R n low w v):=PI.ID hF hF2 r6 low n 0 h (by omega) (by omega);have g':PI R n F D (m+Sb n n 0) ((GC R n low w v).1,(GC R n low w v).2.1,xZ):=⟨g.w,g.v,g.d,g.e⟩
   unfold DL;split
   ·exact⟨_,by omega,g'⟩
   ·obtain⟨m',h1,h2⟩:=PI.rounds hF hF2 r6 n6 low k (m+Sb n n 0) g' (by omega);exact⟨m',by omega,h2⟩
theorem ZS{be:Bf->Bf->Int->Bool}{R n:Nat}{low:Int}{p q:Nat}{s:Bf × Bf × Bool}(h:(J1 be R n low p q s).2.2=xZ):J1 be R n low p q s=s/\be (Du R n s.1 p) (Du R n s.1 q) low=xZ:=by
 unfold J1 at h ⊢;by_cases k:be (Du R n s.1 p) (Du R n s.1 q) low=xZ
 ·rw[Az k]; exact⟨rfl,k⟩
 ·rw[Ay k] at h; exact absurd (show x5=xZ from h) (by decide)
theorem Vo{be:Bf->Bf->Int->Bool}{R n:Nat}{low:Int}{p:Nat}:∀(d q:Nat) {s:Bf × Bf × Bool},(KP be R n low p d q s).2.2=xZ->KP be R n low p d q s=s/\∀j,q<=j->j<q+d->be (Du R n s.1 p) (Du R n s.1 j) low=xZ
 | 0,_,_,_=>⟨rfl,fun j h1 h2=>by omega⟩
 | d+1,q,s,h=>by
   have h:(KP be R n low p d (q+1) (J1 be R n low p q s)).2.2=xZ:=h;obtain⟨h1,h2⟩:=Vo d (q+1) h;rw[h1] at h;obtain⟨h3,h4⟩:=ZS h;refine⟨h1.trans h3,fun j j1 j2=>?_⟩;by_cases e:j=q
   ·subst e; exact h4
   ·have:=h2 j (by omega) (by omega);rw[h3] at this; exact this
theorem Tw{be:Bf->Bf->Int->Bool}{R n:Nat}{low:Int}:∀(d p:Nat) {s:Bf × Bf × Bool},(ID be R n low d p s).2.2=xZ->ID be R n low d p s=s/\∀i j,p<=i->i<p+d->i<j->j<n->be (Du R n s.1 i) (Du R n s.1 j) low=xZ
 | 0,_,_,_=>⟨rfl,fun i j h1 h2=>by omega⟩
 | d+1,p,s,h=>by
   have h:(ID be R n low d (p+1) (KP be R n low p (n-(p+1)) (p+1) s)).2.2=xZ:=h;obtain⟨h1,h2⟩:=Tw d (p+1) h;rw[h1] at h;obtain⟨h3,h4⟩:=Vo _ _ h;refine⟨h1.trans h3,fun i j i1 i2 ij jn=>?_⟩;by_cases e:i=p
   ·subst e; exact h4 j (by omega) (by omega)
   ·have:=h2 i j (by omega) (by omega) ij jn;rw[h3] at this; exact this
theorem Vp{R n:Nat}{low:Int}:∀(k:Nat) {w v:Bf},(DL R n low k w v).2.2=0->∀i j,i<j->j<n->MW (Du R n (DL R n low k w v).1 i) (Du R n (DL R n low k w v).1 j) low=xZ
 | 0,_,_,h=>absurd (show(6:Int)=0 from h) (by decide)
 | k+1,w,v,h=>by
   intro i j ij jn;unfold DL at h ⊢;by_cases g:(GC R n low w v).2.2=xZ
   ·rw[Az g];obtain⟨h1,h2⟩:=Tw n 0 g;have:=h2 i j (by omega) (by omega) ij jn;show MW (Du R n (GC R n low w v).1 i) (Du R n (GC R n low w v).1 j) low=xZ;have e:(GC R n low w v).1=w:=by unfold GC; rw[h1]
    rw[e]; exact this
   ·rw[Ay g] at h ⊢;exact Vp k h i j ij jn
theorem Yq:((0:Nat):Rat)=0:=by decide +kernel
def OV(i k:Nat):Rat:=if i=k then 1 else 0
theorem Zd{n i k:Nat}(hi:i<n)(hk:k<n):CE (n:Int) (F2 n) (i:Int) (k:Int)=if i=k then 4607182418800017408 else 0:=by
 have:CE (n:Int) (F2 n) (i:Int) (k:Int)=Mv (i:Int) (k:Int):=EU hi hk;rw[this];unfold Mv;by_cases h:i=k
 ·subst h; rw[Az rfl,Az rfl]
 ·rw[Ay h,Ay (by omega)]
theorem SE{n i k:Nat}(hi:i<n)(hk:k<n):Bx n (F2 n) i k=OV i k:=by
 unfold Bx OV;rw[Zd hi hk];by_cases h:i=k
 ·rw[Az h,Az h]; exact Sg
 ·rw[Ay h,Ay h]; decide +kernel
theorem AkC{n i k:Nat}(hi:i<n)(hk:k<n):Bd 5 (CE (n:Int) (F2 n) (i:Int) (k:Int)).toNat:=by
 rw[Zd hi hk];by_cases h:i=k
 ·rw[Az h]; exact Mo.mono (by decide)
 ·rw[Ay h]; exact Bd.zero x5 5
theorem Tf{n k:Nat}(hk:k<n)(f:Nat->Rat):(sm n fun j=>f j*OV k j)=f k:=by
 rw[Pd hk (fun j _ hj=>by show f j*OV k j=0;unfold OV; rw[Ay (fun e=>hj e.symm)]; grind)]
 unfold OV; rw[Az rfl]; grind
theorem AkB{n i:Nat}(hi:i<n):Ln n (Bx n (F2 n) i) 1:=by
 refine⟨by decide,?_⟩;have e:sq n (Bx n (F2 n) i)=sm n fun j=>OV i j*OV i j:=BD n fun j hj=>by rw[SE hi hj]
 rw[e,Tf hi];unfold OV; rw[Az rfl]; grind
theorem AiL{n:Nat}:SvS n n 1 (F2 n):=⟨FA fun _ _=>Aco _ _,fun _ _ hi hj=>AkC hi hj,fun _ hi=>AkB hi⟩
theorem PI.start{R n:Nat}{F:Rat}{w:Bf}(hw:SvS R n F w):PI R n F (fun i k=>Bx n w i k) 0 (w,F2 n,xZ):=by
 have e1:F*(1+60*uR*((0:Nat):Rat))=F:=by rw[Yq]; grind
 have e2:(1:Rat)*(1+60*uR*((0:Nat):Rat))=1:=by rw[Yq]; grind
 refine⟨by rw[e1]; exact hw,by rw[e2]; exact AiL,fun i k hi hk=>?_,fun i k hi hk=>?_⟩
 ·have e:(sm n fun j=>Bx n w i j*Bx n (F2 n) k j)=Bx n w i k:=by rw[<- Tf hk (Bx n w i)];exact BD n fun j hj=>by rw[SE hk hj]
  show Nr (sm n fun j=>Bx n w i j*Bx n (F2 n) k j) _ _;rw[e,Yq];unfold Nr; grind
 ·have e:(sm n fun j=>Bx n (F2 n) i j*Bx n (F2 n) k j)=if i=k then 1 else 0:=by
   have:(sm n fun j=>Bx n (F2 n) i j*Bx n (F2 n) k j)=sm n fun j=>OV i j*OV k j:=BD n fun j hj=>by rw[SE hi hj,SE hk hj]
   rw[this,Tf hk];rfl
  show Nr (sm n fun j=>Bx n (F2 n) i j*Bx n (F2 n) k j) _ _;rw[e,Yq];unfold Nr; grind
theorem IB(c:Rat)(f:Nat->Rat)(n:Nat):sm n (fun i=>f i*c)=sm n f*c:=by
 have:=EG c f n;have e:sm n (fun i=>f i*c)=sm n fun i=>c*f i:=BD n fun i _=>by grind
 rw[e,this]; grind
theorem W3(n m:Nat)(a b:Nat->Rat):sm n a*sm m b=sm n fun k=>sm m fun l=>a k*b l:=by rw[<- IB];exact BD n fun k _=>by rw[<- EG]
theorem HR(f:Nat->Nat->Rat)(n:Nat):(sm n fun i=>sm n fun j=>f i j)=sm n fun j=>sm n fun i=>f i j:=Me f n n
theorem AdQ(n:Nat)(v:Nat->Nat->Rat):
 (sm n fun i=>sm n fun j=>(sm n fun k=>v k i*v k j)*(sm n fun k=>v k i*v k j))=sm n fun k=>sm n fun l=>(sm n fun i=>v k i*v l i)*(sm n fun i=>v k i*v l i):=by
 have e1:(sm n fun i=>sm n fun j=>(sm n fun k=>v k i*v k j)*(sm n fun k=>v k i*v k j))=sm n fun i=>sm n fun j=>sm n fun k=>sm n fun l=>(v k i*v k j)*(v l i*v l j) :=BD n fun i _=>BD n fun j _=>W3 n n _ _
 have e2:(sm n fun k=>sm n fun l=>(sm n fun i=>v k i*v l i)*(sm n fun i=>v k i*v l i))=sm n fun k=>sm n fun l=>sm n fun i=>sm n fun j=>(v k i*v l i)*(v k j*v l j) :=BD n fun k _=>BD n fun l _=>W3 n n _ _
 rw[e1,e2]
 have s1:(sm n fun i=>sm n fun j=>sm n fun k=>sm n fun l=>(v k i*v k j)*(v l i*v l j))=sm n fun i=>sm n fun k=>sm n fun j=>sm n fun l=>(v k i*v k j)*(v l i*v l j) :=BD n fun i _=>HR _ n
 have s2:(sm n fun i=>sm n fun k=>sm n fun j=>sm n fun l=>(v k i*v k j)*(v l i*v l j))=sm n fun k=>sm n fun i=>sm n fun j=>sm n fun l=>(v k i*v k j)*(v l i*v l j):=HR _ n
 have s3:(sm n fun k=>sm n fun i=>sm n fun j=>sm n fun l=>(v k i*v k j)*(v l i*v l j))=sm n fun k=>sm n fun i=>sm n fun l=>sm n fun j=>(v k i*v k j)*(v l i*v l j) :=BD n fun k _=>BD n fun i _=>HR _ n
 have s4:(sm n fun k=>sm n fun i=>sm n fun l=>sm n fun j=>(v k i*v k j)*(v l i*v l j))=sm n fun k=>sm n fun l=>sm n fun i=>sm n fun j=>(v k i*v k j)*(v l i*v l j) :=BD n fun k _=>HR _ n
 rw[s1,s2,s3,s4];exact BD n fun k _=>BD n fun l _=>BD n fun i _=>BD n fun j _=>by grind
theorem Wp(n:Nat)(v:Nat->Nat->Rat):
 (sm n fun i=>sm n fun j=>((sm n fun k=>v k i*v k j)-if i=j then 1 else 0)*((sm n fun k=>v k i*v k j)-if i=j then 1 else 0))=
 sm n fun k=>sm n fun l=>((sm n fun i=>v k i*v l i)-if k=l then 1 else 0)*((sm n fun i=>v k i*v l i)-if k=l then 1 else 0):=by
 have ex:∀g:Nat->Nat->Rat,(sm n fun i=>sm n fun j=>(g i j-if i=j then 1 else 0)*(g i j-if i=j then 1 else 0))=(sm n fun i=>sm n fun j=>g i j*g i j)+(-2*(sm n fun i=>g i i)+sm n fun _=>1):=fun g=>by
  rw[<- EG,<- Eh,<- Eh];refine BD n fun i hi=>?_
  have:(sm n fun j=>(g i j-if i=j then 1 else 0)*(g i j-if i=j then 1 else 0))=sm n fun j=>g i j*g i j+(if i=j then -2*g i i+1 else 0):=BD n fun j _=>by
   by_cases h:i=j
   ·subst h; rw[Az rfl,Az rfl]; grind
   ·rw[Ay h,Ay h]; grind
  rw[this,Eh];congr 1;rw[Pd hi (fun j _ hj=>Ay (fun e=>hj e.symm)),Az rfl]
 rw[ex,ex,AdQ];congr 2;congr 1;rw[HR (fun i k=>v k i*v k i) n]
theorem Amw{n:Nat}{f:Nat->Rat}(h:∀i,i<n->0<=f i){j:Nat}(hj:j<n):f j<=sm n f:=by
 have e:(sm n fun i=>if i=j then f i else 0)=f j:=by rw[Pd hj (fun i _ hi=>Ay hi),Az rfl]
 rw[<- e];refine Ja n fun i hi=>?_
 by_cases k:i=j
 ·rw[Az k]; exact zI
 ·rw[Ay k]; exact h i hi
theorem QM(c:Rat):∀n:Nat,sm n (fun _=>c)=(n:Rat)*c
 | 0=>by rw[Yq]; show(0:Rat)=_; grind
 | n+1=>by have e:((n+1:Nat):Rat)=(n:Rat)+1:=yk n 1;show sm n (fun _=>c)+c=_;rw[QM c n,e]; grind
theorem AbM{b:Nat}(hb:b<2^64)(h4:Bk b≠4):(Cl b 0).1=b:=by
 by_cases k:Bk b=3\/Bk b=0
 ·unfold Cl; rw[Ay h4,Az k]
 ·rw[GR h4 k,Int.add_zero,Ag4 hb h4]
theorem Oi{b:Nat}{n:Int}(h:b<2^64):(Cl b n).1<2^64:=by
 unfold Cl;split
 ·decide
 ·split
  ·exact h
  ·exact Nl _ _ _
theorem Th{x:Bf}{k:Int}{j:Nat}(h:j<x.length):(B6 x k).getD j 0=BX (x.getD j 0) k:=by unfold B6;rw[Al,Ba,Al,As h];rfl
theorem QJ(k:Int):∀(l:Bf) (s:Int),(∀x∈l,x.toNat<2^64/\D5 x=xZ)->Bl 1 (B6 l k)->FX k s l=FX 0 s (B6 l k)
 | [],_,_,_=>rfl
 | x::l,s,h,hb=>by
   have e:BX (BX x k) 0=BX x k:=by
    have b:=hb (BX x k) (zh.2 ⟨x,AY,rfl⟩);have lt:(BX x k).toNat<2^64:=by rw[Cj]; exact Oi (h x AY).1
    show((Cl (BX x k).toNat 0).1:Int)=BX x k;rw[AbM lt b.2.1];exact xy (Int.natCast_nonneg _)
   show FX k (DM s (C0 (BX x k) (BX x k))) l=FX 0 (DM s (C0 (BX (BX x k) 0) (BX (BX x k) 0))) (B6 l k);rw[e];exact QJ k l _ (fun z hz=>h z (AN _ hz)) fun z hz=>hb z (AN _ hz)
theorem AmR{y:Bf}(hb:Bl 1 y)(h:∀x∈y,x.toNat<2^64){j:Nat}(hj:j<y.length):zR 0 (y.getD j 0)=rv y j:=by
 have m:y.getD j 0∈y:=by rw[Al,As hj]; exact zU hj
 unfold zR rv;rw[AbM (h _ m) (hb _ m).2.1]
theorem Adu{y:Bf}(hb:Bl 1 y)(h:∀x∈y,x.toNat<2^64)(hl:y.length<=7)(h1:∃z∈y,pw 0<=z.toNat%2^63):
 Nr (vR (DQ (FX 0 0 y)).toNat*vR (DQ (FX 0 0 y)).toNat) (sq y.length (rv y)) (31*uR*sq y.length (rv y))/\0<=vR (DQ (FX 0 0 y)).toNat/\1<=sq y.length (rv y)/\Bd 3 (DQ (FX 0 0 y)).toNat:=by
 have hm1:1<=sq y.length (rv y):=by
  obtain⟨z,hz,g⟩:=h1;obtain⟨j,hj,rfl⟩:=wi.1 hz;have e:rv y j=vR (y[j]).toNat:=by unfold rv; rw[Al,As hj]; rfl
  have h1:=Jj g;rw[<- e] at h1;have h2:=KZ (f:=fun i=>rv y i*rv y i) hj fun i _=>BS _
  have h3:=H7 (x:=1) (y:=av (rv y j)) (by decide) h1;rw[GA] at h3;unfold sq;grind
 obtain⟨t,te,t1,_⟩:=Ng 0 y 0 (zo _);have te:FX 0 0 y=t:=te;have z0:vR 0=0:=HZ x5;have hlen:(y.length:Rat)<=7:=Cy hl;have se:=Wz (k:=0) (yI 0) y 0 1 0 0 hb (Bd.zero x5 2).bm (by decide) (by omega) (zI) (zI) (by grind) (by rw[z0]; unfold Nr; grind);have se:Nr (vR (FX 0 0 y).toNat) _ _:=se;have bm:=QK (k:=0) (yI 0) y 0 1 hb (Bd.zero x5 2).bm (by decide) (by omega);have bm:Bm (1+y.length) 2 (FX 0 0 y).toNat:=bm;rw[te,Ad] at bm se
 have eT:(0:Rat)+sm y.length (fun j=>zR 0 (y.getD j 0)*zR 0 (y.getD j 0))=sq y.length (rv y):=by rw[Rat.zero_add];exact BD _ fun j hj=>by rw[AmR hb h hj]
 rw[eT] at se;have bt:Bd (3+3) t:=(bm.bd (j:=3) (by omega)).mono (by decide);have br:Bd 3 (E4 t).1:=Bd.root (by decide) bt (ET t1);have hr:=PK bt.1 bt.2.1 (.inl (ET t1)) br.1;have er:(DQ (FX 0 0 y)).toNat=(E4 t).1:=by rw[te,LG,Ad]
 rw[er];refine⟨?_,hr.2.1,hm1,br⟩;have hr1:=hr.1;generalize vR (E4 t).1*vR (E4 t).1=r2 at *
 generalize vR t=S at *
 generalize sq y.length (rv y)=Q at *
 have u0:=Dc;have u1:=IZ;have e1:Ci<=uR / 1000000:=NK;have ln:=H9 y.length
 have c1:3*(0+(y.length:Rat))*uR*Q<=21*(uR*Q):=by have:=zb hlen (zc (za u0) (show 0<=Q by grind)); grind
 have c2:2*(0+(y.length:Rat))*Ci<=14*Ci:=by have:=zb hlen (za Ee); grind
 have uQ:uR<=uR*Q:=by have:=zd hm1 (za u0); grind
 have se:Nr S Q (211 / 10*(uR*Q)):=se.mono (by grind);have uQ2:uR*(uR*Q)<=1 / 1000000*(uR*Q):=zb u1 (by grind);have uS:uR*S<=uR*(Q+211 / 10*(uR*Q)):=zd se.1 (za u0);unfold Nr at *
 grind
theorem Aa8{x:Bf}{i:Nat}(hi:i<x.length):x.getD i 0∈x:=by rw[Al,As hi]; exact zU hi
theorem Qd{k:Nat}{x:Bf}(hx:Bl k x)(hk:k<=900)(h:∀z∈x,z.toNat<2^64)(hl:x.length<=7):
 0<=vR (Cb x).toNat/\Bd (k+5) (Cb x).toNat/\Ln x.length (rv x) (vR (Cb x).toNat*(1+20*uR)+8*Ci)/\∀s,Ln x.length (rv x) s->vR (Cb x).toNat<=s*(1+20*uR)+8*Ci:=by
 have hf:=hx.FU;have u0:=Dc;have u1:=IZ;have e0:=Ee;have e1:Ci<=uR / 1000000:=NK;by_cases h0:∃z∈x,BH z≠0
 ·obtain⟨b3,b4,ba,hb⟩:=Jz hf;obtain⟨w,hw,w0,we⟩:=M8 hf h0;have yb:=Hl hf;have y1:=Oc hf h0;have yl:(B6 x (-BQ (BK x))).length=x.length:=by unfold B6; rw[AO]
  have y64:∀z∈B6 x (-BQ (BK x)),z.toNat<2^64:=fun z hz=>by obtain⟨v,hv,rfl⟩:=zh.1 hz;rw[Cj]; exact Oi (h v hv)
  obtain⟨c1,c2,c3,c4⟩:=Adu yb y64 (by rw[yl]; exact hl) y1;have wk:=Lp (Gl hf w hw);have ee:BQ (BK x)=E2 w.toNat:=by unfold BQ; rw[we,Mw w.toNat]; rfl
  have nz:¬(BK x=0\/D5 (BK x)=x5):=fun g=>by
   rcases g with g | g
   ·have:Ea w.toNat=0:=by rw[<- we,g]; rfl
    exact w0 (abs_zero this)
   ·unfold D5 at g; rw[Jn] at g; simp[b3,b4] at g
  have en:Cb x=BX (DQ (FX 0 0 (B6 x (-BQ (BK x))))) (BQ (BK x)):=by unfold Cb;rw[Ay nz,QJ _ x 0 (fun z hz=>⟨h z hz,Gl hf z hz⟩) yb]
  have wm:By w.toNat≠0:=fun e=>w0 ((Da wk.1 wk.2).1 e)
  have lg:=(hx w hw).log wm;obtain⟨x1,_⟩:=Lr wk.1 wk.2 w0;have Ku:BQ (BK x)<=(k:Int):=by rw[ee,x1]; omega
  have nb:Bd (k+5) (Cb x).toNat:=by rw[en,Cj]; exact Bd.scale (by omega) c4 (by omega)
  have nb':=nb;have sc:=GS (n:=BQ (BK x)) c4.1 c4.2.1 (by rw[<- Cj,<- en]; exact nb.1);rw[<- Cj,<- en] at sc
  have n0:0<=vR (Cb x).toNat:=by
   have np:Np (Cb x).toNat:=by
    obtain⟨t,te,t1,_⟩:=Ng 0 (B6 x (-BQ (BK x))) 0 (zo _);have te:FX 0 0 (B6 x (-BQ (BK x)))=t:=te
    have:Np t:=⟨t1,by have bm:=QK (k:=0) (yI 0) _ 0 1 yb (Bd.zero x5 2).bm (by decide) (by rw[yl]; omega);have bm:Bm _ 2 (FX 0 0 (B6 x (-BQ (BK x)))).toNat:=bm;rw[te,Ad] at bm; exact bm.2.1⟩
    rw[en,Cj,te,LG,Ad];exact To (Ss this)
   exact Wj (ET np.1)
  have ye:∀i,i<x.length->Nr (rv (B6 x (-BQ (BK x))) i) (rv x i*tw (-BQ (BK x))) Ci:=fun i hi=>by have m:=hx _ (Aa8 hi);have mb:=yb _ (Aa8 (x:=B6 x (-BQ (BK x))) (i:=i) (by rw[yl]; exact hi));rw[Th hi,Cj] at mb;rw[PS hi];exact GS m.1 m.2.1 mb.1
  have tt:tw (BQ (BK x))*tw (-BQ (BK x))=1:=by rw[<- Eu,wX]; exact KW
  have t0:=DP (BQ (BK x));have s0:=DP (-BQ (BK x));rw[yl] at c1 c3;clear en nb c4;generalize vR (DQ (FX 0 0 (B6 x (-BQ (BK x))))).toNat=r at *
  generalize rv (B6 x (-BQ (BK x)))=y at *
  generalize tw (BQ (BK x))=T at *
  generalize tw (-BQ (BK x))=I at *
  generalize vR (Cb x).toNat=N at *
  have er:Ln x.length (fun i=>rv x i*I-y i) (3*Ci):=Ln.Jk (za e0) (fun i hi=>by have:=ye i hi; unfold Nr at this; unfold Ab; grind) (by omega)
  have er2:Ln x.length (fun i=>y i-rv x i*I) (3*Ci):=er.neg.congr fun i _=>by grind
  generalize hQ:sq x.length y=Q at *
  have uQ:uR<=uR*Q:=by have:=zd c3 (za u0); grind
  have rr:999 / 1000<=r*r:=by unfold Nr at c1; have:=zb u1 (show 0<=Q by grind); grind
  have r1:9 / 10<=r:=GO c2 (by grind)
  have ly:Ln x.length y (r*(1+17*uR)):=by refine⟨zc c2 (by grind),?_⟩;rw[hQ];have k1:=c1.2;have k2:0<=uR*(r*r):=zc (za u0) (BS r);have k3:uR*(31*uR*Q)<=1 / 1000000*(31*uR*Q):=zb u1 (by grind);have k4:0<=uR*(uR*(r*r)):=zc (za u0) k2;have k5:=zd k1 (za u0);grind
  have ur:uR*(9 / 10)<=uR*r:=zd r1 (za u0);refine⟨n0,nb',?_,fun s hs=>?_⟩
  ·have l1:Ln x.length (fun i=>rv x i*I) (r*(1+18*uR)):=((ly.add er).congr fun i _=>by grind).mono (by grind);have l2:=l1.scale (c:=T) (B:=T) (by unfold Ab; grind)
   have l3:Ln x.length (rv x) (T*(r*(1+18*uR))):=l2.congr fun i _=>by
    have:T*(rv x i*I)=T*I*rv x i:=by grind
    rw[this,tt]; grind
   refine l3.mono ?_;have k1:=sc.2;have k2:=zb k1 (show 0<=1+18*uR by grind);have k3:=zd u1 (za e0);have k4:=zc (za u0) n0;grind
  ·have hs0:=hs.1;have l1:Ln x.length (fun i=>rv x i*I) (I*s):=(hs.scale (c:=I) (B:=I) (by unfold Ab; grind)).congr fun i _=>by grind
   have l2:Ln x.length y (I*s+3*Ci):=(l1.add er2).congr fun i _=>by grind
   have q1:=l2.2;rw[hQ] at q1;have z0:0<=I*s:=zc (za s0) hs0;have g1:(1:Rat)<=I*s+3*Ci:=GO (by grind) (by grind);have g2:9 / 10<=I*s:=by grind
   have us:uR*(9 / 10)<=uR*(I*s):=zd g2 (za u0);have g3:I*s+3*Ci<=I*s*(1+uR):=by grind
   have g0:0<=I*s*(1+uR):=zc z0 (by grind);have q2:Q<=I*s*(1+uR)*(I*s*(1+uR)):=zn q1 (H7 (by grind) g3)
   have q3:r*r<=I*s*(1+18*uR)*(I*s*(1+18*uR)):=by
    have k1:=c1.1;have p0:=BS (I*s);generalize I*s=p at *
    have k2:=zb q2 (show 0<=1+31*uR by grind);have k3:0<=uR*(p*p):=zc (za u0) p0;have k4:uR*(uR*(p*p))<=1 / 1000000*(uR*(p*p)):=zb u1 k3;have k5:uR*(uR*(uR*(p*p)))<=1 / 1000000*(uR*(uR*(p*p))):=zb u1 (zc (za u0) k3);have k6:0<=uR*(uR*(p*p)):=zc (za u0) k3;grind
   have q4:r<=I*s*(1+18*uR):=GO (zc z0 (by grind)) q3;have q5:=zb q4 (za t0)
   have q6:I*s*(1+18*uR)*T=s*(1+18*uR):=by
    have:I*s*(1+18*uR)*T=T*I*(s*(1+18*uR)):=by grind
    rw[this,tt]; grind
   have k1:=sc.1;have k4:=zc (za u0) hs0;grind
 ·
  have hz:∀z∈x,Bk z.toNat=0:=fun z hz=>by
   have:BH z=0:=yG fun g=>h0 ⟨z,hz,g⟩
   unfold BH at this; omega
  have b0:BK x=0:=by
   have eb:BK x=(IM x 0:Int):=rfl;rcases Q3 x 0 with g | g | ⟨z,hz',_,g⟩
   ·obtain⟨_,b4,_,_⟩:=Jz hf;exfalso; apply b4; rw[eb,g]; decide
   ·rw[eb,g]; rfl
   ·rw[eb,g];have:=Fq (hz z hz');unfold Ea; rw[this]; rfl
  have en:Cb x=0:=by unfold Cb; rw[Az (.inl b0),b0]
  have v0:vR 0=0:=HZ x5;have r0:∀i,i<x.length->rv x i=0:=fun i hi=>Gh (hz _ (Aa8 hi))
  rw[en];show 0<=vR 0/\Bd (k+5) 0/\Ln x.length (rv x) (vR 0*(1+20*uR)+8*Ci)/\∀s,Ln x.length (rv x) s->vR 0<=s*(1+20*uR)+8*Ci;rw[v0];refine⟨zI,Bd.zero x5 _,?_,fun s hs=>?_⟩
  ·exact((Ln.zero x.length).congr fun i hi=>r0 i hi).mono (by grind)
  ·have:=zc hs.1 (show 0<=1+20*uR by grind);grind
theorem ZN:uR<=1112 / 10000000000000000000:=by decide +kernel
def GK:Rat:=55000*uR
theorem Py:0<GK:=by have:=Dc; unfold GK; grind
theorem Zh:GK<=6116 / 1000000000000000:=by have:=ZN; unfold GK; grind
theorem PI.Ai2{R n:Nat}{F:Rat}{D:Nat->Nat->Rat}{m:Nat}{s:Bf × Bf × Bool}(_h:PI R n F D m s)(hm:m<=900):0<=(m:Rat)*(60*uR*1)/\(m:Rat)*(60*uR*1)<=54 / 55*GK:=by have hu:=Dc;have M0:=H9 m;have M1:(m:Rat)<=900:=Cy (n:=900) hm;have:=zb M1 (show 0<=60*uR*1 by grind);refine⟨zc M0 (by grind),?_⟩;unfold GK; grind
section
variable{R n:Nat}{F:Rat}{D:Nat->Nat->Rat}{m:Nat}{s:Bf × Bf × Bool}(h:PI R n F D m s)(hm:m<=900)(n6:n<=6)
include h hm n6
theorem PI.Ak3{p:Nat}(hp:p<n):Ln n (fun j=>(sm n fun k=>Bx n s.2.1 k j*Bx n s.2.1 k p)-if j=p then 1 else 0) (6*GK):=by
 have e0:=Py;obtain⟨k0,k1⟩:=h.Ai2 hm;generalize hK:(m:Rat)*(60*uR*1)=K at *
 have sw:=Wp n fun k i=>Bx n s.2.1 k i
 have b:(sm n fun k=>sm n fun l=>((sm n fun i=>Bx n s.2.1 k i*Bx n s.2.1 l i)-if k=l then 1 else 0)*((sm n fun i=>Bx n s.2.1 k i*Bx n s.2.1 l i)-if k=l then 1 else 0))<=sm n fun _=>sm n fun _=>K*K :=Ja n fun k hk=>Ja n fun l hl=>by have e:=h.e k l hk hl;rw[hK,G7] at e;have:=CU e e k0 (DZ _);rw[GA] at this;exact this
 have c:(sm n fun _=>sm n fun _=>K*K)=(n:Rat)*K*((n:Rat)*K):=by rw[QM,QM]; grind
 have n1:(n:Rat)<=6:=Cy (n:=6) n6;have n0:=H9 n
 have nk:(n:Rat)*K<=6*GK:=by have:=CU n1 k1 (by grind) k0; grind
 refine⟨by grind,?_⟩;have l2:=Amw (f:=fun j=>sm n fun i=>((sm n fun k=>Bx n s.2.1 k i*Bx n s.2.1 k j)-if i=j then 1 else 0)*((sm n fun k=>Bx n s.2.1 k i*Bx n s.2.1 k j)-if i=j then 1 else 0)) (fun i _=>K3 n fun j _=>BS _) hp;rw[HR (fun j i=>((sm n fun k=>Bx n s.2.1 k i*Bx n s.2.1 k j)-if i=j then 1 else 0)*((sm n fun k=>Bx n s.2.1 k i*Bx n s.2.1 k j)-if i=j then 1 else 0)) n,sw] at l2;refine zn l2 (zn b ?_);rw[c];exact H7 (zc n0 k0) nk
theorem PI.one{p:Nat}(hp:p<n):Nr (sm n fun k=>Bx n s.2.1 k p*Bx n s.2.1 k p) 1 (6*GK):=by
 have:=(h.Ak3 hm n6 hp).at hp;rw[show(if p=p then (1:Rat) else 0)=1 from Az rfl] at this;unfold Nr Ab at *
 grind
theorem PI.Ae3{p:Nat}(hp:p<n):Ln n (fun k=>Bx n s.2.1 k p) (101 / 100):=by have e:=h.one hm n6 hp;have:=Zh;refine⟨by grind,?_⟩;show(sm n fun k=>Bx n s.2.1 k p*Bx n s.2.1 k p)<=_;unfold Nr at e;grind
theorem PI.back(r6:R<=6)(hF:1<=F){M:Nat->Nat->Rat}(hd:∀i k,i<R->k<n->Nr (sm n fun j=>Bx n s.1 i j*Bx n s.2.1 k j) (M i k) (GK*F)){p:Nat}(hp:p<n):
 Ln R (fun i=>(sm n fun k=>M i k*Bx n s.2.1 k p)-Bx n s.1 i p) (25*GK*F):=by
 have e0:=Py;have e1:=Zh;have hu:=Dc;have g:=h.Ak3 hm n6 hp;have v:=h.Ae3 hm n6 hp;have fe:0<=GK*F:=zc (za e0) (by grind)
 have wl:∀i,i<R->Ln n (Bx n s.1 i) (101 / 100*F):=fun i hi=>(h.w.2.2 i hi).mono (by
  obtain⟨k0,k1⟩:=h.Ai2 hm;have:F*(1+60*uR*(m:Rat))=F*(1+(m:Rat)*(60*uR*1)):=by grind
  rw[this];have:=zd (show 1+(m:Rat)*(60*uR*1)<=101 / 100 by grind) (show 0<=F by grind);grind)
 have W:Fn R n (fun j i=>Bx n s.1 i j) (3*(101 / 100*F)):=(Fn.same (r:=n) (c:=R) (M:=fun i j=>Bx n s.1 i j) wl (by grind) (by omega)).ZQ;have t1:=W.mul g
 have E:Fn R n (fun k i=>M i k-sm n fun j=>Bx n s.1 i j*Bx n s.2.1 k j) (6*(GK*F)):=Fn.Jk fe (fun k i hk hi=>by have:=hd i k hi hk; unfold Nr at this; unfold Ab; grind) n6 r6
 have t2:=E.mul v;refine((t2.add t1).mono ?_).congr fun i hi=>?_
 ·grind
 ·show(sm n fun k=>M i k*Bx n s.2.1 k p)-Bx n s.1 i p=(sm n fun k=>(M i k-sm n fun j=>Bx n s.1 i j*Bx n s.2.1 k j)*Bx n s.2.1 k p)+sm n fun j=>Bx n s.1 i j*((sm n fun k=>Bx n s.2.1 k j*Bx n s.2.1 k p)-if j=p then 1 else 0)
  have a1:(sm n fun k=>(M i k-sm n fun j=>Bx n s.1 i j*Bx n s.2.1 k j)*Bx n s.2.1 k p)=(sm n fun k=>M i k*Bx n s.2.1 k p)+sm n fun k=>sm n fun j=>-(Bx n s.1 i j*Bx n s.2.1 k j*Bx n s.2.1 k p):=by
   rw[<- Eh];refine BD n fun k _=>?_
   have:(sm n fun j=>-(Bx n s.1 i j*Bx n s.2.1 k j*Bx n s.2.1 k p))=-((sm n fun j=>Bx n s.1 i j*Bx n s.2.1 k j)*Bx n s.2.1 k p):=by
    rw[<- IB];have e:=EG (-1) (fun j=>Bx n s.1 i j*Bx n s.2.1 k j*Bx n s.2.1 k p) n;have:(sm n fun j=>-(Bx n s.1 i j*Bx n s.2.1 k j*Bx n s.2.1 k p))=sm n fun j=>-1*(Bx n s.1 i j*Bx n s.2.1 k j*Bx n s.2.1 k p):=BD n fun j _=>by grind
    rw[this,e]; grind
   rw[this]; grind
  have a2:(sm n fun j=>Bx n s.1 i j*((sm n fun k=>Bx n s.2.1 k j*Bx n s.2.1 k p)-if j=p then 1 else 0))=(sm n fun j=>sm n fun k=>Bx n s.1 i j*Bx n s.2.1 k j*Bx n s.2.1 k p)+-Bx n s.1 i p:=by
   have o:(sm n fun j=>if j=p then -Bx n s.1 i j else 0)=-Bx n s.1 i p:=by rw[Pd hp (fun j _ hj=>Ay hj),Az rfl]
   rw[<- o,<- Eh];refine BD n fun j _=>?_
   have:(sm n fun k=>Bx n s.1 i j*Bx n s.2.1 k j*Bx n s.2.1 k p)=Bx n s.1 i j*sm n fun k=>Bx n s.2.1 k j*Bx n s.2.1 k p:=by rw[<- EG]; exact BD n fun k _=>by grind
   rw[this];split<;>grind
  rw[a1,a2,HR (fun j k=>Bx n s.1 i j*Bx n s.2.1 k j*Bx n s.2.1 k p) n]
  have a3:(sm n fun k=>sm n fun j=>-(Bx n s.1 i j*Bx n s.2.1 k j*Bx n s.2.1 k p))+(sm n fun k=>sm n fun j=>Bx n s.1 i j*Bx n s.2.1 k j*Bx n s.2.1 k p)=0:=by
   rw[<- Eh];rw[BD n (g:=fun _=>0) fun k _=>?_]
   ·exact FW n
   ·rw[<- Eh,BD n (g:=fun _=>0) fun j _=>by grind];exact FW n
  grind
end
theorem Hw{R n:Nat}{l:Bf}(hl:l.length=R*n){x:Int}(hx:x∈l):∃i k:Nat,i<R/\k<n/\x=CE (n:Int) l (i:Int) (k:Int):=by
 obtain⟨j,hj,rfl⟩:=wi.1 hx
 have hn:0<n:=by
  rcases Nat.eq_zero_or_pos n with h | h
  ·subst h; omega
  ·exact h
 refine⟨j / n,j%n,(Nat.div_lt_iff_lt_mul hn).2 (by omega),Nat.mod_lt _ hn,?_⟩;unfold CE
 have:(((j / n:Nat):Int)*(n:Int)+((j%n:Nat):Int)).toNat=j:=by rw[<- Ax,<- zt,Ad,A0];exact Nat.div_add_mod j n
 rw[this,Al,As hj];rfl
theorem Kp{R n:Nat}{l:Bf}(hl:l.length=R*n){i k:Nat}(hi:i<R)(hk:k<n):CE (n:Int) l (i:Int) (k:Int)∈l:=by
 unfold CE
 have e:((i:Int)*(n:Int)+(k:Int)).toNat=i*n+k:=by rw[<- Ax,<- zt,Ad]
 have:i*n+k<l.length:=by rw[hl]; exact Dw hi hk
 rw[e,Al,As this];exact zU this
theorem Nm{R n:Nat}{l:Bf}(hl:l.length=R*n){e:Int}{i k:Nat}(hi:i<R)(hk:k<n):CE (n:Int) (B6 l e) (i:Int) (k:Int)=BX (CE (n:Int) l (i:Int) (k:Int)) e:=by
 unfold CE
 have e2:((i:Int)*(n:Int)+(k:Int)).toNat=i*n+k:=by rw[<- Ax,<- zt,Ad]
 rw[e2];exact Th (by rw[hl]; exact Dw hi hk)
theorem Te(c:Nat)(f:Nat->Rat):∀r,sm (r*c) f=sm r fun i=>sm c fun j=>f (i*c+j)
 | 0=>by rw[zJ]; rfl
 | r+1=>by rw[Nat.succ_mul,Hj,Te c f r];rfl
theorem Nj{R n:Nat}{l:Bf}(hl:l.length=R*n):GB l=sm n fun k=>sq R fun i=>Bx n l i k:=by
 unfold GB sq;rw[W5,hl,Te,Me];refine BD n fun b _=>BD R fun i _=>?_
 unfold Bx I7 CE
 have e2:((i:Int)*(n:Int)+(b:Int)).toNat=i*n+b:=by rw[<- Ax,<- zt,Ad]
 show vR (l.getD (i*n+b) 0).toNat*vR (l.getD (i*n+b) 0).toNat=vR (l.getD ((i:Int)*(n:Int)+(b:Int)).toNat 0).toNat*vR (l.getD ((i:Int)*(n:Int)+(b:Int)).toNat 0).toNat;rw[e2]
theorem Wt{J:Nat}{l:Bf}(bl:Bl J l)(h:∃z∈l,BH z≠0):CC l<=(J:Int):=by
 obtain⟨w,hw,w0,we⟩:=M8 bl.FU h;have wk:=Lp (Gl bl.FU w hw);have ee:BQ (BK l)=E2 w.toNat:=by unfold BQ; rw[we,Mw w.toNat]; rfl
 have wm:By w.toNat≠0:=fun e=>w0 ((Da wk.1 wk.2).1 e)
 have lg:=(bl w hw).log wm;obtain⟨x1,_⟩:=Lr wk.1 wk.2 w0;unfold CC; rw[ee,x1]; omega
theorem ZM{l:Bf}(hf:DA l=xZ)(h:¬∃z∈l,BH z≠0):CC l=BQ 0:=by
 have b0:BK l=0:=by
  have eb:BK l=(IM l 0:Int):=rfl;rcases Q3 l 0 with g | g | ⟨z,hz',_,g⟩
  ·obtain⟨_,b4,_,_⟩:=Jz hf;exfalso; apply b4; rw[eb,g]; decide
  ·rw[eb,g]; rfl
  ·rw[eb,g];have k:BH z=0:=yG fun g=>h ⟨z,hz',g⟩
   have:=Fq (b:=z.toNat) (by unfold BH at k; omega);unfold Ea; rw[this]; rfl
 unfold CC; rw[b0]
theorem Afq{x e:Int}(h:BH x=0):(BX x e).toNat=x.toNat:=by rw[Cj];unfold BH at h;unfold Cl;rw[Ay (by omega),Az (.inr (by omega))]
section
variable{J R n:Nat}{l:Bf}(bl:Bl J l)(al:Bp l=xZ)(hl:l.length=R*n)(r6:R<=6)(n6:n<=6)
include bl hl
theorem Ab2{i k:Nat}(hi:i<R)(hk:k<n):Nr (Bx n (B6 l (-(CC l))) i k) (Bx n l i k*tw (-(CC l))) Ci:=by have b1:=Hl bl.FU;have m:=bl _ (Kp hl hi hk);have m1:=b1 _ (zh.2 ⟨_,Kp hl hi hk,rfl⟩);unfold Bx;rw[Nm hl hi hk,Cj];rw[Cj] at m1;exact GS m.1 m.2.1 m1.1
include al r6 n6
theorem UP:∃(F:Rat) (m:Nat),1<=F/\F<=12/\m<=900/\PI R n F (fun i k=>Bx n (B6 l (-(CC l))) i k) m ((De R n l).1,(De R n l).2.1,xZ) /\
 Fn R n (fun k i=>Bx n (B6 l (-(CC l))) i k) F/\(((∀x∈l,BH x=0)/\F=1)\/(1<=(sm n fun k=>sq R fun i=>Bx n (B6 l (-(CC l))) i k)/\F*F<=103 / 100*(sm n fun k=>sq R fun i=>Bx n (B6 l (-(CC l))) i k))):=by
 have b1:Bl 1 (B6 l (-(CC l))):=Hl bl.FU;have l1:(B6 l (-(CC l))).length=R*n:=by unfold B6; rw[AO,hl]
 have one:(∃z∈l,BH z≠0)->1<=(sm n fun k=>sq R fun i=>Bx n (B6 l (-(CC l))) i k):=fun h=>by
  obtain⟨y,hy,g⟩:=Oc bl.FU h;obtain⟨i,k,hi,hk,e⟩:=Hw l1 hy;have h1:=Jj g;have e1:vR y.toNat=Bx n (B6 l (-(CC l))) i k:=by unfold Bx; rw[<- e]
  rw[e1] at h1;have h2:=KZ (f:=fun i=>Bx n (B6 l (-(CC l))) i k*Bx n (B6 l (-(CC l))) i k) hi fun i _=>BS _
  have h3:=KZ (f:=fun k=>sq R fun i=>Bx n (B6 l (-(CC l))) i k) hk fun k _=>IA _ _
  have h4:=H7 (x:=1) (by decide) h1;rw[GA] at h4;unfold sq at h3;unfold sq;grind
 have a64:Bp (B6 l (-(CC l)))=xZ:=by
  refine Bv.2 fun x hx=>?_
  obtain⟨z,hz,rfl⟩:=zh.1 hx;exact Gi (Bv.1 al z hz)
 generalize hw:B6 l (-(CC l))=w at *
 have most:(sm n fun k=>sq R fun i=>Bx n w i k)<=12*12:=by
  have:=(Fn.Jk (r:=R) (c:=n) (M:=fun k i=>Bx n w i k) (B:=2) (by decide) (fun k i hk hi=>by have:=RQ (b1 _ (Kp l1 hi hk));have t:tw ((1:Nat):Int)=2:=tw1;rw[t] at this; exact this) n6 r6).2
  grind
 have fr:∃F:Rat,1<=F/\F<=12/\(sm n fun k=>sq R fun i=>Bx n w i k)<=F*F/\(((∀x∈l,BH x=0)/\F=1)\/(1<=(sm n fun k=>sq R fun i=>Bx n w i k)/\F*F<=103 / 100*(sm n fun k=>sq R fun i=>Bx n w i k))):=by
  by_cases h:∃z∈l,BH z≠0
  ·have h1:=one h;generalize (sm n fun k=>sq R fun i=>Bx n w i k)=S at *
   obtain⟨s,s0,s1,s2⟩:=Vs (q:=S) (by grind);have s3:1<=s:=GO (za s0) (by grind);by_cases g:s<=12
   ·exact⟨s,s3,g,s1,.inr ⟨h1,s2⟩⟩
   ·refine⟨12,by decide,zI,most,.inr ⟨h1,?_⟩⟩;have:=H7 (x:=12) (y:=s) (by decide) (by grind);grind
  ·refine⟨1,zI,by decide,?_,.inl ⟨fun x hx=>yG fun g=>h ⟨x,hx,g⟩,rfl⟩⟩
   have z:(sm n fun k=>sq R fun i=>Bx n w i k)=sm n fun _=>0:=BD n fun k hk=>by
    unfold sq;rw[<- FW R];refine BD R fun i hi=>?_
    have:Bx n w i k=0:=by
     unfold Bx;rw[<- hw,Nm hl hi hk];have k0:BH (CE (n:Int) l (i:Int) (k:Int))=0:=yG fun g=>h ⟨_,Kp hl hi hk,g⟩
     rw[Afq k0];exact Gh (by unfold BH at k0; omega)
    show Bx n w i k*Bx n w i k=0;rw[this]; grind
   rw[z,FW]; grind
 obtain⟨F,f1,f12,fS,f3⟩:=fr;have FN:Fn R n (fun k i=>Bx n w i k) F:=⟨by grind,fS⟩
 have sv:SvS R n F w:=⟨a64,fun i j hi hj=>(b1 _ (Kp l1 hi hj)).mono (by decide),fun i hi=>FN.row hi⟩
 obtain⟨m,hm,p⟩:=PI.rounds f1 f12 r6 n6 (BX (Cb w) (-44)) 60 0 (PI.start sv) (by omega);refine⟨F,m,f1,f12,by omega,?_,FN,f3⟩;unfold De;rw[hw];exact p
end
theorem PF{R n:Nat}{l:Bf}{j:Nat}(hj:j<n):∃p:Nat,p<n/\(Ly R n l).getD j 0=(p:Int):=by
 have hp:Im n (Ly R n l)=xZ:=Ye (WK n);have hn:(Ly R n l).length=n:=by unfold Ly Afl; rw[Ve,Nx]
 obtain⟨h1,h2⟩:=Qt hp (j:=j) (by rw[hn]; exact hj);exact⟨((Ly R n l).getD j 0).toNat,by omega,(xy h1).symm⟩
theorem Ws{R n:Nat}{l:Bf}{i j p:Nat}(hi:i<n)(hj:j<n)(hp:(Ly R n l).getD j 0=(p:Int)):CE (n:Int) (Fv R n l) (i:Int) (j:Int)=CE (n:Int) (De R n l).2.1 (i:Int) (p:Int):=by unfold Fv Dz;rw[EU hi hj,hp]
theorem Sj{R n:Nat}{l:Bf}{i j p:Nat}(hi:i<R)(hj:j<n)(hp:(Ly R n l).getD j 0=(p:Int)):CE (n:Int) (EF R n l) (i:Int) (j:Int)=BX (CE (n:Int) (De R n l).1 (i:Int) (p:Int)) (CC l):=by unfold EF;rw[Nm (R:=R) (show(Dz R n (De R n l).1 (Ly R n l)).length=R*n from BW _ _ _) hi hj];unfold Dz;rw[EU hi hj,hp]
section
variable{J R n:Nat}{l:Bf}{F:Rat}{D:Nat->Nat->Rat}{m:Nat}(h:PI R n F D m ((De R n l).1,(De R n l).2.1,xZ))
include h
theorem Wr{i j:Nat}(hi:i<n)(hj:j<n):Bd 5 (CE (n:Int) (Fv R n l) (i:Int) (j:Int)).toNat:=by obtain⟨p,hp,e⟩:=PF (R:=R) (l:=l) hj;rw[Ws hi hj e];exact h.v.2.1 i p hi hp
theorem Wq(bl:Bl J l)(hJ:J<=900){i j:Nat}(hi:i<R)(hj:j<n):Bd (J+5) (CE (n:Int) (EF R n l) (i:Int) (j:Int)).toNat:=by
 obtain⟨p,hp,e⟩:=PF (R:=R) (l:=l) hj;rw[Sj hi hj e,Cj];refine Bd.scale (by omega) (h.w.2.1 i p hi hp) ?_;by_cases k:∃z∈l,BH z≠0
 ·have:=Wt bl k; omega
 ·have:=ZM bl.FU k;have e0:BQ 0<=0:=by decide +kernel
  omega
theorem AhG:Bl 5 (Fv R n l):=fun x hx=>by obtain⟨i,k,hi,hk,rfl⟩:=Hw (R:=n) (n:=n) (by unfold Fv Dz; exact BW _ _ _) hx;exact Wr h hi hk
theorem AhF(bl:Bl J l)(hJ:J<=900):Bl (J+5) (EF R n l):=fun x hx=>by obtain⟨i,k,hi,hk,rfl⟩:=Hw (R:=R) (n:=n) (by unfold EF B6; rw[AO]; exact BW _ _ _) hx;exact Wq h bl hJ hi hk
theorem Ac9(bl:Bl J l)(hJ:J<=900){i j p:Nat}(hi:i<R)(hj:j<n)(hp:p<n)(e:(Ly R n l).getD j 0=(p:Int)):Nr (Bx n (EF R n l) i j) (Bx n (De R n l).1 i p*tw (CC l)) Ci:=by have b:=h.w.2.1 i p hi hp;have c:=Wq h bl hJ hi hj;rw[Sj hi hj e,Cj] at c;unfold Bx;rw[Sj hi hj e,Cj];exact GS b.1 b.2.1 c.1
end
open Go.Den Go.Proofs.S1
theorem AiK{r c:Nat}{l:Bf}(hr:r<=6)(h:Bl 100 l)(al:Bp l=xZ):∃x,Hq r c l=xQ x:=by
 unfold Hq;by_cases h0:r=0
 ·have:Fh r c=0:=by unfold Fh; omega
  rw[this]; exact⟨_,rfl⟩
 ·have h5:Fh r c<=5:=by unfold Fh; omega
  exact Acv (by omega) _ 0 100 l h al (by omega) (AgP h0)
theorem Za{r c:Nat}{l:Bf}(hr:r<=6)(hK:Bl 100 l)(al:Bp l=xZ):
 Ah0 r c 5 l (FY r c l) (H3 r c l)/\(∀b i:Nat,b<c->b<i->i<r->cl c (FY r c l) b i=0)/\Bl 155 (FY r c l)/\Bl 55 (H3 r c l)/\(Hq r c l).isSome=xZ:=by
 obtain⟨x,hx⟩:=AiK (c:=c) hr hK al;have eR:FY r c l=x.1:=by unfold FY; rw[hx]
 have eQ:H3 r c l=I5 r 0 x.2 (F2 r):=by unfold H3; rw[hx]
 rw[eR,eQ];unfold Hq at hx;have h5:Fh r c<=5:=by unfold Fh; omega
 have hz:Fh r c=0\/0+Fh r c<r:=by unfold Fh; omega
 obtain⟨h1,h2⟩:=Acm hr (Fh r c) 0 100 l x hK al (by omega) (fun b i hb=>by omega) (by unfold Fh; omega) hz hx;obtain⟨d1,d2,d3⟩:=Ul (by omega) (Fh r c) 0 100 l x hK al (by omega) hx;have qb:=Ux (n:=r) x.2 0 0 (F2 r) d2 (Acp r) (by omega);have N:((Fh r c:Nat):Rat)<=((5:Nat):Rat):=Cy h5;have u0:=za Dc;have uN:=H6 N;refine⟨⟨fun m hm=>(h1.q1 m hm).mono (by grind),fun a m ha hm=>zn (h1.q2 a m ha hm) (by grind),fun b s hb hs h=>(h1.f1 b s hb hs h).mono ?_,fun b s hb hs h=>(h1.f2 b s hb hs h).mono ?_⟩,fun b i hb hbi hi=>?_,d1.mono (by omega),qb.mono (by omega),?_⟩
 ·have:=zb uN h.1;grind
 ·have:=zb uN h.1;grind
 ·by_cases hb2:b<0+Fh r c
  ·exact h2 b i hb2 hbi hi
  ·exfalso;unfold Fh at hb2;omega
 ·show(HW r c (Fh r c) 0 l).isSome=xZ;rw[hx]; rfl
section
variable{r c:Nat}{l:Bf}(r6:r<=6)(c6:c<=6)(hc:c<=r)(hl:l.length=r*c)(al:Bp l=xZ)(bA:Bl 100 l)
include r6 c6 hl al bA
theorem Rm:Fp (r:Int) (c:Int) l=0/\(FY r c l).length=r*c/\(H3 r c l).length=r*r/\Bp (FY r c l)=xZ/\Bp (H3 r c l)=xZ:=by obtain⟨F,_,bR,bQ,hs⟩:=Za (c:=c) r6 bA al;obtain⟨a1,a2⟩:=Acn al hl hs;obtain⟨a3,a4⟩:=Xl (c:=c) (l:=l) hs;refine⟨?_,a2,a4,a1,a3⟩;unfold Fp;rw[Ay (fun k=>k (M6 (D3 r6 c6 hl) bA.FU)),Ad,Ad,Az];unfold NJ;rw[hs,bQ.FU,bR.FU]; rfl
include hc
theorem AeR:PA (r:Int) (c:Int) l=((c:Int),(c:Int),El r c l,0):=by obtain⟨h0,hR,hQ,aR,aQ⟩:=Rm r6 c6 hl al bA;unfold PA;rw[Ay (fun k=>k h0),show min (r:Int) (c:Int)=(c:Int) by omega,Ad,Ad,QZ (D3 r6 c6 hR) hc (AB c)];rfl
theorem AeS:U8 (r:Int) (c:Int) l=((r:Int),(c:Int),K0 r c l,0):=by obtain⟨h0,hR,hQ,aR,aQ⟩:=Rm r6 c6 hl al bA;unfold U8;rw[Ay (fun k=>k h0),show min (r:Int) (c:Int)=(c:Int) by omega,Ad,Ad,QZ (D3 r6 r6 hQ) (AB r) hc];rfl
omit c6 hl in
theorem AbC:(∀a k,a<c->k<c->Nr (sm r fun i=>Bx c (K0 r c l) i a*Bx c (K0 r c l) i k) (OV a k) (5000*uR))/\∀i k:Nat,i<r->k<c->Bd 1 (CE (c:Int) (K0 r c l) (i:Int) (k:Int)).toNat:=by
 obtain⟨F,_,_,bQ,_⟩:=Za (c:=c) r6 bA al;have five:((5:Nat):Rat)=5:=rfl
 have ent:∀i k:Nat,i<r->k<c->CE (c:Int) (K0 r c l) (i:Int) (k:Int)=CE (r:Int) (H3 r c l) (i:Int) (k:Int):=fun i k hi hk=>by unfold K0; rw[EU hi hk]
 refine⟨fun a k ha hk=>?_,fun i k hi hk=>?_⟩
 ·have q2:=F.q2 a k (by omega) (by omega);rw[five] at q2
  have e:(sm r fun i=>Bx c (K0 r c l) i a*Bx c (K0 r c l) i k)=sm r fun i=>cl r (H3 r c l) a i*cl r (H3 r c l) k i:=BD r fun i hi=>by unfold Bx cl;rw[ent i a hi ha,ent i k hi hk]
  rw[e];have q2:=(G7 (x:=sm r fun i=>cl r (H3 r c l) a i*cl r (H3 r c l) k i) (y:=dl a k)).2 q2;have ed:dl a k=OV a k:=rfl;rw[ed] at q2;exact q2.mono (by grind)
 ·rw[ent i k hi hk];have b:=RR (c:=(r:Int)) (i:=(i:Int)) (j:=(k:Int)) bQ;refine VY b ?_;have:=(F.q1 k (by omega)).at hi;rw[five] at this;have e2:tw ((1:Nat):Int)=2:=tw1;rw[e2];have u6:=IZ;have:Ab (vR (CE (r:Int) (H3 r c l) (i:Int) (k:Int)).toNat) _:=this;unfold Ab at *
  grind
end
theorem AfB{R C a b i:Nat}{l:Bf}(hr:BA (R:Int) (C:Int) l=xZ)(ha:i+a<=R)(hb:b<=C):Fy (R:Int) (C:Int) l (i:Int) 0 (a:Int) (b:Int)=((a:Int),(b:Int),BZ a b fun j k=>CE (C:Int) l ((i+j:Nat):Int) (k:Int),0):=by
 unfold Fy;rw[Az hr,Az (by unfold K8; exact Ac (by omega)),Ad,Ad]
 have:(fun j k:Nat=>CE (C:Int) l ((i:Int)+(j:Int)) (0+(k:Int)))=fun j k:Nat=>CE (C:Int) l ((i+j:Nat):Int) (k:Int):=by
  funext j k
  rw[yJ,zt]
 show((a:Int),(b:Int),BZ a b (fun j k:Nat=>CE (C:Int) l ((i:Int)+(j:Int)) (0+(k:Int))),(0:Int))=_;rw[this]
theorem TO{a b:Int}(a4:Bk a.toNat≠4)(b4:Bk b.toNat≠4)(h:YH a b=x5):vR b.toNat<=vR a.toNat:=by
 have h:=of_decide_eq_false h;unfold G4 Ado at h;rw[Ay (fun k=>k.elim a4 b4)] at h;have k:¬GG a.toNat<GG b.toNat:=fun k=>h (by rw[Az k]; decide)
 have pa:=(CO a.toNat).1;have pb:=(CO b.toNat).1
 have v:EI b.toNat (-1074)<=EI a.toNat (-1074):=by have:=mt (ZG (f:=-1074) a4 b4 pa pb).1 k;omega
 rw[<- XO pa,<- XO pb];exact zb (Rat.intCast_le_intCast.2 v) (za (DP _))
theorem Ai1(b:Int):vR (KQ b).toNat=av (vR b.toNat):=by
 rw[S8];have e1:Ij (Ea b.toNat)=Ij b.toNat:=Y8 (by unfold Ea; omega) _
 have e2:Cd (Ea b.toNat)=x5:=by unfold Cd;exact Ag (by have:=QD b.toNat; omega)
 rw[Sh (Ea b.toNat),Sh b.toNat,e1,e2];have hn:=L8 (Ij b.toNat) (-1074);unfold Lz;cases Cd b.toNat
 ·unfold av; simp only[Bool.false_eq_true,if_false,wh]; rw[Az hn]
 ·have e:(if xZ=xZ then (-1:Rat) else 1)=-1:=rfl;have e':(if x5=xZ then (-1:Rat) else 1)=1:=rfl;rw[e,e'];unfold av;split<;>grind
theorem Ads{y:Bf}(hy:Bl 1 y)(h64:∀z∈y,z.toNat<2^64)(hl:y.length<=60):Bd 5 (Cb y).toNat:=by
 have hf:=hy.FU;by_cases h0:∃z∈y,BH z≠0
 ·obtain⟨b3,b4,_,_⟩:=Jz hf;obtain⟨w,hw,w0,we⟩:=M8 hf h0;have wk:=Lp (Gl hf w hw);have ee:BQ (BK y)=E2 w.toNat:=by unfold BQ; rw[we,Mw w.toNat]; rfl
  have nz:¬(BK y=0\/D5 (BK y)=x5):=fun g=>by
   rcases g with g | g
   ·have:Ea w.toNat=0:=by rw[<- we,g]; rfl
    exact w0 (abs_zero this)
   ·unfold D5 at g; rw[Jn] at g; simp[b3,b4] at g
  have yb:=Hl hf;have yl:(B6 y (-BQ (BK y))).length=y.length:=by unfold B6; rw[AO]
  have en:Cb y=BX (DQ (FX 0 0 (B6 y (-BQ (BK y))))) (BQ (BK y)):=by unfold Cb;rw[Ay nz,QJ _ y 0 (fun z hz=>⟨h64 z hz,Gl hf z hz⟩) yb]
  obtain⟨t,te,t1,_⟩:=Ng 0 (B6 y (-BQ (BK y))) 0 (zo _);have te:FX 0 0 (B6 y (-BQ (BK y)))=t:=te;have bm:=QK (k:=0) (yI 0) _ 0 1 yb (Bd.zero x5 2).bm (by decide) (by rw[yl]; omega);have bm:Bm (1+(B6 y (-BQ (BK y))).length) 2 (FX 0 0 (B6 y (-BQ (BK y)))).toNat:=bm;rw[te,Ad,yl] at bm;have bt:Bd (4+4) t:=(bm.bd (j:=6) (by omega)).mono (by decide);have br:Bd 4 (E4 t).1:=Bd.root (by decide) bt (ET t1);have wm:By w.toNat≠0:=fun e=>w0 ((Da wk.1 wk.2).1 e)
  have lg:=(hy w hw).log wm;obtain⟨x1,_⟩:=Lr wk.1 wk.2 w0;rw[en,te,Cj,LG,Ad];exact Bd.scale (by decide) br (by rw[ee,x1]; omega)
 ·have b0:BK y=0:=by
   have eb:BK y=(IM y 0:Int):=rfl;rcases Q3 y 0 with g | g | ⟨z,hz',_,g⟩
   ·obtain⟨_,b4,_,_⟩:=Jz hf;exfalso; apply b4; rw[eb,g]; decide
   ·rw[eb,g]; rfl
   ·rw[eb,g];have k:BH z=0:=yG fun g=>h0 ⟨z,hz',g⟩
    have:=Fq (b:=z.toNat) (by unfold BH at k; omega);unfold Ea; rw[this]; rfl
  have en:Cb y=0:=by unfold Cb; rw[Az (.inl b0),b0]
  rw[en]; exact Bd.zero x5 5
theorem AkP{x y:Bf}{w0:Bf}{n:Nat}(hx:Bl 5 x)(hy:Bl 5 y)(x64:∀z∈x,z.toNat<2^64)(y64:∀z∈y,z.toNat<2^64)(lx:x.length=n)(ly:y.length=n)(n6:n<=6)(hw:Bl 1 w0)(w64:∀z∈w0,z.toNat<2^64)(wl:w0.length<=60)
 (ax:Ln n (rv x) 40) (ay:Ln n (rv y) 40) (hb:MW x y (BX (Cb w0) (-44))=xZ):Ab (sm n fun i=>rv x i*rv y i) (tw (-32)):=by
 have u0:=Dc;have u6:=IZ;have h0:=Ee;have h1:Ci<=uR / 1000000:=NK;have uf:=ZN;have t32:tw (-32)=1 / 4294967296:=by decide +kernel
 have t44:tw (-44)=1 / 17592186044416:=by decide +kernel
 have nb:=Ads hw w64 wl;have lb:Bd 5 (BX (Cb w0) (-44)).toNat:=by rw[Cj]; exact Bd.scale (by decide) nb (by decide)
 have ls:=GS (n:=-44) nb.1 nb.2.1 (by rw[<- Cj]; exact lb.1);rw[<- Cj] at ls;have n32:=RQ nb;have t5:tw ((5:Nat):Int)=32:=by decide +kernel
 rw[t5] at n32
 have lo:vR (BX (Cb w0) (-44)).toNat<=1 / 500000000000:=by rw[t44] at ls;unfold Nr at ls; unfold Ab at n32; grind
 obtain⟨nx0,bx,nx1,nx2⟩:=Qd hx (by decide) x64 (by omega);obtain⟨ny0,b_y,ny1,ny2⟩:=Qd hy (by decide) y64 (by omega);rw[lx] at nx1 nx2;rw[ly] at ny1 ny2;unfold MW at hb;rw[zK,zK,yw,yw,yw] at hb;rw[t32];rcases hb with (h | h) | h
 ·have v:=TO lb.2.1 bx.2.1 h
  have l1:Ln n (rv x) (1 / 400000000000):=nx1.mono (by have:=zb (zn v lo) (show 0<=1+20*uR by grind);grind)
  have:=l1.dot ay;unfold Ab at *; grind
 ·have v:=TO lb.2.1 b_y.2.1 h
  have l1:Ln n (rv y) (1 / 400000000000):=ny1.mono (by have:=zb (zn v lo) (show 0<=1+20*uR by grind);grind)
  have:=ax.dot l1;unfold Ab at *; grind
 ·have mb:Bd 20 (C0 (Cb x) (Cb y)).toNat:=by rw[EN]; exact Bd.mul (j:=10) (k:=10) (by decide) bx b_y
  have sb:Bd 20 (BX (C0 (Cb x) (Cb y)) (-44)).toNat:=by rw[Cj]; exact Bd.scale (by decide) mb (by decide)
  have gb:Bd 13 (Fk x y).toNat:=Ls (j:=5) (k:=5) (by decide) hx hy (by omega);have g4:Bk (KQ (Fk x y)).toNat≠4:=by rw[S8,Rk]; exact gb.2.1
  have v:=TO sb.2.1 g4 h;rw[Ai1] at v
  have x41:vR (Cb x).toNat<=41:=by have:=nx2 40 ax; grind
  have y41:vR (Cb y).toNat<=41:=by have:=ny2 40 ay; grind
  have pr:Ab (vR (Cb x).toNat*vR (Cb y).toNat) 1681:=by have:=CU x41 y41 (by decide) ny0;have:=zc nx0 ny0;unfold Ab; grind
  have m1:=Lf bx.1 bx.2.1 b_y.1 b_y.2.1 (by rw[<- EN]; exact mb.1) pr;rw[<- EN] at m1;have s1:=GS (n:=-44) mb.1 mb.2.1 (by rw[<- Cj]; exact sb.1);rw[<- Cj,t44] at s1;have d1:=Xq (j:=5) (k:=5) (by decide) (lx.trans ly.symm) (by omega) hx hy (by rw[lx]; exact ax) (by rw[lx]; exact ay);rw[lx] at d1;have gab:=G1 (vR (Fk x y).toNat);generalize vR (Fk x y).toNat=G at *
  generalize vR (C0 (Cb x) (Cb y)).toNat=M at *
  generalize vR (BX (C0 (Cb x) (Cb y)) (-44)).toNat=S at *
  generalize vR (Cb x).toNat*vR (Cb y).toNat=Q at *
  generalize (sm n fun i=>rv x i*rv y i)=D at *
  clear nx1 nx2 ny1 ny2 ls;unfold Nr Ab at *
  grind
section
variable{J R n:Nat}{l:Bf}
theorem Vd(bl:Bl J l)(hl:l.length=R*n)(r6:R<=6)(n6:n<=6):Nr (sm n fun k=>sq R fun i=>Bx n (B6 l (-(CC l))) i k) (GB l*(tw (-(CC l))*tw (-(CC l)))) uR:=by
 have h0:=Ee;have h1:Ci<=uR / 1000000:=NK;have u6:=IZ;have b1:Bl 1 (B6 l (-(CC l))):=Hl bl.FU;have l1:(B6 l (-(CC l))).length=R*n:=by unfold B6; rw[AO,hl]
 have e:GB l*(tw (-(CC l))*tw (-(CC l)))=sm n fun k=>sq R fun i=>Bx n l i k*tw (-(CC l)):=by
  rw[Nj hl,<- IB];refine BD n fun k _=>?_
  unfold sq;rw[<- IB];exact BD R fun i _=>by grind
 rw[e]
 have key:∀k,k<n->Nr (sq R fun i=>Bx n (B6 l (-(CC l))) i k) (sq R fun i=>Bx n l i k*tw (-(CC l))) ((R:Rat)*(7*Ci)):=fun k hk=>PN R fun i hi=>by
  have n1:=Ab2 bl hl hi hk;have n2:=RQ (b1 _ (Kp l1 hi hk));have t:tw ((1:Nat):Int)=2:=tw1;rw[t] at n2;have n2:Ab (Bx n (B6 l (-(CC l))) i k) 2:=n2;show Nr (Bx n (B6 l (-(CC l))) i k*Bx n (B6 l (-(CC l))) i k) (Bx n l i k*tw (-(CC l))*(Bx n l i k*tw (-(CC l)))) (7*Ci);generalize Bx n (B6 l (-(CC l))) i k=X at *
  generalize Bx n l i k*tw (-(CC l))=Y at *
  clear e;refine(PL (B:=3) n1 ?_ (za h0)).mono ?_
  ·unfold Nr at n1; unfold Ab at *; grind
  ·have:=zd (show 2*3+Ci<=7 by grind) (za h0); grind
 refine(PN n key).mono ?_;have r1:(R:Rat)<=6:=Cy (n:=6) r6;have n1:(n:Rat)<=6:=Cy (n:=6) n6;have r0:=H9 R;have n0:=H9 n;have a1:(R:Rat)*(7*Ci)<=6*(7*Ci):=zb r1 (by grind);have a0:0<=(R:Rat)*(7*Ci):=zc r0 (by grind);have a2:=CU n1 a1 (by decide) a0;grind
end
theorem Ag2{M u e ep F:Rat}(hM:M<=54 / 55*ep)(he:e<=u / 1000000)(hu:0<u)(eu:55000*u=ep)(f1:1<=F):M*F+e<=ep*F:=by have h1:=zb hM (show 0<=F by grind);have h2:=zd f1 (show 0<=1 / 55*ep by grind);grind
theorem XP{J R n:Nat}{l:Bf}(bl:Bl J l)(hl:l.length=R*n){F:Rat}{m:Nat}{s:Bf × Bf × Bool}(f1:1<=F)(hm:m<=900)(pi:PI R n F (fun i k=>Bx n (B6 l (-(CC l))) i k) m s):
 ∀i k,i<R->k<n->Nr (sm n fun j=>Bx n s.1 i j*Bx n s.2.1 k j) (Bx n l i k*tw (-(CC l))) (GK*F):=fun i k hi hk=>by
 refine((pi.d i k hi hk).trans (Ab2 bl hl hi hk)).mono ?_;have:(m:Rat)*(60*uR*F)=(m:Rat)*(60*uR*1)*F:=by grind
 rw[this];exact Ag2 (pi.Ai2 hm).2 NK Dc rfl f1
theorem AeB{J R n:Nat}{l:Bf}{F:Rat}{D:Nat->Nat->Rat}{m:Nat}(pi:PI R n F D m ((De R n l).1,(De R n l).2.1,xZ))(bl:Bl J l)(hJ:J<=800)(r6:R<=6){j:Nat}(hj:j<n):
 0<=vR (Cb (Du R n (EF R n l) j)).toNat/\Bd (J+10) (Cb (Du R n (EF R n l) j)).toNat/\Ln R (fun i=>Bx n (EF R n l) i j) (vR (Cb (Du R n (EF R n l) j)).toNat*(1+20*uR)+8*Ci) /\
 ∀s,Ln R (fun i=>Bx n (EF R n l) i j) s->vR (Cb (Du R n (EF R n l) j)).toNat<=s*(1+20*uR)+8*Ci:=by
 obtain⟨p,hp,ep⟩:=PF (R:=R) (n:=n) (l:=l) (j:=j) hj
 have wb:Bl (J+5) (Du R n (EF R n l) j):=fun y hy=>by obtain⟨i,hi,rfl⟩:=zh.1 hy;have hi:=zT.1 hi;rw[yJ];exact Wq pi bl (by omega) hi hj
 have w64:∀y∈Du R n (EF R n l) j,y.toNat<2^64:=fun y hy=>by obtain⟨i,hi,rfl⟩:=zh.1 hy;have hi:=zT.1 hi;rw[yJ,Sj hi hj ep,Cj];refine Oi ?_;have:=Bv.1 (show Br (CE (n:Int) (De R n l).1 (i:Int) (p:Int))=xZ from Ft pi.w.1);omega
 have wl:(Du R n (EF R n l) j).length=R:=DO _ _ _ _ _;obtain⟨n0,n1,n2,n3⟩:=Qd wb (by omega) w64 (by rw[wl]; omega);rw[wl] at n2 n3
 have rw1:∀i,i<R->rv (Du R n (EF R n l) j) i=Bx n (EF R n l) i j:=fun i hi=>by unfold rv Du Bx Dm;rw[Al,Ba,ym hi];show vR (CE (n:Int) (EF R n l) (0+(i:Int)) (j:Int)).toNat=_;rw[yJ]
 exact⟨n0,n1,n2.congr fun i hi=>(rw1 i hi).symm,fun s hs=>n3 s (hs.congr fun i hi=>rw1 i hi)⟩
theorem Aac(R n:Nat)(B:Nat->Nat->Rat)(c:Rat):(sm n fun k=>sq R fun i=>B i k*c)=(sm n fun k=>sq R fun i=>B i k)*(c*c):=by
 rw[<- IB];refine BD n fun k _=>?_
 unfold sq;rw[<- IB];exact BD R fun i _=>by grind
theorem VE(key:Int->Int)(x:Int):∀l:Bf,(NF key x l).Perm (x::l)
 | []=>wY _
 | y::t=>by
   unfold NF;split
   ·exact((VE key x t).cons y).trans (List.Perm.swap x y t)
   ·exact wY _
theorem Uc(key:Int->Int):∀(l acc:Bf),(l.foldl (fun acc x=>NF key x acc) acc).Perm (l++acc)
 | [],acc=>wY _
 | x::l,acc=>by refine(Uc key l (NF key x acc)).trans ?_;refine((VE key x acc).append_left l).trans ?_;exact List.perm_middle
theorem UQ(R n:Nat)(l:Bf):(Ly R n l).Perm (Kb n):=by unfold Ly Afl EC OH;refine(List.reverse_perm _).trans ?_;have:=Uc (NC (CX R n (De R n l).1)) (Kb n) [];rw[List.append_nil] at this;exact this
section
variable{R n:Nat}{l:Bf}{F:Rat}{D:Nat->Nat->Rat}{m:Nat}(h:PI R n F D m ((De R n l).1,(De R n l).2.1,xZ))(hm:m<=900)(n6:n<=6)
include h hm n6
end
theorem Ai4{R P C:Nat}{q:Nat->Nat->Rat}{v z w x:Nat->Rat}{T I F:Rat}(c6:C<=6)
 (ho:∀a k,a<C->k<C->Nr (sm (R+P) fun i=>q i a*q i k) (OV a k) (5000*uR))
 (lv:Ln C v (101 / 100)) (lz:Ln C z (101 / 100)) (vz:Ab (sm C fun k=>v k*z k) (6*GK)) (TI:T*I=1) (T0:0<T) (T2:T<=2) (F0:0<=F) (FT:F*T<=3)
 (bv:Ln R (fun i=>(sm C fun k=>q i k*I*v k)-w i) (25*GK*F)) (bz:Ln R (fun i=>(sm C fun k=>q i k*I*z k)-x i) (25*GK*F))
 (lw:Ln R w (102 / 100*F)) (lx:Ln R x (102 / 100*F)) (wx:Ab (sm R fun i=>w i*x i) (tw (-32))):
 Ab (sm P fun i=>(sm C fun k=>q (R+i) k*v k)*(sm C fun k=>q (R+i) k*z k)) (1 / 100000000):=by
 have u0:=Dc;have u1:=ZN;have e0:=Py;have e1:=Zh;have t32:tw (-32)=1 / 4294967296:=by decide +kernel
 have all:(sm (R+P) fun i=>(sm C fun k=>q i k*v k)*(sm C fun k=>q i k*z k))=(sm C fun a=>v a*sm C fun b=>((sm (R+P) fun i=>q i a*q i b)-OV a b)*z b)+sm C fun k=>v k*z k:=by
  have s1:(sm (R+P) fun i=>(sm C fun k=>q i k*v k)*(sm C fun k=>q i k*z k))=sm (R+P) fun i=>sm C fun a=>sm C fun b=>(q i a*v a)*(q i b*z b):=BD _ fun i _=>W3 C C _ _
  have s2:(sm (R+P) fun i=>sm C fun a=>sm C fun b=>(q i a*v a)*(q i b*z b))=sm C fun a=>sm (R+P) fun i=>sm C fun b=>(q i a*v a)*(q i b*z b):=Me _ _ _
  have s3:(sm C fun a=>sm (R+P) fun i=>sm C fun b=>(q i a*v a)*(q i b*z b))=sm C fun a=>sm C fun b=>sm (R+P) fun i=>(q i a*v a)*(q i b*z b):=BD C fun a _=>Me _ _ _
  have s4:(sm C fun a=>sm C fun b=>sm (R+P) fun i=>(q i a*v a)*(q i b*z b))=sm C fun a=>v a*sm C fun b=>(sm (R+P) fun i=>q i a*q i b)*z b:=BD C fun a _=>by
   rw[<- EG];refine BD C fun b _=>?_
   have:(sm (R+P) fun i=>(q i a*v a)*(q i b*z b))=(sm (R+P) fun i=>q i a*q i b)*(v a*z b):=by rw[<- IB]; exact BD _ fun i _=>by grind
   rw[this]; grind
  rw[s1,s2,s3,s4,<- Eh];refine BD C fun a ha=>?_
  have:(sm C fun b=>((sm (R+P) fun i=>q i a*q i b)-OV a b)*z b)=(sm C fun b=>(sm (R+P) fun i=>q i a*q i b)*z b)+-z a:=by
   have o:(sm C fun b=>-z b*OV a b)=-z a:=Tf ha fun b=>-z b
   rw[<- o,<- Eh];exact BD C fun b _=>by grind
  rw[this]; grind
 have E:Fn C C (fun b a=>(sm (R+P) fun i=>q i a*q i b)-OV a b) (6*(5000*uR)):=Fn.Jk (by grind) (fun b a hb ha=>by have:=ho a b ha hb; unfold Nr at this; unfold Ab; grind) c6 c6
 have d1:=lv.dot (E.mul lz)
 have tv:∀i,i<R->(sm C fun k=>q i k*v k)=T*(w i+((sm C fun k=>q i k*I*v k)-w i)):=fun i _=>by
  have:(sm C fun k=>q i k*I*v k)=I*sm C fun k=>q i k*v k:=by rw[<- EG]; exact BD C fun k _=>by grind
  rw[this];have:T*(I*sm C fun k=>q i k*v k)=T*I*sm C fun k=>q i k*v k:=by grind
  have e:T*(w i+(I*(sm C fun k=>q i k*v k)-w i))=T*(I*sm C fun k=>q i k*v k):=by grind
  rw[e,this,TI]; grind
 have tz:∀i,i<R->(sm C fun k=>q i k*z k)=T*(x i+((sm C fun k=>q i k*I*z k)-x i)):=fun i _=>by
  have:(sm C fun k=>q i k*I*z k)=I*sm C fun k=>q i k*z k:=by rw[<- EG]; exact BD C fun k _=>by grind
  rw[this];have:T*(I*sm C fun k=>q i k*z k)=T*I*sm C fun k=>q i k*z k:=by grind
  have e:T*(x i+(I*(sm C fun k=>q i k*z k)-x i))=T*(I*sm C fun k=>q i k*z k):=by grind
  rw[e,this,TI]; grind
 have d2:=lw.dot bz;have d3:=bv.dot lx;have d4:=bv.dot bz
 have top:(sm R fun i=>(sm C fun k=>q i k*v k)*(sm C fun k=>q i k*z k))=T*T*((sm R fun i=>w i*x i)+((sm R fun i=>w i*((sm C fun k=>q i k*I*z k)-x i))+((sm R fun i=>((sm C fun k=>q i k*I*v k)-w i)*x i)+sm R fun i=>((sm C fun k=>q i k*I*v k)-w i)*((sm C fun k=>q i k*I*z k)-x i)))):=by rw[<- Eh,<- Eh,<- Eh,<- EG];exact BD R fun i hi=>by rw[tv i hi,tz i hi]; grind
 have sp:(sm (R+P) fun i=>(sm C fun k=>q i k*v k)*(sm C fun k=>q i k*z k))=(sm R fun i=>(sm C fun k=>q i k*v k)*(sm C fun k=>q i k*z k))+sm P fun i=>(sm C fun k=>q (R+i) k*v k)*(sm C fun k=>q (R+i) k*z k):=Hj R _ P
 rw[all,top] at sp;clear all top tv tz E ho bv bz lw lx lv lz;generalize (sm P fun i=>(sm C fun k=>q (R+i) k*v k)*(sm C fun k=>q (R+i) k*z k))=Y at *
 generalize (sm C fun a=>v a*sm C fun b=>((sm (R+P) fun i=>q i a*q i b)-OV a b)*z b)=X1 at *
 generalize (sm C fun k=>v k*z k)=X2 at *
 generalize (sm R fun i=>w i*x i)=Z1 at *
 generalize (sm R fun i=>w i*((sm C fun k=>q i k*I*z k)-x i))=Z2 at *
 generalize (sm R fun i=>((sm C fun k=>q i k*I*v k)-w i)*x i)=Z3 at *
 generalize (sm R fun i=>((sm C fun k=>q i k*I*v k)-w i)*((sm C fun k=>q i k*I*z k)-x i))=Z4 at *
 have TT:T*T<=4:=by have:=CU T2 T2 (by grind) (za T0); grind
 have TT0:0<=T*T:=BS T;have G:F*T*(F*T)<=9:=by have:=CU FT FT (by grind) (zc F0 (za T0)); grind
 have G0:0<=F*T*(F*T):=BS _;have eG:GK*(F*T*(F*T))<=6116 / 1000000000000000*9:=CU e1 G (by grind) G0;have eG0:0<=GK*(F*T*(F*T)):=zc (za e0) G0;have eeG:GK*(GK*(F*T*(F*T)))<=6116 / 1000000000000000*(6116 / 1000000000000000*9):=CU e1 eG (by grind) eG0
 have sc:∀{z B:Rat},Ab z B->Ab (T*T*z) (T*T*B):=fun {z B} h=>by have a:=zd h.1 TT0;have b:=zd h.2 TT0;unfold Ab; grind
 have y1:=sc wx;have y2:=sc d2;have y3:=sc d3;have y4:=sc d4;have k1:T*T*tw (-32)<=4*(1 / 4294967296):=by rw[t32]; exact zb TT (by grind)
 have k2:T*T*(102 / 100*F*(25*GK*F))=255 / 10*(GK*(F*T*(F*T))):=by grind
 have k3:T*T*(25*GK*F*(102 / 100*F))=255 / 10*(GK*(F*T*(F*T))):=by grind
 have k4:T*T*(25*GK*F*(25*GK*F))=625*(GK*(GK*(F*T*(F*T)))):=by grind
 rw[k2] at y2;rw[k3] at y3;rw[k4] at y4;have ex:T*T*(Z1+(Z2+(Z3+Z4)))=T*T*Z1+(T*T*Z2+(T*T*Z3+T*T*Z4)):=by grind
 rw[ex] at sp;generalize T*T*Z1=A1 at *
 generalize T*T*Z2=A2 at *
 generalize T*T*Z3=A3 at *
 generalize T*T*Z4=A4 at *
 generalize T*T*tw (-32)=B1 at *
 generalize GK*(F*T*(F*T))=B2 at *
 generalize GK*B2=B3 at *
 clear ex k2 k3 k4 sc d2 d3 d4 wx eG0 G G0 TT TT0 TI;unfold Ab at *
 grind
theorem Ajv{R C:Nat}{B:Nat->Nat->Rat}{v w:Nat->Rat}{F I S s:Rat}(f1:1<=F)(fs:s<=F*F)
 (cl:Nr s (S*(I*I)) uR) (eS:S=sm C fun k=>sq R fun i=>B i k) (back:Ln R (fun i=>(sm C fun k=>B i k*I*v k)-w i) (25*GK*F)) (vl:Ln C v (101 / 100)):Ln R w (102 / 100*F):=by
 have u6:=IZ;have e1:=Zh;have FF:1<=F*F:=by have:=H7 (x:=1) (by decide) f1; grind
 have c1:S*(I*I)<=1002 / 1000*(F*F):=by unfold Nr at cl; grind
 have FM:Fn R C (fun k i=>B i k*I) (1002 / 1000*F):=⟨by grind,by
  rw[Aac,<- eS];have:1002 / 1000*F*(1002 / 1000*F)=1002 / 1000*(1002 / 1000*(F*F)):=by grind
  rw[this]; grind⟩
 have mv:=FM.mul vl
 exact((mv.sub back).congr fun i _=>by grind).mono (by have:=zb (show 25*GK<=9 / 10000 by grind) (show 0<=F by grind);grind)
section
variable{R C:Nat}{Q:Bf}(r6:R<=6)(c6:C<=6)(qb:∀i k:Nat,i<R->k<C->Bd 1 (CE (C:Int) Q (i:Int) (k:Int)).toNat)
def BR(R C:Nat)(Q:Bf):Bf:=BZ R C fun i k=>CE (C:Int) Q (i:Int) (k:Int)
def IX(R P C:Nat)(Q:Bf):Bf:=BZ P C fun i k=>CE (C:Int) Q ((R+i:Nat):Int) (k:Int)
theorem Ob(R C:Nat)(Q:Bf):(BR R C Q).length=R*C:=BW _ _ _
theorem WY(R P C:Nat)(Q:Bf):(IX R P C Q).length=P*C:=BW _ _ _
theorem Pa{i k:Nat}(hi:i<R)(hk:k<C):CE (C:Int) (BR R C Q) (i:Int) (k:Int)=CE (C:Int) Q (i:Int) (k:Int):=EU hi hk
theorem AaC{P i k:Nat}(hi:i<P)(hk:k<C):CE (C:Int) (IX R P C Q) (i:Int) (k:Int)=CE (C:Int) Q ((R+i:Nat):Int) (k:Int):=EU hi hk
end
theorem ZU{R P C:Nat}{Q:Bf}(h6:R+P<=6)(c6:C<=6)(aQ:Bp Q=xZ)
 (qb:∀i k:Nat,i<R+P->k<C->Bd 1 (CE (C:Int) Q (i:Int) (k:Int)).toNat)
 (qo:∀a k,a<C->k<C->Nr (sm (R+P) fun i=>Bx C Q i a*Bx C Q i k) (OV a k) (5000*uR)) (he:(De R C (BR R C Q)).2.2=0):
 (∃F m,PI R C F (fun i k=>Bx C (B6 (BR R C Q) (-(CC (BR R C Q)))) i k) m ((De R C (BR R C Q)).1,(De R C (BR R C Q)).2.1,xZ)/\m<=900) /\
 ∀p s,p<C->s<C->p≠s->Ab (sm P fun i=>(sm C fun k=>Bx C Q (R+i) k*Bx C (De R C (BR R C Q)).2.1 k p)*(sm C fun k=>Bx C Q (R+i) k*Bx C (De R C (BR R C Q)).2.1 k s)) (1 / 100000000):=by
 have r6:R<=6:=by omega
 have bl:Bl 1 (BR R C Q):=fun x hx=>by obtain⟨i,k,hi,hk,rfl⟩:=Hw (Ob R C Q) hx;rw[Pa hi hk];exact qb i k (by omega) hk
 have al:Bp (BR R C Q)=xZ:=FA fun _ _=>Ft aQ
 have hl:=Ob R C Q;obtain⟨F,m,f1,f12,hm,pi,fn,fS⟩:=UP bl al hl r6 c6;refine⟨⟨F,m,pi,hm⟩,fun p s hp hs hps=>?_⟩;have hd:=XP bl hl f1 hm pi;have bp:=pi.back hm c6 r6 f1 hd hp;have bs:=pi.back hm c6 r6 f1 hd hs;have vp:=pi.Ae3 hm c6 hp;have vs:=pi.Ae3 hm c6 hs;have tt:tw (CC (BR R C Q))*tw (-(CC (BR R C Q)))=1:=by rw[<- Eu,wX]; exact KW
 have t0:=DP (CC (BR R C Q))
 have K1:CC (BR R C Q)<=1:=by
  by_cases k:∃z∈BR R C Q,BH z≠0
  ·exact Wt bl k
  ·rw[ZM bl.FU k]; decide +kernel
 have T2:tw (CC (BR R C Q))<=2:=by have:=UT K1;rw[tw1] at this; exact this
 have cl:=Vd bl hl r6 c6;have eS:=Nj hl;have wp:=Ajv f1 fn.2 cl eS bp vp;have ws:=Ajv f1 fn.2 cl eS bs vs;have u0:=Dc;have u6:=IZ
 have FT:F*tw (CC (BR R C Q))<=3:=by
  rcases fS with ⟨_,z⟩ | ⟨s1,s2⟩
  ·rw[z]; grind
  ·have S6:GB (BR R C Q)<=61 / 10:=by
    rw[eS]
    have k1:(sm C fun k=>sq R fun i=>Bx C (BR R C Q) i k)<=sm C fun _=>1+5000*uR:=Ja C fun k hk=>by
     have a:=qo k k hk hk;have d1:OV k k=1:=Az rfl;rw[d1,Hj] at a
     have b:(sq R fun i=>Bx C (BR R C Q) i k)=sm R fun i=>Bx C Q i k*Bx C Q i k:=BD R fun i hi=>by show Bx C (BR R C Q) i k*Bx C (BR R C Q) i k=_;unfold Bx; rw[Pa hi hk]
     have c:=K3 P (f:=fun i=>Bx C Q (R+i) k*Bx C Q (R+i) k) fun i _=>BS _
     rw[b];unfold Nr at a; grind
    rw[QM] at k1;have c1:(C:Rat)<=6:=Cy (n:=6) c6;have:=zb c1 (show 0<=1+5000*uR by grind);grind
   have c2:(sm C fun k=>sq R fun i=>Bx C (B6 (BR R C Q) (-(CC (BR R C Q)))) i k)*(999 / 1000)<=GB (BR R C Q)*(tw (-(CC (BR R C Q)))*tw (-(CC (BR R C Q)))):=by unfold Nr at cl; grind
   have eT:GB (BR R C Q)*(tw (-(CC (BR R C Q)))*tw (-(CC (BR R C Q))))*(tw (CC (BR R C Q))*tw (CC (BR R C Q)))=GB (BR R C Q):=by
    have:GB (BR R C Q)*(tw (-(CC (BR R C Q)))*tw (-(CC (BR R C Q))))*(tw (CC (BR R C Q))*tw (CC (BR R C Q)))=GB (BR R C Q)*((tw (CC (BR R C Q))*tw (-(CC (BR R C Q))))*(tw (CC (BR R C Q))*tw (-(CC (BR R C Q))))):=by grind
    rw[this,tt]; grind
   generalize tw (CC (BR R C Q))=T at *
   generalize tw (-(CC (BR R C Q)))=I at *
   generalize (sm C fun k=>sq R fun i=>Bx C (B6 (BR R C Q) (-(CC (BR R C Q)))) i k)=s at *
   generalize GB (BR R C Q)=S at *
   have TT:0<=T*T:=BS T;have a1:=zb c2 TT;have a2:=zb s2 TT;rw[eT] at a1;refine GO (by decide) ?_;clear wp ws bp bs hd vp vs cl;grind
 have bes:=Vp (R:=R) (n:=C) (low:=BX (Cb (B6 (BR R C Q) (-(CC (BR R C Q))))) (-44)) 60 he;have w0:Bl 1 (B6 (BR R C Q) (-(CC (BR R C Q)))):=Hl bl.FU
 have w064:∀z∈B6 (BR R C Q) (-(CC (BR R C Q))),z.toNat<2^64:=fun z hz=>by obtain⟨v,hv,rfl⟩:=zh.1 hz;have:=Bv.1 (show Br v=xZ from Bv.1 al v hv);rw[Cj]; exact Oi (by omega)
 have w0l:(B6 (BR R C Q) (-(CC (BR R C Q)))).length<=60:=by unfold B6;rw[AO,hl];have:=AE r6 c6;omega
 have c64:∀j,∀z∈Du R C (De R C (BR R C Q)).1 j,z.toNat<2^64:=fun j z hz=>by obtain⟨i,hi,rfl⟩:=zh.1 hz;have:=Bv.1 (show Br (CE (C:Int) (De R C (BR R C Q)).1 (0+(i:Int)) (j:Int))=xZ from Ft pi.w.1);omega
 have cl6:∀j,(Du R C (De R C (BR R C Q)).1 j).length=R:=fun j=>DO _ _ _ _ _
 have rv1:∀j i,i<R->rv (Du R C (De R C (BR R C Q)).1 j) i=Bx C (De R C (BR R C Q)).1 i j:=fun j i hi=>by unfold rv Du Bx Dm;rw[Al,Ba,ym hi];show vR (CE (C:Int) (De R C (BR R C Q)).1 (0+(i:Int)) (j:Int)).toNat=_;rw[yJ]
 have w40:∀{j:Nat},Ln R (fun i=>Bx C (De R C (BR R C Q)).1 i j) (102 / 100*F)->Ln R (rv (Du R C (De R C (BR R C Q)).1 j)) 40:=fun {j} h=>(h.congr fun i hi=>rv1 j i hi).mono (by grind)
 have dots:∀{a b:Nat},a<b->b<C->Ln R (fun i=>Bx C (De R C (BR R C Q)).1 i a) (102 / 100*F)->Ln R (fun i=>Bx C (De R C (BR R C Q)).1 i b) (102 / 100*F)->Ab (sm R fun i=>Bx C (De R C (BR R C Q)).1 i a*Bx C (De R C (BR R C Q)).1 i b) (tw (-32)):=fun {a b} hab hb la lb=>by have h:=AkP (pi.w.col (p:=a) (by omega)) (pi.w.col (p:=b) hb) (c64 a) (c64 b) (cl6 a) (cl6 b) r6 w0 w064 w0l (w40 la) (w40 lb) (bes a b hab hb);rw[BD R (g:=fun i=>Bx C (De R C (BR R C Q)).1 i a*Bx C (De R C (BR R C Q)).1 i b) fun i hi=>by rw[rv1 a i hi,rv1 b i hi]] at h;exact h
 have wx:Ab (sm R fun i=>Bx C (De R C (BR R C Q)).1 i p*Bx C (De R C (BR R C Q)).1 i s) (tw (-32)):=by
  rcases Nat.lt_or_gt_of_ne hps with g | g
  ·exact dots g hs wp ws
  ·have:=dots g hp ws wp;rw[BD R (g:=fun i=>Bx C (De R C (BR R C Q)).1 i p*Bx C (De R C (BR R C Q)).1 i s) fun i _=>by grind] at this;exact this
 have vz:Ab (sm C fun k=>Bx C (De R C (BR R C Q)).2.1 k p*Bx C (De R C (BR R C Q)).2.1 k s) (6*GK):=by
  have g:=(pi.Ak3 hm c6 hs).at hp;rw[Ay hps] at g;have e:∀x:Rat,x-0=x:=fun x=>by grind
  rw[e] at g;exact g
 have conv:∀{j:Nat},Ln R (fun i=>(sm C fun k=>Bx C (BR R C Q) i k*tw (-(CC (BR R C Q)))*Bx C (De R C (BR R C Q)).2.1 k j)-Bx C (De R C (BR R C Q)).1 i j) (25*GK*F)->Ln R (fun i=>(sm C fun k=>Bx C Q i k*tw (-(CC (BR R C Q)))*Bx C (De R C (BR R C Q)).2.1 k j)-Bx C (De R C (BR R C Q)).1 i j) (25*GK*F):=fun {j} h=>h.congr fun i hi=>by
  congr 1;refine BD C fun k hk=>?_
  have:Bx C Q i k=Bx C (BR R C Q) i k:=by unfold Bx; rw[Pa hi hk]
  rw[this]
 exact Ai4 (R:=R) (P:=P) c6 qo vp vs vz tt t0 T2 (by grind) FT (conv bp) (conv bs) wp ws wx
structure GsT(R P C:Nat)(l m:Bf)(Q V U:Bf):Prop where
 err:Di (R:Int) (C:Int) l (P:Int) (C:Int) m=0
 eT:Hb (R:Int) (C:Int) l (P:Int) m=((R:Int),(C:Int),BR R C Q,0)
 eW:Hy (R:Int) (C:Int) l (P:Int) (C:Int) m=((R:Int),(C:Int),EF R C (BR R C Q),0)
 eU:H0 (R:Int) (C:Int) l (P:Int) (C:Int) m=((P:Int),(C:Int),U,0)
 eV:Hz (R:Int) (C:Int) l (P:Int) (C:Int) m=((C:Int),(C:Int),V,0)
 eR:H2 (R:Int) (C:Int) l (P:Int) (C:Int) m=((C:Int),(C:Int),El (R+P) C (l++m),0)
 fit:AdS (R:Int) (C:Int) (P:Int) (Hy (R:Int) (C:Int) l (P:Int) (C:Int) m) (H0 (R:Int) (C:Int) l (P:Int) (C:Int) m) (Hz (R:Int) (C:Int) l (P:Int) (C:Int) m) (H2 (R:Int) (C:Int) l (P:Int) (C:Int) m) (F9 (R:Int) (C:Int) l (P:Int) (C:Int) m) (IJ (R:Int) (C:Int) l (P:Int) (C:Int) m)=xZ
 Agf:V.length=C*C
 AdG:U.length=P*C
 inV:Bp V=xZ
 inU:Bp U=xZ
def FC(P C:Nat)(L V:Bf):Bf:=BZ P C fun i k=>Fk (JZ (C:Int) L (i:Int)) (MS (C:Int) (C:Int) V (k:Int))
theorem Aii{P C:Nat}{L V:Bf}(hL:L.length=P*C){i k:Nat}(hi:i<P)(hk:k<C):
 CE (C:Int) (FC P C L V) (i:Int) (k:Int)=Fk ((zf C).map fun j:Nat=>CE (C:Int) L (i:Int) (j:Int)) ((zf C).map fun j:Nat=>CE (C:Int) V (j:Int) (k:Int)):=by
 unfold FC;rw[EU hi hk,Ym hL hi];unfold MS;rw[Ad]
theorem Sy{n j:Nat}{f:Nat->Int}(hj:j<n):rv ((zf n).map f) j=vR (f j).toNat:=by unfold rv;rw[Al,Ba,ym hj];rfl
theorem Yt{P C:Nat}{L V:Bf}(c6:C<=6)(hL:L.length=P*C)(bL:∀i k:Nat,i<P->k<C->Bd 1 (CE (C:Int) L (i:Int) (k:Int)).toNat)(bV:∀i k:Nat,i<C->k<C->Bd 5 (CE (C:Int) V (i:Int) (k:Int)).toNat)
 {i k:Nat} (hi:i<P) (hk:k<C) (lV:Ln C (fun j=>Bx C V j k) (101 / 100)):
 Nr (Bx C (FC P C L V) i k) (sm C fun j=>Bx C L i j*Bx C V j k) (130*uR)/\Ab (sm C fun j=>Bx C L i j*Bx C V j k) 7/\Bd 9 (CE (C:Int) (FC P C L V) (i:Int) (k:Int)).toNat:=by
 have u0:=Dc;have h0:=Ee;have h1:Ci<=uR / 1000000:=NK;have l1:((zf C).map fun j:Nat=>CE (C:Int) L (i:Int) (j:Int)).length=C:=by rw[AO,AL]
 have l2:((zf C).map fun j:Nat=>CE (C:Int) V (j:Int) (k:Int)).length=C:=by rw[AO,AL]
 have b1:Bl 1 ((zf C).map fun j:Nat=>CE (C:Int) L (i:Int) (j:Int)):=fun x hx=>by obtain⟨j,hj,rfl⟩:=zh.1 hx;exact bL i j hi (zT.1 hj)
 have b2:Bl 5 ((zf C).map fun j:Nat=>CE (C:Int) V (j:Int) (k:Int)):=fun x hx=>by obtain⟨j,hj,rfl⟩:=zh.1 hx;exact bV j k (zT.1 hj) hk
 have L6:Ln C (Bx C L i) (3*2):=Ln.Jk (by decide) (fun j hj=>by have:=RQ (bL i j hi hj);have t:tw ((1:Nat):Int)=2:=tw1;rw[t] at this; exact this) (by omega)
 have L1:Ln C (rv ((zf C).map fun j:Nat=>CE (C:Int) L (i:Int) (j:Int))) (3*2):=L6.congr fun j hj=>Sy hj
 have L2:Ln C (rv ((zf C).map fun j:Nat=>CE (C:Int) V (j:Int) (k:Int))) (101 / 100):=lV.congr fun j hj=>Sy hj
 have h:=Xq (j:=1) (k:=5) (by decide) (l1.trans l2.symm) (by omega) b1 b2 (by rw[l1]; exact L1) (by rw[l1]; exact L2);have hb:=Ls (j:=1) (k:=5) (by decide) b1 b2 (by omega);have e:=Aii (V:=V) hL hi hk;rw[<- e] at h hb;rw[l1,BD C (g:=fun j=>Bx C L i j*Bx C V j k) fun j hj=>by rw[Sy hj,Sy hj]; rfl] at h;have d:=L6.dot lV;refine⟨h.mono (by grind),?_,hb⟩;unfold Ab at *; grind
theorem AiH{r c p q:Int}{l m:Bf}(hr:BA r c l=xZ)(hr2:BA p q m=xZ)(al:Bp l=xZ)(am:Bp m=xZ)(t1:G5 l 100=xZ)(t2:G5 m 100=xZ):
 Di r c l p q m=3\/Di r c l p q m=6\/∃R P C:Nat,∃Q V U,r=R/\c=C/\p=P/\q=C/\R+P<=6/\C<=R+P/\l.length=R*C/\m.length=P*C/\Bl 100 (l++m)/\Q=K0 (R+P) C (l++m)/\V=Fv R C (BR R C Q)/\U=FC P C (IX R P C Q) V/\(De R C (BR R C Q)).2.2=0/\GsT R P C l m Q V U:=by
 have f1:=Va (k:=100) t1;have f2:=Va (k:=100) t2;have k1:=M6 hr f1.2;have k2:=M6 hr2 f2.2;have ck:Zu r c l p q m=0:=by unfold Zu; rw[Ay (fun k=>k k1)]; exact k2
 by_cases ks:c≠q\/c<1\/r+p<c\/6<r+p
 ·refine .inl ?_;have e:VH r c l p q m=3:=by unfold VH; rw[Ay (fun k=>k ck),Az ks]
  rw[Ze (by rw[e]; decide),e]
 have eE:VH r c l p q m=0:=by unfold VH; rw[Ay (fun k=>k ck),Ay ks]
 obtain⟨R,C,P,rfl,rfl,rfl,rfl,g⟩:=Acj eE;have e:(R:Int)+(P:Int)=((R+P:Nat):Int):=(zt _ _).symm;have h6:=g.r6;have hcr:=g.cr;have c6:C<=6:=by omega
 have lA:(l++m).length=(R+P)*C:=by rw[A8,g.ll,g.lm,AM]
 have aA:Bp (l++m)=xZ:=Bv.2 fun y hy=>(zA.1 hy).elim (Bv.1 al y) (Bv.1 am y)
 have bA:Bl 100 (l++m):=fun x hx=>(zA.1 hx).elim (f1.1 x) (f2.1 x)
 obtain⟨f0,_,lQ,aR,aQ⟩:=Rm h6 c6 lA aA bA;have etq:=AeS h6 c6 hcr lA aA bA;have etr:=AeR h6 c6 hcr lA aA bA;obtain⟨qo,qb⟩:=AbC h6 hcr aA bA;generalize hQ:K0 (R+P) C (l++m)=Q at *
 have lenQ:Q.length=(R+P)*C:=by rw[<- hQ]; exact BW _ _ _
 have inQ:Bp Q=xZ:=by rw[<- hQ]; exact FA fun _ _=>Ft aQ
 have rQ:BA ((R+P:Nat):Int) (C:Int) Q=xZ:=D3 h6 c6 lenQ;have eQ:gsQ (R:Int) (C:Int) l (P:Int) m=(((R+P:Nat):Int),(C:Int),Q,0):=by unfold gsQ; rw[e]; exact etq
 have eT:Hb (R:Int) (C:Int) l (P:Int) m=((R:Int),(C:Int),BR R C Q,0):=by unfold Hb; rw[eQ];exact QZ rQ (by omega) (AB C)
 have eL:gsL (R:Int) (C:Int) l (P:Int) m=((P:Int),(C:Int),IX R P C Q,0):=by unfold gsL; rw[eQ];exact AfB rQ (AB _) (AB C)
 have inT:Bp (BR R C Q)=xZ:=FA fun _ _=>Ft inQ
 have bT:Bl 1 (BR R C Q):=fun x hx=>by obtain⟨i,k,hi,hk,rfl⟩:=Hw (Ob R C Q) hx;rw[Pa hi hk];exact qb i k (by omega) hk
 have ckT:BU (R:Int) (C:Int) (BR R C Q)=0:=M6 (D3 (by omega) c6 (Ob R C Q)) bT.FU;have kf:Fp ((R:Int)+(P:Int)) (C:Int) (l++m)=0:=by rw[e]; exact f0
 by_cases e6:(De R C (BR R C Q)).2.2=0
 case neg =>
  refine .inr (.inl ?_)
  have u6:GW (Hb (R:Int) (C:Int) l (P:Int) m).1 (Hb (R:Int) (C:Int) l (P:Int) m).2.1 (Hb (R:Int) (C:Int) l (P:Int) m).2.2.1=6:=by rw[eT];show GW (R:Int) (C:Int) (BR R C Q)=6;unfold GW;rw[Ay (fun k=>k ckT),Ad,Ad,Az e6]
  rw[AgJ eE kf (by rw[u6]; decide),u6]
 refine .inr (.inr ⟨R,P,C,Q,Fv R C (BR R C Q),FC P C (IX R P C Q) (Fv R C (BR R C Q)),rfl,rfl,rfl,rfl,h6,hcr,g.ll,g.lm,bA,hQ.symm,rfl,rfl,e6,?_⟩);obtain⟨⟨F,n,pi,hn⟩,_⟩:=ZU h6 c6 inQ qb qo e6;have wV:=AhG pi;have wW:=AhF pi bT (by decide)
 have u0:GW (Hb (R:Int) (C:Int) l (P:Int) m).1 (Hb (R:Int) (C:Int) l (P:Int) m).2.1 (Hb (R:Int) (C:Int) l (P:Int) m).2.2.1=0:=by rw[eT];show GW (R:Int) (C:Int) (BR R C Q)=0;unfold GW;rw[Ay (fun k=>k ckT),Ad,Ad,Ay (fun k=>k e6),wW.FU,wV.FU];rfl
 have u0':GW (R:Int) (C:Int) (BR R C Q)=0:=by rw[eT] at u0; exact u0
 have Agf:(Fv R C (BR R C Q)).length=C*C:=Fj _ _ _ _;have inV:Bp (Fv R C (BR R C Q))=xZ:=Jp pi.v.1
 have eV:gsV (R:Int) (C:Int) l (P:Int) m=((C:Int),(C:Int),Fv R C (BR R C Q),0):=by unfold gsV; rw[eT];show It (R:Int) (C:Int) (BR R C Q)=_;unfold It;rw[Ay (fun k=>k u0'),Ad,Ad]
 have bL:∀i k:Nat,i<P->k<C->Bd 1 (CE (C:Int) (IX R P C Q) (i:Int) (k:Int)).toNat:=fun i k hi hk=>by rw[AaC hi hk]; exact qb _ k (by omega) hk
 have lv:∀k,k<C->Ln C (fun j=>Bx C (Fv R C (BR R C Q)) j k) (101 / 100):=fun k hk=>by
  obtain⟨p,hp,ep⟩:=PF (R:=R) (n:=C) (l:=BR R C Q) hk;refine(pi.Ae3 hn c6 hp).congr fun j hj=>?_
  unfold Bx; rw[Ws hj hk ep]
 have AdG:(FC P C (IX R P C Q) (Fv R C (BR R C Q))).length=P*C:=BW _ _ _;have inU:Bp (FC P C (IX R P C Q) (Fv R C (BR R C Q)))=xZ:=FA fun _ _=>Go.Ck.Ie _ _
 have bU:Bl 9 (FC P C (IX R P C Q) (Fv R C (BR R C Q))):=fun x hx=>by obtain⟨i,k,hi,hk,rfl⟩:=Hw AdG hx;exact(Yt c6 (WY R P C Q) bL (fun i k hi hk=>Wr pi hi hk) hi hk (lv k hk)).2.2
 have eU:XG (R:Int) (C:Int) l (P:Int) m=((P:Int),(C:Int),FC P C (IX R P C Q) (Fv R C (BR R C Q)),0):=by unfold XG; rw[eL,eV];exact AfT (D3 (by omega) c6 (WY R P C Q)) (D3 c6 c6 Agf)
 have er:Di (R:Int) (C:Int) l (P:Int) (C:Int) m=0:=by rw[Aj9 eE kf u0,eU,Az bU.FU]
 have eWX:Hy (R:Int) (C:Int) l (P:Int) (C:Int) m=((R:Int),(C:Int),EF R C (BR R C Q),0):=by unfold Hy gsO; rw[Ay (fun k=>k er),eT];show GL (R:Int) (C:Int) (BR R C Q)=_;unfold GL;rw[Ay (fun k=>k u0'),Ad,Ad]
 have eUX:H0 (R:Int) (C:Int) l (P:Int) (C:Int) m=((P:Int),(C:Int),FC P C (IX R P C Q) (Fv R C (BR R C Q)),0):=by unfold H0 gsO; rw[Ay (fun k=>k er),eU]
 have eVX:Hz (R:Int) (C:Int) l (P:Int) (C:Int) m=((C:Int),(C:Int),Fv R C (BR R C Q),0):=by unfold Hz gsO; rw[Ay (fun k=>k er),eV]
 have eRX:H2 (R:Int) (C:Int) l (P:Int) (C:Int) m=((C:Int),(C:Int),El (R+P) C (l++m),0):=by unfold H2 gsO; rw[Ay (fun k=>k er),e]; exact etr
 have eAl:F9 (R:Int) (C:Int) l (P:Int) (C:Int) m=CX R C (EF R C (BR R C Q)):=by unfold F9 AaJ; rw[Ay (fun k=>k er),eT];show O6 (R:Int) (C:Int) (BR R C Q)=_;unfold O6;rw[Ay (fun k=>k u0'),Ad,Ad]
 have eBe:IJ (R:Int) (C:Int) l (P:Int) (C:Int) m=CX P C (FC P C (IX R P C Q) (Fv R C (BR R C Q))):=by unfold IJ AaJ; rw[Ay (fun k=>k er),eU,Ad,Ad]
 obtain⟨_,_,bR,_,_⟩:=Za (c:=C) h6 bA aA
 have bTR:Bl 155 (El (R+P) C (l++m)):=fun x hx=>by obtain⟨i,k,hi,hk,rfl⟩:=Hw (R:=C) (n:=C) (show(El (R+P) C (l++m)).length=C*C from BW _ _ _) hx;unfold El;rw[EU hi hk];exact RR bR
 have fAl:DA (CX R C (EF R C (BR R C Q)))=xZ:=zB.2 fun x hx=>by obtain⟨j,hj,rfl⟩:=zh.1 hx;exact(AeB pi bT (by decide) (by omega) (zT.1 hj)).2.1.fin
 have fBe:DA (CX P C (FC P C (IX R P C Q) (Fv R C (BR R C Q))))=xZ:=zB.2 fun x hx=>by
  obtain⟨j,hj,rfl⟩:=zh.1 hx;have hj:=zT.1 hj;have b:Bl 9 (Du P C (FC P C (IX R P C Q) (Fv R C (BR R C Q))) j):=Abg fun i=>RR bU
  have b64:∀z∈Du P C (FC P C (IX R P C Q) (Fv R C (BR R C Q))) j,z.toNat<2^64:=fun z hz=>by obtain⟨i,hi,rfl⟩:=zh.1 hz;have:=Bv.1 (show Br (CE (C:Int) (FC P C (IX R P C Q) (Fv R C (BR R C Q))) (0+(i:Int)) (j:Int))=xZ from Ft inU);omega
  have lc:(Du P C (FC P C (IX R P C Q) (Fv R C (BR R C Q))) j).length<=7:=by unfold Du; rw[DO]; omega
  exact(Qd b (by decide) b64 lc).2.1.fin
 refine⟨er,eT,eWX,eUX,eVX,eRX,?_,Agf,AdG,inV,inU⟩;rw[eWX,eUX,eVX,eRX,eAl,eBe];unfold AdS AdT;have lW:(EF R C (BR R C Q)).length=R*C:=by unfold EF; rw[Hm]; exact Fj _ _ _ _
 have ck1:BU (R:Int) (C:Int) (EF R C (BR R C Q))=0:=M6 (D3 (by omega) c6 lW) wW.FU;have ck2:BU (P:Int) (C:Int) (FC P C (IX R P C Q) (Fv R C (BR R C Q)))=0:=M6 (D3 (by omega) c6 AdG) bU.FU;have ck3:BU (C:Int) (C:Int) (Fv R C (BR R C Q))=0:=M6 (D3 c6 c6 Agf) wV.FU;have ck4:BU (C:Int) (C:Int) (El (R+P) C (l++m))=0:=M6 (D3 c6 c6 (show(El (R+P) C (l++m)).length=C*C from BW _ _ _)) bTR.FU;dsimp only;rw[ck1,ck2,ck3,ck4,fAl,fBe,Jl,Jl];simp
theorem RI{a b:Nat}(a0:Bk a=0)(b3:Bk b≠3)(b4:Bk b≠4):Bk (En a b).1=0:=by
 have hp:By a*By b=0:=by rw[(Da (by omega) (by omega)).2 a0,zJ]
 unfold En;rw[Ay (by omega),Ay (by omega),hp];have:Cs 0 (B7 a+B7 b)=0:=by unfold Cs; rw[Az rfl]
 rw[this];have z:∀s:Bool,Bk (Co s 0)=0:=by decide
 exact z _
theorem Qq{a:Nat}(h:Bk a=0):Bd 0 a:=by refine⟨by omega,by omega,?_⟩;have:Ij a=0:=(TD a (-1074)).2 (Fq h);rw[this]; exact zo _
theorem ZW{a b:Nat}(hb:b<2^64)(a0:Bk a=0)(b0:Bk b=0):Bk (O8 a b).1=0:=by
 have da:=Qq a0;have db:=Qq b0;have ds:Bd 1 (O8 a b).1:=Bd.sub (k:=0) (by decide) hb da db;have e:=PG hb da.1 da.2.1 db.1 db.2.1 ds.1 (B:=0) (by rw[Gh a0,Gh b0]; unfold Ab; grind);rw[Gh a0,Gh b0] at e;refine yG fun k=>Ajw ds.1 ds.2.1 k ?_
 unfold Nr at e; grind
def Nz(l:Bf):Prop:=∀x∈l,Bk x.toNat=0
theorem Nz.get{l:Bf}(h:Nz l)(j:Nat):Bk (l.getD j 0).toNat=0:=by
 by_cases hj:j<l.length
 ·rw[Al,As hj]; exact h _ (zU hj)
 ·rw[Al,Bb (by omega)]; decide +kernel
theorem Nz.at{l:Bf}(h:Nz l)(c i k:Int):Bk (CE c l i k).toNat=0:=h.get _
theorem Nz.bl{l:Bf}(h:Nz l):Bl 0 l:=fun x hx=>Qq (h x hx)
theorem Nz.Ed{l:Bf}(h:Nz l):Fi l=xZ:=zB.2 fun x hx=>Ac (by have:=h x hx; unfold BH; omega)
theorem Nz.col{r c j:Nat}{l:Bf}(h:Nz l):Nz (Dv r c l j):=fun x hx=>by obtain⟨m,_,rfl⟩:=zh.1 hx;exact h.at _ _ _
theorem Nz.make{x:Bf}(h:Nz x)(he:(Ce x).2.2.2=0):(Ce x).2.1=0/\Bk (Ce x).2.2.1.toNat=0:=by
 unfold Ce at he ⊢;by_cases h1:x.length=0\/64<x.length
 ·rw[Az h1] at he; exact absurd he (by decide)
 ·rw[Ay h1,Az h.bl.FU] at he ⊢;unfold Y1;have d:Nz (x.drop 1):=fun y hy=>h y (List.mem_of_mem_drop hy)
  rw[Az d.Ed];exact⟨rfl,h.get 0⟩
theorem Nz.mir{r c j:Nat}{l:Bf}(h:Nz l)(hr:r<=7)(al:Bp l=xZ)(he:(Ce (Dv r c l j)).2.2.2=0):Nz (LP r c l j):=fun x hx=>by
 obtain⟨t0,b0⟩:=h.col.make he;obtain⟨_,v1,_,_⟩:=S5 (k:=0) (by decide) h.bl al hr he;have lm:=KB he;unfold LP M5 at hx;obtain⟨m,_,rfl⟩:=zh.1 hx;show Bk (wQ (if _ then _ else _))=0;split
 ·split
  ·exact b0
  ·decide +kernel
 ·by_cases hb:(m / c)*c+m%c<r*c
  ·have e:CE (c:Int) (Fc r c l (j:Int) (j:Int) (Ce (Dv r c l j)).1 (Ce (Dv r c l j)).2.1) ((m / c:Nat):Int) ((m%c:Nat):Int)=(Fc r c l (j:Int) (j:Int) (Ce (Dv r c l j)).1 (Ce (Dv r c l j)).2.1).getD ((m / c)*c+m%c) 0:=by unfold CE;congr 1
   rw[e];unfold Fc BZ;rw[Al,Ba,ym hb];show Bk (Gp _ _ _ _ _ _ _ _).toNat=0;unfold Gp;split
   ·show Bk (wQ (((O8 _ _).1:Nat):Int))=0;rw[Ad];have lc:(Dv r c l j).length<=7:=by unfold Dv; rw[DO]; omega
    have ap:∀b:Int,Bk (Ip (c:Int) l (j:Int) (Ce (Dv r c l j)).1 (Ce (Dv r c l j)).2.1 b).toNat=0:=fun b=>by
     unfold Ip;rw[t0,EN]
     have sg:Bl 0 (Dm (c:Int) l b (j:Int) (Ce (Dv r c l j)).1.length):=fun y hy=>by obtain⟨m,_,rfl⟩:=zh.1 hy;exact Qq (h.at _ _ _)
     have db:=Ls (j:=1) (k:=0) (by decide) v1 sg (by omega);exact RI (by decide +kernel) db.1 db.2.1
    refine ZW (by rw[EN]; exact Lg) (h.at _ _ _) ?_;rw[EN];have vb:=NO v1 (((m / c*c+m%c) / c:Nat)-(j:Int):Int).toNat;exact RI (ap _) vb.1 vb.2.1
   ·exact h.at _ _ _
  ·unfold CE
   rw[Al,Bb (by
    have:(Fc r c l (j:Int) (j:Int) (Ce (Dv r c l j)).1 (Ce (Dv r c l j)).2.1).length=r*c:=BW _ _ _;rw[this]; have:(((m / c:Nat):Int)*(c:Int)+((m%c:Nat):Int)).toNat=(m / c)*c+m%c:=by rw[<- Ax,<- zt,Ad]
    omega)]
   decide +kernel
theorem Nz.down{r c:Nat}(hr:r<=7):∀(n j:Nat) (l:Bf) (x:Bf × List (Bf × Int)),Nz l->Bp l=xZ->HW r c n j l=xQ x->Nz x.1
 | 0,j,l,x,h,_,e=>by cases e; exact h
 | n+1,j,l,x,h,al,e=>by
   unfold HW at e;by_cases h1:(Ce (Dv r c l j)).2.2.2=0
   ·rw[Az h1,Option.map_eq_some_iff] at e;obtain⟨y,hy,rfl⟩:=e;exact Nz.down hr n (j+1) _ y (h.mir hr al h1) (Mr al j) hy
   ·rw[Ay h1] at e; cases e
theorem Nz.fac{r c:Nat}{l:Bf}(hr:r<=7)(h:Nz l)(al:Bp l=xZ):Nz (FY r c l):=by
 unfold FY;cases hd:Hq r c l with
 | none=>exact fun x hx=>by cases hx
 | some x=>exact Nz.down hr _ 0 l x h al hd
def TF:List Rat->Rat
 | []=>0
 | x::l=>x+TF l
theorem Ad9{l m:List Rat}(h:l.Perm m):TF l=TF m:=by
 induction h with
 | nil=>rfl
 | cons x _ ih=>show x+_=x+_; rw[ih]
 | swap x y l=>show y+(x+TF l)=x+(y+TF l); grind
 | trans _ _ h1 h2=>exact h1.trans h2
theorem Ad8(l:List Rat)(x:Rat):TF (l++[x])=TF l+x:=by
 induction l with
 | nil=>show x+0=0+x; grind
 | cons y l ih=>show y+TF (l++[x])=y+TF l+x; rw[ih]; grind
theorem W4(f:Nat->Rat):∀n,sm n f=TF ((zf n).map f)
 | 0=>rfl
 | n+1=>by rw[List.range_succ,List.map_append];show sm n f+f n=TF ((zf n).map f++[f n]);rw[Ad8,W4 f n]
theorem AbG{n:Nat}{ps:Bf}(hp:ps.Perm (Kb n))(f:Nat->Rat):(sm n fun j=>f (ps.getD j 0).toNat)=sm n f:=by
 have hn:ps.length=n:=by rw[hp.length_eq,Nx]
 have e:(zf n).map (fun j=>f (ps.getD j 0).toNat)=ps.map fun x=>f x.toNat:=by
  refine List.ext_getElem (by rw[AO,AL,AO,hn]) fun j h1 h2=>?_
  rw[List.getElem_map,List.getElem_map,List.getElem_range];rw[AO] at h2;rw[Al,As h2];rfl
 rw[W4,e,Ad9 (hp.map fun x=>f x.toNat),W4];unfold Kb;rw[List.map_map];rfl
theorem Ait{l:Bf}{j:Nat}(hj:j<l.length):Sx (Gg l) j=I7 (l.getD j 0):=by unfold Sx Gg;rw[Al,Ba,Al,As hj];exact WH (AgN _)
theorem WR{R C:Nat}{l:Bf}(hl:l.length=R*C){i k:Nat}(hi:i<R)(hk:k<C):Sx (Gg l) (i*C+k)=Bx C l i k:=by
 rw[Ait (by rw[hl]; exact Dw hi hk)];unfold Bx I7 CE;have:((i:Int)*(C:Int)+(k:Int)).toNat=i*C+k:=by rw[<- Ax,<- zt,Ad]
 rw[this]
theorem AeW{R C K g t m h s n:Nat}{y z:List (List DV)}(c6:C<=6)(hy:E6 g t m y (R*C)=xZ)(hz:E6 h s n z (C*K)=xZ)(hq:g<=40000/\t<=40000/\m<=1073741824)(hq2:h<=40000/\s<=40000/\n<=1073741824)
 {i k:Nat} (hi:i<R) (hk:k<K):Dg (g+h) (t+s) (6*(m*n)) (tmQ C K y z i k):=by
 unfold tmQ;refine Dg.Pb (m:=m*n) c6 fun a ha=>?_
 obtain⟨p,dp,ep⟩:=Nv hy (Dw hi ha);obtain⟨q,dq,eq⟩:=Nv hz (Dw ha hk);rw[No ep (dp.dq hq.1 hq.2.1 hq.2.2),No eq (dq.dq hq2.1 hq2.2.1 hq2.2.2)];exact dp.mul dq
theorem AeY{R C K:Nat}{y z:List (List DV)}{i k:Nat}(hi:i<R)(hk:k<K)(hd:Dq (tmQ C K y z i k)):Sx (Md R C K y z) (i*K+k)=tmQ C K y z i k:=by
 have h0:0<K:=by omega
 have e1:(i*K+k) / K=i:=by rw[A0,Nat.mul_add_div h0,Nat.div_eq_of_lt hk,AQ]
 have e2:(i*K+k)%K=k:=by rw[A0,Nat.mul_add_mod,Ao hk]
 unfold Sx Md;rw[Al,Ba,ym (Dw hi hk)];show Akf (Ui (tmQ C K y z ((i*K+k) / K) ((i*K+k)%K)))=_;rw[e1,e2];exact WH hd
theorem OY{C:Nat}{V:Bf}{a b:Nat}(ha:a<C)(hb:b<C):Bx C (BZ C C fun i k=>CE (C:Int) V (k:Int) (i:Int)) a b=Bx C V b a:=by unfold Bx;rw[EU ha hb]
theorem AbD{R C:Nat}{l W V T:Bf}(r6:R<=6)(c6:C<=6)(hl:l.length=R*C)(hW:W.length=R*C):
 Sn R C C C l W (BZ C C fun i k=>CE (C:Int) V (k:Int) (i:Int)) (BZ C C fun i k=>CE (C:Int) T (k:Int) (i:Int))=
 sm C fun k=>sq R fun i=>Bx C l i k-sm C fun b=>(sm C fun a=>Bx C W i a*Bx C V b a)*Bx C T b k:=by
 have b1:=AE r6 c6;have b3:=AE c6 c6;have lV:(BZ C C fun i k=>CE (C:Int) V (k:Int) (i:Int)).length=C*C:=BW _ _ _;have lG:(BZ C C fun i k=>CE (C:Int) (BZ C C fun i k=>CE (C:Int) T (k:Int) (i:Int)) (k:Int) (i:Int)).length=C*C:=BW _ _ _;have dW:E6 1074 2100 1 (Gg W) (R*C)=xZ:=by rw[<- hW]; exact KA (by omega)
 have dV:E6 1074 2100 1 (Gg (BZ C C fun i k=>CE (C:Int) V (k:Int) (i:Int))) (C*C)=xZ:=by have:=KA (l:=BZ C C fun i k=>CE (C:Int) V (k:Int) (i:Int)) (by omega);rw[lV] at this; exact this
 have dG:E6 1074 2100 1 (Gg (BZ C C fun i k=>CE (C:Int) (BZ C C fun i k=>CE (C:Int) T (k:Int) (i:Int)) (k:Int) (i:Int))) (C*C)=xZ:=by have:=KA (l:=BZ C C fun i k=>CE (C:Int) (BZ C C fun i k=>CE (C:Int) T (k:Int) (i:Int)) (k:Int) (i:Int)) (by omega);rw[lG] at this; exact this
 unfold Sn Xk;have lo:(Gg l).length=R*C:=by rw[Mq,hl]
 rw[W5,lo,Te,Me];refine BD C fun k hk=>BD R fun i hi=>?_
 have q1:∀b,b<C->Dg 2148 4200 6 (tmQ C C (Gg W) (Gg (BZ C C fun i k=>CE (C:Int) V (k:Int) (i:Int))) i b):=fun b hb=>AeW (g:=1074) (t:=2100) (m:=1) (h:=1074) (s:=2100) (n:=1) c6 dW dV (by decide) (by decide) hi hb
 have d1:E6 2148 4200 6 (Md R C C (Gg W) (Gg (BZ C C fun i k=>CE (C:Int) V (k:Int) (i:Int)))) (R*C)=xZ:=by refine SW (g:=1074) (t:=2100) (m:=1) (h:=1074) (s:=2100) (n:=1) c6 (by omega) ?_ dW dV (by decide) (by decide);exact .inl (by omega)
 have q2:Dg 3222 6300 36 (tmQ C C (Md R C C (Gg W) (Gg (BZ C C fun i k=>CE (C:Int) V (k:Int) (i:Int)))) (Gg (BZ C C fun i k=>CE (C:Int) (BZ C C fun i k=>CE (C:Int) T (k:Int) (i:Int)) (k:Int) (i:Int))) i k) :=AeW (g:=2148) (t:=4200) (m:=6) (h:=1074) (s:=2100) (n:=1) c6 d1 dG (by decide) (by decide) hi hk
 have e:Sx (Md R C C (Md R C C (Gg W) (Gg (BZ C C fun i k=>CE (C:Int) V (k:Int) (i:Int)))) (Gg (BZ C C fun i k=>CE (C:Int) (BZ C C fun i k=>CE (C:Int) T (k:Int) (i:Int)) (k:Int) (i:Int)))) (i*C+k)=
  sm C fun b=>(sm C fun a=>Bx C W i a*Bx C V b a)*Bx C T b k:=by
  rw[AeY hi hk (q2.dq (by decide) (by decide) (by decide))];unfold tmQ;rw[W5];refine BD C fun b hb=>?_
  rw[AeY hi hb ((q1 b hb).dq (by decide) (by decide) (by decide)),WR lG hb hk,OY hb hk,OY hk hb];congr 1;unfold tmQ;rw[W5];exact BD C fun a ha=>by rw[WR hW hi ha,WR lV ha hb,OY ha hb]
 show(Sx (Gg l) (i*C+k)-Sx (Md R C C (Md R C C (Gg W) (Gg (BZ C C fun i k=>CE (C:Int) V (k:Int) (i:Int)))) (Gg (BZ C C fun i k=>CE (C:Int) (BZ C C fun i k=>CE (C:Int) T (k:Int) (i:Int)) (k:Int) (i:Int)))) (i*C+k))*(Sx (Gg l) (i*C+k)-Sx (Md R C C (Md R C C (Gg W) (Gg (BZ C C fun i k=>CE (C:Int) V (k:Int) (i:Int)))) (Gg (BZ C C fun i k=>CE (C:Int) (BZ C C fun i k=>CE (C:Int) T (k:Int) (i:Int)) (k:Int) (i:Int)))) (i*C+k))=_;rw[e,WR hl hi hk]
theorem Akv{t a:Nat}(h:Lo t a):tw (-(t:Int))<=av (vR a):=by
 have l:=Agd h.m0;have m3:=zb l (za (DP (B7 a)));rw[<- Eu] at m3;have g:tw (-(t:Int))<=tw (((By a).log2:Int)+B7 a):=UT h.log;have hn:=L8 (By a) (B7 a)
 have e2:av (vR a)=((By a:Nat):Rat)*tw (B7 a):=by
  unfold vR Lz;cases Cd a
  ·have e:(if x5=xZ then (-1:Rat) else 1)=1:=rfl;rw[e,wh]; unfold av; rw[Az hn]
  ·have e:(if xZ=xZ then (-1:Rat) else 1)=-1:=rfl;rw[e];unfold av;split<;>grind
 rw[e2];exact zn g m3
theorem Ak6:((5:Nat):Rat)=5:=rfl
theorem AgB{r C:Nat}{A:Bf}(r6:r<=6)(hC:C<=r)(aA:Bp A=xZ)(bA:Bl 100 A){k:Nat}(hk:k<C){s:Rat}(hs:tw (-900)<=s)(ha:Ln r (fun i=>Bx C A i k) s):
 Ln C (fun b=>Bx C (El r C A) b k) (1001 / 1000*s)/\Ln r (fun i=>Bx C A i k-sm C fun b=>Bx C (K0 r C A) i b*Bx C (El r C A) b k) (7000*uR*s):=by
 obtain⟨F,up,_,_,_⟩:=Za (c:=C) r6 bA aA;have u0:=Dc;have u6:=IZ;have s0:0<=s:=ha.1;have f1:=F.f1 k s hk hs ha;have f2:=F.f2 k s hk hs ha;rw[Ak6] at f1 f2
 have eR:∀b,b<C->Bx C (El r C A) b k=cl C (FY r C A) k b:=fun b hb=>by unfold Bx El cl; rw[EU hb hk]
 have eQ:∀i b,i<r->b<C->Bx C (K0 r C A) i b=cl r (H3 r C A) b i:=fun i b hi hb=>by unfold Bx K0 cl; rw[EU hi hb]
 obtain⟨d,hd⟩:∃d,r=C+d:=⟨r-C,by omega⟩
 refine⟨?_,?_⟩
 ·refine⟨by grind,?_⟩
  have sp:sq r (cl C (FY r C A) k)=sq C (cl C (FY r C A) k)+sm d fun m=>cl C (FY r C A) k (C+m)*cl C (FY r C A) k (C+m):=by
   unfold sq;have:sm r (fun i=>cl C (FY r C A) k i*cl C (FY r C A) k i)=sm (C+d) (fun i=>cl C (FY r C A) k i*cl C (FY r C A) k i):=by rw[<- hd]
   rw[this]; exact Hj C _ d
  have nn:=K3 d (f:=fun m=>cl C (FY r C A) k (C+m)*cl C (FY r C A) k (C+m)) fun m _=>BS _
  have e:sq C (fun b=>Bx C (El r C A) b k)=sq C (cl C (FY r C A) k):=BD C fun b hb=>by show Bx C (El r C A) b k*Bx C (El r C A) b k=_;rw[eR b hb]
  rw[e];have h2:=f1.2;rw[sp] at h2;have us:uR*s<=1 / 1000000000000000*s:=zb Ajx s0;have:=H7 (x:=(1+1000*uR*5)*s) (y:=1001 / 1000*s) f1.1 (by grind);grind
 ·refine(f2.mono (by grind)).congr fun i hi=>?_
  congr 1;have:(sm r fun m=>cl r (H3 r C A) m i*cl C (FY r C A) k m)=sm (C+d) fun m=>cl r (H3 r C A) m i*cl C (FY r C A) k m:=by rw[<- hd]
  rw[this,Hj]
  have z:(sm d fun m=>cl r (H3 r C A) (C+m) i*cl C (FY r C A) k (C+m))=0:=by rw[BD d (g:=fun _=>0) fun m hm=>by rw[up k (C+m) hk (by omega) (by omega)]; grind];exact FW d
  rw[z];have e:(sm C fun b=>Bx C (K0 r C A) i b*Bx C (El r C A) b k)=sm C fun m=>cl r (H3 r C A) m i*cl C (FY r C A) k m:=BD C fun b hb=>by rw[eQ i b hi hb,eR b hb]
  rw[e]; grind
theorem AaZ{q:Nat->Rat}(hq:∀k,0<=q k):∃s:Nat->Rat,∀k,tw (-900)<=s k/\q k<=s k*s k/\s k*s k<=103 / 100*(q k+tw (-1800)):=by
 have h:∀k,∃s:Rat,tw (-900)<=s/\q k<=s*s/\s*s<=103 / 100*(q k+tw (-1800)):=fun k=>by
  have t:=DP (-1800);have h0:=hq k;obtain⟨s,s0,s1,s2⟩:=Vs (q:=q k+tw (-1800)) (by grind);refine⟨s,?_,by grind,s2⟩;refine GO (za s0) ?_;have e:tw (-900)*tw (-900)=tw (-1800):=by rw[<- Eu]; rfl
  rw[e]; grind
 exact⟨fun k=>(h k).choose,fun k=>(h k).choose_spec⟩
theorem AeU{R P C:Nat}{Q:Bf}(h6:R+P<=6)(c6:C<=6)(aQ:Bp Q=xZ)
 (qb:∀i k:Nat,i<R+P->k<C->Bd 1 (CE (C:Int) Q (i:Int) (k:Int)).toNat)
 (qo:∀a k,a<C->k<C->Nr (sm (R+P) fun i=>Bx C Q i a*Bx C Q i k) (OV a k) (5000*uR)):
 (∀i b,i<R->b<C->Nr (sm C fun j=>Bx C (EF R C (BR R C Q)) i j*Bx C (Fv R C (BR R C Q)) b j) (Bx C Q i b) (31 / 10*GK)) /\
 (∀a b,a<C->b<C->Nr (sm C fun j=>Bx C (Fv R C (BR R C Q)) a j*Bx C (Fv R C (BR R C Q)) b j) (OV a b) GK) /\
 (∀j,j<C->Ln C (fun a=>Bx C (Fv R C (BR R C Q)) a j) (101 / 100))/\(∀i k:Nat,i<C->k<C->Bd 5 (CE (C:Int) (Fv R C (BR R C Q)) (i:Int) (k:Int)).toNat):=by
 have r6:R<=6:=by omega
 have bl:Bl 1 (BR R C Q):=fun x hx=>by obtain⟨i,k,hi,hk,rfl⟩:=Hw (Ob R C Q) hx;rw[Pa hi hk];exact qb i k (by omega) hk
 have al:Bp (BR R C Q)=xZ:=FA fun _ _=>Ft aQ
 have hl:=Ob R C Q;obtain⟨F,m,f1,f12,hm,pi,fn,fS⟩:=UP bl al hl r6 c6;have hd:=XP bl hl f1 hm pi;have tt:tw (CC (BR R C Q))*tw (-(CC (BR R C Q)))=1:=by rw[<- Eu,wX]; exact KW
 have t0:=DP (CC (BR R C Q));have cl:=Vd bl hl r6 c6;have eS:=Nj hl;have u0:=Dc;have u6:=IZ;have e0:=Py;have h0:=Ee;have h1:Ci<=uR / 1000000:=NK;have eu:55000*uR=GK:=rfl
 have K1:CC (BR R C Q)<=1:=by
  by_cases k:∃z∈BR R C Q,BH z≠0
  ·exact Wt bl k
  ·rw[ZM bl.FU k]; decide +kernel
 have FT:F*tw (CC (BR R C Q))<=3:=by
  rcases fS with ⟨_,z⟩ | ⟨s1,s2⟩
  ·have T2:=UT K1;rw[tw1] at T2;rw[z]; grind
  ·have S6:GB (BR R C Q)<=61 / 10:=by
    rw[eS]
    have k1:(sm C fun k=>sq R fun i=>Bx C (BR R C Q) i k)<=sm C fun _=>1+5000*uR:=Ja C fun k hk=>by
     have a:=qo k k hk hk;have d1:OV k k=1:=Az rfl;rw[d1,Hj] at a
     have b:(sq R fun i=>Bx C (BR R C Q) i k)=sm R fun i=>Bx C Q i k*Bx C Q i k:=BD R fun i hi=>by show Bx C (BR R C Q) i k*Bx C (BR R C Q) i k=_;unfold Bx; rw[Pa hi hk]
     have c:=K3 P (f:=fun i=>Bx C Q (R+i) k*Bx C Q (R+i) k) fun i _=>BS _
     rw[b];unfold Nr at a; grind
    rw[QM] at k1;have c1:(C:Rat)<=6:=Cy (n:=6) c6;have:=zb c1 (show 0<=1+5000*uR by grind);grind
   have c2:(sm C fun k=>sq R fun i=>Bx C (B6 (BR R C Q) (-(CC (BR R C Q)))) i k)*(999 / 1000)<=GB (BR R C Q)*(tw (-(CC (BR R C Q)))*tw (-(CC (BR R C Q)))):=by unfold Nr at cl; grind
   have eT:GB (BR R C Q)*(tw (-(CC (BR R C Q)))*tw (-(CC (BR R C Q))))*(tw (CC (BR R C Q))*tw (CC (BR R C Q)))=GB (BR R C Q):=by
    have:GB (BR R C Q)*(tw (-(CC (BR R C Q)))*tw (-(CC (BR R C Q))))*(tw (CC (BR R C Q))*tw (CC (BR R C Q)))=GB (BR R C Q)*((tw (CC (BR R C Q))*tw (-(CC (BR R C Q))))*(tw (CC (BR R C Q))*tw (-(CC (BR R C Q))))):=by grind
    rw[this,tt]; grind
   generalize tw (CC (BR R C Q))=T at *
   generalize tw (-(CC (BR R C Q)))=I at *
   generalize (sm C fun k=>sq R fun i=>Bx C (B6 (BR R C Q) (-(CC (BR R C Q)))) i k)=s at *
   generalize GB (BR R C Q)=S at *
   have TT:0<=T*T:=BS T;have a1:=zb c2 TT;have a2:=zb s2 TT;rw[eT] at a1;refine GO (by decide) ?_;clear hd cl;grind
 have pl:=fun j (hj:j<C)=>PF (R:=R) (n:=C) (l:=BR R C Q) (j:=j) hj
 have pt:∀j,j<C->∃p:Nat,p<C/\(Ly R C (BR R C Q)).getD j 0=(p:Int)/\((Ly R C (BR R C Q)).getD j 0).toNat=p:=fun j hj=>by obtain⟨p,hp,e⟩:=pl j hj;exact⟨p,hp,e,by rw[e,Ad]⟩
 have vat:∀a j,a<C->j<C->Bx C (Fv R C (BR R C Q)) a j=Bx C (De R C (BR R C Q)).2.1 a ((Ly R C (BR R C Q)).getD j 0).toNat:=fun a j ha hj=>by obtain⟨p,hp,e,e2⟩:=pt j hj;rw[e2]; unfold Bx; rw[Ws ha hj e]
 have vl:∀j,j<C->Ln C (fun a=>Bx C (Fv R C (BR R C Q)) a j) (101 / 100):=fun j hj=>by obtain⟨p,hp,e,e2⟩:=pt j hj;exact(pi.Ae3 hm c6 hp).congr fun a ha=>by rw[vat a j ha hj,e2]
 refine⟨fun i b hi hb=>?_,fun a b ha hb=>?_,vl,fun i k hi hk=>Wr pi hi hk⟩
 ·have w1:∀j,j<C->Nr (Bx C (EF R C (BR R C Q)) i j) (Bx C (De R C (BR R C Q)).1 i ((Ly R C (BR R C Q)).getD j 0).toNat*tw (CC (BR R C Q))) Ci:=fun j hj=>by obtain⟨p,hp,e,e2⟩:=pt j hj;rw[e2]; exact Ac9 pi bl (by decide) hi hj hp e
  have s1:Nr (sm C fun j=>Bx C (EF R C (BR R C Q)) i j*Bx C (Fv R C (BR R C Q)) b j) (sm C fun j=>Bx C (De R C (BR R C Q)).1 i ((Ly R C (BR R C Q)).getD j 0).toNat*tw (CC (BR R C Q))*Bx C (De R C (BR R C Q)).2.1 b ((Ly R C (BR R C Q)).getD j 0).toNat) ((C:Rat)*(101 / 100*Ci)):=PN C fun j hj=>by
   have w:=w1 j hj;have v:=V9 (vl j hj) hb;rw[<- vat b j hb hj];rw[G7] at w ⊢;have e:Bx C (EF R C (BR R C Q)) i j*Bx C (Fv R C (BR R C Q)) b j-Bx C (De R C (BR R C Q)).1 i ((Ly R C (BR R C Q)).getD j 0).toNat*tw (CC (BR R C Q))*Bx C (Fv R C (BR R C Q)) b j=(Bx C (EF R C (BR R C Q)) i j-Bx C (De R C (BR R C Q)).1 i ((Ly R C (BR R C Q)).getD j 0).toNat*tw (CC (BR R C Q)))*Bx C (Fv R C (BR R C Q)) b j:=by grind
   rw[e,Ep];have:=CU w (Gd v) (za h0) (DZ _);grind
  have s2:=AbG (UQ R C (BR R C Q)) fun p=>Bx C (De R C (BR R C Q)).1 i p*tw (CC (BR R C Q))*Bx C (De R C (BR R C Q)).2.1 b p
  rw[s2] at s1
  have s3:(sm C fun p=>Bx C (De R C (BR R C Q)).1 i p*tw (CC (BR R C Q))*Bx C (De R C (BR R C Q)).2.1 b p)=(sm C fun p=>Bx C (De R C (BR R C Q)).1 i p*Bx C (De R C (BR R C Q)).2.1 b p)*tw (CC (BR R C Q)):=by rw[<- IB]; exact BD C fun p _=>by grind
  rw[s3] at s1;have d:=(hd i b hi hb).scale (za t0)
  have e:Bx C (BR R C Q) i b*tw (-(CC (BR R C Q)))*tw (CC (BR R C Q))=Bx C Q i b:=by
   have:Bx C (BR R C Q) i b*tw (-(CC (BR R C Q)))*tw (CC (BR R C Q))=Bx C (BR R C Q) i b*(tw (CC (BR R C Q))*tw (-(CC (BR R C Q)))):=by grind
   rw[this,tt];unfold Bx; rw[Pa hi hb]; grind
  rw[e] at d;refine(s1.trans d).mono ?_;have c1:(C:Rat)<=6:=Cy (n:=6) c6;have k1:=zb c1 (show 0<=101 / 100*Ci by grind);have k2:=zd FT (za e0);grind
 ·have e:(sm C fun j=>Bx C (Fv R C (BR R C Q)) a j*Bx C (Fv R C (BR R C Q)) b j)=sm C fun p=>Bx C (De R C (BR R C Q)).2.1 a p*Bx C (De R C (BR R C Q)).2.1 b p:=by
   have s2:=AbG (UQ R C (BR R C Q)) fun p=>Bx C (De R C (BR R C Q)).2.1 a p*Bx C (De R C (BR R C Q)).2.1 b p
   rw[<- s2];exact BD C fun j hj=>by rw[vat a j ha hj,vat b j hb hj]
  rw[e];refine(pi.e a b ha hb).mono ?_;have:=(pi.Ai2 hm).2;grind
end Go.Ck
