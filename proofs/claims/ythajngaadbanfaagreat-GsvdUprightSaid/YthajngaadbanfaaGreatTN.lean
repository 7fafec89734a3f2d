/- A verified evaluator of the program's form and its use for this seat: SvdO, SvdI, SvdQ, SvdJ, SvdK, SvdM, SvdR, FacG, BeN, SvdG, GsvN, GsvP, GsvQ, GsvR, GsvT, S1PLaw23V. -/
import Derived.Test.YthajngaadbanfaaGreatTM
import Derived.Test.YthajngaadbanfaaGreatTF
import Derived.Test.YthajngaadbanfaaGreatTL
set_option linter.unusedVariables false
set_option linter.unusedSimpArgs false
open Option renaming some->wM,none->wN
open Bool renaming true->wc,false->wh
open Rat renaming le_refl->zE,mul_le_mul_of_nonneg_right->zc,mul_nonneg->zb,le_of_lt->za,mul_le_mul_of_nonneg_left->zd,le_trans->zp
open List renaming mem_map->zh,getElem_mem->z6,mem_iff_getElem->wa,mem_range->zX,getElem?_range->yn,Perm.refl->wS,range->zg,mem_append->zu,all_eq_true->zF
open Int renaming toNat_of_nonneg->xv,le_refl->yO,natCast_add->zI,zero_add->yy
open Nat renaming zero_le->zl
open Classical renaming byContradiction->yY
open Bool renaming or_eq_true->zH,not_eq_true'->yt,true_or->x9
namespace Go.Cn
open Go.Den
section
variable{R n:Nat}{F:Rat}{D:Nat->Nat->Rat}(hF:1<=F)(hF2:F<=12)(r6:R<=6)(low:Int)
include hF hF2 r6
theorem PI.K2{p:Nat}:∀(d q:Nat) {m:Nat} {s:Bf × Bf × Bool},PI R n F D m s->q+d=n->p<q->m+d<=1000->PI R n F D (m+d) (K2 M5 R n low p d q s)
 | 0,_,_,_,h,_,_,_=>h
 | d+1,q,m,s,h,hq,hp,hm=>by have:=PI.K2 (p:=p) d (q+1) (h.Ea hF hF2 (by omega) r6 low hp (by omega)) (by omega) (by omega) (by omega);rw[show m+(d+1)=m+1+d by omega];exact this
def R0(n:Nat):Nat->Nat->Nat
 | 0,_=>0
 | d+1,p=>(n-(p+1))+R0 n d (p+1)
theorem PI.Im:∀(d p:Nat) {m:Nat} {s:Bf × Bf × Bool},PI R n F D m s->p+d=n->m+R0 n d p<=1000->PI R n F D (m+R0 n d p) (Im M5 R n low d p s)
 | 0,_,_,_,h,_,_=>h
 | d+1,p,m,s,h,hp,hm=>by have e:R0 n (d+1) p=(n-(p+1))+R0 n d (p+1):=rfl;rw[e] at hm ⊢;have:=PI.K2 hF hF2 r6 low (p:=p) (n-(p+1)) (p+1) h (by omega) (by omega) (by omega);have:=PI.Im d (p+1) this (by omega) (by omega);rw[show m+(n-(p+1)+R0 n d (p+1))=m+(n-(p+1))+R0 n d (p+1) by omega];exact this
end
theorem AjK:∀n:Fin 7,R0 n.val n.val 0<=15:=by decide
theorem PI.rounds{R n:Nat}{F:Rat}{D:Nat->Nat->Rat}(hF:1<=F)(hF2:F<=12)(r6:R<=6)(n6:n<=6)(low:Int):∀(k m:Nat) {w v:Bf},PI R n F D m (w,v,wc)->m+15*k<=1000 ->
 ∃m',m'<=m+15*k/\PI R n F D m' ((DC R n low k w v).1,(DC R n low k w v).2.1,wc)
 | 0,m,w,v,h,_=>⟨m,by omega,h⟩
 | k+1,m,w,v,h,hm=>by
   have c:=AjK ⟨n,by omega⟩;have c:R0 n n 0<=15:=c;have g:PI R n F D (m+R0 n n 0) (Gp R n low w v):=PI.Im hF hF2 r6 low n 0 h (by omega) (by omega);have g':PI R n F D (m+R0 n n 0) ((Gp R n low w v).1,(Gp R n low w v).2.1,wc):=⟨g.w,g.v,g.d,g.e⟩
   unfold DC;split
   ·exact⟨_,by omega,g'⟩
   ·obtain⟨m',h1,h2⟩:=PI.rounds hF hF2 r6 n6 low k (m+R0 n n 0) g' (by omega);exact⟨m',by omega,h2⟩
theorem YM{be:Bf->Bf->Int->Bool}{R n:Nat}{low:Int}{p q:Nat}{s:Bf × Bf × Bool}(h:(Jd be R n low p q s).2.2=wc):Jd be R n low p q s=s/\be (Dl R n s.1 p) (Dl R n s.1 q) low=wc:=by
 unfold Jd at h ⊢;by_cases k:be (Dl R n s.1 p) (Dl R n s.1 q) low=wc
 ·rw[Az k]; exact⟨rfl,k⟩
 ·rw[Ay k] at h; exact absurd (show wh=wc from h) (by decide)
theorem U5{be:Bf->Bf->Int->Bool}{R n:Nat}{low:Int}{p:Nat}:∀(d q:Nat) {s:Bf × Bf × Bool},(K2 be R n low p d q s).2.2=wc->K2 be R n low p d q s=s/\∀j,q<=j->j<q+d->be (Dl R n s.1 p) (Dl R n s.1 j) low=wc
 | 0,_,_,_=>⟨rfl,fun j h1 h2=>by omega⟩
 | d+1,q,s,h=>by
   have h:(K2 be R n low p d (q+1) (Jd be R n low p q s)).2.2=wc:=h;obtain⟨h1,h2⟩:=U5 d (q+1) h;rw[h1] at h;obtain⟨h3,h4⟩:=YM h;refine⟨h1.trans h3,fun j j1 j2=>?_⟩;by_cases e:j=q
   ·subst e; exact h4
   ·have:=h2 j (by omega) (by omega);rw[h3] at this; exact this
theorem SI{be:Bf->Bf->Int->Bool}{R n:Nat}{low:Int}:∀(d p:Nat) {s:Bf × Bf × Bool},(Im be R n low d p s).2.2=wc->Im be R n low d p s=s/\∀i j,p<=i->i<p+d->i<j->j<n->be (Dl R n s.1 i) (Dl R n s.1 j) low=wc
 | 0,_,_,_=>⟨rfl,fun i j h1 h2=>by omega⟩
 | d+1,p,s,h=>by
   have h:(Im be R n low d (p+1) (K2 be R n low p (n-(p+1)) (p+1) s)).2.2=wc:=h;obtain⟨h1,h2⟩:=SI d (p+1) h;rw[h1] at h;obtain⟨h3,h4⟩:=U5 _ _ h;refine⟨h1.trans h3,fun i j i1 i2 ij jn=>?_⟩;by_cases e:i=p
   ·subst e; exact h4 j (by omega) (by omega)
   ·have:=h2 i j (by omega) (by omega) ij jn;rw[h3] at this; exact this
theorem U6{R n:Nat}{low:Int}:∀(k:Nat) {w v:Bf},(DC R n low k w v).2.2=0->∀i j,i<j->j<n->M5 (Dl R n (DC R n low k w v).1 i) (Dl R n (DC R n low k w v).1 j) low=wc
 | 0,_,_,h=>absurd (show(6:Int)=0 from h) (by decide)
 | k+1,w,v,h=>by
   intro i j ij jn;unfold DC at h ⊢;by_cases g:(Gp R n low w v).2.2=wc
   ·rw[Az g];obtain⟨h1,h2⟩:=SI n 0 g;have:=h2 i j (by omega) (by omega) ij jn;show M5 (Dl R n (Gp R n low w v).1 i) (Dl R n (Gp R n low w v).1 j) low=wc;have e:(Gp R n low w v).1=w:=by unfold Gp; rw[h1]
    rw[e]; exact this
   ·rw[Ay g] at h ⊢;exact U6 k h i j ij jn
open Go.Den
theorem X4:((0:Nat):Rat)=0:=by decide +kernel
def Ue(i k:Nat):Rat:=if i=k then 1 else 0
theorem Yo{n i k:Nat}(hi:i<n)(hk:k<n):Dy (n:Int) (Fi n) (i:Int) (k:Int)=if i=k then 4607182418800017408 else 0:=by
 have:Dy (n:Int) (Fi n) (i:Int) (k:Int)=LS (i:Int) (k:Int):=F6 hi hk;rw[this];unfold LS;by_cases h:i=k
 ·subst h; rw[Az rfl,Az rfl]
 ·rw[Ay h,Ay (by omega)]
theorem Sa{n i k:Nat}(hi:i<n)(hk:k<n):BN n (Fi n) i k=Ue i k:=by
 unfold BN Ue;rw[Yo hi hk];by_cases h:i=k
 ·rw[Az h,Az h]; exact R7
 ·rw[Ay h,Ay h]; decide +kernel
theorem Aj9{n i k:Nat}(hi:i<n)(hk:k<n):Bd 5 (Dy (n:Int) (Fi n) (i:Int) (k:Int)).toNat:=by
 rw[Yo hi hk];by_cases h:i=k
 ·rw[Az h]; exact LL.mono (by decide)
 ·rw[Ay h]; exact Bd.zero wh 5
theorem VB{n k:Nat}(hk:k<n)(f:Nat->Rat):(sm n fun j=>f j*Ue k j)=f k:=by
 rw[O9 hk (fun j _ hj=>by show f j*Ue k j=0;unfold Ue; rw[Ay (fun e=>hj e.symm)]; grind)]
 unfold Ue; rw[Az rfl]; grind
theorem Aj8{n i:Nat}(hi:i<n):Ln n (BN n (Fi n) i) 1:=by
 refine⟨by decide,?_⟩;have e:sq n (BN n (Fi n) i)=sm n fun j=>Ue i j*Ue i j:=BG n fun j hj=>by rw[Sa hi hj]
 rw[e,VB hi];unfold Ue; rw[Az rfl]; grind
theorem AhL{n:Nat}:SvS n n 1 (Fi n):=⟨Gu fun _ _=>Abl _ _,fun _ _ hi hj=>Aj9 hi hj,fun _ hi=>Aj8 hi⟩
theorem PI.start{R n:Nat}{F:Rat}{w:Bf}(hw:SvS R n F w):PI R n F (fun i k=>BN n w i k) 0 (w,Fi n,wc):=by
 have e1:F*(1+60*uR*((0:Nat):Rat))=F:=by rw[X4]; grind
 have e2:(1:Rat)*(1+60*uR*((0:Nat):Rat))=1:=by rw[X4]; grind
 refine⟨by rw[e1]; exact hw,by rw[e2]; exact AhL,fun i k hi hk=>?_,fun i k hi hk=>?_⟩
 ·have e:(sm n fun j=>BN n w i j*BN n (Fi n) k j)=BN n w i k:=by rw[<- VB hk (BN n w i)];exact BG n fun j hj=>by rw[Sa hk hj]
  show Nr (sm n fun j=>BN n w i j*BN n (Fi n) k j) _ _;rw[e,X4];unfold Nr; grind
 ·have e:(sm n fun j=>BN n (Fi n) i j*BN n (Fi n) k j)=if i=k then 1 else 0:=by
   have:(sm n fun j=>BN n (Fi n) i j*BN n (Fi n) k j)=sm n fun j=>Ue i j*Ue k j:=BG n fun j hj=>by rw[Sa hi hj,Sa hk hj]
   rw[this,VB hk];rfl
  show Nr (sm n fun j=>BN n (Fi n) i j*BN n (Fi n) k j) _ _;rw[e,X4];unfold Nr; grind
theorem LB(c:Rat)(f:Nat->Rat)(n:Nat):sm n (fun i=>f i*c)=sm n f*c:=by
 have:=ES c f n;have e:sm n (fun i=>f i*c)=sm n fun i=>c*f i:=BG n fun i _=>by grind
 rw[e,this]; grind
theorem VA(n m:Nat)(a b:Nat->Rat):sm n a*sm m b=sm n fun k=>sm m fun l=>a k*b l:=by rw[<- LB];exact BG n fun k _=>by rw[<- ES]
theorem Kb(f:Nat->Nat->Rat)(n:Nat):(sm n fun i=>sm n fun j=>f i j)=sm n fun j=>sm n fun i=>f i j:=N9 f n n
theorem AcR(n:Nat)(v:Nat->Nat->Rat):
 (sm n fun i=>sm n fun j=>(sm n fun k=>v k i*v k j)*(sm n fun k=>v k i*v k j))=sm n fun k=>sm n fun l=>(sm n fun i=>v k i*v l i)*(sm n fun i=>v k i*v l i):=by
 have e1:(sm n fun i=>sm n fun j=>(sm n fun k=>v k i*v k j)*(sm n fun k=>v k i*v k j))=sm n fun i=>sm n fun j=>sm n fun k=>sm n fun l=>(v k i*v k j)*(v l i*v l j) :=BG n fun i _=>BG n fun j _=>VA n n _ _
 have e2:(sm n fun k=>sm n fun l=>(sm n fun i=>v k i*v l i)*(sm n fun i=>v k i*v l i))=sm n fun k=>sm n fun l=>sm n fun i=>sm n fun j=>(v k i*v l i)*(v k j*v l j) :=BG n fun k _=>BG n fun l _=>VA n n _ _
 rw[e1,e2]
 have s1:(sm n fun i=>sm n fun j=>sm n fun k=>sm n fun l=>(v k i*v k j)*(v l i*v l j))=sm n fun i=>sm n fun k=>sm n fun j=>sm n fun l=>(v k i*v k j)*(v l i*v l j) :=BG n fun i _=>Kb _ n
 have s2:(sm n fun i=>sm n fun k=>sm n fun j=>sm n fun l=>(v k i*v k j)*(v l i*v l j))=sm n fun k=>sm n fun i=>sm n fun j=>sm n fun l=>(v k i*v k j)*(v l i*v l j):=Kb _ n
 have s3:(sm n fun k=>sm n fun i=>sm n fun j=>sm n fun l=>(v k i*v k j)*(v l i*v l j))=sm n fun k=>sm n fun i=>sm n fun l=>sm n fun j=>(v k i*v k j)*(v l i*v l j) :=BG n fun k _=>BG n fun i _=>Kb _ n
 have s4:(sm n fun k=>sm n fun i=>sm n fun l=>sm n fun j=>(v k i*v k j)*(v l i*v l j))=sm n fun k=>sm n fun l=>sm n fun i=>sm n fun j=>(v k i*v k j)*(v l i*v l j) :=BG n fun k _=>Kb _ n
 rw[s1,s2,s3,s4];exact BG n fun k _=>BG n fun l _=>BG n fun i _=>BG n fun j _=>by grind
theorem Vy(n:Nat)(v:Nat->Nat->Rat):
 (sm n fun i=>sm n fun j=>((sm n fun k=>v k i*v k j)-if i=j then 1 else 0)*((sm n fun k=>v k i*v k j)-if i=j then 1 else 0))=
 sm n fun k=>sm n fun l=>((sm n fun i=>v k i*v l i)-if k=l then 1 else 0)*((sm n fun i=>v k i*v l i)-if k=l then 1 else 0):=by
 have ex:∀g:Nat->Nat->Rat,(sm n fun i=>sm n fun j=>(g i j-if i=j then 1 else 0)*(g i j-if i=j then 1 else 0))=(sm n fun i=>sm n fun j=>g i j*g i j)+(-2*(sm n fun i=>g i i)+sm n fun _=>1):=fun g=>by
  rw[<- ES,<- Eo,<- Eo];refine BG n fun i hi=>?_
  have:(sm n fun j=>(g i j-if i=j then 1 else 0)*(g i j-if i=j then 1 else 0))=sm n fun j=>g i j*g i j+(if i=j then -2*g i i+1 else 0):=BG n fun j _=>by
   by_cases h:i=j
   ·subst h; rw[Az rfl,Az rfl]; grind
   ·rw[Ay h,Ay h]; grind
  rw[this,Eo];congr 1;rw[O9 hi (fun j _ hj=>Ay (fun e=>hj e.symm)),Az rfl]
 rw[ex,ex,AcR];congr 2;congr 1;rw[Kb (fun i k=>v k i*v k i) n]
theorem Alr{n:Nat}{f:Nat->Rat}(h:∀i,i<n->0<=f i){j:Nat}(hj:j<n):f j<=sm n f:=by
 have e:(sm n fun i=>if i=j then f i else 0)=f j:=by rw[O9 hj (fun i _ hi=>Ay hi),Az rfl]
 rw[<- e];refine Jz n fun i hi=>?_
 by_cases k:i=j
 ·rw[Az k]; exact zE
 ·rw[Ay k]; exact h i hi
theorem Qr(c:Rat):∀n:Nat,sm n (fun _=>c)=(n:Rat)*c
 | 0=>by rw[X4]; show(0:Rat)=_; grind
 | n+1=>by have e:((n+1:Nat):Rat)=(n:Rat)+1:=Rat.natCast_add n 1;show sm n (fun _=>c)+c=_;rw[Qr c n,e]; grind
theorem AaJ{b:Nat}(hb:b<2^64)(h4:Bn b≠4):(Cj b 0).1=b:=by
 by_cases k:Bn b=3\/Bn b=0
 ·unfold Cj; rw[Ay h4,Az k]
 ·rw[G4 h4 k,Int.add_zero,AfA hb h4]
theorem NG{b:Nat}{n:Int}(h:b<2^64):(Cj b n).1<2^64:=by
 unfold Cj;split
 ·decide
 ·split
  ·exact h
  ·exact ML _ _ _
theorem Sz{x:Bf}{k:Int}{j:Nat}(h:j<x.length):(B5 x k).getD j 0=BV (x.getD j 0) k:=by unfold B5;rw[Al,Ba,Al,As h];rfl
theorem Qo(k:Int):∀(l:Bf) (s:Int),(∀x∈l,x.toNat<2^64/\Du x=wc)->Bl 1 (B5 l k)->F8 k s l=F8 0 s (B5 l k)
 | [],_,_,_=>rfl
 | x::l,s,h,hb=>by
   have e:BV (BV x k) 0=BV x k:=by
    have b:=hb (BV x k) (zh.2 ⟨x,AY,rfl⟩);have lt:(BV x k).toNat<2^64:=by rw[Co]; exact NG (h x AY).1
    show((Cj (BV x k).toNat 0).1:Int)=BV x k;rw[AaJ lt b.2.1];exact xv (Int.natCast_nonneg _)
   show F8 k (DD s (Cx (BV x k) (BV x k))) l=F8 0 (DD s (Cx (BV (BV x k) 0) (BV (BV x k) 0))) (B5 l k);rw[e];exact Qo k l _ (fun z hz=>h z (AN _ hz)) fun z hz=>hb z (AN _ hz)
theorem AlP{y:Bf}(hb:Bl 1 y)(h:∀x∈y,x.toNat<2^64){j:Nat}(hj:j<y.length):zR 0 (y.getD j 0)=rv y j:=by
 have m:y.getD j 0∈y:=by rw[Al,As hj]; exact z6 hj
 unfold zR rv;rw[AaJ (h _ m) (hb _ m).2.1]
theorem Acy{y:Bf}(hb:Bl 1 y)(h:∀x∈y,x.toNat<2^64)(hl:y.length<=7)(h1:∃z∈y,pw 0<=z.toNat%2^63):
 Nr (vR (DG (F8 0 0 y)).toNat*vR (DG (F8 0 0 y)).toNat) (sq y.length (rv y)) (31*uR*sq y.length (rv y))/\0<=vR (DG (F8 0 0 y)).toNat/\1<=sq y.length (rv y)/\Bd 3 (DG (F8 0 0 y)).toNat:=by
 have hm1:1<=sq y.length (rv y):=by
  obtain⟨z,hz,g⟩:=h1;obtain⟨j,hj,rfl⟩:=wa.1 hz;have e:rv y j=vR (y[j]).toNat:=by unfold rv; rw[Al,As hj]; rfl
  have h1:=IH g;rw[<- e] at h1;have h2:=N8 (f:=fun i=>rv y i*rv y i) hj fun i _=>BX _
  have h3:=Hj (x:=1) (y:=av (rv y j)) (by decide) h1;rw[Gg] at h3;unfold sq;grind
 obtain⟨t,te,t1,_⟩:=MG 0 y 0 (zl _);have te:F8 0 0 y=t:=te;have z0:vR 0=0:=HB wh;have hlen:(y.length:Rat)<=7:=C1 hl;have se:=V7 (k:=0) (yO 0) y 0 1 0 0 hb (Bd.zero wh 2).bm (by decide) (by omega) (zE) (zE) (by grind) (by rw[z0]; unfold Nr; grind);have se:Nr (vR (F8 0 0 y).toNat) _ _:=se;have bm:=Qp (k:=0) (yO 0) y 0 1 hb (Bd.zero wh 2).bm (by decide) (by omega);have bm:Bm (1+y.length) 2 (F8 0 0 y).toNat:=bm;rw[te,Ad] at bm se
 have eT:(0:Rat)+sm y.length (fun j=>zR 0 (y.getD j 0)*zR 0 (y.getD j 0))=sq y.length (rv y):=by rw[Rat.zero_add];exact BG _ fun j hj=>by rw[AlP hb h hj]
 rw[eT] at se;have bt:Bd (3+3) t:=(bm.bd (j:=3) (by omega)).mono (by decide);have br:Bd 3 (Ek t).1:=Bd.root (by decide) bt (EF t1);have hr:=Pm bt.1 bt.2.1 (.inl (EF t1)) br.1;have er:(DG (F8 0 0 y)).toNat=(Ek t).1:=by rw[te,Lf,Ad]
 rw[er];refine⟨?_,hr.2.1,hm1,br⟩;have hr1:=hr.1;generalize vR (Ek t).1*vR (Ek t).1=r2 at *
 generalize vR t=S at *
 generalize sq y.length (rv y)=Q at *
 have u0:=Dd;have u1:=JX;have e1:Cl<=uR / 1000000:=O2;have ln:=GR y.length
 have c1:3*(0+(y.length:Rat))*uR*Q<=21*(uR*Q):=by have:=zc hlen (zb (za u0) (show 0<=Q by grind)); grind
 have c2:2*(0+(y.length:Rat))*Cl<=14*Cl:=by have:=zc hlen (za DY); grind
 have uQ:uR<=uR*Q:=by have:=zd hm1 (za u0); grind
 have se:Nr S Q (211 / 10*(uR*Q)):=se.mono (by grind);have uQ2:uR*(uR*Q)<=1 / 1000000*(uR*Q):=zc u1 (by grind);have uS:uR*S<=uR*(Q+211 / 10*(uR*Q)):=zd se.1 (za u0);unfold Nr at *
 grind
theorem Z8{x:Bf}{i:Nat}(hi:i<x.length):x.getD i 0∈x:=by rw[Al,As hi]; exact z6 hi
theorem P4{k:Nat}{x:Bf}(hx:Bl k x)(hk:k<=900)(h:∀z∈x,z.toNat<2^64)(hl:x.length<=7):
 0<=vR (Cb x).toNat/\Bd (k+5) (Cb x).toNat/\Ln x.length (rv x) (vR (Cb x).toNat*(1+20*uR)+8*Cl)/\∀s,Ln x.length (rv x) s->vR (Cb x).toNat<=s*(1+20*uR)+8*Cl:=by
 have hf:=hx.FJ;have u0:=Dd;have u1:=JX;have e0:=DY;have e1:Cl<=uR / 1000000:=O2;by_cases h0:∃z∈x,BF z≠0
 ·obtain⟨b3,b4,ba,hb⟩:=Jb hf;obtain⟨w,hw,w0,we⟩:=Mb hf h0;have yb:=GP hf;have y1:=NA hf h0;have yl:(B5 x (-BO (BI x))).length=x.length:=by unfold B5; rw[AO]
  have y64:∀z∈B5 x (-BO (BI x)),z.toNat<2^64:=fun z hz=>by obtain⟨v,hv,rfl⟩:=zh.1 hz;rw[Co]; exact NG (h v hv)
  obtain⟨c1,c2,c3,c4⟩:=Acy yb y64 (by rw[yl]; exact hl) y1;have wk:=L4 (FI hf w hw);have ee:BO (BI x)=Em w.toNat:=by unfold BO; rw[we,LU w.toNat]; rfl
  have nz:¬(BI x=0\/Du (BI x)=wh):=fun g=>by
   rcases g with g | g
   ·have:DP w.toNat=0:=by rw[<- we,g]; rfl
    exact w0 (abs_zero this)
   ·unfold Du at g; rw[IL] at g; simp[b3,b4] at g
  have en:Cb x=BV (DG (F8 0 0 (B5 x (-BO (BI x))))) (BO (BI x)):=by unfold Cb;rw[Ay nz,Qo _ x 0 (fun z hz=>⟨h z hz,FI hf z hz⟩) yb]
  have wm:Bx w.toNat≠0:=fun e=>w0 ((CZ wk.1 wk.2).1 e)
  have lg:=(hx w hw).log wm;obtain⟨x1,_⟩:=KM wk.1 wk.2 w0;have Ku:BO (BI x)<=(k:Int):=by rw[ee,x1]; omega
  have nb:Bd (k+5) (Cb x).toNat:=by rw[en,Co]; exact Bd.scale (by omega) c4 (by omega)
  have nb':=nb;have sc:=GZ (n:=BO (BI x)) c4.1 c4.2.1 (by rw[<- Co,<- en]; exact nb.1);rw[<- Co,<- en] at sc
  have n0:0<=vR (Cb x).toNat:=by
   have np:Np (Cb x).toNat:=by
    obtain⟨t,te,t1,_⟩:=MG 0 (B5 x (-BO (BI x))) 0 (zl _);have te:F8 0 0 (B5 x (-BO (BI x)))=t:=te
    have:Np t:=⟨t1,by have bm:=Qp (k:=0) (yO 0) _ 0 1 yb (Bd.zero wh 2).bm (by decide) (by rw[yl]; omega);have bm:Bm _ 2 (F8 0 0 (B5 x (-BO (BI x)))).toNat:=bm;rw[te,Ad] at bm; exact bm.2.1⟩
    rw[en,Co,te,Lf,Ad];exact S9 (RH this)
   exact Vt (EF np.1)
  have ye:∀i,i<x.length->Nr (rv (B5 x (-BO (BI x))) i) (rv x i*tw (-BO (BI x))) Cl:=fun i hi=>by have m:=hx _ (Z8 hi);have mb:=yb _ (Z8 (x:=B5 x (-BO (BI x))) (i:=i) (by rw[yl]; exact hi));rw[Sz hi,Co] at mb;rw[Ps hi];exact GZ m.1 m.2.1 mb.1
  have tt:tw (BO (BI x))*tw (-BO (BI x))=1:=by rw[<- E5,Int.add_right_neg]; exact J6
  have t0:=En (BO (BI x));have s0:=En (-BO (BI x));rw[yl] at c1 c3;clear en nb c4;generalize vR (DG (F8 0 0 (B5 x (-BO (BI x))))).toNat=r at *
  generalize rv (B5 x (-BO (BI x)))=y at *
  generalize tw (BO (BI x))=T at *
  generalize tw (-BO (BI x))=I at *
  generalize vR (Cb x).toNat=N at *
  have er:Ln x.length (fun i=>rv x i*I-y i) (3*Cl):=Ln.Ir (za e0) (fun i hi=>by have:=ye i hi; unfold Nr at this; unfold Ab; grind) (by omega)
  have er2:Ln x.length (fun i=>y i-rv x i*I) (3*Cl):=er.neg.congr fun i _=>by grind
  generalize hQ:sq x.length y=Q at *
  have uQ:uR<=uR*Q:=by have:=zd c3 (za u0); grind
  have rr:999 / 1000<=r*r:=by unfold Nr at c1; have:=zc u1 (show 0<=Q by grind); grind
  have r1:9 / 10<=r:=H7 c2 (by grind)
  have ly:Ln x.length y (r*(1+17*uR)):=by refine⟨zb c2 (by grind),?_⟩;rw[hQ];have k1:=c1.2;have k2:0<=uR*(r*r):=zb (za u0) (BX r);have k3:uR*(31*uR*Q)<=1 / 1000000*(31*uR*Q):=zc u1 (by grind);have k4:0<=uR*(uR*(r*r)):=zb (za u0) k2;have k5:=zd k1 (za u0);grind
  have ur:uR*(9 / 10)<=uR*r:=zd r1 (za u0);refine⟨n0,nb',?_,fun s hs=>?_⟩
  ·have l1:Ln x.length (fun i=>rv x i*I) (r*(1+18*uR)):=((ly.add er).congr fun i _=>by grind).mono (by grind);have l2:=l1.scale (c:=T) (B:=T) (by unfold Ab; grind)
   have l3:Ln x.length (rv x) (T*(r*(1+18*uR))):=l2.congr fun i _=>by
    have:T*(rv x i*I)=T*I*rv x i:=by grind
    rw[this,tt]; grind
   refine l3.mono ?_;have k1:=sc.2;have k2:=zc k1 (show 0<=1+18*uR by grind);have k3:=zd u1 (za e0);have k4:=zb (za u0) n0;grind
  ·have hs0:=hs.1;have l1:Ln x.length (fun i=>rv x i*I) (I*s):=(hs.scale (c:=I) (B:=I) (by unfold Ab; grind)).congr fun i _=>by grind
   have l2:Ln x.length y (I*s+3*Cl):=(l1.add er2).congr fun i _=>by grind
   have q1:=l2.2;rw[hQ] at q1;have z0:0<=I*s:=zb (za s0) hs0;have g1:(1:Rat)<=I*s+3*Cl:=H7 (by grind) (by grind);have g2:9 / 10<=I*s:=by grind
   have us:uR*(9 / 10)<=uR*(I*s):=zd g2 (za u0);have g3:I*s+3*Cl<=I*s*(1+uR):=by grind
   have g0:0<=I*s*(1+uR):=zb z0 (by grind);have q2:Q<=I*s*(1+uR)*(I*s*(1+uR)):=zp q1 (Hj (by grind) g3)
   have q3:r*r<=I*s*(1+18*uR)*(I*s*(1+18*uR)):=by
    have k1:=c1.1;have p0:=BX (I*s);generalize I*s=p at *
    have k2:=zc q2 (show 0<=1+31*uR by grind);have k3:0<=uR*(p*p):=zb (za u0) p0;have k4:uR*(uR*(p*p))<=1 / 1000000*(uR*(p*p)):=zc u1 k3;have k5:uR*(uR*(uR*(p*p)))<=1 / 1000000*(uR*(uR*(p*p))):=zc u1 (zb (za u0) k3);have k6:0<=uR*(uR*(p*p)):=zb (za u0) k3;grind
   have q4:r<=I*s*(1+18*uR):=H7 (zb z0 (by grind)) q3;have q5:=zc q4 (za t0)
   have q6:I*s*(1+18*uR)*T=s*(1+18*uR):=by
    have:I*s*(1+18*uR)*T=T*I*(s*(1+18*uR)):=by grind
    rw[this,tt]; grind
   have k1:=sc.1;have k4:=zb (za u0) hs0;grind
 ·
  have hz:∀z∈x,Bn z.toNat=0:=fun z hz=>by
   have:BF z=0:=yY fun g=>h0 ⟨z,hz,g⟩
   unfold BF at this; omega
  have b0:BI x=0:=by
   have eb:BI x=(Iz x 0:Int):=rfl;rcases PW x 0 with g | g | ⟨z,hz',_,g⟩
   ·obtain⟨_,b4,_,_⟩:=Jb hf;exfalso; apply b4; rw[eb,g]; decide
   ·rw[eb,g]; rfl
   ·rw[eb,g];have:=Fz (hz z hz');unfold DP; rw[this]; rfl
  have en:Cb x=0:=by unfold Cb; rw[Az (.inl b0),b0]
  have v0:vR 0=0:=HB wh;have r0:∀i,i<x.length->rv x i=0:=fun i hi=>JW (hz _ (Z8 hi))
  rw[en];show 0<=vR 0/\Bd (k+5) 0/\Ln x.length (rv x) (vR 0*(1+20*uR)+8*Cl)/\∀s,Ln x.length (rv x) s->vR 0<=s*(1+20*uR)+8*Cl;rw[v0];refine⟨zE,Bd.zero wh _,?_,fun s hs=>?_⟩
  ·exact((Ln.zero x.length).congr fun i hi=>r0 i hi).mono (by grind)
  ·have:=zb hs.1 (show 0<=1+20*uR by grind);grind
theorem V0:uR<=1112 / 10000000000000000000:=by decide +kernel
def JJ:Rat:=55000*uR
theorem Wv:0<JJ:=by have:=Dd; unfold JJ; grind
theorem Yr:JJ<=6116 / 1000000000000000:=by have:=V0; unfold JJ; grind
theorem PI.Ajr{R n:Nat}{F:Rat}{D:Nat->Nat->Rat}{m:Nat}{s:Bf × Bf × Bool}(_h:PI R n F D m s)(hm:m<=900):0<=(m:Rat)*(60*uR*1)/\(m:Rat)*(60*uR*1)<=54 / 55*JJ:=by have hu:=Dd;have M0:=GR m;have M1:(m:Rat)<=900:=C1 (n:=900) hm;have:=zc M1 (show 0<=60*uR*1 by grind);refine⟨zb M0 (by grind),?_⟩;unfold JJ; grind
section
variable{R n:Nat}{F:Rat}{D:Nat->Nat->Rat}{m:Nat}{s:Bf × Bf × Bool}(h:PI R n F D m s)(hm:m<=900)(n6:n<=6)
include h hm n6
theorem PI.AhH{p:Nat}(hp:p<n):Ln n (fun j=>(sm n fun k=>BN n s.2.1 k j*BN n s.2.1 k p)-if j=p then 1 else 0) (6*JJ):=by
 have e0:=Wv;obtain⟨k0,k1⟩:=h.Ajr hm;generalize hK:(m:Rat)*(60*uR*1)=K at *
 have sw:=Vy n fun k i=>BN n s.2.1 k i
 have b:(sm n fun k=>sm n fun l=>((sm n fun i=>BN n s.2.1 k i*BN n s.2.1 l i)-if k=l then 1 else 0)*((sm n fun i=>BN n s.2.1 k i*BN n s.2.1 l i)-if k=l then 1 else 0))<=sm n fun _=>sm n fun _=>K*K :=Jz n fun k hk=>Jz n fun l hl=>by have e:=h.e k l hk hl;rw[hK,G2] at e;have:=CM e e k0 (DK _);rw[Gg] at this;exact this
 have c:(sm n fun _=>sm n fun _=>K*K)=(n:Rat)*K*((n:Rat)*K):=by rw[Qr,Qr]; grind
 have n1:(n:Rat)<=6:=C1 (n:=6) n6;have n0:=GR n
 have nk:(n:Rat)*K<=6*JJ:=by have:=CM n1 k1 (by grind) k0; grind
 refine⟨by grind,?_⟩;have l2:=Alr (f:=fun j=>sm n fun i=>((sm n fun k=>BN n s.2.1 k i*BN n s.2.1 k j)-if i=j then 1 else 0)*((sm n fun k=>BN n s.2.1 k i*BN n s.2.1 k j)-if i=j then 1 else 0)) (fun i _=>On n fun j _=>BX _) hp;rw[Kb (fun j i=>((sm n fun k=>BN n s.2.1 k i*BN n s.2.1 k j)-if i=j then 1 else 0)*((sm n fun k=>BN n s.2.1 k i*BN n s.2.1 k j)-if i=j then 1 else 0)) n,sw] at l2;refine zp l2 (zp b ?_);rw[c];exact Hj (zb n0 k0) nk
theorem PI.one{p:Nat}(hp:p<n):Nr (sm n fun k=>BN n s.2.1 k p*BN n s.2.1 k p) 1 (6*JJ):=by
 have:=(h.AhH hm n6 hp).at hp;rw[show(if p=p then (1:Rat) else 0)=1 from Az rfl] at this;unfold Nr Ab at *
 grind
theorem PI.Ad4{p:Nat}(hp:p<n):Ln n (fun k=>BN n s.2.1 k p) (101 / 100):=by have e:=h.one hm n6 hp;have:=Yr;refine⟨by grind,?_⟩;show(sm n fun k=>BN n s.2.1 k p*BN n s.2.1 k p)<=_;unfold Nr at e;grind
theorem PI.back(r6:R<=6)(hF:1<=F){M:Nat->Nat->Rat}(hd:∀i k,i<R->k<n->Nr (sm n fun j=>BN n s.1 i j*BN n s.2.1 k j) (M i k) (JJ*F)){p:Nat}(hp:p<n):
 Ln R (fun i=>(sm n fun k=>M i k*BN n s.2.1 k p)-BN n s.1 i p) (25*JJ*F):=by
 have e0:=Wv;have e1:=Yr;have hu:=Dd;have g:=h.AhH hm n6 hp;have v:=h.Ad4 hm n6 hp;have fe:0<=JJ*F:=zb (za e0) (by grind)
 have wl:∀i,i<R->Ln n (BN n s.1 i) (101 / 100*F):=fun i hi=>(h.w.2.2 i hi).mono (by
  obtain⟨k0,k1⟩:=h.Ajr hm;have:F*(1+60*uR*(m:Rat))=F*(1+(m:Rat)*(60*uR*1)):=by grind
  rw[this];have:=zd (show 1+(m:Rat)*(60*uR*1)<=101 / 100 by grind) (show 0<=F by grind);grind)
 have W:Fn R n (fun j i=>BN n s.1 i j) (3*(101 / 100*F)):=(Fn.same (r:=n) (c:=R) (M:=fun i j=>BN n s.1 i j) wl (by grind) (by omega)).AdR;have t1:=W.mul g
 have E:Fn R n (fun k i=>M i k-sm n fun j=>BN n s.1 i j*BN n s.2.1 k j) (6*(JJ*F)):=Fn.Ir fe (fun k i hk hi=>by have:=hd i k hi hk; unfold Nr at this; unfold Ab; grind) n6 r6
 have t2:=E.mul v;refine((t2.add t1).mono ?_).congr fun i hi=>?_
 ·grind
 ·show(sm n fun k=>M i k*BN n s.2.1 k p)-BN n s.1 i p=(sm n fun k=>(M i k-sm n fun j=>BN n s.1 i j*BN n s.2.1 k j)*BN n s.2.1 k p)+sm n fun j=>BN n s.1 i j*((sm n fun k=>BN n s.2.1 k j*BN n s.2.1 k p)-if j=p then 1 else 0)
  have a1:(sm n fun k=>(M i k-sm n fun j=>BN n s.1 i j*BN n s.2.1 k j)*BN n s.2.1 k p)=(sm n fun k=>M i k*BN n s.2.1 k p)+sm n fun k=>sm n fun j=>-(BN n s.1 i j*BN n s.2.1 k j*BN n s.2.1 k p):=by
   rw[<- Eo];refine BG n fun k _=>?_
   have:(sm n fun j=>-(BN n s.1 i j*BN n s.2.1 k j*BN n s.2.1 k p))=-((sm n fun j=>BN n s.1 i j*BN n s.2.1 k j)*BN n s.2.1 k p):=by
    rw[<- LB];have e:=ES (-1) (fun j=>BN n s.1 i j*BN n s.2.1 k j*BN n s.2.1 k p) n;have:(sm n fun j=>-(BN n s.1 i j*BN n s.2.1 k j*BN n s.2.1 k p))=sm n fun j=>-1*(BN n s.1 i j*BN n s.2.1 k j*BN n s.2.1 k p):=BG n fun j _=>by grind
    rw[this,e]; grind
   rw[this]; grind
  have a2:(sm n fun j=>BN n s.1 i j*((sm n fun k=>BN n s.2.1 k j*BN n s.2.1 k p)-if j=p then 1 else 0))=(sm n fun j=>sm n fun k=>BN n s.1 i j*BN n s.2.1 k j*BN n s.2.1 k p)+-BN n s.1 i p:=by
   have o:(sm n fun j=>if j=p then -BN n s.1 i j else 0)=-BN n s.1 i p:=by rw[O9 hp (fun j _ hj=>Ay hj),Az rfl]
   rw[<- o,<- Eo];refine BG n fun j _=>?_
   have:(sm n fun k=>BN n s.1 i j*BN n s.2.1 k j*BN n s.2.1 k p)=BN n s.1 i j*sm n fun k=>BN n s.2.1 k j*BN n s.2.1 k p:=by rw[<- ES]; exact BG n fun k _=>by grind
   rw[this];split<;>grind
  rw[a1,a2,Kb (fun j k=>BN n s.1 i j*BN n s.2.1 k j*BN n s.2.1 k p) n]
  have a3:(sm n fun k=>sm n fun j=>-(BN n s.1 i j*BN n s.2.1 k j*BN n s.2.1 k p))+(sm n fun k=>sm n fun j=>BN n s.1 i j*BN n s.2.1 k j*BN n s.2.1 k p)=0:=by
   rw[<- Eo];rw[BG n (g:=fun _=>0) fun k _=>?_]
   ·exact GC n
   ·rw[<- Eo,BG n (g:=fun _=>0) fun j _=>by grind];exact GC n
  grind
end
theorem IK{R n:Nat}{l:Bf}(hl:l.length=R*n){x:Int}(hx:x∈l):∃i k:Nat,i<R/\k<n/\x=Dy (n:Int) l (i:Int) (k:Int):=by
 obtain⟨j,hj,rfl⟩:=wa.1 hx
 have hn:0<n:=by
  rcases Nat.eq_zero_or_pos n with h | h
  ·subst h; omega
  ·exact h
 refine⟨j / n,j%n,(Nat.div_lt_iff_lt_mul hn).2 (by omega),Nat.mod_lt _ hn,?_⟩;unfold Dy
 have:(((j / n:Nat):Int)*(n:Int)+((j%n:Nat):Int)).toNat=j:=by rw[<- Ax,<- zI,Ad,A0];exact Nat.div_add_mod j n
 rw[this,Al,As hj];rfl
theorem JQ{R n:Nat}{l:Bf}(hl:l.length=R*n){i k:Nat}(hi:i<R)(hk:k<n):Dy (n:Int) l (i:Int) (k:Int)∈l:=by
 unfold Dy
 have e:((i:Int)*(n:Int)+(k:Int)).toNat=i*n+k:=by rw[<- Ax,<- zI,Ad]
 have:i*n+k<l.length:=by rw[hl]; exact Fx hi hk
 rw[e,Al,As this];exact z6 this
theorem MM{R n:Nat}{l:Bf}(hl:l.length=R*n){e:Int}{i k:Nat}(hi:i<R)(hk:k<n):Dy (n:Int) (B5 l e) (i:Int) (k:Int)=BV (Dy (n:Int) l (i:Int) (k:Int)) e:=by
 unfold Dy
 have e2:((i:Int)*(n:Int)+(k:Int)).toNat=i*n+k:=by rw[<- Ax,<- zI,Ad]
 rw[e2];exact Sz (by rw[hl]; exact Fx hi hk)
theorem Xp(c:Nat)(f:Nat->Rat):∀r,sm (r*c) f=sm r fun i=>sm c fun j=>f (i*c+j)
 | 0=>by rw[Nat.zero_mul]; rfl
 | r+1=>by rw[Nat.succ_mul,MJ,Xp c f r];rfl
theorem Xn{R n:Nat}{l:Bf}(hl:l.length=R*n):sqL l=sm n fun k=>sq R fun i=>BN n l i k:=by
 unfold sqL sq;rw[OA,hl,Xp,N9];refine BG n fun b _=>BG R fun i _=>?_
 unfold BN I8 Dy
 have e2:((i:Int)*(n:Int)+(b:Int)).toNat=i*n+b:=by rw[<- Ax,<- zI,Ad]
 show vR (l.getD (i*n+b) 0).toNat*vR (l.getD (i*n+b) 0).toNat=vR (l.getD ((i:Int)*(n:Int)+(b:Int)).toNat 0).toNat*vR (l.getD ((i:Int)*(n:Int)+(b:Int)).toNat 0).toNat;rw[e2]
theorem Aa3{J:Nat}{l:Bf}(bl:Bl J l)(h:∃z∈l,BF z≠0):Dc l<=(J:Int):=by
 obtain⟨w,hw,w0,we⟩:=Mb bl.FJ h;have wk:=L4 (FI bl.FJ w hw);have ee:BO (BI l)=Em w.toNat:=by unfold BO; rw[we,LU w.toNat]; rfl
 have wm:Bx w.toNat≠0:=fun e=>w0 ((CZ wk.1 wk.2).1 e)
 have lg:=(bl w hw).log wm;obtain⟨x1,_⟩:=KM wk.1 wk.2 w0;unfold Dc; rw[ee,x1]; omega
theorem AdF{l:Bf}(hf:Dx l=wc)(h:¬∃z∈l,BF z≠0):Dc l=BO 0:=by
 have b0:BI l=0:=by
  have eb:BI l=(Iz l 0:Int):=rfl;rcases PW l 0 with g | g | ⟨z,hz',_,g⟩
  ·obtain⟨_,b4,_,_⟩:=Jb hf;exfalso; apply b4; rw[eb,g]; decide
  ·rw[eb,g]; rfl
  ·rw[eb,g];have k:BF z=0:=yY fun g=>h ⟨z,hz',g⟩
   have:=Fz (b:=z.toNat) (by unfold BF at k; omega);unfold DP; rw[this]; rfl
 unfold Dc; rw[b0]
theorem Aeu{x e:Int}(h:BF x=0):(BV x e).toNat=x.toNat:=by rw[Co];unfold BF at h;unfold Cj;rw[Ay (by omega),Az (.inr (by omega))]
section
variable{J R n:Nat}{l:Bf}(bl:Bl J l)(al:Bq l=wc)(hl:l.length=R*n)(r6:R<=6)(n6:n<=6)
include bl hl
theorem Aa0{i k:Nat}(hi:i<R)(hk:k<n):Nr (BN n (B5 l (-(Dc l))) i k) (BN n l i k*tw (-(Dc l))) Cl:=by have b1:=GP bl.FJ;have m:=bl _ (JQ hl hi hk);have m1:=b1 _ (zh.2 ⟨_,JQ hl hi hk,rfl⟩);unfold BN;rw[MM hl hi hk,Co];rw[Co] at m1;exact GZ m.1 m.2.1 m1.1
include al r6 n6
theorem Ab9:∃(F:Rat) (m:Nat),1<=F/\F<=12/\m<=900/\PI R n F (fun i k=>BN n (B5 l (-(Dc l))) i k) m ((Dt R n l).1,(Dt R n l).2.1,wc) /\
 Fn R n (fun k i=>BN n (B5 l (-(Dc l))) i k) F/\(((∀x∈l,BF x=0)/\F=1)\/(1<=(sm n fun k=>sq R fun i=>BN n (B5 l (-(Dc l))) i k)/\F*F<=103 / 100*(sm n fun k=>sq R fun i=>BN n (B5 l (-(Dc l))) i k))):=by
 have b1:Bl 1 (B5 l (-(Dc l))):=GP bl.FJ;have l1:(B5 l (-(Dc l))).length=R*n:=by unfold B5; rw[AO,hl]
 have one:(∃z∈l,BF z≠0)->1<=(sm n fun k=>sq R fun i=>BN n (B5 l (-(Dc l))) i k):=fun h=>by
  obtain⟨y,hy,g⟩:=NA bl.FJ h;obtain⟨i,k,hi,hk,e⟩:=IK l1 hy;have h1:=IH g;have e1:vR y.toNat=BN n (B5 l (-(Dc l))) i k:=by unfold BN; rw[<- e]
  rw[e1] at h1;have h2:=N8 (f:=fun i=>BN n (B5 l (-(Dc l))) i k*BN n (B5 l (-(Dc l))) i k) hi fun i _=>BX _
  have h3:=N8 (f:=fun k=>sq R fun i=>BN n (B5 l (-(Dc l))) i k) hk fun k _=>Mn _ _
  have h4:=Hj (x:=1) (by decide) h1;rw[Gg] at h4;unfold sq at h3;unfold sq;grind
 have a64:Bq (B5 l (-(Dc l)))=wc:=by
  refine Bv.2 fun x hx=>?_
  obtain⟨z,hz,rfl⟩:=zh.1 hx;exact FD (Bv.1 al z hz)
 generalize hw:B5 l (-(Dc l))=w at *
 have most:(sm n fun k=>sq R fun i=>BN n w i k)<=12*12:=by
  have:=(Fn.Ir (r:=R) (c:=n) (M:=fun k i=>BN n w i k) (B:=2) (by decide) (fun k i hk hi=>by have:=Rq (b1 _ (JQ l1 hi hk));have t:tw ((1:Nat):Int)=2:=tw1;rw[t] at this; exact this) n6 r6).2
  grind
 have fr:∃F:Rat,1<=F/\F<=12/\(sm n fun k=>sq R fun i=>BN n w i k)<=F*F/\(((∀x∈l,BF x=0)/\F=1)\/(1<=(sm n fun k=>sq R fun i=>BN n w i k)/\F*F<=103 / 100*(sm n fun k=>sq R fun i=>BN n w i k))):=by
  by_cases h:∃z∈l,BF z≠0
  ·have h1:=one h;generalize (sm n fun k=>sq R fun i=>BN n w i k)=S at *
   obtain⟨s,s0,s1,s2⟩:=Acj (q:=S) (by grind);have s3:1<=s:=H7 (za s0) (by grind);by_cases g:s<=12
   ·exact⟨s,s3,g,s1,.inr ⟨h1,s2⟩⟩
   ·refine⟨12,by decide,zE,most,.inr ⟨h1,?_⟩⟩;have:=Hj (x:=12) (y:=s) (by decide) (by grind);grind
  ·refine⟨1,zE,by decide,?_,.inl ⟨fun x hx=>yY fun g=>h ⟨x,hx,g⟩,rfl⟩⟩
   have z:(sm n fun k=>sq R fun i=>BN n w i k)=sm n fun _=>0:=BG n fun k hk=>by
    unfold sq;rw[<- GC R];refine BG R fun i hi=>?_
    have:BN n w i k=0:=by
     unfold BN;rw[<- hw,MM hl hi hk];have k0:BF (Dy (n:Int) l (i:Int) (k:Int))=0:=yY fun g=>h ⟨_,JQ hl hi hk,g⟩
     rw[Aeu k0];exact JW (by unfold BF at k0; omega)
    show BN n w i k*BN n w i k=0;rw[this]; grind
   rw[z,GC]; grind
 obtain⟨F,f1,f12,fS,f3⟩:=fr;have FN:Fn R n (fun k i=>BN n w i k) F:=⟨by grind,fS⟩
 have sv:SvS R n F w:=⟨a64,fun i j hi hj=>(b1 _ (JQ l1 hi hj)).mono (by decide),fun i hi=>FN.row hi⟩
 obtain⟨m,hm,p⟩:=PI.rounds f1 f12 r6 n6 (BV (Cb w) (-44)) 60 0 (PI.start sv) (by omega);refine⟨F,m,f1,f12,by omega,?_,FN,f3⟩;unfold Dt;rw[hw];exact p
end
theorem K8{R n:Nat}{l:Bf}{j:Nat}(hj:j<n):∃p:Nat,p<n/\(K0 R n l).getD j 0=(p:Int):=by
 have hp:HO n (K0 R n l)=wc:=Xo (VO n);have hn:(K0 R n l).length=n:=by unfold K0 Aep; rw[Uv,MS]
 obtain⟨h1,h2⟩:=PM hp (j:=j) (by rw[hn]; exact hj);exact⟨((K0 R n l).getD j 0).toNat,by omega,(xv h1).symm⟩
theorem Pj{R n:Nat}{l:Bf}{i j p:Nat}(hi:i<n)(hj:j<n)(hp:(K0 R n l).getD j 0=(p:Int)):Dy (n:Int) (F7 R n l) (i:Int) (j:Int)=Dy (n:Int) (Dt R n l).2.1 (i:Int) (p:Int):=by unfold F7 Dp;rw[F6 hi hj,hp]
theorem Aa2{R n:Nat}{l:Bf}{i j p:Nat}(hi:i<R)(hj:j<n)(hp:(K0 R n l).getD j 0=(p:Int)):Dy (n:Int) (FY R n l) (i:Int) (j:Int)=BV (Dy (n:Int) (Dt R n l).1 (i:Int) (p:Int)) (Dc l):=by unfold FY;rw[MM (R:=R) (show(Dp R n (Dt R n l).1 (K0 R n l)).length=R*n from Ch _ _ _) hi hj];unfold Dp;rw[F6 hi hj,hp]
section
variable{J R n:Nat}{l:Bf}{F:Rat}{D:Nat->Nat->Rat}{m:Nat}(h:PI R n F D m ((Dt R n l).1,(Dt R n l).2.1,wc))
include h
theorem Vz{i j:Nat}(hi:i<n)(hj:j<n):Bd 5 (Dy (n:Int) (F7 R n l) (i:Int) (j:Int)).toNat:=by obtain⟨p,hp,e⟩:=K8 (R:=R) (l:=l) hj;rw[Pj hi hj e];exact h.v.2.1 i p hi hp
theorem Aa1(bl:Bl J l)(hJ:J<=900){i j:Nat}(hi:i<R)(hj:j<n):Bd (J+5) (Dy (n:Int) (FY R n l) (i:Int) (j:Int)).toNat:=by
 obtain⟨p,hp,e⟩:=K8 (R:=R) (l:=l) hj;rw[Aa2 hi hj e,Co];refine Bd.scale (by omega) (h.w.2.1 i p hi hp) ?_;by_cases k:∃z∈l,BF z≠0
 ·have:=Aa3 bl k; omega
 ·have:=AdF bl.FJ k;have e0:BO 0<=0:=by decide +kernel
  omega
theorem AgI:Bl 5 (F7 R n l):=fun x hx=>by obtain⟨i,k,hi,hk,rfl⟩:=IK (R:=n) (n:=n) (by unfold F7 Dp; exact Ch _ _ _) hx;exact Vz h hi hk
theorem AgH(bl:Bl J l)(hJ:J<=900):Bl (J+5) (FY R n l):=fun x hx=>by obtain⟨i,k,hi,hk,rfl⟩:=IK (R:=R) (n:=n) (by unfold FY B5; rw[AO]; exact Ch _ _ _) hx;exact Aa1 h bl hJ hi hk
end
open Go.Den Go.Proofs.S1
theorem AhK{r c:Nat}{l:Bf}(hr:r<=6)(h:Bl 100 l)(al:Bq l=wc):∃x,Hk r c l=wM x:=by
 unfold Hk;by_cases h0:r=0
 ·have:ER r c=0:=by unfold ER; omega
  rw[this]; exact⟨_,rfl⟩
 ·have h5:ER r c<=5:=by unfold ER; omega
  exact Abu (by omega) _ 0 100 l h al (by omega) (AfS h0)
theorem Abi{r c:Nat}{l:Bf}(hr:r<=6)(hK:Bl 100 l)(al:Bq l=wc):
 Ag2 r c 5 l (IA r c l) (Iw r c l)/\(∀b i:Nat,b<c->b<i->i<r->cl c (IA r c l) b i=0)/\Bl 155 (IA r c l)/\Bl 55 (Iw r c l)/\(Hk r c l).isSome=wc:=by
 obtain⟨x,hx⟩:=AhK (c:=c) hr hK al;have eR:IA r c l=x.1:=by unfold IA; rw[hx]
 have eQ:Iw r c l=Ie r 0 x.2 (Fi r):=by unfold Iw; rw[hx]
 rw[eR,eQ];unfold Hk at hx;have h5:ER r c<=5:=by unfold ER; omega
 have hz:ER r c=0\/0+ER r c<r:=by unfold ER; omega
 obtain⟨h1,h2⟩:=Abj hr (ER r c) 0 100 l x hK al (by omega) (fun b i hb=>by omega) (by unfold ER; omega) hz hx;obtain⟨d1,d2,d3⟩:=T1 (by omega) (ER r c) 0 100 l x hK al (by omega) hx;have qb:=TD (n:=r) x.2 0 0 (Fi r) d2 (Abm r) (by omega);have N:((ER r c:Nat):Rat)<=((5:Nat):Rat):=C1 h5;have u0:=za Dd;have uN:=Hi N;refine⟨⟨fun m hm=>(h1.q1 m hm).mono (by grind),fun a m ha hm=>zp (h1.q2 a m ha hm) (by grind),fun b s hb hs h=>(h1.f1 b s hb hs h).mono ?_,fun b s hb hs h=>(h1.f2 b s hb hs h).mono ?_⟩,fun b i hb hbi hi=>?_,d1.mono (by omega),qb.mono (by omega),?_⟩
 ·have:=zc uN h.1;grind
 ·have:=zc uN h.1;grind
 ·by_cases hb2:b<0+ER r c
  ·exact h2 b i hb2 hbi hi
  ·exfalso;unfold ER at hb2;omega
 ·show(Ix r c (ER r c) 0 l).isSome=wc;rw[hx]; rfl
section
variable{r c:Nat}{l:Bf}(r6:r<=6)(c6:c<=6)(hc:c<=r)(hl:l.length=r*c)(al:Bq l=wc)(bA:Bl 100 l)
include r6 c6 hl al bA
theorem QH:EY (r:Int) (c:Int) l=0/\(IA r c l).length=r*c/\(Iw r c l).length=r*r/\Bq (IA r c l)=wc/\Bq (Iw r c l)=wc:=by obtain⟨F,_,bR,bQ,hs⟩:=Abi (c:=c) r6 bA al;obtain⟨a1,a2⟩:=Abk al hl hs;obtain⟨a3,a4⟩:=Ws (c:=c) (l:=l) hs;refine⟨?_,a2,a4,a1,a3⟩;unfold EY;rw[Ay (fun k=>k (LZ (D7 r6 c6 hl) bA.FJ)),Ad,Ad,Az];unfold Nm;rw[hs,bQ.FJ,bR.FJ]; rfl
include hc
theorem Aea:Pf (r:Int) (c:Int) l=((c:Int),(c:Int),QX r c l,0):=by obtain⟨h0,hR,hQ,aR,aQ⟩:=QH r6 c6 hl al bA;unfold Pf;rw[Ay (fun k=>k h0),show min (r:Int) (c:Int)=(c:Int) by omega,Ad,Ad,Q4 (D7 r6 c6 hR) hc (AB c)];rfl
theorem Aeb:TR (r:Int) (c:Int) l=((r:Int),(c:Int),MF r c l,0):=by obtain⟨h0,hR,hQ,aR,aQ⟩:=QH r6 c6 hl al bA;unfold TR;rw[Ay (fun k=>k h0),show min (r:Int) (c:Int)=(c:Int) by omega,Ad,Ad,Q4 (D7 r6 r6 hQ) (AB r) hc];rfl
omit c6 hl in
theorem AaC:(∀a k,a<c->k<c->Nr (sm r fun i=>BN c (MF r c l) i a*BN c (MF r c l) i k) (Ue a k) (5000*uR))/\∀i k:Nat,i<r->k<c->Bd 1 (Dy (c:Int) (MF r c l) (i:Int) (k:Int)).toNat:=by
 obtain⟨F,_,_,bQ,_⟩:=Abi (c:=c) r6 bA al;have five:((5:Nat):Rat)=5:=rfl
 have ent:∀i k:Nat,i<r->k<c->Dy (c:Int) (MF r c l) (i:Int) (k:Int)=Dy (r:Int) (Iw r c l) (i:Int) (k:Int):=fun i k hi hk=>by unfold MF; rw[F6 hi hk]
 refine⟨fun a k ha hk=>?_,fun i k hi hk=>?_⟩
 ·have q2:=F.q2 a k (by omega) (by omega);rw[five] at q2
  have e:(sm r fun i=>BN c (MF r c l) i a*BN c (MF r c l) i k)=sm r fun i=>cl r (Iw r c l) a i*cl r (Iw r c l) k i:=BG r fun i hi=>by unfold BN cl;rw[ent i a hi ha,ent i k hi hk]
  rw[e];have q2:=(G2 (x:=sm r fun i=>cl r (Iw r c l) a i*cl r (Iw r c l) k i) (y:=dl a k)).2 q2;have ed:dl a k=Ue a k:=rfl;rw[ed] at q2;exact q2.mono (by grind)
 ·rw[ent i k hi hk];have b:=Rr (c:=(r:Int)) (i:=(i:Int)) (j:=(k:Int)) bQ;refine Vi b ?_;have:=(F.q1 k (by omega)).at hi;rw[five] at this;have e2:tw ((1:Nat):Int)=2:=tw1;rw[e2];have u6:=JX;have:Ab (vR (Dy (r:Int) (Iw r c l) (i:Int) (k:Int)).toNat) _:=this;unfold Ab at *
  grind
end
theorem AeF{R C a b i:Nat}{l:Bf}(hr:BD (R:Int) (C:Int) l=wc)(ha:i+a<=R)(hb:b<=C):Ff (R:Int) (C:Int) l (i:Int) 0 (a:Int) (b:Int)=((a:Int),(b:Int),Dj a b fun j k=>Dy (C:Int) l ((i+j:Nat):Int) (k:Int),0):=by
 unfold Ff;rw[Az hr,Az (by unfold Kg; exact Ac (by omega)),Ad,Ad]
 have:(fun j k:Nat=>Dy (C:Int) l ((i:Int)+(j:Int)) (0+(k:Int)))=fun j k:Nat=>Dy (C:Int) l ((i+j:Nat):Int) (k:Int):=by
  funext j k
  rw[yy,zI]
 show((a:Int),(b:Int),Dj a b (fun j k:Nat=>Dy (C:Int) l ((i:Int)+(j:Int)) (0+(k:Int))),(0:Int))=_;rw[this]
theorem Tg{a b:Int}(a4:Bn a.toNat≠4)(b4:Bn b.toNat≠4)(h:XV a b=wh):vR b.toNat<=vR a.toNat:=by
 have h:=of_decide_eq_false h;unfold Gk Acr at h;rw[Ay (fun k=>k.elim a4 b4)] at h;have k:¬Gt a.toNat<Gt b.toNat:=fun k=>h (by rw[Az k]; decide)
 have pa:=(CH a.toNat).1;have pb:=(CH b.toNat).1
 have v:E3 b.toNat (-1074)<=E3 a.toNat (-1074):=by have:=mt (YE (f:=-1074) a4 b4 pa pb).1 k;omega
 rw[<- WW pa,<- WW pb];exact zc (Rat.intCast_le_intCast.2 v) (za (En _))
theorem Ah1(b:Int):vR (K3 b).toNat=av (vR b.toNat):=by
 rw[RS];have e1:Ih (DP b.toNat)=Ih b.toNat:=XL (by unfold DP; omega) _
 have e2:Ce (DP b.toNat)=wh:=by unfold Ce;exact Ag (by have:=Qe b.toNat; omega)
 rw[R8 (DP b.toNat),R8 b.toNat,e1,e2];have hn:=LO (Ih b.toNat) (-1074);unfold Lc;cases Ce b.toNat
 ·unfold av; simp only[Bool.false_eq_true,if_false,Rat.one_mul]; rw[Az hn]
 ·have e:(if wc=wc then (-1:Rat) else 1)=-1:=rfl;have e':(if wh=wc then (-1:Rat) else 1)=1:=rfl;rw[e,e'];unfold av;split<;>grind
theorem Acw{y:Bf}(hy:Bl 1 y)(h64:∀z∈y,z.toNat<2^64)(hl:y.length<=60):Bd 5 (Cb y).toNat:=by
 have hf:=hy.FJ;by_cases h0:∃z∈y,BF z≠0
 ·obtain⟨b3,b4,_,_⟩:=Jb hf;obtain⟨w,hw,w0,we⟩:=Mb hf h0;have wk:=L4 (FI hf w hw);have ee:BO (BI y)=Em w.toNat:=by unfold BO; rw[we,LU w.toNat]; rfl
  have nz:¬(BI y=0\/Du (BI y)=wh):=fun g=>by
   rcases g with g | g
   ·have:DP w.toNat=0:=by rw[<- we,g]; rfl
    exact w0 (abs_zero this)
   ·unfold Du at g; rw[IL] at g; simp[b3,b4] at g
  have yb:=GP hf;have yl:(B5 y (-BO (BI y))).length=y.length:=by unfold B5; rw[AO]
  have en:Cb y=BV (DG (F8 0 0 (B5 y (-BO (BI y))))) (BO (BI y)):=by unfold Cb;rw[Ay nz,Qo _ y 0 (fun z hz=>⟨h64 z hz,FI hf z hz⟩) yb]
  obtain⟨t,te,t1,_⟩:=MG 0 (B5 y (-BO (BI y))) 0 (zl _);have te:F8 0 0 (B5 y (-BO (BI y)))=t:=te;have bm:=Qp (k:=0) (yO 0) _ 0 1 yb (Bd.zero wh 2).bm (by decide) (by rw[yl]; omega);have bm:Bm (1+(B5 y (-BO (BI y))).length) 2 (F8 0 0 (B5 y (-BO (BI y)))).toNat:=bm;rw[te,Ad,yl] at bm;have bt:Bd (4+4) t:=(bm.bd (j:=6) (by omega)).mono (by decide);have br:Bd 4 (Ek t).1:=Bd.root (by decide) bt (EF t1);have wm:Bx w.toNat≠0:=fun e=>w0 ((CZ wk.1 wk.2).1 e)
  have lg:=(hy w hw).log wm;obtain⟨x1,_⟩:=KM wk.1 wk.2 w0;rw[en,te,Co,Lf,Ad];exact Bd.scale (by decide) br (by rw[ee,x1]; omega)
 ·have b0:BI y=0:=by
   have eb:BI y=(Iz y 0:Int):=rfl;rcases PW y 0 with g | g | ⟨z,hz',_,g⟩
   ·obtain⟨_,b4,_,_⟩:=Jb hf;exfalso; apply b4; rw[eb,g]; decide
   ·rw[eb,g]; rfl
   ·rw[eb,g];have k:BF z=0:=yY fun g=>h0 ⟨z,hz',g⟩
    have:=Fz (b:=z.toNat) (by unfold BF at k; omega);unfold DP; rw[this]; rfl
  have en:Cb y=0:=by unfold Cb; rw[Az (.inl b0),b0]
  rw[en]; exact Bd.zero wh 5
theorem AjN{x y:Bf}{w0:Bf}{n:Nat}(hx:Bl 5 x)(hy:Bl 5 y)(x64:∀z∈x,z.toNat<2^64)(y64:∀z∈y,z.toNat<2^64)(lx:x.length=n)(ly:y.length=n)(n6:n<=6)(hw:Bl 1 w0)(w64:∀z∈w0,z.toNat<2^64)(wl:w0.length<=60)
 (ax:Ln n (rv x) 40) (ay:Ln n (rv y) 40) (hb:M5 x y (BV (Cb w0) (-44))=wc):Ab (sm n fun i=>rv x i*rv y i) (tw (-32)):=by
 have u0:=Dd;have u6:=JX;have h0:=DY;have h1:Cl<=uR / 1000000:=O2;have uf:=V0;have t32:tw (-32)=1 / 4294967296:=by decide +kernel
 have t44:tw (-44)=1 / 17592186044416:=by decide +kernel
 have nb:=Acw hw w64 wl;have lb:Bd 5 (BV (Cb w0) (-44)).toNat:=by rw[Co]; exact Bd.scale (by decide) nb (by decide)
 have ls:=GZ (n:=-44) nb.1 nb.2.1 (by rw[<- Co]; exact lb.1);rw[<- Co] at ls;have n32:=Rq nb;have t5:tw ((5:Nat):Int)=32:=by decide +kernel
 rw[t5] at n32
 have lo:vR (BV (Cb w0) (-44)).toNat<=1 / 500000000000:=by rw[t44] at ls;unfold Nr at ls; unfold Ab at n32; grind
 obtain⟨nx0,bx,nx1,nx2⟩:=P4 hx (by decide) x64 (by omega);obtain⟨ny0,b_y,ny1,ny2⟩:=P4 hy (by decide) y64 (by omega);rw[lx] at nx1 nx2;rw[ly] at ny1 ny2;unfold M5 at hb;rw[zH,zH,yt,yt,yt] at hb;rw[t32];rcases hb with (h | h) | h
 ·have v:=Tg lb.2.1 bx.2.1 h
  have l1:Ln n (rv x) (1 / 400000000000):=nx1.mono (by have:=zc (zp v lo) (show 0<=1+20*uR by grind);grind)
  have:=l1.dot ay;unfold Ab at *; grind
 ·have v:=Tg lb.2.1 b_y.2.1 h
  have l1:Ln n (rv y) (1 / 400000000000):=ny1.mono (by have:=zc (zp v lo) (show 0<=1+20*uR by grind);grind)
  have:=ax.dot l1;unfold Ab at *; grind
 ·have mb:Bd 20 (Cx (Cb x) (Cb y)).toNat:=by rw[EZ]; exact Bd.mul (j:=10) (k:=10) (by decide) bx b_y
  have sb:Bd 20 (BV (Cx (Cb x) (Cb y)) (-44)).toNat:=by rw[Co]; exact Bd.scale (by decide) mb (by decide)
  have gb:Bd 13 (EU x y).toNat:=LV (j:=5) (k:=5) (by decide) hx hy (by omega);have g4:Bn (K3 (EU x y)).toNat≠4:=by rw[RS,QF]; exact gb.2.1
  have v:=Tg sb.2.1 g4 h;rw[Ah1] at v
  have x41:vR (Cb x).toNat<=41:=by have:=nx2 40 ax; grind
  have y41:vR (Cb y).toNat<=41:=by have:=ny2 40 ay; grind
  have pr:Ab (vR (Cb x).toNat*vR (Cb y).toNat) 1681:=by have:=CM x41 y41 (by decide) ny0;have:=zb nx0 ny0;unfold Ab; grind
  have m1:=KF bx.1 bx.2.1 b_y.1 b_y.2.1 (by rw[<- EZ]; exact mb.1) pr;rw[<- EZ] at m1;have s1:=GZ (n:=-44) mb.1 mb.2.1 (by rw[<- Co]; exact sb.1);rw[<- Co,t44] at s1;have d1:=Wz (j:=5) (k:=5) (by decide) (lx.trans ly.symm) (by omega) hx hy (by rw[lx]; exact ax) (by rw[lx]; exact ay);rw[lx] at d1;have gab:=Gh (vR (EU x y).toNat);generalize vR (EU x y).toNat=G at *
  generalize vR (Cx (Cb x) (Cb y)).toNat=M at *
  generalize vR (BV (Cx (Cb x) (Cb y)) (-44)).toNat=S at *
  generalize vR (Cb x).toNat*vR (Cb y).toNat=Q at *
  generalize (sm n fun i=>rv x i*rv y i)=D at *
  clear nx1 nx2 ny1 ny2 ls;unfold Nr Ab at *
  grind
section
variable{J R n:Nat}{l:Bf}
theorem AbU(bl:Bl J l)(hl:l.length=R*n)(r6:R<=6)(n6:n<=6):Nr (sm n fun k=>sq R fun i=>BN n (B5 l (-(Dc l))) i k) (sqL l*(tw (-(Dc l))*tw (-(Dc l)))) uR:=by
 have h0:=DY;have h1:Cl<=uR / 1000000:=O2;have u6:=JX;have b1:Bl 1 (B5 l (-(Dc l))):=GP bl.FJ;have l1:(B5 l (-(Dc l))).length=R*n:=by unfold B5; rw[AO,hl]
 have e:sqL l*(tw (-(Dc l))*tw (-(Dc l)))=sm n fun k=>sq R fun i=>BN n l i k*tw (-(Dc l)):=by
  rw[Xn hl,<- LB];refine BG n fun k _=>?_
  unfold sq;rw[<- LB];exact BG R fun i _=>by grind
 rw[e]
 have key:∀k,k<n->Nr (sq R fun i=>BN n (B5 l (-(Dc l))) i k) (sq R fun i=>BN n l i k*tw (-(Dc l))) ((R:Rat)*(7*Cl)):=fun k hk=>RJ R fun i hi=>by
  have n1:=Aa0 bl hl hi hk;have n2:=Rq (b1 _ (JQ l1 hi hk));have t:tw ((1:Nat):Int)=2:=tw1;rw[t] at n2;have n2:Ab (BN n (B5 l (-(Dc l))) i k) 2:=n2;show Nr (BN n (B5 l (-(Dc l))) i k*BN n (B5 l (-(Dc l))) i k) (BN n l i k*tw (-(Dc l))*(BN n l i k*tw (-(Dc l)))) (7*Cl);generalize BN n (B5 l (-(Dc l))) i k=X at *
  generalize BN n l i k*tw (-(Dc l))=Y at *
  clear e;refine(Pn (B:=3) n1 ?_ (za h0)).mono ?_
  ·unfold Nr at n1; unfold Ab at *; grind
  ·have:=zd (show 2*3+Cl<=7 by grind) (za h0); grind
 refine(RJ n key).mono ?_;have r1:(R:Rat)<=6:=C1 (n:=6) r6;have n1:(n:Rat)<=6:=C1 (n:=6) n6;have r0:=GR R;have n0:=GR n;have a1:(R:Rat)*(7*Cl)<=6*(7*Cl):=zc r1 (by grind);have a0:0<=(R:Rat)*(7*Cl):=zb r0 (by grind);have a2:=CM n1 a1 (by decide) a0;grind
end
theorem Af8{M u e ep F:Rat}(hM:M<=54 / 55*ep)(he:e<=u / 1000000)(hu:0<u)(eu:55000*u=ep)(f1:1<=F):M*F+e<=ep*F:=by have h1:=zc hM (show 0<=F by grind);have h2:=zd f1 (show 0<=1 / 55*ep by grind);grind
theorem AdE{J R n:Nat}{l:Bf}(bl:Bl J l)(hl:l.length=R*n){F:Rat}{m:Nat}{s:Bf × Bf × Bool}(f1:1<=F)(hm:m<=900)(pi:PI R n F (fun i k=>BN n (B5 l (-(Dc l))) i k) m s):
 ∀i k,i<R->k<n->Nr (sm n fun j=>BN n s.1 i j*BN n s.2.1 k j) (BN n l i k*tw (-(Dc l))) (JJ*F):=fun i k hi hk=>by
 refine((pi.d i k hi hk).trans (Aa0 bl hl hi hk)).mono ?_;have:(m:Rat)*(60*uR*F)=(m:Rat)*(60*uR*1)*F:=by grind
 rw[this];exact Af8 (pi.Ajr hm).2 O2 Dd rfl f1
theorem AdD{J R n:Nat}{l:Bf}{F:Rat}{D:Nat->Nat->Rat}{m:Nat}(pi:PI R n F D m ((Dt R n l).1,(Dt R n l).2.1,wc))(bl:Bl J l)(hJ:J<=800)(r6:R<=6){j:Nat}(hj:j<n):
 0<=vR (Cb (Dl R n (FY R n l) j)).toNat/\Bd (J+10) (Cb (Dl R n (FY R n l) j)).toNat/\Ln R (fun i=>BN n (FY R n l) i j) (vR (Cb (Dl R n (FY R n l) j)).toNat*(1+20*uR)+8*Cl) /\
 ∀s,Ln R (fun i=>BN n (FY R n l) i j) s->vR (Cb (Dl R n (FY R n l) j)).toNat<=s*(1+20*uR)+8*Cl:=by
 obtain⟨p,hp,ep⟩:=K8 (R:=R) (n:=n) (l:=l) (j:=j) hj
 have wb:Bl (J+5) (Dl R n (FY R n l) j):=fun y hy=>by obtain⟨i,hi,rfl⟩:=zh.1 hy;have hi:=zX.1 hi;rw[yy];exact Aa1 pi bl (by omega) hi hj
 have w64:∀y∈Dl R n (FY R n l) j,y.toNat<2^64:=fun y hy=>by obtain⟨i,hi,rfl⟩:=zh.1 hy;have hi:=zX.1 hi;rw[yy,Aa2 hi hj ep,Co];refine NG ?_;have:=Bv.1 (show Br (Dy (n:Int) (Dt R n l).1 (i:Int) (p:Int))=wc from FV pi.w.1);omega
 have wl:(Dl R n (FY R n l) j).length=R:=Dv _ _ _ _ _;obtain⟨n0,n1,n2,n3⟩:=P4 wb (by omega) w64 (by rw[wl]; omega);rw[wl] at n2 n3
 have rw1:∀i,i<R->rv (Dl R n (FY R n l) j) i=BN n (FY R n l) i j:=fun i hi=>by unfold rv Dl BN BQ;rw[Al,Ba,yn hi];show vR (Dy (n:Int) (FY R n l) (0+(i:Int)) (j:Int)).toNat=_;rw[yy]
 exact⟨n0,n1,n2.congr fun i hi=>(rw1 i hi).symm,fun s hs=>n3 s (hs.congr fun i hi=>rw1 i hi)⟩
theorem YU(R n:Nat)(B:Nat->Nat->Rat)(c:Rat):(sm n fun k=>sq R fun i=>B i k*c)=(sm n fun k=>sq R fun i=>B i k)*(c*c):=by
 rw[<- LB];refine BG n fun k _=>?_
 unfold sq;rw[<- LB];exact BG R fun i _=>by grind
theorem US(key:Int->Int)(x:Int):∀l:Bf,(Nh key x l).Perm (x::l)
 | []=>wS _
 | y::t=>by
   unfold Nh;split
   ·exact((US key x t).cons y).trans (List.Perm.swap x y t)
   ·exact wS _
theorem Ts(key:Int->Int):∀(l acc:Bf),(l.foldl (fun acc x=>Nh key x acc) acc).Perm (l++acc)
 | [],acc=>wS _
 | x::l,acc=>by refine(Ts key l (Nh key x acc)).trans ?_;refine((US key x acc).append_left l).trans ?_;exact List.perm_middle
theorem AbA(R n:Nat)(l:Bf):(K0 R n l).Perm (JD n):=by unfold K0 Aep Ey Om;refine(List.reverse_perm _).trans ?_;have:=Ts (Nf (CS R n (Dt R n l).1)) (JD n) [];rw[List.append_nil] at this;exact this
theorem Zk(n:Nat):(JD n).Nodup:=by unfold JD List.Nodup;rw[List.pairwise_map];exact List.Pairwise.imp (fun h=>by omega) List.pairwise_lt_range
theorem WX{R n:Nat}{l:Bf}{j k p:Nat}(hj:j<n)(hk:k<n)(h1:(K0 R n l).getD j 0=(p:Int))(h2:(K0 R n l).getD k 0=(p:Int)):j=k:=by
 have pm:=AbA R n l;have nd:(K0 R n l).Nodup:=pm.nodup_iff.2 (Zk n);have hn:(K0 R n l).length=n:=by rw[pm.length_eq,MS]
 have e1:(K0 R n l)[j]'(by omega)=(p:Int):=by rw[Al,As (by omega)] at h1; exact h1
 have e2:(K0 R n l)[k]'(by omega)=(p:Int):=by rw[Al,As (by omega)] at h2; exact h2
 have nd:=List.pairwise_iff_getElem.1 nd;rcases Nat.lt_trichotomy j k with h | h | h
 ·exact absurd (e1.trans e2.symm) (nd j k (by omega) (by omega) h)
 ·exact h
 ·exact absurd (e2.trans e1.symm) (nd k j (by omega) (by omega) h)
section
variable{R n:Nat}{l:Bf}{F:Rat}{D:Nat->Nat->Rat}{m:Nat}(h:PI R n F D m ((Dt R n l).1,(Dt R n l).2.1,wc))(hm:m<=900)(n6:n<=6)
include h hm n6
theorem AdH{i k p q:Nat}(hi:i<n)(hk:k<n)(hp:p<n)(hq:q<n)(e1:(K0 R n l).getD i 0=(p:Int))(e2:(K0 R n l).getD k 0=(q:Int)):Ab (SL n n (F7 R n l) i k) (6*JJ):=by
 have g:=(h.AhH hm n6 hq).at hp
 have e:SL n n (F7 R n l) i k=(sm n fun k=>BN n (Dt R n l).2.1 k p*BN n (Dt R n l).2.1 k q)-if p=q then 1 else 0:=by
  unfold SL Ia;rw[OA]
  have a:(sm n fun j=>I8 (Dy (n:Int) (F7 R n l) (j:Int) (i:Int))*I8 (Dy (n:Int) (F7 R n l) (j:Int) (k:Int)))=sm n fun k=>BN n (Dt R n l).2.1 k p*BN n (Dt R n l).2.1 k q:=BG n fun j hj=>by rw[Pj hj hi e1,Pj hj hk e2]; rfl
  rw[a];congr 1;by_cases hik:i=k
  ·have:p=q:=by subst hik; rw[e1] at e2; omega
   rw[Az hik,Az this]
  ·have:p≠q:=fun e=>hik (WX (p:=p) hi hk e1 (e ▸ e2))
   rw[Ay hik,Ay this]
 rw[e];exact g
theorem AdG:orQ n n (F7 R n l)<=1*tw (-60)+tw (-4000):=by
 have e0:=Wv;have e1:=Yr
 have key:∀i k,i<n->k<n->SL n n (F7 R n l) i k*SL n n (F7 R n l) i k<=6*JJ*(6*JJ):=fun i k hi hk=>by obtain⟨p,hp,ep⟩:=K8 (R:=R) (l:=l) hi;obtain⟨q,hq,eq⟩:=K8 (R:=R) (l:=l) hk;have a:=F4 (AdH h hm n6 hi hk hp hq ep eq);have:=Hj (DK _) a;rw[Gg] at this;exact this
 have s:orQ n n (F7 R n l)<=sm n fun _=>sm n fun _=>6*JJ*(6*JJ):=by
  unfold orQ;rw[OA];refine Jz n fun i hi=>?_
  rw[OA];exact Jz n fun k hk=>key i k hi hk
 rw[Qr,Qr] at s;have n1:(n:Rat)<=6:=C1 (n:=6) n6;have n0:=GR n;have k0:0<=6*JJ*(6*JJ):=BX _;have a1:(n:Rat)*(6*JJ*(6*JJ))<=6*(6*JJ*(6*JJ)):=zc n1 k0;have a2:=CM n1 a1 (by decide) (zb n0 k0);have a3:JJ*JJ<=6116 / 1000000000000000*(6116 / 1000000000000000):=CM e1 e1 (by grind) (za e0);have t:tw (-60)=1 / 1152921504606846976:=by decide +kernel
 have t4:=En (-4000);rw[t];grind
end
theorem Ah3{R P C:Nat}{q:Nat->Nat->Rat}{v z w x:Nat->Rat}{T I F:Rat}(c6:C<=6)
 (ho:∀a k,a<C->k<C->Nr (sm (R+P) fun i=>q i a*q i k) (Ue a k) (5000*uR))
 (lv:Ln C v (101 / 100)) (lz:Ln C z (101 / 100)) (vz:Ab (sm C fun k=>v k*z k) (6*JJ)) (TI:T*I=1) (T0:0<T) (T2:T<=2) (F0:0<=F) (FT:F*T<=3)
 (bv:Ln R (fun i=>(sm C fun k=>q i k*I*v k)-w i) (25*JJ*F)) (bz:Ln R (fun i=>(sm C fun k=>q i k*I*z k)-x i) (25*JJ*F))
 (lw:Ln R w (102 / 100*F)) (lx:Ln R x (102 / 100*F)) (wx:Ab (sm R fun i=>w i*x i) (tw (-32))):
 Ab (sm P fun i=>(sm C fun k=>q (R+i) k*v k)*(sm C fun k=>q (R+i) k*z k)) (1 / 100000000):=by
 have u0:=Dd;have u1:=V0;have e0:=Wv;have e1:=Yr;have t32:tw (-32)=1 / 4294967296:=by decide +kernel
 have all:(sm (R+P) fun i=>(sm C fun k=>q i k*v k)*(sm C fun k=>q i k*z k))=(sm C fun a=>v a*sm C fun b=>((sm (R+P) fun i=>q i a*q i b)-Ue a b)*z b)+sm C fun k=>v k*z k:=by
  have s1:(sm (R+P) fun i=>(sm C fun k=>q i k*v k)*(sm C fun k=>q i k*z k))=sm (R+P) fun i=>sm C fun a=>sm C fun b=>(q i a*v a)*(q i b*z b):=BG _ fun i _=>VA C C _ _
  have s2:(sm (R+P) fun i=>sm C fun a=>sm C fun b=>(q i a*v a)*(q i b*z b))=sm C fun a=>sm (R+P) fun i=>sm C fun b=>(q i a*v a)*(q i b*z b):=N9 _ _ _
  have s3:(sm C fun a=>sm (R+P) fun i=>sm C fun b=>(q i a*v a)*(q i b*z b))=sm C fun a=>sm C fun b=>sm (R+P) fun i=>(q i a*v a)*(q i b*z b):=BG C fun a _=>N9 _ _ _
  have s4:(sm C fun a=>sm C fun b=>sm (R+P) fun i=>(q i a*v a)*(q i b*z b))=sm C fun a=>v a*sm C fun b=>(sm (R+P) fun i=>q i a*q i b)*z b:=BG C fun a _=>by
   rw[<- ES];refine BG C fun b _=>?_
   have:(sm (R+P) fun i=>(q i a*v a)*(q i b*z b))=(sm (R+P) fun i=>q i a*q i b)*(v a*z b):=by rw[<- LB]; exact BG _ fun i _=>by grind
   rw[this]; grind
  rw[s1,s2,s3,s4,<- Eo];refine BG C fun a ha=>?_
  have:(sm C fun b=>((sm (R+P) fun i=>q i a*q i b)-Ue a b)*z b)=(sm C fun b=>(sm (R+P) fun i=>q i a*q i b)*z b)+-z a:=by
   have o:(sm C fun b=>-z b*Ue a b)=-z a:=VB ha fun b=>-z b
   rw[<- o,<- Eo];exact BG C fun b _=>by grind
  rw[this]; grind
 have E:Fn C C (fun b a=>(sm (R+P) fun i=>q i a*q i b)-Ue a b) (6*(5000*uR)):=Fn.Ir (by grind) (fun b a hb ha=>by have:=ho a b ha hb; unfold Nr at this; unfold Ab; grind) c6 c6
 have d1:=lv.dot (E.mul lz)
 have tv:∀i,i<R->(sm C fun k=>q i k*v k)=T*(w i+((sm C fun k=>q i k*I*v k)-w i)):=fun i _=>by
  have:(sm C fun k=>q i k*I*v k)=I*sm C fun k=>q i k*v k:=by rw[<- ES]; exact BG C fun k _=>by grind
  rw[this];have:T*(I*sm C fun k=>q i k*v k)=T*I*sm C fun k=>q i k*v k:=by grind
  have e:T*(w i+(I*(sm C fun k=>q i k*v k)-w i))=T*(I*sm C fun k=>q i k*v k):=by grind
  rw[e,this,TI]; grind
 have tz:∀i,i<R->(sm C fun k=>q i k*z k)=T*(x i+((sm C fun k=>q i k*I*z k)-x i)):=fun i _=>by
  have:(sm C fun k=>q i k*I*z k)=I*sm C fun k=>q i k*z k:=by rw[<- ES]; exact BG C fun k _=>by grind
  rw[this];have:T*(I*sm C fun k=>q i k*z k)=T*I*sm C fun k=>q i k*z k:=by grind
  have e:T*(x i+(I*(sm C fun k=>q i k*z k)-x i))=T*(I*sm C fun k=>q i k*z k):=by grind
  rw[e,this,TI]; grind
 have d2:=lw.dot bz;have d3:=bv.dot lx;have d4:=bv.dot bz
 have top:(sm R fun i=>(sm C fun k=>q i k*v k)*(sm C fun k=>q i k*z k))=T*T*((sm R fun i=>w i*x i)+((sm R fun i=>w i*((sm C fun k=>q i k*I*z k)-x i))+((sm R fun i=>((sm C fun k=>q i k*I*v k)-w i)*x i)+sm R fun i=>((sm C fun k=>q i k*I*v k)-w i)*((sm C fun k=>q i k*I*z k)-x i)))):=by rw[<- Eo,<- Eo,<- Eo,<- ES];exact BG R fun i hi=>by rw[tv i hi,tz i hi]; grind
 have sp:(sm (R+P) fun i=>(sm C fun k=>q i k*v k)*(sm C fun k=>q i k*z k))=(sm R fun i=>(sm C fun k=>q i k*v k)*(sm C fun k=>q i k*z k))+sm P fun i=>(sm C fun k=>q (R+i) k*v k)*(sm C fun k=>q (R+i) k*z k):=MJ R _ P
 rw[all,top] at sp;clear all top tv tz E ho bv bz lw lx lv lz;generalize (sm P fun i=>(sm C fun k=>q (R+i) k*v k)*(sm C fun k=>q (R+i) k*z k))=Y at *
 generalize (sm C fun a=>v a*sm C fun b=>((sm (R+P) fun i=>q i a*q i b)-Ue a b)*z b)=X1 at *
 generalize (sm C fun k=>v k*z k)=X2 at *
 generalize (sm R fun i=>w i*x i)=Z1 at *
 generalize (sm R fun i=>w i*((sm C fun k=>q i k*I*z k)-x i))=Z2 at *
 generalize (sm R fun i=>((sm C fun k=>q i k*I*v k)-w i)*x i)=Z3 at *
 generalize (sm R fun i=>((sm C fun k=>q i k*I*v k)-w i)*((sm C fun k=>q i k*I*z k)-x i))=Z4 at *
 have TT:T*T<=4:=by have:=CM T2 T2 (by grind) (za T0); grind
 have TT0:0<=T*T:=BX T;have G:F*T*(F*T)<=9:=by have:=CM FT FT (by grind) (zb F0 (za T0)); grind
 have G0:0<=F*T*(F*T):=BX _;have eG:JJ*(F*T*(F*T))<=6116 / 1000000000000000*9:=CM e1 G (by grind) G0;have eG0:0<=JJ*(F*T*(F*T)):=zb (za e0) G0;have eeG:JJ*(JJ*(F*T*(F*T)))<=6116 / 1000000000000000*(6116 / 1000000000000000*9):=CM e1 eG (by grind) eG0
 have sc:∀{z B:Rat},Ab z B->Ab (T*T*z) (T*T*B):=fun {z B} h=>by have a:=zd h.1 TT0;have b:=zd h.2 TT0;unfold Ab; grind
 have y1:=sc wx;have y2:=sc d2;have y3:=sc d3;have y4:=sc d4;have k1:T*T*tw (-32)<=4*(1 / 4294967296):=by rw[t32]; exact zc TT (by grind)
 have k2:T*T*(102 / 100*F*(25*JJ*F))=255 / 10*(JJ*(F*T*(F*T))):=by grind
 have k3:T*T*(25*JJ*F*(102 / 100*F))=255 / 10*(JJ*(F*T*(F*T))):=by grind
 have k4:T*T*(25*JJ*F*(25*JJ*F))=625*(JJ*(JJ*(F*T*(F*T)))):=by grind
 rw[k2] at y2;rw[k3] at y3;rw[k4] at y4;have ex:T*T*(Z1+(Z2+(Z3+Z4)))=T*T*Z1+(T*T*Z2+(T*T*Z3+T*T*Z4)):=by grind
 rw[ex] at sp;generalize T*T*Z1=A1 at *
 generalize T*T*Z2=A2 at *
 generalize T*T*Z3=A3 at *
 generalize T*T*Z4=A4 at *
 generalize T*T*tw (-32)=B1 at *
 generalize JJ*(F*T*(F*T))=B2 at *
 generalize JJ*B2=B3 at *
 clear ex k2 k3 k4 sc d2 d3 d4 wx eG0 G G0 TT TT0 TI;unfold Ab at *
 grind
theorem Aiu{R C:Nat}{B:Nat->Nat->Rat}{v w:Nat->Rat}{F I S s:Rat}(f1:1<=F)(fs:s<=F*F)
 (cl:Nr s (S*(I*I)) uR) (eS:S=sm C fun k=>sq R fun i=>B i k) (back:Ln R (fun i=>(sm C fun k=>B i k*I*v k)-w i) (25*JJ*F)) (vl:Ln C v (101 / 100)):Ln R w (102 / 100*F):=by
 have u6:=JX;have e1:=Yr;have FF:1<=F*F:=by have:=Hj (x:=1) (by decide) f1; grind
 have c1:S*(I*I)<=1002 / 1000*(F*F):=by unfold Nr at cl; grind
 have FM:Fn R C (fun k i=>B i k*I) (1002 / 1000*F):=⟨by grind,by
  rw[YU,<- eS];have:1002 / 1000*F*(1002 / 1000*F)=1002 / 1000*(1002 / 1000*(F*F)):=by grind
  rw[this]; grind⟩
 have mv:=FM.mul vl
 exact((mv.sub back).congr fun i _=>by grind).mono (by have:=zc (show 25*JJ<=9 / 10000 by grind) (show 0<=F by grind);grind)
theorem AeT{P:Nat}{x y d e:Nat->Rat}(p6:P<=6)(hd:∀i,i<P->Nr (d i) (x i) (130*uR))(he:∀i,i<P->Nr (e i) (y i) (130*uR))(lx:∀i,i<P->Ab (x i) 7)(ly:∀i,i<P->Ab (y i) 7)(h:Ab (sm P fun i=>x i*y i) (1 / 100000000)):
 (sm P fun i=>d i*e i)*(sm P fun i=>d i*e i)<=1*tw (-50)+tw (-4000):=by
 have u0:=Dd;have u1:=V0;have l1:Ln P (fun i=>d i-x i) (3*(130*uR)):=Ln.Ir (by grind) (fun i hi=>by have:=hd i hi; unfold Nr at this; unfold Ab; grind) (by omega);have l2:Ln P (fun i=>e i-y i) (3*(130*uR)):=Ln.Ir (by grind) (fun i hi=>by have:=he i hi; unfold Nr at this; unfold Ab; grind) (by omega);have l3:Ln P x (3*7):=Ln.Ir (by grind) lx (by omega);have l4:Ln P y (3*7):=Ln.Ir (by grind) ly (by omega);have d1:=l1.dot l4;have d2:=l3.dot l2;have d3:=l1.dot l2
 have e':(sm P fun i=>d i*e i)=(sm P fun i=>x i*y i)+((sm P fun i=>(d i-x i)*y i)+((sm P fun i=>x i*(e i-y i))+sm P fun i=>(d i-x i)*(e i-y i))):=by rw[<- Eo,<- Eo,<- Eo];exact BG P fun i _=>by grind
 rw[e'];generalize (sm P fun i=>x i*y i)=A at *
 generalize (sm P fun i=>(d i-x i)*y i)=B at *
 generalize (sm P fun i=>x i*(e i-y i))=D at *
 generalize (sm P fun i=>(d i-x i)*(e i-y i))=G at *
 have uu:uR*uR<=1 / 1000000000000000*(1 / 1000000000000000):=CM AdI AdI (by decide +kernel) (za u0)
 have k:Ab (A+(B+(D+G))) (2 / 100000000):=by clear l1 l2 l3 l4 hd he lx ly e';unfold Ab at *; grind
 have s:=Hj (DK _) (F4 k);rw[Gg] at s;have t:tw (-50)=1 / 1125899906842624:=by decide +kernel
 have t4:=En (-4000);rw[t];grind
section
variable{R C:Nat}{Q:Bf}(r6:R<=6)(c6:C<=6)(qb:∀i k:Nat,i<R->k<C->Bd 1 (Dy (C:Int) Q (i:Int) (k:Int)).toNat)
def CA(R C:Nat)(Q:Bf):Bf:=Dj R C fun i k=>Dy (C:Int) Q (i:Int) (k:Int)
def Kj(R P C:Nat)(Q:Bf):Bf:=Dj P C fun i k=>Dy (C:Int) Q ((R+i:Nat):Int) (k:Int)
theorem RC(R C:Nat)(Q:Bf):(CA R C Q).length=R*C:=Ch _ _ _
theorem RU(R P C:Nat)(Q:Bf):(Kj R P C Q).length=P*C:=Ch _ _ _
theorem V4{i k:Nat}(hi:i<R)(hk:k<C):Dy (C:Int) (CA R C Q) (i:Int) (k:Int)=Dy (C:Int) Q (i:Int) (k:Int):=F6 hi hk
theorem ZC{P i k:Nat}(hi:i<P)(hk:k<C):Dy (C:Int) (Kj R P C Q) (i:Int) (k:Int)=Dy (C:Int) Q ((R+i:Nat):Int) (k:Int):=F6 hi hk
end
theorem So{R P C:Nat}{Q:Bf}(h6:R+P<=6)(c6:C<=6)(aQ:Bq Q=wc)
 (qb:∀i k:Nat,i<R+P->k<C->Bd 1 (Dy (C:Int) Q (i:Int) (k:Int)).toNat)
 (qo:∀a k,a<C->k<C->Nr (sm (R+P) fun i=>BN C Q i a*BN C Q i k) (Ue a k) (5000*uR)) (he:(Dt R C (CA R C Q)).2.2=0):
 (∃F m,PI R C F (fun i k=>BN C (B5 (CA R C Q) (-(Dc (CA R C Q)))) i k) m ((Dt R C (CA R C Q)).1,(Dt R C (CA R C Q)).2.1,wc)/\m<=900) /\
 ∀p s,p<C->s<C->p≠s->Ab (sm P fun i=>(sm C fun k=>BN C Q (R+i) k*BN C (Dt R C (CA R C Q)).2.1 k p)*(sm C fun k=>BN C Q (R+i) k*BN C (Dt R C (CA R C Q)).2.1 k s)) (1 / 100000000):=by
 have r6:R<=6:=by omega
 have bl:Bl 1 (CA R C Q):=fun x hx=>by obtain⟨i,k,hi,hk,rfl⟩:=IK (RC R C Q) hx;rw[V4 hi hk];exact qb i k (by omega) hk
 have al:Bq (CA R C Q)=wc:=Gu fun _ _=>FV aQ
 have hl:=RC R C Q;obtain⟨F,m,f1,f12,hm,pi,fn,fS⟩:=Ab9 bl al hl r6 c6;refine⟨⟨F,m,pi,hm⟩,fun p s hp hs hps=>?_⟩;have hd:=AdE bl hl f1 hm pi;have bp:=pi.back hm c6 r6 f1 hd hp;have bs:=pi.back hm c6 r6 f1 hd hs;have vp:=pi.Ad4 hm c6 hp;have vs:=pi.Ad4 hm c6 hs;have tt:tw (Dc (CA R C Q))*tw (-(Dc (CA R C Q)))=1:=by rw[<- E5,Int.add_right_neg]; exact J6
 have t0:=En (Dc (CA R C Q))
 have K1:Dc (CA R C Q)<=1:=by
  by_cases k:∃z∈CA R C Q,BF z≠0
  ·exact Aa3 bl k
  ·rw[AdF bl.FJ k]; decide +kernel
 have T2:tw (Dc (CA R C Q))<=2:=by have:=AdQ K1;rw[tw1] at this; exact this
 have cl:=AbU bl hl r6 c6;have eS:=Xn hl;have wp:=Aiu f1 fn.2 cl eS bp vp;have ws:=Aiu f1 fn.2 cl eS bs vs;have u0:=Dd;have u6:=JX
 have FT:F*tw (Dc (CA R C Q))<=3:=by
  rcases fS with ⟨_,z⟩ | ⟨s1,s2⟩
  ·rw[z]; grind
  ·have S6:sqL (CA R C Q)<=61 / 10:=by
    rw[eS]
    have k1:(sm C fun k=>sq R fun i=>BN C (CA R C Q) i k)<=sm C fun _=>1+5000*uR:=Jz C fun k hk=>by
     have a:=qo k k hk hk;have d1:Ue k k=1:=Az rfl;rw[d1,MJ] at a
     have b:(sq R fun i=>BN C (CA R C Q) i k)=sm R fun i=>BN C Q i k*BN C Q i k:=BG R fun i hi=>by show BN C (CA R C Q) i k*BN C (CA R C Q) i k=_;unfold BN; rw[V4 hi hk]
     have c:=On P (f:=fun i=>BN C Q (R+i) k*BN C Q (R+i) k) fun i _=>BX _
     rw[b];unfold Nr at a; grind
    rw[Qr] at k1;have c1:(C:Rat)<=6:=C1 (n:=6) c6;have:=zc c1 (show 0<=1+5000*uR by grind);grind
   have c2:(sm C fun k=>sq R fun i=>BN C (B5 (CA R C Q) (-(Dc (CA R C Q)))) i k)*(999 / 1000)<=sqL (CA R C Q)*(tw (-(Dc (CA R C Q)))*tw (-(Dc (CA R C Q)))):=by unfold Nr at cl; grind
   have eT:sqL (CA R C Q)*(tw (-(Dc (CA R C Q)))*tw (-(Dc (CA R C Q))))*(tw (Dc (CA R C Q))*tw (Dc (CA R C Q)))=sqL (CA R C Q):=by
    have:sqL (CA R C Q)*(tw (-(Dc (CA R C Q)))*tw (-(Dc (CA R C Q))))*(tw (Dc (CA R C Q))*tw (Dc (CA R C Q)))=sqL (CA R C Q)*((tw (Dc (CA R C Q))*tw (-(Dc (CA R C Q))))*(tw (Dc (CA R C Q))*tw (-(Dc (CA R C Q))))):=by grind
    rw[this,tt]; grind
   generalize tw (Dc (CA R C Q))=T at *
   generalize tw (-(Dc (CA R C Q)))=I at *
   generalize (sm C fun k=>sq R fun i=>BN C (B5 (CA R C Q) (-(Dc (CA R C Q)))) i k)=s at *
   generalize sqL (CA R C Q)=S at *
   have TT:0<=T*T:=BX T;have a1:=zc c2 TT;have a2:=zc s2 TT;rw[eT] at a1;refine H7 (by decide) ?_;clear wp ws bp bs hd vp vs cl;grind
 have bes:=U6 (R:=R) (n:=C) (low:=BV (Cb (B5 (CA R C Q) (-(Dc (CA R C Q))))) (-44)) 60 he;have w0:Bl 1 (B5 (CA R C Q) (-(Dc (CA R C Q)))):=GP bl.FJ
 have w064:∀z∈B5 (CA R C Q) (-(Dc (CA R C Q))),z.toNat<2^64:=fun z hz=>by obtain⟨v,hv,rfl⟩:=zh.1 hz;have:=Bv.1 (show Br v=wc from Bv.1 al v hv);rw[Co]; exact NG (by omega)
 have w0l:(B5 (CA R C Q) (-(Dc (CA R C Q)))).length<=60:=by unfold B5;rw[AO,hl];have:=AE r6 c6;omega
 have c64:∀j,∀z∈Dl R C (Dt R C (CA R C Q)).1 j,z.toNat<2^64:=fun j z hz=>by obtain⟨i,hi,rfl⟩:=zh.1 hz;have:=Bv.1 (show Br (Dy (C:Int) (Dt R C (CA R C Q)).1 (0+(i:Int)) (j:Int))=wc from FV pi.w.1);omega
 have cl6:∀j,(Dl R C (Dt R C (CA R C Q)).1 j).length=R:=fun j=>Dv _ _ _ _ _
 have rv1:∀j i,i<R->rv (Dl R C (Dt R C (CA R C Q)).1 j) i=BN C (Dt R C (CA R C Q)).1 i j:=fun j i hi=>by unfold rv Dl BN BQ;rw[Al,Ba,yn hi];show vR (Dy (C:Int) (Dt R C (CA R C Q)).1 (0+(i:Int)) (j:Int)).toNat=_;rw[yy]
 have w40:∀{j:Nat},Ln R (fun i=>BN C (Dt R C (CA R C Q)).1 i j) (102 / 100*F)->Ln R (rv (Dl R C (Dt R C (CA R C Q)).1 j)) 40:=fun {j} h=>(h.congr fun i hi=>rv1 j i hi).mono (by grind)
 have dots:∀{a b:Nat},a<b->b<C->Ln R (fun i=>BN C (Dt R C (CA R C Q)).1 i a) (102 / 100*F)->Ln R (fun i=>BN C (Dt R C (CA R C Q)).1 i b) (102 / 100*F)->Ab (sm R fun i=>BN C (Dt R C (CA R C Q)).1 i a*BN C (Dt R C (CA R C Q)).1 i b) (tw (-32)):=fun {a b} hab hb la lb=>by have h:=AjN (pi.w.col (p:=a) (by omega)) (pi.w.col (p:=b) hb) (c64 a) (c64 b) (cl6 a) (cl6 b) r6 w0 w064 w0l (w40 la) (w40 lb) (bes a b hab hb);rw[BG R (g:=fun i=>BN C (Dt R C (CA R C Q)).1 i a*BN C (Dt R C (CA R C Q)).1 i b) fun i hi=>by rw[rv1 a i hi,rv1 b i hi]] at h;exact h
 have wx:Ab (sm R fun i=>BN C (Dt R C (CA R C Q)).1 i p*BN C (Dt R C (CA R C Q)).1 i s) (tw (-32)):=by
  rcases Nat.lt_or_gt_of_ne hps with g | g
  ·exact dots g hs wp ws
  ·have:=dots g hp ws wp;rw[BG R (g:=fun i=>BN C (Dt R C (CA R C Q)).1 i p*BN C (Dt R C (CA R C Q)).1 i s) fun i _=>by grind] at this;exact this
 have vz:Ab (sm C fun k=>BN C (Dt R C (CA R C Q)).2.1 k p*BN C (Dt R C (CA R C Q)).2.1 k s) (6*JJ):=by
  have g:=(pi.AhH hm c6 hs).at hp;rw[Ay hps] at g;have e:∀x:Rat,x-0=x:=fun x=>by grind
  rw[e] at g;exact g
 have conv:∀{j:Nat},Ln R (fun i=>(sm C fun k=>BN C (CA R C Q) i k*tw (-(Dc (CA R C Q)))*BN C (Dt R C (CA R C Q)).2.1 k j)-BN C (Dt R C (CA R C Q)).1 i j) (25*JJ*F)->Ln R (fun i=>(sm C fun k=>BN C Q i k*tw (-(Dc (CA R C Q)))*BN C (Dt R C (CA R C Q)).2.1 k j)-BN C (Dt R C (CA R C Q)).1 i j) (25*JJ*F):=fun {j} h=>h.congr fun i hi=>by
  congr 1;refine BG C fun k hk=>?_
  have:BN C Q i k=BN C (CA R C Q) i k:=by unfold BN; rw[V4 hi hk]
  rw[this]
 exact Ah3 (R:=R) (P:=P) c6 qo vp vs vz tt t0 T2 (by grind) FT (conv bp) (conv bs) wp ws wx
structure GsT(R P C:Nat)(l m:Bf)(Q V U:Bf):Prop where
 err:CX (R:Int) (C:Int) l (P:Int) (C:Int) m=0
 eT:GD (R:Int) (C:Int) l (P:Int) m=((R:Int),(C:Int),CA R C Q,0)
 eW:Hd (R:Int) (C:Int) l (P:Int) (C:Int) m=((R:Int),(C:Int),FY R C (CA R C Q),0)
 eU:Hf (R:Int) (C:Int) l (P:Int) (C:Int) m=((P:Int),(C:Int),U,0)
 eV:He (R:Int) (C:Int) l (P:Int) (C:Int) m=((C:Int),(C:Int),V,0)
 eR:Hg (R:Int) (C:Int) l (P:Int) (C:Int) m=((C:Int),(C:Int),QX (R+P) C (l++m),0)
 fit:AcT (R:Int) (C:Int) (P:Int) (Hd (R:Int) (C:Int) l (P:Int) (C:Int) m) (Hf (R:Int) (C:Int) l (P:Int) (C:Int) m) (He (R:Int) (C:Int) l (P:Int) (C:Int) m) (Hg (R:Int) (C:Int) l (P:Int) (C:Int) m) (Fq (R:Int) (C:Int) l (P:Int) (C:Int) m) (Iu (R:Int) (C:Int) l (P:Int) (C:Int) m)=wc
 Afk:V.length=C*C
 Afl:U.length=P*C
 inV:Bq V=wc
 inU:Bq U=wc
def Ik(P C:Nat)(L V:Bf):Bf:=Dj P C fun i k=>EU (JB (C:Int) L (i:Int)) (Mv (C:Int) (C:Int) V (k:Int))
theorem Ahj{P C:Nat}{L V:Bf}(hL:L.length=P*C){i k:Nat}(hi:i<P)(hk:k<C):
 Dy (C:Int) (Ik P C L V) (i:Int) (k:Int)=EU ((zg C).map fun j:Nat=>Dy (C:Int) L (i:Int) (j:Int)) ((zg C).map fun j:Nat=>Dy (C:Int) V (j:Int) (k:Int)):=by
 unfold Ik;rw[F6 hi hk,Xy hL hi];unfold Mv;rw[Ad]
theorem RM{n j:Nat}{f:Nat->Int}(hj:j<n):rv ((zg n).map f) j=vR (f j).toNat:=by unfold rv;rw[Al,Ba,yn hj];rfl
theorem SG{P C:Nat}{L V:Bf}(c6:C<=6)(hL:L.length=P*C)(bL:∀i k:Nat,i<P->k<C->Bd 1 (Dy (C:Int) L (i:Int) (k:Int)).toNat)(bV:∀i k:Nat,i<C->k<C->Bd 5 (Dy (C:Int) V (i:Int) (k:Int)).toNat)
 {i k:Nat} (hi:i<P) (hk:k<C) (lV:Ln C (fun j=>BN C V j k) (101 / 100)):
 Nr (BN C (Ik P C L V) i k) (sm C fun j=>BN C L i j*BN C V j k) (130*uR)/\Ab (sm C fun j=>BN C L i j*BN C V j k) 7/\Bd 9 (Dy (C:Int) (Ik P C L V) (i:Int) (k:Int)).toNat:=by
 have u0:=Dd;have h0:=DY;have h1:Cl<=uR / 1000000:=O2;have l1:((zg C).map fun j:Nat=>Dy (C:Int) L (i:Int) (j:Int)).length=C:=by rw[AO,AL]
 have l2:((zg C).map fun j:Nat=>Dy (C:Int) V (j:Int) (k:Int)).length=C:=by rw[AO,AL]
 have b1:Bl 1 ((zg C).map fun j:Nat=>Dy (C:Int) L (i:Int) (j:Int)):=fun x hx=>by obtain⟨j,hj,rfl⟩:=zh.1 hx;exact bL i j hi (zX.1 hj)
 have b2:Bl 5 ((zg C).map fun j:Nat=>Dy (C:Int) V (j:Int) (k:Int)):=fun x hx=>by obtain⟨j,hj,rfl⟩:=zh.1 hx;exact bV j k (zX.1 hj) hk
 have L6:Ln C (BN C L i) (3*2):=Ln.Ir (by decide) (fun j hj=>by have:=Rq (bL i j hi hj);have t:tw ((1:Nat):Int)=2:=tw1;rw[t] at this; exact this) (by omega)
 have L1:Ln C (rv ((zg C).map fun j:Nat=>Dy (C:Int) L (i:Int) (j:Int))) (3*2):=L6.congr fun j hj=>RM hj
 have L2:Ln C (rv ((zg C).map fun j:Nat=>Dy (C:Int) V (j:Int) (k:Int))) (101 / 100):=lV.congr fun j hj=>RM hj
 have h:=Wz (j:=1) (k:=5) (by decide) (l1.trans l2.symm) (by omega) b1 b2 (by rw[l1]; exact L1) (by rw[l1]; exact L2);have hb:=LV (j:=1) (k:=5) (by decide) b1 b2 (by omega);have e:=Ahj (V:=V) hL hi hk;rw[<- e] at h hb;rw[l1,BG C (g:=fun j=>BN C L i j*BN C V j k) fun j hj=>by rw[RM hj,RM hj]; rfl] at h;have d:=L6.dot lV;refine⟨h.mono (by grind),?_,hb⟩;unfold Ab at *; grind
theorem AhG{r c p q:Int}{l m:Bf}(hr:BD r c l=wc)(hr2:BD p q m=wc)(al:Bq l=wc)(am:Bq m=wc)(t1:G1 l 100=wc)(t2:G1 m 100=wc):
 CX r c l p q m=3\/CX r c l p q m=6\/∃R P C:Nat,∃Q V U,r=R/\c=C/\p=P/\q=C/\R+P<=6/\C<=R+P/\l.length=R*C/\m.length=P*C/\Bl 100 (l++m)/\Q=MF (R+P) C (l++m)/\V=F7 R C (CA R C Q)/\U=Ik P C (Kj R P C Q) V/\(Dt R C (CA R C Q)).2.2=0/\GsT R P C l m Q V U:=by
 have f1:=Ut (k:=100) t1;have f2:=Ut (k:=100) t2;have k1:=LZ hr f1.2;have k2:=LZ hr2 f2.2;have ck:Yy r c l p q m=0:=by unfold Yy; rw[Ay (fun k=>k k1)]; exact k2
 by_cases ks:c≠q\/c<1\/r+p<c\/6<r+p
 ·refine .inl ?_;have e:Wn r c l p q m=3:=by unfold Wn; rw[Ay (fun k=>k ck),Az ks]
  rw[Abn (by rw[e]; decide),e]
 have eE:Wn r c l p q m=0:=by unfold Wn; rw[Ay (fun k=>k ck),Ay ks]
 obtain⟨R,C,P,rfl,rfl,rfl,rfl,g⟩:=Af3 eE;have e:(R:Int)+(P:Int)=((R+P:Nat):Int):=(zI _ _).symm;have h6:=g.r6;have hcr:=g.cr;have c6:C<=6:=by omega
 have lA:(l++m).length=(R+P)*C:=by rw[A8,g.ll,g.lm,AM]
 have aA:Bq (l++m)=wc:=Bv.2 fun y hy=>(zu.1 hy).elim (Bv.1 al y) (Bv.1 am y)
 have bA:Bl 100 (l++m):=fun x hx=>(zu.1 hx).elim (f1.1 x) (f2.1 x)
 obtain⟨f0,_,lQ,aR,aQ⟩:=QH h6 c6 lA aA bA;have etq:=Aeb h6 c6 hcr lA aA bA;have etr:=Aea h6 c6 hcr lA aA bA;obtain⟨qo,qb⟩:=AaC h6 hcr aA bA;generalize hQ:MF (R+P) C (l++m)=Q at *
 have lenQ:Q.length=(R+P)*C:=by rw[<- hQ]; exact Ch _ _ _
 have inQ:Bq Q=wc:=by rw[<- hQ]; exact Gu fun _ _=>FV aQ
 have rQ:BD ((R+P:Nat):Int) (C:Int) Q=wc:=D7 h6 c6 lenQ;have eQ:gsQ (R:Int) (C:Int) l (P:Int) m=(((R+P:Nat):Int),(C:Int),Q,0):=by unfold gsQ; rw[e]; exact etq
 have eT:GD (R:Int) (C:Int) l (P:Int) m=((R:Int),(C:Int),CA R C Q,0):=by unfold GD; rw[eQ];exact Q4 rQ (by omega) (AB C)
 have eL:gsL (R:Int) (C:Int) l (P:Int) m=((P:Int),(C:Int),Kj R P C Q,0):=by unfold gsL; rw[eQ];exact AeF rQ (AB _) (AB C)
 have inT:Bq (CA R C Q)=wc:=Gu fun _ _=>FV inQ
 have bT:Bl 1 (CA R C Q):=fun x hx=>by obtain⟨i,k,hi,hk,rfl⟩:=IK (RC R C Q) hx;rw[V4 hi hk];exact qb i k (by omega) hk
 have ckT:BT (R:Int) (C:Int) (CA R C Q)=0:=LZ (D7 (by omega) c6 (RC R C Q)) bT.FJ;have kf:EY ((R:Int)+(P:Int)) (C:Int) (l++m)=0:=by rw[e]; exact f0
 by_cases e6:(Dt R C (CA R C Q)).2.2=0
 case neg =>
  refine .inr (.inl ?_)
  have u6:G7 (GD (R:Int) (C:Int) l (P:Int) m).1 (GD (R:Int) (C:Int) l (P:Int) m).2.1 (GD (R:Int) (C:Int) l (P:Int) m).2.2.1=6:=by rw[eT];show G7 (R:Int) (C:Int) (CA R C Q)=6;unfold G7;rw[Ay (fun k=>k ckT),Ad,Ad,Az e6]
  rw[AfL eE kf (by rw[u6]; decide),u6]
 refine .inr (.inr ⟨R,P,C,Q,F7 R C (CA R C Q),Ik P C (Kj R P C Q) (F7 R C (CA R C Q)),rfl,rfl,rfl,rfl,h6,hcr,g.ll,g.lm,bA,hQ.symm,rfl,rfl,e6,?_⟩);obtain⟨⟨F,n,pi,hn⟩,_⟩:=So h6 c6 inQ qb qo e6;have wV:=AgI pi;have wW:=AgH pi bT (by decide)
 have u0:G7 (GD (R:Int) (C:Int) l (P:Int) m).1 (GD (R:Int) (C:Int) l (P:Int) m).2.1 (GD (R:Int) (C:Int) l (P:Int) m).2.2.1=0:=by rw[eT];show G7 (R:Int) (C:Int) (CA R C Q)=0;unfold G7;rw[Ay (fun k=>k ckT),Ad,Ad,Ay (fun k=>k e6),wW.FJ,wV.FJ];rfl
 have u0':G7 (R:Int) (C:Int) (CA R C Q)=0:=by rw[eT] at u0; exact u0
 have Afk:(F7 R C (CA R C Q)).length=C*C:=FH _ _ _ _;have inV:Bq (F7 R C (CA R C Q))=wc:=IN pi.v.1
 have eV:gsV (R:Int) (C:Int) l (P:Int) m=((C:Int),(C:Int),F7 R C (CA R C Q),0):=by unfold gsV; rw[eT];show HS (R:Int) (C:Int) (CA R C Q)=_;unfold HS;rw[Ay (fun k=>k u0'),Ad,Ad]
 have bL:∀i k:Nat,i<P->k<C->Bd 1 (Dy (C:Int) (Kj R P C Q) (i:Int) (k:Int)).toNat:=fun i k hi hk=>by rw[ZC hi hk]; exact qb _ k (by omega) hk
 have lv:∀k,k<C->Ln C (fun j=>BN C (F7 R C (CA R C Q)) j k) (101 / 100):=fun k hk=>by
  obtain⟨p,hp,ep⟩:=K8 (R:=R) (n:=C) (l:=CA R C Q) hk;refine(pi.Ad4 hn c6 hp).congr fun j hj=>?_
  unfold BN; rw[Pj hj hk ep]
 have Afl:(Ik P C (Kj R P C Q) (F7 R C (CA R C Q))).length=P*C:=Ch _ _ _;have inU:Bq (Ik P C (Kj R P C Q) (F7 R C (CA R C Q)))=wc:=Gu fun _ _=>Go.Cn.HG _ _
 have bU:Bl 9 (Ik P C (Kj R P C Q) (F7 R C (CA R C Q))):=fun x hx=>by obtain⟨i,k,hi,hk,rfl⟩:=IK Afl hx;exact(SG c6 (RU R P C Q) bL (fun i k hi hk=>Vz pi hi hk) hi hk (lv k hk)).2.2
 have eU:WO (R:Int) (C:Int) l (P:Int) m=((P:Int),(C:Int),Ik P C (Kj R P C Q) (F7 R C (CA R C Q)),0):=by unfold WO; rw[eL,eV];exact AeZ (D7 (by omega) c6 (RU R P C Q)) (D7 c6 c6 Afk)
 have er:CX (R:Int) (C:Int) l (P:Int) (C:Int) m=0:=by rw[Ai5 eE kf u0,eU,Az bU.FJ]
 have eWX:Hd (R:Int) (C:Int) l (P:Int) (C:Int) m=((R:Int),(C:Int),FY R C (CA R C Q),0):=by unfold Hd gsO; rw[Ay (fun k=>k er),eT];show Gz (R:Int) (C:Int) (CA R C Q)=_;unfold Gz;rw[Ay (fun k=>k u0'),Ad,Ad]
 have eUX:Hf (R:Int) (C:Int) l (P:Int) (C:Int) m=((P:Int),(C:Int),Ik P C (Kj R P C Q) (F7 R C (CA R C Q)),0):=by unfold Hf gsO; rw[Ay (fun k=>k er),eU]
 have eVX:He (R:Int) (C:Int) l (P:Int) (C:Int) m=((C:Int),(C:Int),F7 R C (CA R C Q),0):=by unfold He gsO; rw[Ay (fun k=>k er),eV]
 have eRX:Hg (R:Int) (C:Int) l (P:Int) (C:Int) m=((C:Int),(C:Int),QX (R+P) C (l++m),0):=by unfold Hg gsO; rw[Ay (fun k=>k er),e]; exact etr
 have eAl:Fq (R:Int) (C:Int) l (P:Int) (C:Int) m=CS R C (FY R C (CA R C Q)):=by unfold Fq ZK; rw[Ay (fun k=>k er),eT];show Od (R:Int) (C:Int) (CA R C Q)=_;unfold Od;rw[Ay (fun k=>k u0'),Ad,Ad]
 have eBe:Iu (R:Int) (C:Int) l (P:Int) (C:Int) m=CS P C (Ik P C (Kj R P C Q) (F7 R C (CA R C Q))):=by unfold Iu ZK; rw[Ay (fun k=>k er),eU,Ad,Ad]
 obtain⟨_,_,bR,_,_⟩:=Abi (c:=C) h6 bA aA
 have bTR:Bl 155 (QX (R+P) C (l++m)):=fun x hx=>by obtain⟨i,k,hi,hk,rfl⟩:=IK (R:=C) (n:=C) (show(QX (R+P) C (l++m)).length=C*C from Ch _ _ _) hx;unfold QX;rw[F6 hi hk];exact Rr bR
 have fAl:Dx (CS R C (FY R C (CA R C Q)))=wc:=zF.2 fun x hx=>by obtain⟨j,hj,rfl⟩:=zh.1 hx;exact(AdD pi bT (by decide) (by omega) (zX.1 hj)).2.1.fin
 have fBe:Dx (CS P C (Ik P C (Kj R P C Q) (F7 R C (CA R C Q))))=wc:=zF.2 fun x hx=>by
  obtain⟨j,hj,rfl⟩:=zh.1 hx;have hj:=zX.1 hj;have b:Bl 9 (Dl P C (Ik P C (Kj R P C Q) (F7 R C (CA R C Q))) j):=Aaf fun i=>Rr bU
  have b64:∀z∈Dl P C (Ik P C (Kj R P C Q) (F7 R C (CA R C Q))) j,z.toNat<2^64:=fun z hz=>by obtain⟨i,hi,rfl⟩:=zh.1 hz;have:=Bv.1 (show Br (Dy (C:Int) (Ik P C (Kj R P C Q) (F7 R C (CA R C Q))) (0+(i:Int)) (j:Int))=wc from FV inU);omega
  have lc:(Dl P C (Ik P C (Kj R P C Q) (F7 R C (CA R C Q))) j).length<=7:=by unfold Dl; rw[Dv]; omega
  exact(P4 b (by decide) b64 lc).2.1.fin
 refine⟨er,eT,eWX,eUX,eVX,eRX,?_,Afk,Afl,inV,inU⟩;rw[eWX,eUX,eVX,eRX,eAl,eBe];unfold AcT AcU;have lW:(FY R C (CA R C Q)).length=R*C:=by unfold FY; rw[IG]; exact FH _ _ _ _
 have ck1:BT (R:Int) (C:Int) (FY R C (CA R C Q))=0:=LZ (D7 (by omega) c6 lW) wW.FJ;have ck2:BT (P:Int) (C:Int) (Ik P C (Kj R P C Q) (F7 R C (CA R C Q)))=0:=LZ (D7 (by omega) c6 Afl) bU.FJ;have ck3:BT (C:Int) (C:Int) (F7 R C (CA R C Q))=0:=LZ (D7 c6 c6 Afk) wV.FJ;have ck4:BT (C:Int) (C:Int) (QX (R+P) C (l++m))=0:=LZ (D7 c6 c6 (show(QX (R+P) C (l++m)).length=C*C from Ch _ _ _)) bTR.FJ;dsimp only;rw[ck1,ck2,ck3,ck4,fAl,fBe,II,II];simp
theorem ZJ{R P C:Nat}{A Q V U:Bf}(h6:R+P<=6)(hcr:C<=R+P)(aA:Bq A=wc)(bA:Bl 100 A)(hQ:Q=MF (R+P) C A)(hV:V=F7 R C (CA R C Q))(hU:U=Ik P C (Kj R P C Q) V)(he:(Dt R C (CA R C Q)).2.2=0):
 orQ C C V<=1*tw (-60)+tw (-4000)/\∀i k,i<k->k<C->Ia P C U i k*Ia P C U i k<=1*tw (-50)+tw (-4000):=by
 have c6:C<=6:=by omega
 obtain⟨qo,qb⟩:=AaC h6 hcr aA bA;rw[<- hQ] at qo qb
 have inQ:Bq Q=wc:=by rw[hQ]; exact Gu fun _ _=>FV (by obtain⟨_,_,_,_,hs⟩:=Abi (c:=C) h6 bA aA;exact(Ws (c:=C) (l:=A) hs).1)
 obtain⟨⟨F,n,pi,hn⟩,td⟩:=So h6 c6 inQ qb qo he;refine⟨by rw[hV]; exact AdG pi hn c6,fun i k hik hk=>?_⟩;obtain⟨p,hp,ep⟩:=K8 (R:=R) (n:=C) (l:=CA R C Q) (j:=i) (by omega);obtain⟨s,hs,es⟩:=K8 (R:=R) (n:=C) (l:=CA R C Q) (j:=k) hk
 have hps:p≠s:=fun e=>by have:=WX (p:=p) (j:=i) (k:=k) (by omega) hk ep (e ▸ es);omega
 have d:=td p s hp hs hps
 have bL:∀i k:Nat,i<P->k<C->Bd 1 (Dy (C:Int) (Kj R P C Q) (i:Int) (k:Int)).toNat:=fun i k hi hk=>by rw[ZC hi hk]; exact qb _ k (by omega) hk
 have bV:∀i k:Nat,i<C->k<C->Bd 5 (Dy (C:Int) V (i:Int) (k:Int)).toNat:=fun i k hi hk=>by rw[hV]; exact Vz pi hi hk
 have vc:∀{j s:Nat},j<C->(K0 R C (CA R C Q)).getD j 0=(s:Int)->∀a,a<C->BN C V a j=BN C (Dt R C (CA R C Q)).2.1 a s:=fun {j s} hj e a ha=>by rw[hV]; unfold BN; rw[Pj ha hj e]
 have lv:∀{j s:Nat},j<C->s<C->(K0 R C (CA R C Q)).getD j 0=(s:Int)->Ln C (fun a=>BN C V a j) (101 / 100):=fun {j s} hj hs e=>(pi.Ad4 hn c6 hs).congr fun a ha=>vc hj e a ha
 have pv1:=fun a (ha:a<P)=>SG c6 (RU R P C Q) bL bV ha (show i<C by omega) (lv (by omega) hp ep)
 have pv2:=fun a (ha:a<P)=>SG c6 (RU R P C Q) bL bV ha hk (lv hk hs es)
 have lowr:∀a b,a<P->b<C->BN C (Kj R P C Q) a b=BN C Q (R+a) b:=fun a b ha hb=>by unfold BN; rw[ZC ha hb]
 have e1:∀a,a<P->(sm C fun j=>BN C (Kj R P C Q) a j*BN C V j i)=sm C fun k=>BN C Q (R+a) k*BN C (Dt R C (CA R C Q)).2.1 k p:=fun a ha=>BG C fun j hj=>by rw[lowr a j ha hj,vc (by omega) ep j hj]
 have e2:∀a,a<P->(sm C fun j=>BN C (Kj R P C Q) a j*BN C V j k)=sm C fun k=>BN C Q (R+a) k*BN C (Dt R C (CA R C Q)).2.1 k s:=fun a ha=>BG C fun j hj=>by rw[lowr a j ha hj,vc hk es j hj]
 have g:Ia P C U i k=sm P fun a=>BN C U a i*BN C U a k:=by unfold Ia; rw[OA]; rfl
 rw[g,hU];exact AeT (by omega) (fun a ha=>by rw[<- e1 a ha]; exact(pv1 a ha).1) (fun a ha=>by rw[<- e2 a ha]; exact(pv2 a ha).1) (fun a ha=>by rw[<- e1 a ha]; exact(pv1 a ha).2.1) (fun a ha=>by rw[<- e2 a ha]; exact(pv2 a ha).2.1) d
end Go.Cn
namespace Go.Proofs.S1
open Go Go.Den Go.Cn Go.Proofs
theorem BS.Ca.Bp:Kq 5 BS.Ca.Bu:=E1 BS.Ca.E Tryz.func5 (kc BS.asked.Bp (kc BS.FP.Bp (kc BS.unit.Bp (kc B0.Mul.q.Bp (kc De.Qj.Bp (kc BY.GY.q.Bp (kc BY.BZ.Bp (kc BY.Hp.Bp .nil)))))))) fun r c l p q m hp=>by
 have hall:(Bq l&&Bq m)=wc:=hp;obtain⟨al,am⟩:=Bi.1 hall;obtain⟨N,hN⟩:∃N:Nat,N=8:=⟨8,rfl⟩
 refine⟨N,.bool wc,[],?_,.bool⟩;rw[BS.Ca.ev,hall,Aa,BS.Ca.Ag5];by_cases ht:Aak r c l p q m=wc
 ·obtain⟨h1,h2⟩:=Bi.1 (show((BD r c l&&G1 l 100)&&(BD p q m&&G1 m 100))=wc from ht);obtain⟨hr,t1⟩:=Bi.1 h1;obtain⟨hr2,t2⟩:=Bi.1 h2
  have wN:CX r c l p q m≠0->Pa r c l p q m=decide (CX r c l p q m=3\/CX r c l p q m=6)/\Nu r c l p q m=wh:=fun h=>by refine⟨by unfold Pa; rw[Az ht,Ay h],by unfold Nu; rw[Ag h,Bool.and_false]⟩
  rcases AhG hr hr2 al am t1 t2 with e | e | ⟨R,P,C,Q,V,U,rfl,rfl,rfl,rfl,h6,hcr,ll,lm,bA,hQ,hV,hU,he,T⟩
  ·obtain⟨ho,hi⟩:=wN (by rw[e]; decide);rw[ho,hi,e,Bc,x9,Aa]; rfl
  ·obtain⟨ho,hi⟩:=wN (by rw[e]; decide);rw[ho,hi,e,Bc,x9,Aa]; rfl
  ·have aA:Bq (l++m)=wc:=Bv.2 fun y hy=>(zu.1 hy).elim (Bv.1 al y) (Bv.1 am y)
   obtain⟨o1,o2⟩:=ZJ h6 hcr aA bA hQ hV hU he;have hi:Nu (R:Int) (C:Int) l (P:Int) (C:Int) m=wc:=by unfold Nu; rw[ht,Ac T.err]; rfl
   have ho:Pa (R:Int) (C:Int) l (P:Int) (C:Int) m=wc:=by unfold Pa; rw[Az ht,Az T.err,T.fit]
   have ax:∀x,Hn (R:Int) (C:Int) l (P:Int) (C:Int) m x=x:=fun x=>by unfold Hn; rw[Az hi]
   have c6:C<=6:=by omega
   have rV:BD (C:Int) (C:Int) V=wc:=D7 c6 c6 T.Afk;have k2:Ci (0<=(30:Int)/\(30:Int)<=1000)=wc:=Bv.2 (by decide);have d1:Ds (1:Rat):=Dg.one.ds (by decide) (by decide) (by decide)
   have dO:Ds (orQ C C V):=by refine Dg.ds (g:=4296) (t:=8400) (n:=1764) ?_ (by decide) (by decide) (by decide);exact Dg.O7 (m:=294) c6 fun a _=>Dg.O7 (m:=49) c6 fun b _=>SK c6 a b
   have e60:(-2*(30:Int))=-60:=rfl;rw[hi,ho,ax,ax,ax,ax,T.eU,T.eV];dsimp only;rw[rV,T.inV,Ad,Ww dO,Ww d1,k2,FX dO.dq,FX d1.dq,e60,Ac o1];rw[AH,Bool.or_self,Af,Ah,Ah,Aa,Aa,Af];exact Akl (by omega) c6 T.Afl T.inU N (by omega) _ _ _ _ _ _ _ _ _ _ _ o2 C 0 N (by omega) (by omega)
 ·have ho:Pa r c l p q m=wc:=by unfold Pa; rw[Ay ht]
  have hi:Nu r c l p q m=wh:=by
   unfold Nu;cases h:Aak r c l p q m with
   | true=>exact absurd h ht
   | false=>rfl
  rw[ho,hi,Bc,x9,Aa]; rfl
end Go.Proofs.S1
