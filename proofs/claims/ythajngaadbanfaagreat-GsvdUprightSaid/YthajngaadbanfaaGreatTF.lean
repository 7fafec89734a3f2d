/- A verified evaluator of the program's form and its use for this seat: NorL, BndL, RatV, DyQ, QuoW, SvdW, TotW, InfW, GsvW, S1Specs, S1Tt, S1EqSoft, S1PSoft. -/
import Derived.Test.YthajngaadbanfaaGreatTE
set_option linter.unusedVariables false
set_option linter.unusedSimpArgs false
open Option renaming some->wM,none->wN
open Bool renaming true->wc,false->wh
open Int renaming toNat->wi
open List renaming length->wj,getD->vC
open List renaming mem_cons->zB,mem_map->zh,range->zg
open Nat renaming mul_pos->xU,pow_succ->zD,log2_self_le->zY,zero_le->zl,zero_mul->zK,lt_log2_self->yv,div_add_mod->zC,one_mul->zv,mul_le_mul_left->yI,zero_div->xl
open Rat renaming natCast_mul->zP,natCast_le_natCast->y7,mul_le_mul_of_nonneg_left->zd,le_of_lt->za,mul_le_mul_of_nonneg_right->zc,intCast_neg->wO,mul_assoc->xo,mul_nonneg->zb,intCast_mul->xp,intCast_add->wP
open Int renaming natAbs_mul->yj
open Eq renaming trans->yP
noncomputable section
open Go.Proofs.Tryz
namespace Go.Cn
open Go.Den
theorem AhA{M a b:Nat}{E:Int}(h:2^a<=M)(g:(b:Int)-1074<=a+E):Cu (2^b) (-1074)<=Cu M E:=by
 by_cases k:-1074<=E
 ·have s:=(D2 M (E+1074).toNat E).1;rw[show E-((E+1074).toNat:Int)=-1074 by omega] at s;rw[<- s];refine Fv (AP (m:=2^(a+(E+1074).toNat)) (Aq (by decide) (by omega)) ?_);rw[A5]; exact An _ h
 ·have s:=(D2 (2^b) (-1074-E).toNat (-1074)).1;rw[show(-1074:Int)-((-1074-E).toNat:Int)=E by omega,<- A5] at s;rw[<- s];exact Fv (AP (Aq (by decide) (by omega)) h)
theorem Jg{M a:Nat}{E:Int}(h:2^a<=M)(g:0<=a+E):pw 0<=Cu M E:=by
 obtain⟨t,ht⟩:∃t:Nat,t=1074:=⟨1074,rfl⟩
 rw[<- RN (k:=0) (by decide),AS,<- ht];exact AhA h (by omega)
def Nn(a:Nat):Prop:=a<=N2
def TN(a:Nat):Prop:=pw 0<=a/\a<=N2
theorem Fc:N2=9221120237041090560:=rfl
theorem Ry:pw 0=4607182418800017408:=by unfold pw; omega
theorem W8:TN N2:=⟨by rw[Ry,Fc]; omega,AB _⟩
theorem W9:TN Er:=⟨by rw[Ry,Ex]; omega,by rw[Fc,Ex]; omega⟩
theorem IZ(V:Nat)(E:Int):Nn (Cu V E):=by have:=NI V E;rw[Ex] at this;unfold Nn; rw[Fc]; omega
theorem Zt:Nn N2:=AB _
theorem Zu:Nn Er:=W9.2
theorem L7{z:Nat}(h:pw 0<=z%2^63):2^52<=Bx z/\-52<=B6 z:=by
 have h1:1023<=DH z:=by unfold DH; rw[Ry] at h; omega
 unfold Bx B6;rw[Ay (by omega),Ay (by omega)];omega
theorem EF{a:Nat}(h:Nn a):Ce a=wh:=by unfold Nn at h; rw[Fc] at h;exact Ag (by omega)
theorem Aen{z:Nat}:Nn (Ee z z).1/\(pw 0<=z%2^63->TN (Ee z z).1):=by
 have hp:(Ce z !=Ce z)=wh:=by cases Ce z<;>rfl
 unfold Ee;by_cases k4:Bn z=4
 ·rw[Az (.inl k4)]; exact⟨Zt,fun _=>W8⟩
 rw[Ay (by omega)];by_cases k3:Bn z=3
 ·rw[Az (.inl k3),Ay (by omega),hp,F2]; exact⟨Zu,fun _=>W9⟩
 rw[Ay (by omega),hp,F2];refine⟨IZ _ _,fun h=>⟨?_,IZ _ _⟩⟩;obtain⟨h1,h2⟩:=L7 h;refine Jg (a:=104) ?_ (by omega);rw[show(104:Nat)=52+52 from rfl,A5];exact AE h1 h1
theorem Tp{a:Nat}(h:Nn a)(k3:Bn a=3):a=Er:=by have:=WU (b:=a) (by unfold Nn at h; rw[Fc] at h; omega) k3;rw[EF h] at this;exact this.symm
theorem Ajx{a:Nat}(h:Nn a):Gt a=a:=by unfold Gt;rw[EF h];unfold Nn at h; rw[Fc] at h;show((a%2^63:Nat):Int)=a;omega
theorem Vu{a:Nat}(h:Nn a)(g:Int):E3 a g=EE a g:=by unfold E3 EE; rw[EF h]; rfl
theorem TJ{s t:Nat}(hs:Nn s)(ht:Nn t):Nn (DS s t).1/\(TN s\/TN t->TN (DS s t).1):=by
 have hN:Nn N2/\(TN s\/TN t->TN N2):=⟨Zt,fun _=>W8⟩
 have hI:Nn Er/\(TN s\/TN t->TN Er):=⟨Zu,fun _=>W9⟩
 by_cases k:Bn s=4\/Bn t=4
 ·have:(DS s t).1=N2:=by unfold DS; rw[Az k]
  rw[this]; exact hN
 by_cases s3:Bn s=3
 ·rw[Agu k s3];split
  ·exact hN
  ·obtain rfl:=Tp hs s3; exact hI
 by_cases t3:Bn t=3
 ·rw[Adq k s3 t3];obtain rfl:=Tp ht t3; exact hI
 have ek:=Sf s3 (by omega) t3 (by omega) (g:=min (B6 s) (B6 t)) (Int.le_refl _);generalize hg:min (B6 s) (B6 t)=g at ek;rw[Vu hs,Vu ht] at ek;have e0:¬((EE s g:Int)+(EE t g:Int)<0):=by omega
 unfold TV at ek;rw[Ay e0] at ek
 have n2:(DS s t).1=Cu ((EE s g:Int)+(EE t g:Int)).natAbs g:=by
  have hn:Ce (DS s t).1=wh\/(DS s t).1%2^63=0:=by
   unfold Gt at ek;cases hh:Ce (DS s t).1
   ·exact .inl rfl
   ·rw[hh] at ek;have ek:-(((DS s t).1%2^63:Nat):Int)=_:=ek;exact .inr (by omega)
  have hlt:(DS s t).1<2^64:=(Qc (by unfold Nn at hs; rw[Fc] at hs; omega) (by unfold Nn at ht; rw[Fc] at ht; omega)).1
  have hnf:Ce (DS s t).1=wh:=by
   rw[Nx k s3 t3];unfold HK;have hh:(Ce s&&Ce t)=wh:=by rw[EF hs]; rfl
   split
   ·show Ce (Cq (Ce s&&Ce t) 0)=wh;rw[hh]; rfl
   ·rename_i h0;rw[hg,Vu hs,Vu ht];rw[Ag e0,F2];exact EF (IZ _ _)
  unfold Gt at ek;rw[hnf] at ek;have ek:(((DS s t).1%2^63:Nat):Int)=_:=ek;unfold Ce at hnf;have:=of_decide_eq_false hnf;omega
 rw[n2];refine⟨IZ _ _,fun h=>⟨?_,IZ _ _⟩⟩;have ms:=Ji (b:=s) (f:=g) (by omega) (by omega);have mt:=Ji (b:=t) (f:=g) (by omega) (by omega);rcases h with h | h
 ·have:=Fv (V:=EE s g) (W:=((EE s g:Int)+(EE t g:Int)).natAbs) (E:=g) (by omega);have h1:=h.1;unfold Nn at hs; rw[Fc] at hs;rw[ms] at this; omega
 ·have:=Fv (V:=EE t g) (W:=((EE s g:Int)+(EE t g:Int)).natAbs) (E:=g) (by omega);have h1:=h.1;unfold Nn at ht; rw[Fc] at ht;rw[mt] at this; omega
theorem MG(k:Int):∀(l:Bf) (s:Nat),Nn s->∃t:Nat,F8 k s l=t/\Nn t/\((TN s\/∃x∈l,pw 0<=(BV x k).toNat%2^63)->TN t)
 | [],s,h=>⟨s,rfl,h,fun g=>by
  rcases g with g | ⟨x,hx,_⟩
  ·exact g
  ·cases hx⟩
 | x::l,s,h=>by
   obtain⟨q1,q2⟩:=Aen (z:=(BV x k).toNat);obtain⟨a1,a2⟩:=TJ h q1;obtain⟨t,e,t1,t2⟩:=MG k l _ a1;refine⟨t,?_,t1,fun g=>t2 ?_⟩
   ·unfold F8;rw[<- e];unfold DD Cx;rw[Ad,Ad]
   ·rcases g with g | ⟨y,hy,g⟩
    ·exact .inl (a2 (.inl g))
    ·rcases zB.1 hy with rfl | hy
     ·exact .inl (a2 (.inr (q2 g)))
     ·exact .inr ⟨y,hy,g⟩
theorem AhD{n:Nat}(h:n≠0):1<=I9 n:=Wj (by omega)
theorem SD{b:Nat}(h:TN b):TN (Ek b).1:=by
 have hn:=EF h.2;by_cases k4:Bn b=4
 ·rw[Sv k4]; exact W8
 by_cases k0:Bn b=0\/b=Er
 ·rw[IF k4 k0]; exact h
 rw[MH k4 k0 hn];refine⟨?_,IZ _ _⟩;have k3:Bn b≠3:=fun e=>k0 (.inr (Tp h.2 e))
 have hm:b%2^63=b:=by have:=h.2; rw[Fc] at this; omega
 obtain⟨p1,p2⟩:=L7 (z:=b) (by rw[hm]; exact h.1);have hK:=(Pv (b:=b) (by omega)).2;generalize hr:(B6 b-(E6 b:Int)) / 2-1=r at hK ⊢;have hst:2*I9 (Bx b*2^E6 b)<=Ec (Bx b*2^E6 b):=by unfold Ec; omega
 by_cases hr0:0<=r
 ·have:=AhD (n:=Bx b*2^E6 b) (by have:=xU (show 0<Bx b by omega) (Cs (E6 b)); omega);exact Jg (a:=0) (by omega) (by omega)
 ·have h2:2^((-1-r).toNat+(-1-r).toNat)<=Bx b*2^E6 b:=by refine AP (m:=2^(52+E6 b)) (Aq (by decide) (by omega)) ?_;rw[A5];exact An _ p1
  have h3:=PL h2;refine Jg (a:=(-1-r).toNat+1) ?_ (by omega);rw[zD]; omega
theorem Fz{b:Nat}(h:Bn b=0):b%2^63=0:=by
 unfold Bn DH Df at h;split at h
 ·split at h<;>omega
 ·split at h
  ·omega
  ·split at h<;>omega
theorem KM{b:Nat}(k3:Bn b≠3)(k4:Bn b≠4)(k0:Bn b≠0):Em b=((Bx b).log2:Int)+B6 b/\-1074<=Em b:=by
 have:=CH b;have hf:GJ b=wc:=by rw[IL]; simp[k3,k4]
 unfold Em;rw[Az ⟨hf,k0⟩];exact⟨rfl,by omega⟩
theorem LU(b:Nat):Em b=Em (b%2^63):=by
 have h1:DH (b%2^63)=DH b:=by unfold DH; omega
 have h2:Df (b%2^63)=Df b:=by unfold Df; omega
 unfold Em GJ Bn Bx B6;rw[h1,h2]
theorem OD{b:Nat}(k3:Bn b≠3)(k4:Bn b≠4)(k0:Bn b≠0):pw 0<=(Cj b (-Em b)).1%2^63:=by
 obtain⟨e,_⟩:=KM k3 k4 k0;rw[G4 k4 (by omega)];have m0:Bx b≠0:=fun h=>k0 ((CZ k3 k4).1 h)
 have:=Jg (M:=Bx b) (a:=(Bx b).log2) (E:=B6 b+-Em b) (zY m0) (by omega);have hl:=IX (Bx b) (B6 b+-Em b);have e2:Cq (Ce b) (Cu (Bx b) (B6 b+-Em b))%2^63=Cu (Bx b) (B6 b+-Em b):=by unfold Cq; split<;>omega
 show pw 0<=Cq (Ce b) (Cu (Bx b) (B6 b+-Em b))%2^63;rw[e2]; exact this
theorem Y0{x:Int}{l:Bf}{m:Nat}(k:Bn x.toNat=4):Iz (x::l) m=N2:=Az k
theorem TB{x:Int}{l:Bf}{m:Nat}(k:Bn x.toNat≠4):Iz (x::l) m=Iz l (max m (DP x.toNat)):=Ay k
theorem PW:∀(l:Bf) (m:Nat),Iz l m=N2\/Iz l m=m\/∃x∈l,Bn x.toNat≠4/\Iz l m=DP x.toNat
 | [],_=>.inr (.inl rfl)
 | x::l,m=>by
   by_cases k4:Bn x.toNat=4
   ·exact .inl (Y0 k4)
   rw[TB k4];rcases PW l (max m (DP x.toNat)) with g | g | ⟨y,hy,g,g'⟩
   ·exact .inl g
   ·rw[g];rcases Nat.le_total m (DP x.toNat) with k | k
    ·exact .inr (.inr ⟨x,AY,k4,Nat.max_eq_right k⟩)
    ·exact .inr (.inl (Nat.max_eq_left k))
   ·exact .inr (.inr ⟨y,AN _ hy,g,g'⟩)
theorem Aah:∀(l:Bf) (m:Nat),Iz l m=N2\/(m<=Iz l m/\∀x∈l,DP x.toNat<=Iz l m)
 | [],_=>.inr ⟨AB _,fun _ h=>by cases h⟩
 | x::l,m=>by
   by_cases k4:Bn x.toNat=4
   ·exact .inl (Y0 k4)
   rw[TB k4];rcases Aah l (max m (DP x.toNat)) with g | ⟨g1,g2⟩
   ·exact .inl g
   ·refine .inr ⟨by omega,fun y hy=>?_⟩;rcases zB.1 hy with rfl | hy
    ·omega
    ·exact g2 y hy
theorem QF(b:Nat):Bn (DP b)=Bn b:=by
 have h1:DH (DP b)=DH b:=by unfold DH DP; omega
 have h2:Df (DP b)=Df b:=by unfold Df DP; omega
 unfold Bn; rw[h1,h2]
theorem abs_zero{b:Nat}(h:DP b=0):Bn b=0:=by rw[<- QF,h]; decide
theorem Agk{y:Bf}(h:∃x∈y,BF x≠0):Iz y 0=N2\/∃z∈y,Bn z.toNat≠4/\Bn z.toNat≠0/\Iz y 0=DP z.toNat:=by
 obtain⟨x,hx,hk⟩:=h;rcases Aah y 0 with g | ⟨_,g⟩
 ·exact .inl g
 have g:=g x hx;have x0:DP x.toNat≠0:=fun e=>hk (by unfold BF; rw[abs_zero e]; rfl)
 rcases PW y 0 with e | e | ⟨z,hz,k,e⟩
 ·exact .inl e
 ·omega
 ·refine .inr ⟨z,hz,k,fun k0=>?_,e⟩;have:=Fz k0;unfold DP at e g x0; omega
theorem ZI(b:Nat):Bn (DR b)=Bn b:=by
 have h1:DH (DR b)=DH b:=by unfold DH DR; split<;>omega
 have h2:Df (DR b)=Df b:=by unfold Df DR; split<;>omega
 unfold Bn; rw[h1,h2]
open Go.Den
theorem VJ{V u k:Nat}{E:Int}(hk:k<=1023)(h:V<=2^u)(g:(u:Int)+E<=k):Cu V E<=pw k:=by
 refine AP (Fv h) ?_;obtain⟨t,ht⟩:∃t:Nat,t=1074:=⟨1074,rfl⟩
 rw[<- RN hk,<- ht];by_cases hE:-1074<=E
 ·have s:=(D2 (2^u) (E+1074).toNat E).1;rw[show E-((E+1074).toNat:Int)=-1074 by omega,<- A5] at s;rw[<- s];exact Fv (Aq (by decide) (by omega))
 ·have s:=(D2 (2^(k+t)) (-1074-E).toNat (-1074)).1;rw[show(-1074:Int)-((-1074-E).toNat:Int)=E by omega,<- A5] at s;rw[<- s];exact Fv (Aq (by decide) (by omega))
theorem Bd.RQ{k V u:Nat}{E:Int}(s:Bool)(hk:k<=1023)(h:V<=2^u)(g:(u:Int)+E<=k):Bd k (Cq s (Go.Cn.Cu V E)):=Bd.Cu s hk (VJ hk h g)
theorem Bd.log{k a:Nat}(h:Bd k a)(h0:Bx a≠0):((Bx a).log2:Int)+B6 a<=k:=by
 have pa:=CH a;have hm:=h.2.2;obtain⟨t,ht⟩:∃t:Nat,t=1074:=⟨1074,rfl⟩
 have e:Ih a=Bx a*2^(B6 a+1074).toNat:=by unfold Ih EE; congr 2
 rw[e,<- ht] at hm;have h1:=An (2^(B6 a+1074).toNat) (zY h0);rw[<- A5] at h1;have:=(Nat.pow_le_pow_iff_right (a:=2) (by decide)).1 (AP h1 hm);omega
theorem Bd.part{k a:Nat}(h:Bd k a)(h0:Bx a≠0):Bx a<=2^((k:Int)-B6 a).toNat/\B6 a<=k:=by
 have pa:=CH a;have hm:=h.2.2;have hl:=h.log h0;obtain⟨t,ht⟩:∃t:Nat,t=1074:=⟨1074,rfl⟩
 have e:Ih a=Bx a*2^(B6 a+1074).toNat:=by unfold Ih EE; congr 2
 refine⟨?_,by omega⟩;rw[e,<- ht,show k+t=((k:Int)-B6 a).toNat+(B6 a+1074).toNat by omega,A5] at hm;exact Nat.le_of_mul_le_mul_right hm (Cs _)
theorem Bd.scale{k j a:Nat}{n:Int}(hj:j<=1023)(h:Bd k a)(g:(k:Int)+n<=j):Bd j (Cj a n).1:=by
 by_cases k0:Bn a=0
 ·unfold Cj;rw[Ay h.2.1,Az (.inr k0)];refine .JE hj h.2.1 ?_;rw[Fz k0]; exact zl _
 have h0:Bx a≠0:=fun e=>k0 ((CZ h.1 h.2.1).1 e)
 rw[G4 h.2.1 (by have:=h.1; omega)];obtain⟨p1,p2⟩:=h.part h0;exact .RQ _ hj p1 (by omega)
theorem AfJ{a b:Nat}(a3:Bn a≠3)(a4:Bn a≠4)(b3:Bn b≠3)(b4:Bn b≠4)(h:DP a<=DP b)(h0:Bx a≠0):((Bx a).log2:Int)+B6 a<=((Bx b).log2:Int)+B6 b:=by
 have pa:=CH a;have pb:=CH b
 have hm:EE a (-1074)<=EE b (-1074):=by
  rcases AF (EE b (-1074)) (EE a (-1074)) with g | g
  ·have:=(Ta (f:=-1074) b4 a4 pb.1 pa.1).1 g;unfold DP at h; omega
  ·exact g
 unfold EE at hm
 have hb0:Bx b≠0:=fun e=>by rw[e,zK] at hm;have:=xU (show 0<Bx a by omega) (Cs (B6 a - -1074).toNat);omega
 have h1:=An (2^(B6 a - -1074).toNat) (zY h0);have h2:=Nat.mul_lt_mul_of_pos_right (yv (n:=Bx b)) (Cs (B6 b - -1074).toNat);rw[<- A5] at h1 h2;have:=(Nat.pow_lt_pow_iff_right (a:=2) (by decide)).1 (AK (AP h1 hm) h2);omega
theorem Bd.down{a b:Nat}(a3:Bn a≠3)(a4:Bn a≠4)(b3:Bn b≠3)(b4:Bn b≠4)(h:DP a<=DP b):Bd 1 (Cj a (-Em b)).1:=by
 by_cases k0:Bn a=0
 ·unfold Cj;rw[Ay a4,Az (.inr k0)];refine .JE (by decide) a4 ?_;rw[Fz k0]; exact zl _
 have h0:Bx a≠0:=fun e=>k0 ((CZ a3 a4).1 e)
 have hb0:Bn b≠0:=fun e=>by have:=Fz e;have hh:Bn a=0:=abs_zero (by unfold DP at h ⊢; omega);exact k0 hh
 have hl:=AfJ a3 a4 b3 b4 h h0;obtain⟨ee,_⟩:=KM b3 b4 hb0;rw[G4 a4 (by omega)];exact .RQ _ (by decide) (Nat.le_of_lt (yv (n:=Bx a))) (by omega)
structure Lo(t:Nat)(a:Nat):Prop where
 k3:Bn a≠3
 k4:Bn a≠4
 m0:Bx a≠0
 log:-(t:Int)<=((Bx a).log2:Int)+B6 a
theorem Lo.k0{t a:Nat}(h:Lo t a):Bn a≠0:=fun e=>h.m0 ((CZ h.k3 h.k4).2 e)
theorem Lo.OL{a:Nat}(k3:Bn a≠3)(k4:Bn a≠4)(h:pw 0<=a%2^63):Lo 0 a:=by
 obtain⟨h1,h2⟩:=L7 h;have h0:Bx a≠0:=by omega
 refine⟨k3,k4,h0,?_⟩;have:=(Nat.le_log2 h0).2 h1;omega
theorem Aeg{X Y K u:Nat}(hY:0<Y)(h:X*2^K<=Y*2^u):EI X Y K<=2^(u+1):=by
 unfold EI;have hd:=zC (X*2^K) Y;have hq:X*2^K / Y<=2^u:=Nat.div_le_of_le_mul h;rw[zD];split
 ·omega
 ·rename_i hr
  have:X*2^K / Y≠2^u:=fun e=>by rw[e] at hd;omega
  omega
theorem Bd.div{j t a b:Nat}(hk:j+t<=1023)(ha:Bd j a)(hb:Lo t b):Bd (j+t) (K5 a b).1:=by
 have b0:=hb.k0;have a3:=ha.1;have a4:=ha.2.1;have b3:=hb.k3;have b4:=hb.k4;unfold K5;rw[Ay (by omega),Ay (by omega),Ay a3];by_cases k0:Bn a=0
 ·rw[Az (.inr k0)]; exact .zero _ _
 rw[Ay (by omega),Ay b0];have m0:Bx a≠0:=fun e=>k0 ((CZ a3 a4).1 e)
 obtain⟨p1,p2⟩:=ha.part m0;have hl:=hb.log;have l52:=XN hb.m0;obtain⟨u,hu⟩:∃u:Nat,(u:Int)=(j:Int)+t-B6 a+B6 b+120:=⟨((j:Int)+t-B6 a+B6 b+120).toNat,by omega⟩
 refine .RQ _ hk (Aeg (u:=u) (by have:=hb.m0; omega) ?_) (by omega);refine AP (An _ p1) (AP ?_ (An _ (zY hb.m0)));rw[<- A5,<- A5];exact Aq (by decide) (by omega)
theorem AbS{n u:Nat}(h:n<=2^(u+u)):Ec n<=2^(u+1):=by
 obtain⟨h1,_⟩:=Jk n;rw[A5] at h
 have hq:I9 n<=2^u:=by
  rcases AF (2^u) (I9 n) with g | g
  ·have:=Nat.mul_lt_mul'' g g;omega
  ·exact g
 unfold Ec;rw[zD];split
 ·omega
 ·rename_i hr
  have:I9 n≠2^u:=fun e=>by rw[e] at h1 hr;omega
  omega
theorem Bd.root{j b:Nat}(hj:j<=1000)(hb:Bd (j+j) b)(hn:Ce b=wh):Bd j (Ek b).1:=by
 by_cases k0:Bn b=0
 ·rw[IF hb.2.1 (.inl k0)];refine .JE (by omega) hb.2.1 ?_;rw[Fz k0]; exact zl _
 have m0:Bx b≠0:=fun e=>k0 ((CZ hb.1 hb.2.1).1 e)
 have hi:b≠Er:=fun e=>hb.1 (by rw[e]; exact Yc)
 rw[MH hb.2.1 (fun h=>h.elim k0 hi) hn];obtain⟨p1,p2⟩:=hb.part m0;obtain⟨r1,r2⟩:=Pv m0;generalize hr:(B6 b-(E6 b:Int)) / 2-1=r at r2 ⊢;have hrk:128<=E6 b:=by unfold E6; omega
 obtain⟨u,hu⟩:∃u:Nat,(u:Int)=(j:Int)-r-1:=⟨((j:Int)-r-1).toNat,by omega⟩
 have h2:Bx b*2^E6 b<=2^(u+u):=by refine AP (An _ p1) ?_;rw[<- A5];exact Aq (by decide) (by omega)
 have:=Bd.RQ (k:=j) (E:=r) wh (by omega) (AbS h2) (by omega);rw[F2] at this;exact this
def Bm(m k:Nat)(a:Nat):Prop:=Bn a≠3/\Bn a≠4/\Ih a<=m*2^(k+1074)
theorem Bd.bm{k a:Nat}(h:Bd k a):Bm 1 k a:=⟨h.1,h.2.1,by rw[zv]; exact h.2.2⟩
theorem Bm.bd{m k a j:Nat}(h:Bm m k a)(hm:m<=2^j):Bd (k+j) a:=by
 refine⟨h.1,h.2.1,AP h.2.2 ?_⟩;obtain⟨t,ht⟩:∃t:Nat,t=1074:=⟨1074,rfl⟩
 rw[<- ht,show k+j+t=j+(k+t) by omega,A5 2 j];exact An _ hm
theorem AfC{m k:Nat}(h0:m≠0)(hm:m<=1024)(hk:k<=1000):∃z:Nat,z=Cu (m*2^(k+1074)) (-1074)/\z%2^63=z/\Bn z≠4/\Ih z=m*2^(k+1074):=by
 obtain⟨t,ht⟩:∃t:Nat,t=1074:=⟨1074,rfl⟩
 have s:=(D2 m (k+t) k).1;rw[show(k:Int)-((k+t:Nat):Int)=-1074 by omega] at s;have hu:Cu m k<=pw (k+10):=VJ (by omega) (u:=10) (by omega) (by omega);have hi:Cu m k<Er:=AK hu (MR (by omega)).2.2.2.2;obtain⟨_,d,e1,e2⟩:=ZQ wh h0 (XY (V:=m) (E:=(k:Int)) (by omega) (by omega)) hi;rw[F2] at e1 e2;have hl:=IX m k;have pe:=CH (Cu m k);have k4:=Gd wh m k;rw[F2] at k4;refine⟨Cu m k,?_,Ao hl,k4,?_⟩
 ·rw[<- ht]; exact s.symm
 ·unfold Ih EE;rw[e1,e2,A7,<- A5];congr 2;omega
theorem Bm.JE{m k a z:Nat}(hz:Ih z=m*2^(k+1074))(z4:Bn z≠4)(zi:z%2^63<Er)(a4:Bn a≠4)(h:a%2^63<=z%2^63):Bm m k a:=by
 have a3:Bn a≠3:=fun e=>by have:=NU e; omega
 refine⟨a3,a4,?_⟩;rw[<- hz];have pa:=CH a;have pz:=CH z;rcases AF (Ih z) (Ih a) with g | g
 ·have:=(Ta (f:=-1074) z4 a4 pz.1 pa.1).1 g;omega
 ·exact g
theorem Bm.add{m n k a b:Nat}(h0:m+n≠0)(hmn:m+n<=1024)(hk:k<=1000)(ha:Bm m k a)(hb:Bm n k b):Bm (m+n) k (DS a b).1:=by
 obtain⟨a3,a4,am⟩:=ha;obtain⟨b3,b4,bm⟩:=hb;have pa:=CH a;have pb:=CH b;have ek:=Sf a3 a4 b3 b4 (g:=-1074) (by omega)
 have e4:Bn (DS a b).1≠4:=by
  rw[Nx (by omega) a3 b3];unfold HK;split
  ·have:Bn (Cq (Ce a&&Ce b) 0)=0:=by cases (Ce a&&Ce b)<;>decide
   show Bn (Cq (Ce a&&Ce b) 0)≠4;omega
  ·exact Gd _ _ _
 obtain⟨z,ez,z63,z4,zm⟩:=AfC h0 hmn hk
 have zi:z%2^63<Er:=by
  have hu:z<=pw (k+10):=by rw[ez];refine VJ (u:=k+1074+10) (by omega) ?_ (by omega);rw[A5 2 (k+1074),A0];exact yI _ hmn
  have:=(MR (k:=k+10) (by omega)).2.2.2.2;omega
 refine .JE zm z4 zi e4 ?_
 have hs:(E3 a (-1074)+E3 b (-1074)).natAbs<=(m+n)*2^(k+1074):=by have h1:=Ki a;have h2:=Ki b;have:(m+n)*2^(k+1074)=m*2^(k+1074)+n*2^(k+1074):=AM _ _ _;omega
 have hr:=Fv (E:=-1074) hs;rw[<- ez] at hr;have hn:(Gt (DS a b).1).natAbs=(DS a b).1%2^63:=by unfold Gt; rw[RL]
 rw[<- hn,ek,z63];unfold TV;split<;>omega
def Bl(k:Nat)(l:Bf):Prop:=∀x∈l,Bd k x.toNat
theorem Bl.mono{j k:Nat}{l:Bf}(h:Bl j l)(g:j<=k):Bl k l:=fun x hx=>(h x hx).mono g
theorem Aid{k:Nat}{x:Int}{l:Bf}(h1:Bd k x.toNat)(h2:Bl k l):Bl k (x::l):=fun y hy=>by
 rcases zB.1 hy with rfl | hy
 ·exact h1
 ·exact h2 y hy
theorem Aaf{α:Type}{k:Nat}{l:List α}{f:α->Int}(h:∀j,Bd k (f j).toNat):Bl k (l.map f):=fun x hx=>by obtain⟨j,_,rfl⟩:=zh.1 hx;exact h j
theorem OZ{k:Nat}{l:Bf}(h:Bl k l)(j:Nat):Bd k (l.getD j 0).toNat:=by
 by_cases hj:j<l.length
 ·rw[Al,As hj]; exact h _ (List.getElem_mem hj)
 ·rw[Al,Bb (by omega)]; exact Bd.zero wh k
theorem W6{k r c:Nat}{f:Nat->Nat->Int}(h:∀i j,Bd k (f i j).toNat):Bl k (Dj r c f):=fun x hx=>by unfold Dj at hx;obtain⟨j,_,rfl⟩:=zh.1 hx;exact h _ _
theorem Abv{j k:Nat}(hjk:j+k<=1000):∀(x y:Bf) (s t:Nat),Bl j x->Bl k y->Bm t (j+k) s->0<t->t+x.length<=1024->Bm (t+x.length) (j+k) (PT s x y)
 | [],_,s,t,_,_,hs,_,_=>hs
 | a::x,[],s,t,_,_,hs,_,_=>⟨hs.1,hs.2.1,AP hs.2.2 (An _ (by omega))⟩
 | a::x,b::y,s,t,hx,hy,hs,h0,ht=>by simp only[List.length_cons] at ht ⊢;have h1:Bm (t+1) (j+k) (DS s (Ee a.toNat b.toNat).1).1:=Bm.add (by omega) (by omega) hjk hs (Bd.mul (by omega) (hx a AY) (hy b AY)).bm;have:=Abv hjk x y _ (t+1) (fun z hz=>hx z (AN _ hz)) (fun z hz=>hy z (AN _ hz)) h1 (by omega) (by omega);rw[show t+(x.length+1)=t+1+x.length by omega];exact this
theorem LV{j k:Nat}{x y:Bf}(hjk:j+k<=1000)(hx:Bl j x)(hy:Bl k y)(hl:x.length<=7):Bd (j+k+3) (EU x y).toNat:=by have z:Bm 1 (j+k) 0:=(Bd.zero wh (j+k)).bm;have:=Abv hjk x y 0 1 hx hy z (by decide) (by omega);show Bd (j+k+3) (wi ((PT 0 x y:Nat):Int));rw[Ad];exact this.bd (by omega)
def tw(e:Int):Rat:=(2:Rat)^e
theorem MA:(2:Rat)≠0:=by decide
theorem E5(a b:Int):tw (a+b)=tw a*tw b:=Rat.zpow_add MA a b
theorem J6:tw 0=1:=Rat.zpow_zero 2
theorem En(e:Int):0<tw e:=Rat.zpow_pos (by decide)
theorem Hl(n:Nat):tw (n:Int)=((2^n:Nat):Rat):=by
 unfold tw;rw[Rat.zpow_natCast]
 induction n with
 | zero=>rfl
 | succ n ih=>rw[Rat.pow_succ,ih,zD]; exact(zP _ _).symm
theorem AbC(n:Nat):1<=tw (n:Int):=by rw[Hl];have:=Cs n;exact y7.2 (show 1<=2^n from this)
theorem AdQ{a b:Int}(h:a<=b):tw a<=tw b:=by
 have e:b=a+((b-a).toNat:Int):=by omega
 rw[e,E5];have h1:=AbC (b-a).toNat;have h2:=En a;have:=zd h1 (za h2);rw[Rat.mul_one] at this;exact this
theorem RB(e:Int):tw (e+1)=2*tw e:=by
 have:tw 1=2:=by have:=Hl 1;exact this
 rw[E5,this]; grind
theorem Ak1(e:Int):tw e≠0:=fun h=>by have:=En e; grind
theorem MD(V k:Nat)(E:Int):((V*2^k:Nat):Rat)*tw (E-k)=(V:Rat)*tw E:=by
 have e:tw E=tw (E-k)*tw (k:Int):=by rw[<- E5]; congr 1; omega
 rw[e,zP,<- Hl];grind
def Nr(x y d:Rat):Prop:=x<=y+d/\y<=x+d
theorem Nr.mono{x y d e:Rat}(h:Nr x y d)(g:d<=e):Nr x y e:=by unfold Nr at *; grind
theorem Nr.symm{x y d:Rat}(h:Nr x y d):Nr y x d:=⟨h.2,h.1⟩
theorem Nr.trans{x y z d e:Rat}(h:Nr x y d)(g:Nr y z e):Nr x z (d+e):=by unfold Nr at *; grind
theorem Ae8(V k:Nat):2*(H5 V k*2^k)<=2*V+2^k/\2*V<=2*(H5 V k*2^k)+2^k:=by
 have hd:=zC V (2^k);have hm:=Nat.mod_lt V (Cs k);unfold H5;rw[AM,A0 (V / 2^k)];split
 ·rw[zv]; omega
 ·rw[zK]; omega
theorem Acm(V k:Nat):Nr ((H5 V k*2^k:Nat):Rat) (V:Rat) (tw ((k:Int)-1)):=by
 obtain⟨h1,h2⟩:=Ae8 V k
 have e:((2^k:Nat):Rat)=2*tw ((k:Int)-1):=by rw[<- Hl,<- RB]; congr 1; omega
 have h1:((2*(H5 V k*2^k):Nat):Rat)<=((2*V+2^k:Nat):Rat):=y7.2 h1;have h2:((2*V:Nat):Rat)<=((2*(H5 V k*2^k)+2^k:Nat):Rat):=y7.2 h2;rw[Rat.natCast_add,zP 2,zP 2,e] at h1 h2;have t:((2:Nat):Rat)=2:=rfl;rw[t] at h1 h2;unfold Nr;grind
theorem Nr.scale{x y d c:Rat}(h:Nr x y d)(hc:0<=c):Nr (x*c) (y*c) (d*c):=by have h1:=zc h.1 hc;have h2:=zc h.2 hc;unfold Nr;grind
theorem AcK(M:Nat)(E:Int):Nr ((kept M E:Rat)*tw (Cp M E)) ((M:Rat)*tw E) (if Cp M E<=E then 0 else tw (Cp M E-1)):=by
 unfold kept H4;generalize Cp M E=L;by_cases h:L<=E
 ·rw[Az h];have e1:(L-E).toNat=0:=by omega
  have e2:tw L=tw (E-((-(L-E)).toNat:Int)):=by congr 1; omega
  rw[e1,JP,e2,MD];unfold Nr; grind
 ·rw[Ay h];have e1:(-(L-E)).toNat=0:=by omega
  rw[e1,AG,AR];have h1:=(Acm M (L-E).toNat).scale (c:=tw E) (za (En E))
  have e2:((H5 M (L-E).toNat*2^(L-E).toNat:Nat):Rat)*tw E=(H5 M (L-E).toNat:Rat)*tw L:=by have:=MD (H5 M (L-E).toNat) (L-E).toNat L;rw[show L-((L-E).toNat:Int)=E by omega] at this;exact this
  have e3:tw (((L-E).toNat:Int)-1)*tw E=tw (L-1):=by rw[<- E5]; congr 1; omega
  rw[e2,e3] at h1;exact h1
def Lc(s:Bool):Rat:=if s then -1 else 1
def vR(a:Nat):Rat:=Lc (Ce a)*((Bx a:Nat):Rat)*tw (B6 a)
theorem VH(s:Bool)(m:Nat):((Gx s m:Int):Rat)=Lc s*(m:Rat):=by
 unfold Gx Lc;cases s
 ·simp; rfl
 ·show(((-(m:Int)):Int):Rat)=-1*(m:Rat)
  rw[wO];have e:((m:Int):Rat)=(m:Rat):=rfl;rw[e]; grind
theorem AaH(s t:Bool):Lc (s !=t)=Lc s*Lc t:=by cases s<;>cases t<;>decide +kernel
theorem WW{a:Nat}{g:Int}(h:g<=B6 a):((E3 a g:Int):Rat)*tw g=vR a:=by unfold E3 vR;rw[VH];have:=MD (Bx a) (B6 a-g).toNat (B6 a);rw[show B6 a-((B6 a-g).toNat:Int)=g by omega] at this;rw[xo,this,xo]
theorem Aex(s:Bool){V:Nat}{E:Int}(hi:Cu V E<Er):vR (Cq s (Cu V E))=Lc s*((kept V E:Rat)*tw (Cp V E)):=by
 by_cases h0:V=0
 ·subst h0;have e1:Cu 0 E=0:=by unfold Cu; rw[Az rfl]
  have e2:kept 0 E=0:=by unfold kept H4 H5;rw[zK,xl,Nat.zero_mod];have:=Cs (Cp 0 E-E).toNat;rw[Ay (by omega)]
  have e3:Bx (Cq s 0)=0:=by cases s<;>decide
  rw[e1,e2];unfold vR;rw[e3];have z:((0:Nat):Rat)=0:=rfl;rw[z];grind
 have er:Cu V E=(Cp V E+1074).toNat*2^52+kept V E:=by unfold Cu at hi ⊢;rw[Ay h0] at hi ⊢;omega
 have hl:-1074<=Cp V E:=by unfold Cp; omega
 have hk:=Abf (V:=V) (E:=E);have hlt:=IX V E;rw[er] at hi hlt;rw[er];by_cases hq:kept V E<2^53
 ·have hc:2^52<=kept V E\/Cp V E=-1074:=by
   by_cases h:Cp V E=E+V.log2-52
   ·exact .inl (Wi h0 h)
   ·refine .inr ?_;unfold Cp at h ⊢; omega
  obtain⟨p1,p2⟩:=O4 s hq hl hc hi;unfold vR;rw[p1,p2,sign_neg s hlt,xo]
 ·have hq:kept V E=2^53:=by omega
  rw[hq] at hi hlt ⊢;have e:(Cp V E+1074).toNat*2^52+2^53=(Cp V E+1+1074).toNat*2^52+2^52:=by omega
  rw[e] at hi hlt ⊢;obtain⟨p1,p2⟩:=O4 s (q:=2^52) (L:=Cp V E+1) (by decide) (by omega) (.inl (AB _)) hi;unfold vR;rw[p1,p2,sign_neg s hlt,xo,RB];have t:((2^53:Nat):Rat)=2*((2^52:Nat):Rat):=by decide +kernel
  rw[t];grind
def uR:Rat:=tw (-53)
def Cl:Rat:=tw (-1075)
theorem Dd:0<uR:=En _
theorem DY:0<Cl:=En _
theorem Aer{s:Bool}{x y d:Rat}(h:Nr x y d):Nr (Lc s*x) (Lc s*y) d:=by
 unfold Lc;unfold Nr at *
 cases s<;>simp<;>grind
theorem Aju{V:Nat}(h:V≠0):tw (V.log2:Int)<=(V:Rat):=by rw[Hl];exact y7.2 (zY h)
theorem GR(V:Nat):(0:Rat)<=(V:Rat):=by have:((0:Nat):Rat)<=(V:Rat):=y7.2 (zl V);exact this
theorem LO(V:Nat)(E:Int):0<=(V:Rat)*tw E:=zb (GR V) (za (En E))
theorem AhF{V:Nat}{E:Int}(h0:V≠0):(if Cp V E<=E then 0 else tw (Cp V E-1))<=uR*((V:Rat)*tw E)+Cl/\(-1074<=E->(if Cp V E<=E then 0 else tw (Cp V E-1))<=uR*((V:Rat)*tw E))/\(V<2^53->(if Cp V E<=E then 0 else tw (Cp V E-1))<=Cl):=by
 have hn:=LO V E;have hu:=zb (za Dd) hn;have he:=DY;by_cases h:Cp V E<=E
 ·rw[Az h];exact⟨by grind,fun _=>hu,fun _=>by grind⟩
 rw[Ay h];by_cases h1:Cp V E=E+V.log2-52
 ·have e:tw (Cp V E-1)=uR*(tw (V.log2:Int)*tw E):=by unfold uR;rw[h1,<- E5,<- E5]; congr 1; omega
  have hl:=zc (Aju h0) (za (En E));have hl:=zd hl (za Dd);rw[e];refine⟨by grind,fun _=>hl,fun hv=>?_⟩;have:=AcG hv;omega
 ·have e:Cp V E=-1074:=by unfold Cp at h1 ⊢; omega
  have e2:tw (Cp V E-1)=Cl:=by unfold Cl; rw[e]; rfl
  rw[e2];exact⟨by grind,fun _=>by omega,fun _=>Rat.le_refl⟩
theorem MP(s:Bool){V:Nat}{E:Int}(hi:Cu V E<Er):Nr (vR (Cq s (Cu V E))) (Lc s*((V:Rat)*tw E)) (uR*((V:Rat)*tw E)+Cl)/\(-1074<=E->Nr (vR (Cq s (Cu V E))) (Lc s*((V:Rat)*tw E)) (uR*((V:Rat)*tw E)))/\(V<2^53->Nr (vR (Cq s (Cu V E))) (Lc s*((V:Rat)*tw E)) Cl):=by
 rw[Aex s hi];by_cases h0:V=0
 ·subst h0
  have e2:kept 0 E=0:=by unfold kept H4 H5;rw[zK,xl,Nat.zero_mod];have:=Cs (Cp 0 E-E).toNat;rw[Ay (by omega)]
  rw[e2];have z:((0:Nat):Rat)=0:=rfl;have he:=DY;rw[z];unfold Nr;refine⟨by grind,fun _=>by grind,fun _=>by grind⟩
 have h:=Aer (s:=s) (AcK V E);obtain⟨g1,g2,g3⟩:=AhF (E:=E) h0;exact⟨h.mono g1,fun k=>h.mono (g2 k),fun k=>h.mono (g3 k)⟩
def Ab(x B:Rat):Prop:=-B<=x/\x<=B
theorem Ab.nn{x B:Rat}(h:Ab x B):0<=B:=by unfold Ab at h; grind
theorem Za{s:Bool}{x B:Rat}(hx:0<=x):Ab (Lc s*x) B↔x<=B:=by unfold Ab Lc;cases s<;>simp<;>grind
theorem AhQ{v e w f:Int}(h:(v:Rat)*tw e=(w:Rat)*tw f):mD v=mD w/\eD v e=eD w f:=by
 have key:∀{v e w f:Int},e<=f->(v:Rat)*tw e=(w:Rat)*tw f->mD v=mD w/\eD v e=eD w f:=by
  intro v e w f hef h
  have e1:tw f=((2^(f-e).toNat:Nat):Rat)*tw e:=by rw[<- Hl,<- E5]; congr 1; omega
  have h2:((v:Rat)-(w:Rat)*((2^(f-e).toNat:Nat):Rat))*tw e=0:=by rw[e1] at h; grind
  have h3:(v:Rat)=(w:Rat)*((2^(f-e).toNat:Nat):Rat):=by
   rcases Rat.mul_eq_zero.1 h2 with k | k
   ·grind
   ·exact absurd k (Ak1 e)
  have h4:((v:Int):Rat)=((w*((2^(f-e).toNat:Nat):Int):Int):Rat):=by rw[xp]; exact h3
  have h5:v=w*((2^(f-e).toNat:Nat):Int):=Rat.intCast_inj.1 h4;refine⟨by rw[h5,Ajt],?_⟩;have h6:=AjE w f (f-e).toNat;rw[<- h5,show f-((f-e).toNat:Int)=e by omega] at h6;exact h6
 rcases Int.le_total e f with k | k
 ·exact key k h
 ·obtain⟨h1,h2⟩:=key k h.symm;exact⟨h1.symm,h2.symm⟩
open Classical in
def dyP(x:Rat):Int × Int:=if h:∃p:Int × Int,x=(p.1:Rat)*tw p.2 then Classical.choose h else (0,0)
def mQ(x:Rat):Int:=mD (dyP x).1
def eQ(x:Rat):Int:=eD (dyP x).1 (dyP x).2
theorem UL{x:Rat}{v e:Int}(h:x=(v:Rat)*tw e):mQ x=mD v/\eQ x=eD v e:=by
 have hx:∃p:Int × Int,x=(p.1:Rat)*tw p.2:=⟨(v,e),h⟩
 have e1:dyP x=Classical.choose hx:=by unfold dyP; rw[dif_pos hx]
 have h1:=Classical.choose_spec hx;rw[<- e1] at h1;exact AhQ (h1.symm.trans h)
theorem Afd(v e:Int):((mD v:Int):Rat)*tw (eD v e)=(v:Rat)*tw e:=by
 by_cases h:v=0
 ·subst h;rw[KH.2 rfl];have:((0:Int):Rat)=0:=rfl;rw[this]; grind
 ·have e1:=RT v;have e2:eD v e=e+N6 v.natAbs:=by unfold eD; rw[Ay h]
  have e3:(v:Rat)=((mD v:Int):Rat)*((2^N6 v.natAbs:Nat):Rat):=by have h2:((v:Int):Rat)=((mD v*((2^N6 v.natAbs:Nat):Int):Int):Rat):=Rat.intCast_inj.2 e1;rw[xp] at h2;exact h2
  rw[e2,E5,Hl,e3,<- e3];grind
structure Dg(g t n:Nat)(x:Rat):Prop where
 ex:∃v:Int,x=(v:Rat)*tw (-(g:Int))/\v.natAbs<=n*2^t
theorem Dg.add{g t n m:Nat}{x y:Rat}(h:Dg g t n x)(k:Dg g t m y):Dg g t (n+m) (x+y):=by
 obtain⟨⟨v,rfl,h⟩⟩:=h;obtain⟨⟨w,rfl,k⟩⟩:=k;refine⟨v+w,?_,?_⟩
 ·rw[wP]; grind
 ·rw[AM]; omega
theorem Dg.neg{g t n:Nat}{x:Rat}(h:Dg g t n x):Dg g t n (-x):=by obtain⟨⟨v,rfl,h⟩⟩:=h;refine⟨-v,?_,by omega⟩;rw[wO]; grind
theorem Dg.sub{g t n m:Nat}{x y:Rat}(h:Dg g t n x)(k:Dg g t m y):Dg g t (n+m) (x-y):=by have:=h.add k.neg;rw[Rat.sub_eq_add_neg]; exact this
theorem Dg.mul{g t n h s m:Nat}{x y:Rat}(a:Dg g t n x)(b:Dg h s m y):Dg (g+h) (t+s) (n*m) (x*y):=by
 obtain⟨⟨v,rfl,a⟩⟩:=a;obtain⟨⟨w,rfl,b⟩⟩:=b;refine⟨v*w,?_,?_⟩
 ·have e:tw (-((g+h:Nat):Int))=tw (-(g:Int))*tw (-(h:Int)):=by rw[<- E5]; congr 1; omega
  rw[xp,e]; grind
 ·rw[yj,A5];have:=AE a b
  have e:n*m*(2^t*2^s)=n*2^t*(m*2^s):=by rw[A7,Nat.mul_left_comm m,<- A7]
  rw[e]; exact this
theorem Dg.up{g t n:Nat}{x:Rat}(h:Dg g t n x)(k:Nat):Dg (g+k) (t+k) n x:=by
 obtain⟨⟨v,rfl,h⟩⟩:=h;refine⟨v*((2^k:Nat):Int),?_,?_⟩
 ·have e:tw (-(g:Int))=((2^k:Nat):Rat)*tw (-((g+k:Nat):Int)):=by rw[<- Hl,<- E5]; congr 1; omega
  have e2:(((2^k:Nat):Int):Rat)=((2^k:Nat):Rat):=rfl;rw[xp,e2,e]; grind
 ·rw[yj,Int.natAbs_natCast,A5,<- A7];exact An _ h
theorem Dg.mono{g t n m:Nat}{x:Rat}(h:Dg g t n x)(k:n<=m):Dg g t m x:=by obtain⟨⟨v,e,h⟩⟩:=h;exact⟨v,e,AP h (An _ k)⟩
theorem Dg.wide{g t n s:Nat}{x:Rat}(h:Dg g t n x)(k:t<=s):Dg g s n x:=by obtain⟨⟨v,e,h⟩⟩:=h;exact⟨v,e,AP h (yI _ (Aq (by decide) k))⟩
theorem Dg.scale{g t n:Nat}{x:Rat}(h:Dg g t n x)(k:Nat):Dg (g+k) t n (x*tw (-(k:Int))):=by
 obtain⟨⟨v,rfl,h⟩⟩:=h;refine⟨v,?_,h⟩;have e:tw (-((g+k:Nat):Int))=tw (-(g:Int))*tw (-(k:Int)):=by rw[<- E5]; congr 1; omega
 rw[e]; grind
theorem Dg.zero(g t n:Nat):Dg g t n 0:=⟨0,by have:((0:Int):Rat)=0:=rfl;rw[this]; grind,zl _⟩
theorem Dg.tw(g:Nat):Dg g 0 1 (tw (-(g:Int))):=⟨1,by have:((1:Int):Rat)=1:=rfl;rw[this]; grind,by decide⟩
theorem Dg.one:Dg 0 0 1 1:=⟨1,by have:((1:Int):Rat)=1:=rfl;rw[this];have e:Go.Cn.tw (-((0:Nat):Int))=1:=J6;rw[e]; grind,by decide⟩
theorem Dg.word(a:Nat){t:Nat}(ht:2099<=t):Dg 1074 t 1 (vR a):=by
 obtain⟨p1,p2⟩:=CH a;refine⟨E3 a (-1074),(WW p1).symm,?_⟩;have e:(E3 a (-1074)).natAbs=Bx a*2^(B6 a-(-1074)).toNat:=Ki a;have h1:Bx a<=2^53:=by have:=EJ a; omega
 have h3:=AE h1 (AB (2^(B6 a-(-1074)).toNat));rw[<- A5] at h3;rw[e,zv];exact AP h3 (Aq (by decide) (by omega))
def Dq(x:Rat):Prop:=∃g t n:Nat,g<=40000/\t<=40000/\n<=1073741824/\Dg g t n x
theorem Dg.dq{g t n:Nat}{x:Rat}(h:Dg g t n x)(hg:g<=40000)(ht:t<=40000)(hn:n<=1073741824):Dq x:=⟨g,t,n,hg,ht,hn,h⟩
theorem Dq.parts{x:Rat}(h:Dq x):x=((mQ x:Int):Rat)*tw (eQ x)/\D0 (mQ x).natAbs<10000/\-50000<=eQ x/\eQ x<=50000/\mD (mQ x)=mQ x:=by
 obtain⟨g,t,n,hg,ht,hn,⟨v,e,hv⟩⟩:=h;obtain⟨h1,h2⟩:=UL e
 have b1:v.natAbs<=2^(t+30):=by refine AP hv ?_;rw[A5,A0];exact yI _ hn
 have b2:v.natAbs<2^(t+31):=AK b1 (Nat.pow_lt_pow_right (by decide) (by omega));refine⟨?_,?_,?_⟩
 ·rw[h1,h2,Afd]; exact e
 ·rw[h1];have l1:=QC v;have l2:D0 (mD v).natAbs<=(t+31) / 32+1:=Ja (AU (AK l1 b2) (Aq (by decide) (by omega)));omega
 ·rw[h1,h2];by_cases h0:v=0
  ·rw[show eD v (-(g:Int))=0 by unfold eD; rw[Az h0],KH.2 h0];exact⟨by decide,by decide,KH.2 rfl⟩
  ·have e2:eD v (-(g:Int))=-(g:Int)+N6 v.natAbs:=by unfold eD; rw[Ay h0]
   have l:=AdK (n:=v.natAbs) (by omega);have l2:=(AZ (n:=v.natAbs) (by omega)).2 b2;refine⟨by omega,by omega,?_⟩;have:=UL (x:=((mD v:Int):Rat)*tw (eD v (-(g:Int)))) rfl;rw[Afd,<- e,h1] at this;exact this.1.symm
theorem Dq.Rg{x:Rat}(h:Dq x):Rg (BB (mQ x)) (Bk (mQ x))=wc:=Zq (by have:=h.parts.2.1; omega)
theorem Dq.HD{x:Rat}(h:Dq x):HD (BB (mQ x)) (Bk (mQ x))=wc:=Gq (by have:=h.parts.2.1; omega)
theorem Dq.okM{x:Rat}(h:Dq x):okM (BB (mQ x)) (Bk (mQ x))=wc:=Bv.2 ⟨by unfold Bk; rw[FG]; have:=h.parts.2.1; omega,T8 _⟩
theorem Dq.Ms{x:Rat}(h:Dq x):Ms (eQ x)=wc:=Bv.2 (by have:=h.parts.2.2; omega)
def vQ(n:Bool)(a:Bf)(e:Int):Rat:=((wv n a:Int):Rat)*tw e
def Ud(n:Bool)(a:Bf)(e:Int):Bool:=Ci (∃x,Dq x/\n=BB (mQ x)/\a=Bk (mQ x)/\e=eQ x)
theorem Wy{x:Rat}(h:Dq x):Ud (BB (mQ x)) (Bk (mQ x)) (eQ x)=wc:=Bv.2 ⟨x,h,rfl,rfl,rfl⟩
theorem Ld{x:Rat}(h:Dq x):vQ (BB (mQ x)) (Bk (mQ x)) (eQ x)=x:=by unfold vQ;rw[EB]; exact h.parts.1.symm
theorem JK{n:Bool}{a:Bf}{e:Int}(h:Ud n a e=wc):∃x,Dq x/\n=BB (mQ x)/\a=Bk (mQ x)/\e=eQ x:=Bv.1 h
theorem Vx{v e l:Int}(h:l<=e):((WN v e l:Int):Rat)*tw l=(v:Rat)*tw e:=by
 unfold WN
 have e1:tw e=((2^(e-l).toNat:Nat):Rat)*tw l:=by rw[<- Hl,<- E5]; congr 1; omega
 have e2:(((2^(e-l).toNat:Nat):Int):Rat)=((2^(e-l).toNat:Nat):Rat):=rfl;rw[xp,e2,e1]; grind
theorem AaE{v e l:Int}(h:v≠0->l<=e):((GI v (e-l):Int):Rat)*tw l=(v:Rat)*tw e:=by
 rw[VF h];by_cases h0:v=0
 ·subst h0;rw[Hz];have:((0:Int):Rat)=0:=rfl;rw[this]; grind
 ·exact Vx (h h0)
theorem Agt(v e w f:Int):((Aaq v e w f:Int):Rat)*tw (Dz v e w f)=(v:Rat)*tw e+(w:Rat)*tw f:=by obtain⟨l1,l2⟩:=Afe (v:=v) (e:=e) (w:=w) (f:=f);unfold Aaq;have h1:=AaE l1;have h2:=AaE l2;rw[wP,<- h1,<- h2]; grind
theorem Al9(v e w f:Int):K6 v e w f=mQ ((v:Rat)*tw e+(w:Rat)*tw f)/\Y6 v e w f=eQ ((v:Rat)*tw e+(w:Rat)*tw f):=by obtain⟨h1,h2⟩:=UL (Agt v e w f).symm;exact⟨h1.symm,h2.symm⟩
theorem Ajk(v e:Int):mD v=mQ ((v:Rat)*tw e)/\eD v e=eQ ((v:Rat)*tw e):=by obtain⟨h1,h2⟩:=UL (x:=(v:Rat)*tw e) rfl;exact⟨h1.symm,h2.symm⟩
theorem AmK(v e w f:Int):mD (v*w)=mQ ((v:Rat)*tw e*((w:Rat)*tw f))/\eD (v*w) (e+f)=eQ ((v:Rat)*tw e*((w:Rat)*tw f)):=by
 have h:(v:Rat)*tw e*((w:Rat)*tw f)=((v*w:Int):Rat)*tw (e+f):=by rw[xp,E5]; grind
 obtain⟨h1,h2⟩:=UL h;exact⟨h1.symm,h2.symm⟩
def Aab(x y:Rat):Int:=if x<y then -1 else if y<x then 1 else 0
theorem AmR{x y:Rat}(hx:Dq x)(hy:Dq y):R4 (mQ x) (eQ x) (mQ y) (eQ y)=Aab x y:=by
 obtain⟨x1,_,x3,_⟩:=hx.parts;obtain⟨y1,_,y3,_⟩:=hy.parts;have h:=AhU (v:=mQ x) (e:=eQ x) (w:=mQ y) (f:=eQ y) (g:=-50000) (fun _=>x3) (fun _=>y3);have e1:=Vx (v:=mQ x) x3;have e2:=Vx (v:=mQ y) y3;rw[<- x1] at e1;rw[<- y1] at e2
 have key:∀a b:Int,a<b↔(a:Rat)*tw (-50000)<(b:Rat)*tw (-50000):=fun a b=>by
  have p:=En (-50000);constructor
  ·intro h;exact Rat.mul_lt_mul_of_pos_right (Rat.intCast_lt_intCast.2 h) p
  ·intro h;rcases Int.lt_or_le a b with k | k
   ·exact k
   ·have:=zc (Rat.intCast_le_intCast.2 k) (za p);grind
 rw[h];unfold R3 Aab;have k1:=key (WN (mQ x) (eQ x) (-50000)) (WN (mQ y) (eQ y) (-50000));have k2:=key (WN (mQ y) (eQ y) (-50000)) (WN (mQ x) (eQ x) (-50000));rw[e1,e2] at k1 k2;simp only[k1,k2]
theorem AhX(x y:Rat):Aab x y<=0↔x<=y:=by
 unfold Aab;split
 ·rename_i h;exact⟨fun _=>za h,fun _=>by decide⟩
 ·split
  ·rename_i h;exact⟨fun k=>absurd k (by decide),fun k=>by grind⟩
  ·exact⟨fun _=>by grind,fun _=>by decide⟩
def Ds(x:Rat):Prop:=∃g t n:Nat,g<=15000/\t<=15000/\n<=536870912/\Dg g t n x
def dsB(n:Bool)(a:Bf)(e:Int):Bool:=Ci (∃x,Ds x/\n=BB (mQ x)/\a=Bk (mQ x)/\e=eQ x)
noncomputable abbrev E4 (x:Rat):Rat:=vQ (BB (mQ x)) (Bk (mQ x)) (eQ x)
noncomputable abbrev Qi (x:Rat):Bool:=Ud (BB (mQ x)) (Bk (mQ x)) (eQ x)
noncomputable abbrev dSo (x:Rat):Bool:=dsB (BB (mQ x)) (Bk (mQ x)) (eQ x)
def I8(x:Int):Rat:=vR x.toNat
def Jt:Nat->(Nat->Rat)->Rat
 | 0,_=>0
 | n+1,f=>Jt n f+f n
def sqL(x:Bf):Rat:=Jt x.length fun i=>I8 (x.getD i 0)*I8 (x.getD i 0)
def I7(x y:Bf):Rat:=Jt x.length fun i=>I8 (x.getD i 0)*I8 (y.getD i 0)
def dyR(x:Rat):List DV:=[.bool (BB (mQ x)),.Bj .arg .u32 (Bk (mQ x)),.int .i64 (eQ x)]
def Alk(y:List (List DV))(n:Nat):Bool:=Ci (n<=64/\y.length=n/\∀r∈y,∃x,Dg 2148 4300 100 x/\r=dyR x)
def XV(a b:Int):Bool:=decide (Gk a b<0)
def Dl(R n:Nat)(l:Bf)(p:Nat):Bf:=BQ (n:Int) l (p:Int) 0 R
def M5(x y:Bf)(low:Int):Bool:=(!(XV low (Cb x))||!(XV low (Cb y)))||!(XV (BV (Cx (Cb x) (Cb y)) (-44)) (K3 (EU x y)))
def Ol(x y:Bf):Int:=EV (DW (EU y y) (EU x x)) (DD (EU x y) (EU x y))
def Sl(z:Int):Int:=EV SM (DD (K3 z) (DG (DD SM (Cx z z))))
def K9(z:Int):Int:=if DN z=wc then Cy (Sl z) else Sl z
def EC(t:Int):Int:=EV SM (DG (DD SM (Cx t t)))
def Eb(t:Int):Int:=Cx (EC t) t
def trC(x y:Bf)(low:Int):Int:=if M5 x y low=wc then 0 else EC (K9 (Ol x y))
def trS(x y:Bf)(low:Int):Int:=if M5 x y low=wc then 0 else Eb (K9 (Ol x y))
def Lk(R n:Nat)(l:Bf)(i k:Nat)(c s:Int):Bf:=Dj R n fun a b =>
 if a=i then DD (Cx c (Dy (n:Int) l (i:Int) (b:Int))) (Cx s (Dy (n:Int) l (k:Int) (b:Int)))
 else if a=k then DW (Cx c (Dy (n:Int) l (k:Int) (b:Int))) (Cx s (Dy (n:Int) l (i:Int) (b:Int))) else Dy (n:Int) l (a:Int) (b:Int)
def GX(R n:Nat)(l:Bf)(i k:Nat)(c s:Int):Bf:=Dj R n fun a b =>
 if b=i then DD (Cx c (Dy (n:Int) l (a:Int) (i:Int))) (Cx s (Dy (n:Int) l (a:Int) (k:Int)))
 else if b=k then DW (Cx c (Dy (n:Int) l (a:Int) (k:Int))) (Cx s (Dy (n:Int) l (a:Int) (i:Int))) else Dy (n:Int) l (a:Int) (b:Int)
def Jd(be:Bf->Bf->Int->Bool)(R n:Nat)(low:Int)(p q:Nat)(s:Bf × Bf × Bool):Bf × Bf × Bool:=
 if be (Dl R n s.1 p) (Dl R n s.1 q) low=wc then s
 else (GX R n s.1 p q (EC (K9 (Ol (Dl R n s.1 p) (Dl R n s.1 q)))) (Cy (Eb (K9 (Ol (Dl R n s.1 p) (Dl R n s.1 q))))),
  GX n n s.2.1 p q (EC (K9 (Ol (Dl R n s.1 p) (Dl R n s.1 q)))) (Cy (Eb (K9 (Ol (Dl R n s.1 p) (Dl R n s.1 q))))),wh)
def K2(be:Bf->Bf->Int->Bool)(R n:Nat)(low:Int)(p:Nat):Nat->Nat->Bf × Bf × Bool->Bf × Bf × Bool
 | 0,_,s=>s
 | d+1,q,s=>K2 be R n low p d (q+1) (Jd be R n low p q s)
def Im(be:Bf->Bf->Int->Bool)(R n:Nat)(low:Int):Nat->Nat->Bf × Bf × Bool->Bf × Bf × Bool
 | 0,_,s=>s
 | d+1,p,s=>Im be R n low d (p+1) (K2 be R n low p (n-(p+1)) (p+1) s)
def Gp(R n:Nat)(low:Int)(w v:Bf):Bf × Bf × Bool:=Im M5 R n low n 0 (w,v,wc)
def DC(R n:Nat)(low:Int):Nat->Bf->Bf->Bf × Bf × Int
 | 0,w,v=>(w,v,6)
 | m+1,w,v=>if (Gp R n low w v).2.2=wc then ((Gp R n low w v).1,(Gp R n low w v).2.1,0) else DC R n low m (Gp R n low w v).1 (Gp R n low w v).2.1
def CS(R n:Nat)(l:Bf):Bf:=(zg n).map fun c=>Cb (Dl R n l c)
def Nh(key:Int->Int)(x:Int):Bf->Bf
 | []=>[x]
 | y::t=>if Gk (key y) (key x)<0 then y::Nh key x t else x::y::t
def Om(key:Int->Int)(l:Bf):Bf:=l.foldl (fun acc x=>Nh key x acc) []
def Nf(l:Bf)(i:Int):Int:=l.getD i.toNat 0
def JD(n:Nat):Bf:=(zg n).map fun i:Nat=>(i:Int)
def Ey(l x:Bf):Bf:=(Om (Nf l) x).reverse
def Aep(l:Bf)(n:Nat):Bf:=Ey l (JD n)
def HO(n:Nat)(x:Bf):Bool:=x.all fun i=>decide (0<=i/\i<(n:Int))
def Dp(R n:Nat)(l ps:Bf):Bf:=Dj R n fun i k=>Dy (n:Int) l (i:Int) (ps.getD k 0)
def Dc(l:Bf):Int:=BO (BI l)
def Dt(R n:Nat)(l:Bf):Bf × Bf × Int:=DC R n (BV (Cb (B5 l (-(Dc l)))) (-44)) 60 (B5 l (-(Dc l))) (Fi n)
def K0(R n:Nat)(l:Bf):Bf:=Aep (CS R n (Dt R n l).1) n
def FY(R n:Nat)(l:Bf):Bf:=B5 (Dp R n (Dt R n l).1 (K0 R n l)) (Dc l)
def F7(R n:Nat)(l:Bf):Bf:=Dp n n (Dt R n l).2.1 (K0 R n l)
def G7(r c:Int)(l:Bf):Int :=if BT r c l≠0 then BT r c l else if (Dt r.toNat c.toNat l).2.2≠0 then 6 else if (Dx (FY r.toNat c.toNat l)&&Dx (F7 r.toNat c.toNat l))=wc then 0 else 2
def Gz(r c:Int)(l:Bf):MX:=if G7 r c l≠0 then Jw (G7 r c l) else (r,c,FY r.toNat c.toNat l,0)
def HS(r c:Int)(l:Bf):MX:=if G7 r c l≠0 then Jw (G7 r c l) else (c,c,F7 r.toNat c.toNat l,0)
def Od(r c:Int)(l:Bf):Bf:=if G7 r c l≠0 then [] else CS r.toNat c.toNat (FY r.toNat c.toNat l)
def Yy(r c:Int)(l:Bf)(p q:Int)(m:Bf):Int:=if BT r c l≠0 then BT r c l else BT p q m
def ZP(b:Int):Bool:=!(decide (Gk (BV 4607182418800017408 (-40)) b<0))
def Rz(l:Bf):Int:=(l.countP ZP:Nat)
def Wn(r c:Int)(l:Bf)(p q:Int)(m:Bf):Int :=if Yy r c l p q m≠0 then Yy r c l p q m else if c≠q\/c<1\/r+p<c\/6<r+p then 3 else 0
def gsQ(r c:Int)(l:Bf)(p:Int)(m:Bf):MX:=TR (r+p) c (l++m)
def GD(r c:Int)(l:Bf)(p:Int)(m:Bf):MX:=KT (gsQ r c l p m) 0 0 r c
def gsL(r c:Int)(l:Bf)(p:Int)(m:Bf):MX:=KT (gsQ r c l p m) r 0 p c
def gsV(r c:Int)(l:Bf)(p:Int)(m:Bf):MX:=HS (GD r c l p m).1 (GD r c l p m).2.1 (GD r c l p m).2.2.1
def WO(r c:Int)(l:Bf)(p:Int)(m:Bf):MX:=mulM (gsL r c l p m) (gsV r c l p m)
def CX(r c:Int)(l:Bf)(p q:Int)(m:Bf):Int:=
 if Wn r c l p q m≠0 then Wn r c l p q m else if EY (r+p) c (l++m)≠0 then 2
 else if G7 (GD r c l p m).1 (GD r c l p m).2.1 (GD r c l p m).2.2.1≠0 then G7 (GD r c l p m).1 (GD r c l p m).2.1 (GD r c l p m).2.2.1
 else if Dx (WO r c l p m).2.2.1=wc then 0 else 2
def gsO(e:Int)(x:MX):MX:=if e≠0 then Jw e else x
def ZK(e:Int)(x:Bf):Bf:=if e≠0 then [] else x
def Hd(r c:Int)(l:Bf)(p q:Int)(m:Bf):MX:=gsO (CX r c l p q m) (Gz (GD r c l p m).1 (GD r c l p m).2.1 (GD r c l p m).2.2.1)
def Hf(r c:Int)(l:Bf)(p q:Int)(m:Bf):MX:=gsO (CX r c l p q m) (WO r c l p m)
def He(r c:Int)(l:Bf)(p q:Int)(m:Bf):MX:=gsO (CX r c l p q m) (gsV r c l p m)
def Hg(r c:Int)(l:Bf)(p q:Int)(m:Bf):MX:=gsO (CX r c l p q m) (Pf (r+p) c (l++m))
def Fq(r c:Int)(l:Bf)(p q:Int)(m:Bf):Bf:=ZK (CX r c l p q m) (Od (GD r c l p m).1 (GD r c l p m).2.1 (GD r c l p m).2.2.1)
def Iu(r c:Int)(l:Bf)(p q:Int)(m:Bf):Bf:=ZK (CX r c l p q m) (CS p.toNat c.toNat (WO r c l p m).2.2.1)
def Aak(r c:Int)(l:Bf)(p q:Int)(m:Bf):Bool:=(BD r c l&&G1 l 100)&&(BD p q m&&G1 m 100)
def Nu(r c:Int)(l:Bf)(p q:Int)(m:Bf):Bool:=Aak r c l p q m&&decide (CX r c l p q m=0)
def Hn(r c:Int)(l:Bf)(p q:Int)(m:Bf)(x:MX):MX:=if Nu r c l p q m=wc then x else Jw 0
def WB(r c:Int)(l:Bf)(p q:Int)(m:Bf)(x:Bf):Bf:=if Nu r c l p q m=wc then x else []
def AcU(a1 b1:Int)(l1:Bf)(a2 b2:Int)(l2:Bf)(a3 b3:Int)(l3:Bf)(a4 b4:Int)(l4 x y:Bf)(r c p:Int):Bool:=
 ((decide (BT a1 b1 l1=0/\a1=r/\b1=c)&&decide (BT a2 b2 l2=0/\a2=p/\b2=c))&&(decide (BT a3 b3 l3=0/\a3=c/\b3=c)&&decide (BT a4 b4 l4=0/\a4=c/\b4=c))) &&
 ((decide ((x.length:Int)=c)&&decide ((y.length:Int)=c))&&(Dx x&&Dx y))
def AcT(r c p:Int)(w u v t:MX)(x y:Bf):Bool:=AcU w.1 w.2.1 w.2.2.1 u.1 u.2.1 u.2.2.1 v.1 v.2.1 v.2.2.1 t.1 t.2.1 t.2.2.1 x y r c p
def Pa(r c:Int)(l:Bf)(p q:Int)(m:Bf):Bool:=
 if Aak r c l p q m=wc then (if CX r c l p q m=0 then AcT r c p (Hd r c l p q m) (Hf r c l p q m) (He r c l p q m) (Hg r c l p q m) (Fq r c l p q m) (Iu r c l p q m)
  else decide (CX r c l p q m=3\/CX r c l p q m=6)) else wc
def Ia(r c:Nat)(l:Bf)(i k:Nat):Rat:=Jt r fun j=>I8 (Dy (c:Int) l (j:Int) (i:Int))*I8 (Dy (c:Int) l (j:Int) (k:Int))
def SL(r c:Nat)(l:Bf)(i k:Nat):Rat:=Ia r c l i k-(if i=k then 1 else 0)
def orQ(r c:Nat)(l:Bf):Rat:=Jt c fun i=>Jt c fun k=>SL r c l i k*SL r c l i k
end Go.Cn
namespace Go.Proofs.S1
open Go Go.Den Go.Cn
abbrev PB:=List Fk->Bool
abbrev PD:=List Fk->DV
abbrev TS:=List AT
def soft.Split.pre:PB
 | [.i x]=>Br x
 | _=>wh
def soft.Split.out:PD
 | [.i x]=>.agg [.bool (DN x),.int .i64 (JC x),.int .u64 (Db x)]
 | _=>.undef
abbrev soft.Split.ts:TS:=[.i .u64]
def soft.Split.Bu:=BP soft.Split.ts soft.Split.pre soft.Split.out
def soft.Kind.pre:PB
 | [.i x]=>Br x
 | _=>wh
def soft.Kind.out:PD
 | [.i x]=>.int .i64 (BF x)
 | _=>.undef
abbrev soft.Kind.ts:TS:=[.i .u64]
def soft.Kind.Bu:=BP soft.Kind.ts soft.Kind.pre soft.Kind.out
def soft.Sign.pre:PB
 | [.i x]=>Br x
 | _=>wh
def soft.Sign.out:PD
 | [.i x]=>.bool (DN x)
 | _=>.undef
abbrev soft.Sign.ts:TS:=[.i .u64]
def soft.Sign.Bu:=BP soft.Sign.ts soft.Sign.pre soft.Sign.out
def soft.Finite.pre:PB
 | [.i x]=>Br x
 | _=>wh
def soft.Finite.out:PD
 | [.i x]=>.bool (Du x)
 | _=>.undef
abbrev soft.Finite.ts:TS:=[.i .u64]
def soft.Finite.Bu:=BP soft.Finite.ts soft.Finite.pre soft.Finite.out
def soft.EK.pre:PB
 | [.i x]=>Br x
 | _=>wh
def soft.EK.out:PD
 | [.i x]=>.int .u64 (Cy x)
 | _=>.undef
abbrev soft.EK.ts:TS:=[.i .u64]
def soft.EK.Bu:=BP soft.EK.ts soft.EK.pre soft.EK.out
def soft.EX.pre:PB
 | [.i x]=>Br x
 | _=>wh
def soft.EX.out:PD
 | [.i x]=>.CJ [.int .u64 (Cf x),.int .i64 (BR x)]
 | _=>.undef
abbrev soft.EX.ts:TS:=[.i .u64]
def soft.EX.Bu:=BP soft.EX.ts soft.EX.pre soft.EX.out
def soft.Pack.mu:List Fk->Nat
 | [.b _n,.i m,.i e]=>LH m e
 | _=>0
def soft.Pack.pre:PB
 | [.b _n,.i m,.i e]=>IY m e
 | _=>wh
def soft.Pack.out:PD
 | [.b n,.i m,.i e]=>.int .u64 (Py n m e)
 | _=>.undef
abbrev soft.Pack.ts:TS:=[.b,.i .u64,.i .i64]
def soft.Pack.Bu:=BP soft.Pack.ts soft.Pack.pre soft.Pack.out
def soft.DA.pre:PB
 | [.b _n,.i m,.i e,.b r]=>El m e r
 | _=>wh
def soft.DA.out:PD
 | [.b n,.i m,.i e,.b r]=>.CJ [.int .u64 (E9 n m e r),.int .u8 (E8 n m e r)]
 | _=>.undef
abbrev soft.DA.ts:TS:=[.b,.i .u64,.i .i64,.b]
def soft.DA.Bu:=BP soft.DA.ts soft.DA.pre soft.DA.out
def sum.right.pre:PB
 | [.i m,.i d]=>Br m&&Ci (0<=d/\d<1000000)
 | _=>wh
def sum.right.out:PD
 | [.i m,.i d]=>.int .u64 (EM m d)
 | _=>.undef
abbrev sum.right.ts:TS:=[.i .u64,.i .i64]
def sum.right.Bu:=BP sum.right.ts sum.right.pre sum.right.out
def sum.FU.pre:PB
 | [.i a,.i b]=>(Br a&&Br b)&&(!(Du a)||!(Du b))
 | _=>wh
def sum.FU.out:PD
 | [.i a,.i b]=>.CJ [.int .u64 (DD a b),.int .u8 (Ru a b)]
 | _=>.undef
abbrev sum.FU.ts:TS:=[.i .u64,.i .u64]
def sum.FU.Bu:=BP sum.FU.ts sum.FU.pre sum.FU.out
def sum.Add.pre:PB
 | [.i a,.i b]=>Br a&&Br b
 | _=>wh
def sum.Add.out:PD
 | [.i a,.i b]=>.CJ [.int .u64 (DD a b),.int .u8 (Ru a b)]
 | _=>.undef
abbrev sum.Add.ts:TS:=[.i .u64,.i .u64]
def sum.Add.Bu:=BP sum.Add.ts sum.Add.pre sum.Add.out
def sum.Sub.pre:PB
 | [.i a,.i b]=>Br a&&Br b
 | _=>wh
def sum.Sub.out:PD
 | [.i a,.i b]=>.CJ [.int .u64 (DW a b),.int .u8 (Alf a b)]
 | _=>.undef
abbrev sum.Sub.ts:TS:=[.i .u64,.i .u64]
def sum.Sub.Bu:=BP sum.Sub.ts sum.Sub.pre sum.Sub.out
def Cc.Neg.pre:PB
 | [.i x]=>Br x
 | _=>wh
def Cc.Neg.out:PD
 | [.i x]=>.bool (DN x)
 | _=>.undef
abbrev Cc.Neg.ts:TS:=[.i .u64]
def Cc.Neg.Bu:=BP Cc.Neg.ts Cc.Neg.pre Cc.Neg.out
def Cc.Power.pre:PB
 | [.i x]=>MW x
 | _=>wh
def Cc.Power.out:PD
 | [.i x]=>.int .i64 (JC x)
 | _=>.undef
abbrev Cc.Power.ts:TS:=[.i .u64]
def Cc.Power.Bu:=BP Cc.Power.ts Cc.Power.pre Cc.Power.out
def Cc.Mz.pre:PB
 | [.i x]=>MW x
 | _=>wh
def Cc.Mz.out:PD
 | [.i x]=>.int .u64 (Db x)
 | _=>.undef
abbrev Cc.Mz.ts:TS:=[.i .u64]
def Cc.Mz.Bu:=BP Cc.Mz.ts Cc.Mz.pre Cc.Mz.out
def Cc.Kind.pre:PB
 | [.i x]=>MW x
 | _=>wh
def Cc.Kind.out:PD
 | [.i x]=>.int .i64 (BF x)
 | _=>.undef
abbrev Cc.Kind.ts:TS:=[.i .u64]
def Cc.Kind.Bu:=BP Cc.Kind.ts Cc.Kind.pre Cc.Kind.out
def Cc.Finite.pre:PB
 | [.i x]=>Br x
 | _=>wh
def Cc.Finite.out:PD
 | [.i x]=>.bool (Du x)
 | _=>.undef
abbrev Cc.Finite.ts:TS:=[.i .u64]
def Cc.Finite.Bu:=BP Cc.Finite.ts Cc.Finite.pre Cc.Finite.out
def D8.CV.pre:PB
 | [.i x]=>Br x
 | _=>wh
def D8.CV.out:PD
 | [.i x]=>.int .i64 (64-EA x)
 | _=>.undef
abbrev D8.CV.ts:TS:=[.i .u64]
def D8.CV.Bu:=BP D8.CV.ts D8.CV.pre D8.CV.out
def D8.J3.pre:PB
 | [.i x,.i y]=>Br x&&Br y
 | _=>wh
def D8.J3.out:PD
 | [.i x,.i y]=>.CJ [.int .u64 (Ou x y),.int .u64 (KG x y)]
 | _=>.undef
abbrev D8.J3.ts:TS:=[.i .u64,.i .u64]
def D8.J3.Bu:=BP D8.J3.ts D8.J3.pre D8.J3.out
def times.signed.pre:PB
 | [.i b,.b _n]=>Br b
 | _=>wh
def times.signed.out:PD
 | [.i b,.b n]=>.int .u64 (Oo n b)
 | _=>.undef
abbrev times.signed.ts:TS:=[.i .u64,.b]
def times.signed.Bu:=BP times.signed.ts times.signed.pre times.signed.out
def times.nan.pre:PB
 | [.i a,.i b]=>Br a&&Br b
 | _=>wh
def times.nan.out:PD
 | [.i a,.i b]=>.bool (AeW a b)
 | _=>.undef
abbrev times.nan.ts:TS:=[.i .u64,.i .u64]
def times.nan.Bu:=BP times.nan.ts times.nan.pre times.nan.out
def times.norm.pre:PB
 | [.i b]=>Br b&&JG b
 | _=>wh
def times.norm.out:PD
 | [.i b]=>.CJ [.int .u64 (Di b),.int .i64 (Gn b)]
 | _=>.undef
abbrev times.norm.ts:TS:=[.i .u64]
def times.norm.Bu:=BP times.norm.ts times.norm.pre times.norm.out
def times.wide.pre:PB
 | [.b _n,.i m,.i e,.b _r]=>L9 m e
 | _=>wh
def times.wide.out:PD
 | [.b n,.i m,.i e,.b r]=>.CJ [.int .u64 (E9 n m e r),.int .u8 (E8 n m e r)]
 | _=>.undef
abbrev times.wide.ts:TS:=[.b,.i .u64,.i .i64,.b]
def times.wide.Bu:=BP times.wide.ts times.wide.pre times.wide.out
def times.Mul.pre:PB
 | [.i a,.i b]=>Br a&&Br b
 | _=>wh
def times.Mul.out:PD
 | [.i a,.i b]=>.CJ [.int .u64 (Cx a b),.int .u8 (Alp a b)]
 | _=>.undef
abbrev times.Mul.ts:TS:=[.i .u64,.i .u64]
def times.Mul.Bu:=BP times.Mul.ts times.Mul.pre times.Mul.out
def times.Div.pre:PB
 | [.i a,.i b]=>Br a&&Br b
 | _=>wh
def times.Div.out:PD
 | [.i a,.i b]=>.CJ [.int .u64 (EV a b),.int .u8 (Al0 a b)]
 | _=>.undef
abbrev times.Div.ts:TS:=[.i .u64,.i .u64]
def times.Div.Bu:=BP times.Div.ts times.Div.pre times.Div.out
def Bs.Add.pre:PB
 | [.i a,.i b]=>Br a&&Br b
 | _=>wh
def Bs.Add.out:PD
 | [.i a,.i b]=>.int .u64 (DD a b)
 | _=>.undef
abbrev Bs.Add.ts:TS:=[.i .u64,.i .u64]
def Bs.Add.Bu:=BP Bs.Add.ts Bs.Add.pre Bs.Add.out
def Bs.Sub.pre:PB
 | [.i a,.i b]=>Br a&&Br b
 | _=>wh
def Bs.Sub.out:PD
 | [.i a,.i b]=>.int .u64 (DW a b)
 | _=>.undef
abbrev Bs.Sub.ts:TS:=[.i .u64,.i .u64]
def Bs.Sub.Bu:=BP Bs.Sub.ts Bs.Sub.pre Bs.Sub.out
def Bs.Mul.pre:PB
 | [.i a,.i b]=>Br a&&Br b
 | _=>wh
def Bs.Mul.out:PD
 | [.i a,.i b]=>.int .u64 (Cx a b)
 | _=>.undef
abbrev Bs.Mul.ts:TS:=[.i .u64,.i .u64]
def Bs.Mul.Bu:=BP Bs.Mul.ts Bs.Mul.pre Bs.Mul.out
def Bs.fit.pre:PB
 | [.l _x,.l _y]=>wc
 | _=>wh
def Bs.fit.out:PD
 | [.l x,.l y]=>.bool (Nl x y)
 | _=>.undef
abbrev Bs.fit.ts:TS:=[.s .u64,.s .u64]
def Bs.fit.Bu:=BP Bs.fit.ts Bs.fit.pre Bs.fit.out
def Bs.GY.pre:PB
 | [.l x,.l y]=>(Nl x y&&Bq x)&&Bq y
 | _=>wh
def Bs.GY.out:PD
 | [.l x,.l y]=>.CJ [.int .u64 (EU x y),.int .i64 (0:Int)]
 | _=>.undef
abbrev Bs.GY.ts:TS:=[.s .u64,.s .u64]
def Bs.GY.Bu:=BP Bs.GY.ts Bs.GY.pre Bs.GY.out
def Bg.size.pre:PB
 | [.i _n]=>wc
 | _=>wh
def Bg.size.out:PD
 | [.i n]=>.bool (CN n)
 | _=>.undef
abbrev Bg.size.ts:TS:=[.i .i64]
def Bg.size.Bu:=BP Bg.size.ts Bg.size.pre Bg.size.out
def Bg.Check.pre:PB
 | [.i _r,.i _c,.l _l]=>wc
 | _=>wh
def Bg.Check.out:PD
 | [.i r,.i c,.l l]=>.int .i64 (Iy r c l)
 | _=>.undef
abbrev Bg.Check.ts:TS:=[.st [.i .i64,.i .i64,.s .u64]]
def Bg.Check.Bu:=BP Bg.Check.ts Bg.Check.pre Bg.Check.out
def Bg.get.pre:PB
 | [.i r,.i c,.l l,.i i,.i k]=>Gi r c l i k
 | _=>wh
def Bg.get.out:PD
 | [.i _r,.i c,.l l,.i i,.i k]=>.int .u64 (Dy c l i k)
 | _=>.undef
abbrev Bg.get.ts:TS:=[.st [.i .i64,.i .i64,.s .u64],.i .i64,.i .i64]
def Bg.get.Bu:=BP Bg.get.ts Bg.get.pre Bg.get.out
def Bg.two.pre:PB
 | [.i _r,.i _c,.l _l,.i _p,.i _q,.l _m]=>wc
 | _=>wh
def Bg.two.out:PD
 | [.i r,.i c,.l l,.i p,.i q,.l m]=>.int .i64 (Sk r c l p q m)
 | _=>.undef
abbrev Bg.two.ts:TS:=[.st [.i .i64,.i .i64,.s .u64],.st [.i .i64,.i .i64,.s .u64]]
def Bg.two.Bu:=BP Bg.two.ts Bg.two.pre Bg.two.out
def Bg.Row.pre:PB
 | [.i r,.i c,.l l,.i i,.i f]=>VL r c l i&&decide (f=0)
 | _=>wh
def Bg.Row.out:PD
 | [.i _r,.i c,.l l,.i i,.i _f]=>.Bj .BE .u64 (JB c l i)
 | _=>.undef
abbrev Bg.Row.ts:TS:=[.st [.i .i64,.i .i64,.s .u64],.i .i64,.i .i64]
def Bg.Row.Bu:=BP Bg.Row.ts Bg.Row.pre Bg.Row.out
def Bg.DU.pre:PB
 | [.i r,.i c,.l l,.i k,.i f]=>EG r c l k&&Ci (0<=f/\f<=r)
 | _=>wh
def Bg.DU.out:PD
 | [.i r,.i c,.l l,.i k,.i f]=>.Bj .BE .u64 (BQ c l k f (wi (r-f)))
 | _=>.undef
abbrev Bg.DU.ts:TS:=[.st [.i .i64,.i .i64,.s .u64],.i .i64,.i .i64]
def Bg.DU.Bu:=BP Bg.DU.ts Bg.DU.pre Bg.DU.out
def Bg.J4.pre:PB
 | [.i _i,.i _k]=>wc
 | _=>wh
def Bg.J4.out:PD
 | [.i i,.i k]=>.int .u64 (LS i k)
 | _=>.undef
abbrev Bg.J4.ts:TS:=[.i .i64,.i .i64]
def Bg.J4.Bu:=BP Bg.J4.ts Bg.J4.pre Bg.J4.out
def Bg.Hq.pre:PB
 | [.i i,.i k,.i r,.i c,.l l]=>Gi r c l k i
 | _=>wh
def Bg.Hq.out:PD
 | [.i i,.i k,.i _r,.i c,.l l]=>.int .u64 (Dy c l k i)
 | _=>.undef
abbrev Bg.Hq.ts:TS:=[.i .i64,.i .i64,.cp [.i .i64,.i .i64,.s .u64]]
def Bg.Hq.Bu:=BP Bg.Hq.ts Bg.Hq.pre Bg.Hq.out
def Bg.Hr.pre:PB
 | [.i i,.i k,.i r,.i c,.l l,.i x,.i y]=>Gi r c l (x+i) (y+k)&&Sw x y i k
 | _=>wh
def Bg.Hr.out:PD
 | [.i i,.i k,.i _r,.i c,.l l,.i x,.i y]=>.int .u64 (Dy c l (x+i) (y+k))
 | _=>.undef
abbrev Bg.Hr.ts:TS:=[.i .i64,.i .i64,.cp [.i .i64,.i .i64,.s .u64],.cp [.i .i64],.cp [.i .i64]]
def Bg.Hr.Bu:=BP Bg.Hr.ts Bg.Hr.pre Bg.Hr.out
def Bg.FW.pre:PB
 | [.i i,.i k,.i r,.i c,.l l,.i p,.i q,.l m]=>Le r c l p q m i k
 | _=>wh
def Bg.FW.out:PD
 | [.i i,.i k,.i r,.i c,.l l,.i _p,.i q,.l m]=>.int .u64 (IE r c l q m i k)
 | _=>.undef
abbrev Bg.FW.ts:TS:=[.i .i64,.i .i64,.cp [.i .i64,.i .i64,.s .u64],.cp [.i .i64,.i .i64,.s .u64]]
def Bg.FW.Bu:=BP Bg.FW.ts Bg.FW.pre Bg.FW.out
def Bg.J2.pre:PB
 | [.i i,.i k,.i r,.i c,.l l,.i p,.i q,.l m]=>Q8 r c l p q m i k
 | _=>wh
def Bg.J2.out:PD
 | [.i i,.i k,.i _r,.i c,.l l,.i p,.i q,.l m]=>.int .u64 (EU (JB c l i) (Mv p q m k))
 | _=>.undef
abbrev Bg.J2.ts:TS:=[.i .i64,.i .i64,.cp [.i .i64,.i .i64,.s .u64],.cp [.i .i64,.i .i64,.s .u64]]
def Bg.J2.Bu:=BP Bg.J2.ts Bg.J2.pre Bg.J2.out
def Bg.of.Ii.pre:PB
 | [.i a,.i b]=>(CN a&&CN b)
 | _=>wh
def Bg.of.Ii.out:PD
 | [.i a,.i b]=>.agg [.int .i64 a,.int .i64 b,.Bj .BE .u64 (Dj (wi a) (wi b) (fun j1 j2=>LS j1 j2))]
 | _=>.undef
abbrev Bg.of.Ii.ts:TS:=[.i .i64,.i .i64,.fn 168 []]
def Bg.of.Ii.Bu:=BP Bg.of.Ii.ts Bg.of.Ii.pre Bg.of.Ii.out
def Bg.of.EH.pre:PB
 | [.i a,.i b,.i r,.i c,.l l]=>(CN a&&CN b)&&BD r c l&&decide (a=c/\b=r)
 | _=>wh
def Bg.of.EH.out:PD
 | [.i a,.i b,.i _r,.i c,.l l]=>.agg [.int .i64 a,.int .i64 b,.Bj .BE .u64 (Dj (wi a) (wi b) (fun j1 j2=>Dy c l j2 j1))]
 | _=>.undef
abbrev Bg.of.EH.ts:TS:=[.i .i64,.i .i64,.fn 232 [.cp [.i .i64,.i .i64,.s .u64]]]
def Bg.of.EH.Bu:=BP Bg.of.EH.ts Bg.of.EH.pre Bg.of.EH.out
def Bg.of.Part.pre:PB
 | [.i a,.i b,.i r,.i c,.l l,.i x,.i y]=>(CN a&&CN b)&&BD r c l&&Kg r c x y a b
 | _=>wh
def Bg.of.Part.out:PD
 | [.i a,.i b,.i _r,.i c,.l l,.i x,.i y]=>.agg [.int .i64 a,.int .i64 b,.Bj .BE .u64 (Dj (wi a) (wi b) (fun j1 j2=>Dy c l (x+j1) (y+j2)))]
 | _=>.undef
abbrev Bg.of.Part.ts:TS:=[.i .i64,.i .i64,.fn 122 [.cp [.i .i64,.i .i64,.s .u64],.cp [.i .i64],.cp [.i .i64]]]
def Bg.of.Part.Bu:=BP Bg.of.Part.ts Bg.of.Part.pre Bg.of.Part.out
def Bg.of.Stack.pre:PB
 | [.i a,.i b,.i r,.i c,.l l,.i p,.i q,.l m]=>(CN a&&CN b)&&(BD r c l&&BD p q m)&&decide (a=r+p/\b=c/\q=c)
 | _=>wh
def Bg.of.Stack.out:PD
 | [.i a,.i b,.i r,.i c,.l l,.i _p,.i q,.l m]=>.agg [.int .i64 a,.int .i64 b,.Bj .BE .u64 (Dj (wi a) (wi b) (fun j1 j2=>IE r c l q m j1 j2))]
 | _=>.undef
abbrev Bg.of.Stack.ts:TS:=[.i .i64,.i .i64,.fn 118 [.cp [.i .i64,.i .i64,.s .u64],.cp [.i .i64,.i .i64,.s .u64]]]
def Bg.of.Stack.Bu:=BP Bg.of.Stack.ts Bg.of.Stack.pre Bg.of.Stack.out
def Bg.of.Mul.pre:PB
 | [.i a,.i b,.i r,.i c,.l l,.i p,.i q,.l m]=>(CN a&&CN b)&&((BD r c l&&BD p q m)&&(Bq l&&Bq m))&&decide (a=r/\b=q/\c=p)
 | _=>wh
def Bg.of.Mul.out:PD
 | [.i a,.i b,.i _r,.i c,.l l,.i p,.i q,.l m]=>.agg [.int .i64 a,.int .i64 b,.Bj .BE .u64 (Dj (wi a) (wi b) (fun j1 j2=>EU (JB c l j1) (Mv p q m j2)))]
 | _=>.undef
abbrev Bg.of.Mul.ts:TS:=[.i .i64,.i .i64,.fn 133 [.cp [.i .i64,.i .i64,.s .u64],.cp [.i .i64,.i .i64,.s .u64]]]
def Bg.of.Mul.Bu:=BP Bg.of.Mul.ts Bg.of.Mul.pre Bg.of.Mul.out
def Bg.Ii.pre:PB
 | [.i _n]=>wc
 | _=>wh
def Bg.Ii.out:PD
 | [.i n]=>.CJ [.agg [.int .i64 ((K4 n).1),.int .i64 ((K4 n).2.1),.Bj .BE .u64 ((K4 n).2.2.1)],.int .i64 ((K4 n).2.2.2)]
 | _=>.undef
abbrev Bg.Ii.ts:TS:=[.i .i64]
def Bg.Ii.Bu:=BP Bg.Ii.ts Bg.Ii.pre Bg.Ii.out
def Bg.EH.pre:PB
 | [.i _r,.i _c,.l _l]=>wc
 | _=>wh
def Bg.EH.out:PD
 | [.i r,.i c,.l l]=>.CJ [.agg [.int .i64 ((Ej r c l).1),.int .i64 ((Ej r c l).2.1),.Bj .BE .u64 ((Ej r c l).2.2.1)],.int .i64 ((Ej r c l).2.2.2)]
 | _=>.undef
abbrev Bg.EH.ts:TS:=[.st [.i .i64,.i .i64,.s .u64]]
def Bg.EH.Bu:=BP Bg.EH.ts Bg.EH.pre Bg.EH.out
def Bg.Part.pre:PB
 | [.i _r,.i _c,.l _l,.i _x,.i _y,.i _a,.i _b]=>wc
 | _=>wh
def Bg.Part.out:PD
 | [.i r,.i c,.l l,.i x,.i y,.i a,.i b]=>.CJ [.agg [.int .i64 ((Ff r c l x y a b).1),.int .i64 ((Ff r c l x y a b).2.1),.Bj .BE .u64 ((Ff r c l x y a b).2.2.1)],.int .i64 ((Ff r c l x y a b).2.2.2)]
 | _=>.undef
abbrev Bg.Part.ts:TS:=[.st [.i .i64,.i .i64,.s .u64],.i .i64,.i .i64,.i .i64,.i .i64]
def Bg.Part.Bu:=BP Bg.Part.ts Bg.Part.pre Bg.Part.out
def Bg.Stack.pre:PB
 | [.i _r,.i _c,.l _l,.i _p,.i _q,.l _m]=>wc
 | _=>wh
def Bg.Stack.out:PD
 | [.i r,.i c,.l l,.i p,.i q,.l m]=>.CJ [.agg [.int .i64 ((ID r c l p q m).1),.int .i64 ((ID r c l p q m).2.1),.Bj .BE .u64 ((ID r c l p q m).2.2.1)],.int .i64 ((ID r c l p q m).2.2.2)]
 | _=>.undef
abbrev Bg.Stack.ts:TS:=[.st [.i .i64,.i .i64,.s .u64],.st [.i .i64,.i .i64,.s .u64]]
def Bg.Stack.Bu:=BP Bg.Stack.ts Bg.Stack.pre Bg.Stack.out
def Bg.Mul.pre:PB
 | [.i _r,.i _c,.l l,.i _p,.i _q,.l m]=>Bq l&&Bq m
 | _=>wh
def Bg.Mul.out:PD
 | [.i r,.i c,.l l,.i p,.i q,.l m]=>.CJ [.agg [.int .i64 ((ON r c l p q m).1),.int .i64 ((ON r c l p q m).2.1),.Bj .BE .u64 ((ON r c l p q m).2.2.1)],.int .i64 ((ON r c l p q m).2.2.2)]
 | _=>.undef
abbrev Bg.Mul.ts:TS:=[.st [.i .i64,.i .i64,.s .u64],.st [.i .i64,.i .i64,.s .u64]]
def Bg.Mul.Bu:=BP Bg.Mul.ts Bg.Mul.pre Bg.Mul.out
def De.IC.pre:PB
 | [.i _r,.i _c,.l _l]=>wc
 | _=>wh
def De.IC.out:PD
 | [.i r,.i c,.l l]=>.bool (BD r c l)
 | _=>.undef
abbrev De.IC.ts:TS:=[.st [.i .i64,.i .i64,.s .u64]]
def De.IC.Bu:=BP De.IC.ts De.IC.pre De.IC.out
def De.At.pre:PB
 | [.i r,.i c,.l l,.i i,.i k]=>Gi r c l i k
 | _=>wh
def De.At.out:PD
 | [.i _r,.i c,.l l,.i i,.i k]=>.int .u64 (Dy c l i k)
 | _=>.undef
abbrev De.At.ts:TS:=[.st [.i .i64,.i .i64,.s .u64],.i .i64,.i .i64]
def De.At.Bu:=BP De.At.ts De.At.pre De.At.out
def De.An3.pre:PB
 | [.i r,.i c,.l l,.i i,.i k,.i _b]=>Gi r c l i k
 | _=>wh
def De.Row.pre:PB
 | [.i r,.i c,.l l,.i i]=>VL r c l i
 | _=>wh
def De.Qj.pre:PB
 | [.i r,.i c,.l l,.i k,.i f]=>EG r c l k&&Ci (0<=f/\f<=r)
 | _=>wh
def De.Qj.out:PD
 | [.i r,.i c,.l l,.i k,.i f]=>.Bj .BE .u64 (BQ c l k f (wi (r-f)))
 | _=>.undef
abbrev De.Qj.ts:TS:=[.st [.i .i64,.i .i64,.s .u64],.i .i64,.i .i64]
def De.Qj.Bu:=BP De.Qj.ts De.Qj.pre De.Qj.out
def Bo.Kl.pre:PB
 | [.l l,.i _i]=>G9 l
 | _=>wh
def Bo.Kl.out:PD
 | [.l l,.i i]=>.int .u64 (Gb l i)
 | _=>.undef
abbrev Bo.Kl.ts:TS:=[.s .u32,.i .i64]
def Bo.Kl.Bu:=BP Bo.Kl.ts Bo.Kl.pre Bo.Kl.out
def Bo.Made.pre:PB
 | [.b _n,.l l]=>G9 l
 | _=>wh
def Bo.Made.out:PD
 | [.b n,.l l]=>.agg [.bool (BB (wv n l)),.Bj .arg .u32 (Bk (wv n l))]
 | _=>.undef
abbrev Bo.Made.ts:TS:=[.b,.s .u32]
def Bo.Made.Bu:=BP Bo.Made.ts Bo.Made.pre Bo.Made.out
def Bo.Of.pre:PB
 | [.i n]=>Oy n
 | _=>wh
def Bo.Of.out:PD
 | [.i n]=>.agg [.bool (BB (n)),.Bj .arg .u32 (Bk (n))]
 | _=>.undef
abbrev Bo.Of.ts:TS:=[.i .i64]
def Bo.Of.Bu:=BP Bo.Of.ts Bo.Of.pre Bo.Of.out
def Bo.IV.pre:PB
 | [.l a,.l b]=>G9 a&&G9 b
 | _=>wh
def Bo.IV.out:PD
 | [.l a,.l b]=>.int .i64 (QM (C0 a) (C0 b))
 | _=>.undef
abbrev Bo.IV.ts:TS:=[.s .u32,.s .u32]
def Bo.IV.Bu:=BP Bo.IV.ts Bo.IV.pre Bo.IV.out
def Bo.plus.pre:PB
 | [.l a,.l b]=>G9 a&&G9 b
 | _=>wh
def Bo.plus.out:PD
 | [.l a,.l b]=>.Bj .arg .u32 (HV a b)
 | _=>.undef
abbrev Bo.plus.ts:TS:=[.s .u32,.s .u32]
def Bo.plus.Bu:=BP Bo.plus.ts Bo.plus.pre Bo.plus.out
def Bo.minus.pre:PB
 | [.l a,.l b]=>(G9 a&&G9 b)&&leL b a
 | _=>wh
def Bo.minus.out:PD
 | [.l a,.l b]=>.Bj .arg .u32 (GS a b)
 | _=>.undef
abbrev Bo.minus.ts:TS:=[.s .u32,.s .u32]
def Bo.minus.Bu:=BP Bo.minus.ts Bo.minus.pre Bo.minus.out
def Bo.Add.pre:PB
 | [.b n,.l a,.b m,.l b]=>HD n a&&HD m b
 | _=>wh
def Bo.Add.out:PD
 | [.b n,.l a,.b m,.l b]=>.agg [.bool (BB (wv n a+wv m b)),.Bj .arg .u32 (Bk (wv n a+wv m b))]
 | _=>.undef
abbrev Bo.Add.ts:TS:=[.st [.b,.s .u32],.st [.b,.s .u32]]
def Bo.Add.Bu:=BP Bo.Add.ts Bo.Add.pre Bo.Add.out
def Bo.Neg.pre:PB
 | [.b n,.l a]=>HD n a
 | _=>wh
def Bo.Neg.out:PD
 | [.b n,.l a]=>.agg [.bool (BB (- wv n a)),.Bj .arg .u32 (Bk (- wv n a))]
 | _=>.undef
abbrev Bo.Neg.ts:TS:=[.st [.b,.s .u32]]
def Bo.Neg.Bu:=BP Bo.Neg.ts Bo.Neg.pre Bo.Neg.out
def Bo.Hv.pre:PB
 | [.b n,.l a]=>HD n a
 | _=>wh
def Bo.Hv.out:PD
 | [.b n,.l a]=>.agg [.bool (BB (2*wv n a)),.Bj .arg .u32 (Bk (2*wv n a))]
 | _=>.undef
abbrev Bo.Hv.ts:TS:=[.st [.b,.s .u32]]
def Bo.Hv.Bu:=BP Bo.Hv.ts Bo.Hv.pre Bo.Hv.out
def Bo.I6.pre:PB
 | [.b n,.l a]=>HD n a
 | _=>wh
def Bo.I6.out:PD
 | [.b n,.l a]=>.agg [.bool (BB (IB (wv n a) 1)),.Bj .arg .u32 (Bk (IB (wv n a) 1))]
 | _=>.undef
abbrev Bo.I6.ts:TS:=[.st [.b,.s .u32]]
def Bo.I6.Bu:=BP Bo.I6.ts Bo.I6.pre Bo.I6.out
def Bo.CF.pre:PB
 | [.b n,.l a,.i k]=>Rg n a&&Ajl k
 | _=>wh
def Bo.CF.out:PD
 | [.b n,.l a,.i k]=>.agg [.bool (BB (GI (wv n a) k)),.Bj .arg .u32 (Bk (GI (wv n a) k))]
 | _=>.undef
abbrev Bo.CF.ts:TS:=[.st [.b,.s .u32],.i .i64]
def Bo.CF.Bu:=BP Bo.CF.ts Bo.CF.pre Bo.CF.out
def Bo.QS.pre:PB
 | [.b n,.l a]=>HD n a
 | _=>wh
def Bo.QS.out:PD
 | [.b n,.l a]=>.int .i64 (Th (wv n a))
 | _=>.undef
abbrev Bo.QS.ts:TS:=[.st [.b,.s .u32]]
def Bo.QS.Bu:=BP Bo.QS.ts Bo.QS.pre Bo.QS.out
def Bo.Y7.pre:PB
 | [.b n,.l a]=>HD n a
 | _=>wh
def Bo.Y7.out:PD
 | [.b n,.l a]=>.bool (Acv (wv n a))
 | _=>.undef
abbrev Bo.Y7.ts:TS:=[.st [.b,.s .u32]]
def Bo.Y7.Bu:=BP Bo.Y7.ts Bo.Y7.pre Bo.Y7.out
def B0.Of.pre:PB
 | [.b n,.l a,.i e]=>HD n a&&OK e
 | _=>wh
def B0.Of.out:PD
 | [.b n,.l a,.i e]=>.agg [.bool (BB (mD (wv n a))),.Bj .arg .u32 (Bk (mD (wv n a))),.int .i64 (eD (wv n a) e)]
 | _=>.undef
abbrev B0.Of.ts:TS:=[.st [.b,.s .u32],.i .i64]
def B0.Of.Bu:=BP B0.Of.ts B0.Of.pre B0.Of.out
def B0.Neg.pre:PB
 | [.b n,.l a,.i _e]=>HD n a
 | _=>wh
def B0.Neg.out:PD
 | [.b n,.l a,.i e]=>.agg [.bool (BB (- wv n a)),.Bj .arg .u32 (Bk (- wv n a)),.int .i64 e]
 | _=>.undef
abbrev B0.Neg.ts:TS:=[.st [.b,.s .u32,.i .i64]]
def B0.Neg.Bu:=BP B0.Neg.ts B0.Neg.pre B0.Neg.out
def B0.Y8.pre:PB
 | [.b n,.l a,.i _e,.b m,.l b,.i _f]=>HD n a&&HD m b
 | _=>wh
def B0.Y8.out:PD
 | [.b n,.l a,.i e,.b m,.l b,.i f]=>.int .i64 (Dz (wv n a) e (wv m b) f)
 | _=>.undef
abbrev B0.Y8.ts:TS:=[.st [.b,.s .u32,.i .i64],.st [.b,.s .u32,.i .i64]]
def B0.Y8.Bu:=BP B0.Y8.ts B0.Y8.pre B0.Y8.out
def B0.Level.pre:PB
 | [.b n,.l a,.i e,.i f]=>Rg n a&&Acu (wv n a) e f
 | _=>wh
def B0.Level.out:PD
 | [.b n,.l a,.i e,.i f]=>.agg [.bool (BB (GI (wv n a) (e-f))),.Bj .arg .u32 (Bk (GI (wv n a) (e-f)))]
 | _=>.undef
abbrev B0.Level.ts:TS:=[.st [.b,.s .u32,.i .i64],.i .i64]
def B0.Level.Bu:=BP B0.Level.ts B0.Level.pre B0.Level.out
def B0.Add.pre:PB
 | [.b n,.l a,.i e,.b m,.l b,.i f]=>((Rg n a&&Rg m b)&&Ms e)&&Ms f
 | _=>wh
def B0.Add.out:PD
 | [.b n,.l a,.i e,.b m,.l b,.i f]=>.agg [.bool (BB (K6 (wv n a) e (wv m b) f)),.Bj .arg .u32 (Bk (K6 (wv n a) e (wv m b) f)),.int .i64 (Y6 (wv n a) e (wv m b) f)]
 | _=>.undef
abbrev B0.Add.ts:TS:=[.st [.b,.s .u32,.i .i64],.st [.b,.s .u32,.i .i64]]
def B0.Add.Bu:=BP B0.Add.ts B0.Add.pre B0.Add.out
def B0.Sub.pre:PB
 | [.b n,.l a,.i e,.b m,.l b,.i f]=>((Rg n a&&Rg m b)&&Ms e)&&Ms f
 | _=>wh
def B0.Sub.out:PD
 | [.b n,.l a,.i e,.b m,.l b,.i f]=>.agg [.bool (BB (K6 (wv n a) e (- wv m b) f)),.Bj .arg .u32 (Bk (K6 (wv n a) e (- wv m b) f)),.int .i64 (Y6 (wv n a) e (- wv m b) f)]
 | _=>.undef
abbrev B0.Sub.ts:TS:=[.st [.b,.s .u32,.i .i64],.st [.b,.s .u32,.i .i64]]
def B0.Sub.Bu:=BP B0.Sub.ts B0.Sub.pre B0.Sub.out
def B0.Dw.pre:PB
 | [.b n,.l a,.i e,.i k]=>(HD n a&&Ms e)&&Ms k
 | _=>wh
def B0.Dw.out:PD
 | [.b n,.l a,.i e,.i k]=>.agg [.bool (BB (mD (wv n a))),.Bj .arg .u32 (Bk (mD (wv n a))),.int .i64 (eD (wv n a) (e+k))]
 | _=>.undef
abbrev B0.Dw.ts:TS:=[.st [.b,.s .u32,.i .i64],.i .i64]
def B0.Dw.Bu:=BP B0.Dw.ts B0.Dw.pre B0.Dw.out
def B0.WQ.pre:PB
 | [.b n,.l a,.i e]=>HD n a&&Ms e
 | _=>wh
def B0.WQ.out:PD
 | [.b n,.l a,.i e]=>.int .i64 (GM (wv n a) e)
 | _=>.undef
abbrev B0.WQ.ts:TS:=[.st [.b,.s .u32,.i .i64]]
def B0.WQ.Bu:=BP B0.WQ.ts B0.WQ.pre B0.WQ.out
def B0.Sign.pre:PB
 | [.b n,.l a,.i _e]=>HD n a
 | _=>wh
def B0.Sign.out:PD
 | [.b n,.l a,.i _e]=>.int .i64 (Kz (wv n a))
 | _=>.undef
abbrev B0.Sign.ts:TS:=[.st [.b,.s .u32,.i .i64]]
def B0.Sign.Bu:=BP B0.Sign.ts B0.Sign.pre B0.Sign.out
def B0.Compare.pre:PB
 | [.b n,.l a,.i e,.b m,.l b,.i f]=>((Rg n a&&Rg m b)&&Ms e)&&Ms f
 | _=>wh
def B0.Compare.out:PD
 | [.b n,.l a,.i e,.b m,.l b,.i f]=>.int .i64 (R4 (wv n a) e (wv m b) f)
 | _=>.undef
abbrev B0.Compare.ts:TS:=[.st [.b,.s .u32,.i .i64],.st [.b,.s .u32,.i .i64]]
def B0.Compare.Bu:=BP B0.Compare.ts B0.Compare.pre B0.Compare.out
def Cc.Value.pre:PB
 | [.i x]=>Br x
 | _=>wh
def Cc.Value.out:PD
 | [.i x]=>.agg [.bool (BB (mD (Gj x))),.Bj .arg .u32 (Bk (mD (Gj x))),.int .i64 (eD (Gj x) (BR x))]
 | _=>.undef
abbrev Cc.Value.ts:TS:=[.i .u64]
def Cc.Value.Bu:=BP Cc.Value.ts Cc.Value.pre Cc.Value.out
def Bo.single.pre:PB
 | [.l a,.i x]=>G9 a&&Afz x
 | _=>wh
def Bo.single.out:PD
 | [.l a,.i x]=>.Bj .arg .u32 (singleL a x)
 | _=>.undef
abbrev Bo.single.ts:TS:=[.s .u32,.i .u32]
def Bo.single.Bu:=BP Bo.single.ts Bo.single.pre Bo.single.out
def Bo.Mul.pre:PB
 | [.b n,.l a,.b m,.l b]=>okM n a&&okM m b
 | _=>wh
def Bo.Mul.out:PD
 | [.b n,.l a,.b m,.l b]=>.agg [.bool (BB (wv n a*wv m b)),.Bj .arg .u32 (Bk (wv n a*wv m b))]
 | _=>.undef
abbrev Bo.Mul.ts:TS:=[.st [.b,.s .u32],.st [.b,.s .u32]]
def Bo.Mul.Bu:=BP Bo.Mul.ts Bo.Mul.pre Bo.Mul.out
def B0.Mul.pre:PB
 | [.b n,.l a,.i e,.b m,.l b,.i f]=>(okM n a&&okM m b)&&(Ms e&&Ms f)
 | _=>wh
def B0.Mul.out:PD
 | [.b n,.l a,.i e,.b m,.l b,.i f]=>.agg [.bool (BB (mD (wv n a*wv m b))),.Bj .arg .u32 (Bk (mD (wv n a*wv m b))),.int .i64 (eD (wv n a*wv m b) (e+f))]
 | _=>.undef
abbrev B0.Mul.ts:TS:=[.st [.b,.s .u32,.i .i64],.st [.b,.s .u32,.i .i64]]
def B0.Mul.Bu:=BP B0.Mul.ts B0.Mul.pre B0.Mul.out
def compare.Og.pre:PB
 | [.i b]=>Br b
 | _=>wh
def compare.Og.out:PD
 | [.i b]=>.int .i64 (UA b)
 | _=>.undef
abbrev compare.Og.ts:TS:=[.i .u64]
def compare.Og.Bu:=BP compare.Og.ts compare.Og.pre compare.Og.out
def compare.Order.pre:PB
 | [.i a,.i b]=>Br a&&Br b
 | _=>wh
def compare.Order.out:PD
 | [.i a,.i b]=>.CJ [.int .i64 (Gk a b),.bool (All a b)]
 | _=>.undef
abbrev compare.Order.ts:TS:=[.i .u64,.i .u64]
def compare.Order.Bu:=BP compare.Order.ts compare.Order.pre compare.Order.out
def compare.Mw.pre:PB
 | [.i a,.i b]=>Br a&&Br b
 | _=>wh
def compare.Mw.out:PD
 | [.i a,.i b]=>.bool (decide (Gk a b<0))
 | _=>.undef
abbrev compare.Mw.ts:TS:=[.i .u64,.i .u64]
def compare.Mw.Bu:=BP compare.Mw.ts compare.Mw.pre compare.Mw.out
def compare.WR.pre:PB
 | [.i a]=>Br a
 | _=>wh
def compare.WR.out:PD
 | [.i a]=>.int .u64 (K3 a)
 | _=>.undef
abbrev compare.WR.ts:TS:=[.i .u64]
def compare.WR.Bu:=BP compare.WR.ts compare.WR.pre compare.WR.out
def compare.Dw.pre:PB
 | [.i a,.i n]=>Eg a n
 | _=>wh
def compare.Dw.out:PD
 | [.i a,.i n]=>.CJ [.int .u64 (BV a n),.int .u8 (Ahb a n)]
 | _=>.undef
abbrev compare.Dw.ts:TS:=[.i .u64,.i .i64]
def compare.Dw.Bu:=BP compare.Dw.ts compare.Dw.pre compare.Dw.out
def Bs.CF.pre:PB
 | [.i a,.i n]=>Eg a n
 | _=>wh
def Bs.CF.out:PD
 | [.i a,.i n]=>.int .u64 (BV a n)
 | _=>.undef
abbrev Bs.CF.ts:TS:=[.i .u64,.i .i64]
def Bs.CF.Bu:=BP Bs.CF.ts Bs.CF.pre Bs.CF.out
def Bs.Div.pre:PB
 | [.i a,.i b]=>Br a&&Br b
 | _=>wh
def Bs.Div.out:PD
 | [.i a,.i b]=>.int .u64 (EV a b)
 | _=>.undef
abbrev Bs.Div.ts:TS:=[.i .u64,.i .u64]
def Bs.Div.Bu:=BP Bs.Div.ts Bs.Div.pre Bs.Div.out
def Bs.DJ.pre:PB
 | [.l x]=>Cw x
 | _=>wh
def Bs.DJ.out:PD
 | [.l x]=>.int .u64 (BI x)
 | _=>.undef
abbrev Bs.DJ.ts:TS:=[.s .u64]
def Bs.DJ.Bu:=BP Bs.DJ.ts Bs.DJ.pre Bs.DJ.out
def Bs.Finite.pre:PB
 | [.l x]=>Cw x
 | _=>wh
def Bs.Finite.out:PD
 | [.l x]=>.bool (Dx x)
 | _=>.undef
abbrev Bs.Finite.ts:TS:=[.s .u64]
def Bs.Finite.Bu:=BP Bs.Finite.ts Bs.Finite.pre Bs.Finite.out
def DI.Check.pre:PB
 | [.i _r,.i _c,.l l]=>Bq l
 | _=>wh
def DI.Check.out:PD
 | [.i r,.i c,.l l]=>.int .i64 (BT r c l)
 | _=>.undef
abbrev DI.Check.ts:TS:=[.st [.i .i64,.i .i64,.s .u64]]
def DI.Check.Bu:=BP DI.Check.ts DI.Check.pre DI.Check.out
def solve.Alc.Up.pre:PB
 | [.i r,.i c,.l l,.i p,.i q,.l m,.i n]=>AiR r c l p q m&&decide (n=r)
 | _=>wh
def D3.Finite.pre:PB
 | [.l x]=>Cw x
 | _=>wh
def D3.Finite.out:PD
 | [.l x]=>.bool (Dx x)
 | _=>.undef
abbrev D3.Finite.ts:TS:=[.s .u64]
def D3.Finite.Bu:=BP D3.Finite.ts D3.Finite.pre D3.Finite.out
def BY.Check.pre:PB
 | [.i _r,.i _c,.l l]=>Bq l
 | _=>wh
def BY.Check.out:PD
 | [.i r,.i c,.l l]=>.int .i64 (BT r c l)
 | _=>.undef
abbrev BY.Check.ts:TS:=[.st [.i .i64,.i .i64,.s .u64]]
def BY.Check.Bu:=BP BY.Check.ts BY.Check.pre BY.Check.out
def root.Hc.pre:PB
 | [.i m]=>Ci (0<=m/\m<9223372036854775808)
 | _=>wh
def root.Hc.out:PD
 | [.i m]=>.CJ [.int .u64 (PE m),.bool (PF m)]
 | _=>.undef
abbrev root.Hc.ts:TS:=[.i .u64]
def root.Hc.Bu:=BP root.Hc.ts root.Hc.pre root.Hc.out
def root.Sqrt.pre:PB
 | [.i a]=>Br a
 | _=>wh
def root.Sqrt.out:PD
 | [.i a]=>.CJ [.int .u64 (DG a),.int .u8 (MI a)]
 | _=>.undef
abbrev root.Sqrt.ts:TS:=[.i .u64]
def root.Sqrt.Bu:=BP root.Sqrt.ts root.Sqrt.pre root.Sqrt.out
def Bs.Sqrt.pre:PB
 | [.i a]=>Br a
 | _=>wh
def Bs.Sqrt.out:PD
 | [.i a]=>.int .u64 (DG a)
 | _=>.undef
abbrev Bs.Sqrt.ts:TS:=[.i .u64]
def Bs.Sqrt.Bu:=BP Bs.Sqrt.ts Bs.Sqrt.pre Bs.Sqrt.out
def compare.M7.pre:PB
 | [.i a]=>Br a
 | _=>wh
def compare.M7.out:PD
 | [.i a]=>.int .i64 (BO a)
 | _=>.undef
abbrev compare.M7.ts:TS:=[.i .u64]
def compare.M7.Bu:=BP compare.M7.ts compare.M7.pre compare.M7.out
def Bs.Norm.pre:PB
 | [.l x]=>Cw x&&Ci (wj x<=64)
 | _=>wh
def Bs.Norm.out:PD
 | [.l x]=>.CJ [.int .u64 (Cb x),.int .i64 (0:Int)]
 | _=>.undef
abbrev Bs.Norm.ts:TS:=[.s .u64]
def Bs.Norm.Bu:=BP Bs.Norm.ts Bs.Norm.pre Bs.Norm.out
def BA.Ed.pre:PB
 | [.l x]=>Cw x
 | _=>wh
def BA.Ed.out:PD
 | [.l x]=>.bool (Fg x)
 | _=>.undef
abbrev BA.Ed.ts:TS:=[.s .u64]
def BA.Ed.Bu:=BP BA.Ed.ts BA.Ed.pre BA.Ed.out
def BA.lead.pre:PB
 | [.l x]=>Cw x
 | _=>wh
def BA.lead.out:PD
 | [.l x]=>.int .u64 (KJ x)
 | _=>.undef
abbrev BA.lead.ts:TS:=[.s .u64]
def BA.lead.Bu:=BP BA.lead.ts BA.lead.pre BA.lead.out
def BA.CB.pre:PB
 | [.l x,.i k]=>Cw x&&Ci (wj x<=1000/\-2300<=k/\k<=2300)
 | _=>wh
def BA.CB.out:PD
 | [.l x,.i k]=>.Bj .BE .u64 (B5 x k)
 | _=>.undef
abbrev BA.CB.ts:TS:=[.s .u64,.i .i64]
def BA.CB.Bu:=BP BA.CB.ts BA.CB.pre BA.CB.out
def BA.Ht.pre:PB
 | [.i _i]=>wc
 | _=>wh
def BA.Ht.out:PD
 | [.i _i]=>.int .u64 (0:Int)
 | _=>.undef
abbrev BA.Ht.ts:TS:=[.i .i64]
def BA.Ht.Bu:=BP BA.Ht.ts BA.Ht.pre BA.Ht.out
def BA.Hs.pre:PB
 | [.i i,.l y,.i d]=>(Ci (0<=i/\i<wj y)&&Bq y)&&Br d
 | _=>wh
def BA.Hs.out:PD
 | [.i i,.l y,.i d]=>.int .u64 (EV (vC y (wi i) 0) d)
 | _=>.undef
abbrev BA.Hs.ts:TS:=[.i .i64,.cp [.s .u64],.cp [.i .u64]]
def BA.Hs.Bu:=BP BA.Hs.ts BA.Hs.pre BA.Hs.out
def BA.row.Zero.pre:PB
 | [.i n]=>Ci (1<=n/\n<=64)
 | _=>wh
def BA.row.Zero.out:PD
 | [.i n]=>.Bj .BE .u64 (G8 (wi n) (fun _=>0))
 | _=>.undef
abbrev BA.row.Zero.ts:TS:=[.i .i64,.fn 227 []]
def BA.row.Zero.Bu:=BP BA.row.Zero.ts BA.row.Zero.pre BA.row.Zero.out
def BA.row.Div.pre:PB
 | [.i n,.l y,.i d]=>(Ci (1<=n/\n<=64/\n=wj y)&&Bq y)&&Br d
 | _=>wh
def BA.row.Div.out:PD
 | [.i n,.l y,.i d]=>.Bj .BE .u64 (G8 (wi n) (fun j=>EV (vC y j 0) d))
 | _=>.undef
abbrev BA.row.Div.ts:TS:=[.i .i64,.fn 230 [.cp [.s .u64],.cp [.i .u64]]]
def BA.row.Div.Bu:=BP BA.row.Div.ts BA.row.Div.pre BA.row.Div.out
def BA.CY.pre:PB
 | [.l x]=>Cw x
 | _=>wh
def BA.CY.out:PD
 | [.l x]=>.CJ [.Bj .BE .u64 ((Cm x).1),.int .u64 ((Cm x).2.1),.int .u64 ((Cm x).2.2.1),.int .i64 ((Cm x).2.2.2)]
 | _=>.undef
abbrev BA.CY.ts:TS:=[.s .u64]
def BA.CY.Bu:=BP BA.CY.ts BA.CY.pre BA.CY.out
def BA.Apply.pre:PB
 | [.i r,.i c,.l l,.i i,.i k,.l v,.i t]=>((BD r c l&&Md r c i k v)&&(Bq l&&Bq v))&&Br t
 | _=>wh
def BA.Apply.out:PD
 | [.i r,.i c,.l l,.i i,.i k,.l v,.i t]=>.CJ [.agg [.int .i64 r,.int .i64 c,.Bj (.own 114002 43) .u64 (F5 (wi r) (wi c) l i k v t)],.int .i64 (0:Int)]
 | _=>.undef
abbrev BA.Apply.ts:TS:=[.st [.i .i64,.i .i64,.s .u64],.i .i64,.i .i64,.s .u64,.i .u64]
def BA.Apply.Bu:=BP BA.Apply.ts BA.Apply.pre BA.Apply.out
def qr.down.pre:PB
 | [.i r,.i c,.l l]=>(BD r c l&&Dx l)&&Bq l
 | _=>wh
def qr.down.out:PD
 | [.i r,.i c,.l l]=>.CJ [.agg [.int .i64 ((FB r c l).1),.int .i64 ((FB r c l).2.1),.Bj .arg .u64 ((FB r c l).2.2.1)],.CO .BE 2 (Lt r c l),.int .i64 ((FB r c l).2.2.2)]
 | _=>.undef
abbrev qr.down.ts:TS:=[.st [.i .i64,.i .i64,.s .u64]]
def qr.down.Bu:=BP qr.down.ts qr.down.pre qr.down.out
def qr.DE.pre:PB
 | [.i _r,.i _c,.l l]=>Bq l
 | _=>wh
def qr.DE.out:PD
 | [.i r,.i c,.l l]=>.CJ [.agg [.int .i64 ((qX r c l).1),.int .i64 ((qX r c l).2.1),.Bj .arg .u64 ((qX r c l).2.2.1)],.agg [.int .i64 ((rX r c l).1),.int .i64 ((rX r c l).2.1),.Bj .arg .u64 ((rX r c l).2.2.1)],.int .i64 (EY r c l)]
 | _=>.undef
abbrev qr.DE.ts:TS:=[.st [.i .i64,.i .i64,.s .u64]]
def qr.DE.Bu:=BP qr.DE.ts qr.DE.pre qr.DE.out
def qr.Ok.pre:PB
 | [.i _r,.i _c,.l l]=>Bq l
 | _=>wh
def qr.Ok.out:PD
 | [.i r,.i c,.l l]=>.CJ [.agg [.int .i64 ((TR r c l).1),.int .i64 ((TR r c l).2.1),.Bj .BE .u64 ((TR r c l).2.2.1)],.agg [.int .i64 ((Pf r c l).1),.int .i64 ((Pf r c l).2.1),.Bj .BE .u64 ((Pf r c l).2.2.1)],.int .i64 (EY r c l)]
 | _=>.undef
abbrev qr.Ok.ts:TS:=[.st [.i .i64,.i .i64,.s .u64]]
def qr.Ok.Bu:=BP qr.Ok.ts qr.Ok.pre qr.Ok.out
def Ke.M7.pre:PB
 | [.i a]=>Br a
 | _=>wh
def Ke.M7.out:PD
 | [.i a]=>.int .i64 (BO a)
 | _=>.undef
abbrev Ke.M7.ts:TS:=[.i .u64]
def Ke.M7.Bu:=BP Ke.M7.ts Ke.M7.pre Ke.M7.out
def Ang.FP.pre:PB
 | []=>wc
 | _=>wh
def D3.FR.pre:PB
 | [.l x,.i k]=>Cw x&&Ci (0<=k/\k<=1000)
 | _=>wh
def D3.FR.out:PD
 | [.l x,.i k]=>.bool (G1 x k)
 | _=>.undef
abbrev D3.FR.ts:TS:=[.s .u64,.i .i64]
def D3.FR.Bu:=BP D3.FR.ts D3.FR.pre D3.FR.out
def BY.FR.pre:PB
 | [.i _r,.i _c,.l l,.i k]=>Bq l&&Ci (0<=k/\k<=1000)
 | _=>wh
def BY.FR.out:PD
 | [.i r,.i c,.l l,.i k]=>.bool (BD r c l&&G1 l k)
 | _=>.undef
abbrev BY.FR.ts:TS:=[.st [.i .i64,.i .i64,.s .u64],.i .i64]
def BY.FR.Bu:=BP BY.FR.ts BY.FR.pre BY.FR.out
def BY.GY.q.pre:PB
 | [.l x,.l y]=>(Bq x&&Bq y)&&Ci (wj x=wj y/\wj x<=64)
 | _=>wh
def BY.GY.q.out:PD
 | [.l x,.l y]=>.agg [.bool (BB (mQ (I7 x y))),.Bj .arg .u32 (Bk (mQ (I7 x y))),.int .i64 (eQ (I7 x y))]
 | _=>.undef
abbrev BY.GY.q.ts:TS:=[.s .u64,.s .u64]
def BY.GY.q.Bu:=BP BY.GY.q.ts BY.GY.q.pre BY.GY.q.out
def BY.Hp.pre:PB
 | [.b n,.l a,.i e,.b m,.l b,.i f,.i k]=>(dsB n a e&&dsB m b f)&&Ci (0<=k/\k<=1000)
 | _=>wh
def BY.Hp.out:PD
 | [.b n,.l a,.i e,.b m,.l b,.i f,.i k]=>.bool (decide (vQ n a e<=vQ m b f*tw (-2*k)+tw (-4000)))
 | _=>.undef
abbrev BY.Hp.ts:TS:=[.st [.b,.s .u32,.i .i64],.st [.b,.s .u32,.i .i64],.i .i64]
def BY.Hp.Bu:=BP BY.Hp.ts BY.Hp.pre BY.Hp.out
def D4.Rows.pre:PB
 | [.i r,.i c,.l l,.i i,.i k,.i x,.i y]=>BD r c l&&(Bq l&&((Br x&&Br y)&&Ci (0<=i/\i<r/\0<=k/\k<r/\i≠k)))
 | _=>wh
def D4.Rows.out:PD
 | [.i r,.i c,.l l,.i i,.i k,.i x,.i y]=>.CJ [.agg [.int .i64 r,.int .i64 c,.Bj .BE .u64 (Lk (wi r) (wi c) l (wi i) (wi k) x y)],.int .i64 (0:Int)]
 | _=>.undef
abbrev D4.Rows.ts:TS:=[.st [.i .i64,.i .i64,.s .u64],.i .i64,.i .i64,.i .u64,.i .u64]
def D4.Rows.Bu:=BP D4.Rows.ts D4.Rows.pre D4.Rows.out
def D4.Pe.pre:PB
 | [.i r,.i c,.l l,.i i,.i k,.i x,.i y]=>BD r c l&&(Bq l&&((Br x&&Br y)&&Ci (0<=i/\i<c/\0<=k/\k<c/\i≠k)))
 | _=>wh
def D4.Pe.out:PD
 | [.i r,.i c,.l l,.i i,.i k,.i x,.i y]=>.CJ [.agg [.int .i64 r,.int .i64 c,.Bj .arg .u64 (GX (wi r) (wi c) l (wi i) (wi k) x y)],.int .i64 (0:Int)]
 | _=>.undef
abbrev D4.Pe.ts:TS:=[.st [.i .i64,.i .i64,.s .u64],.i .i64,.i .i64,.i .u64,.i .u64]
def D4.Pe.Bu:=BP D4.Pe.ts D4.Pe.pre D4.Pe.out
def Ct.EO.pre:PB
 | [.i i,.i k,.l l]=>Cw l&&Ci (0<=i/\i<((wj l:Nat):Int)/\0<=k/\k<((wj l:Nat):Int))
 | _=>wh
def Ct.EO.out:PD
 | [.i i,.i k,.l l]=>.int .i64 (Gk (Nf l k) (Nf l i))
 | _=>.undef
abbrev Ct.EO.ts:TS:=[.i .i64,.i .i64,.cp [.s .u64]]
def Ct.EO.Bu:=BP Ct.EO.ts Ct.EO.pre Ct.EO.out
def BM.Bt.pre:PB
 | [.l x,.i a,.i b,.l l]=>Cw l&&Ci (HO (wj l) x=wc/\wj x<=6/\a=0/\b=((wj x:Nat):Int))
 | _=>wh
def BM.Bt.SJ:List Fk->Bf
 | [.l x,.i _a,.i _b,.l l]=>Ey l x
 | _=>[]
abbrev BM.Bt.ts:TS:=[.i .i64,.i .i64,.fn 130 [.cp [.s .u64]]]
def BM.B9.pre:PB
 | [.l x,.i n,.l l]=>Cw l&&Ci (HO (wj l) x=wc/\wj x<=6/\n=((wj x:Nat):Int))
 | _=>wh
def BM.B9.SJ:List Fk->Bf
 | [.l x,.i _n,.l l]=>Ey l x
 | _=>[]
abbrev BM.B9.ts:TS:=[.i .i64,.fn 130 [.cp [.s .u64]]]
def BM.BC.pre:PB
 | [.l x,.l l]=>Cw l&&Ci (HO (wj l) x=wc/\wj x<=6)
 | _=>wh
def BM.BC.SJ:List Fk->Bf
 | [.l x,.l l]=>Ey l x
 | _=>[]
abbrev BM.BC.ts:TS:=[.fn 130 [.cp [.s .u64]]]
def Ct.Ea.pre:PB
 | [.i r,.i c,.l l,.i i,.i k,.i b]=>BD r c l&&(Bq l&&(Br b&&Ci (0<=i/\i<c/\0<=k/\k<c)))
 | _=>wh
def Ct.Ea.out:PD
 | [.i r,.i c,.l l,.i i,.i k,.i b]=>.agg [.int .u64 (trC (Dl (wi r) (wi c) l (wi i)) (Dl (wi r) (wi c) l (wi k)) b),.int .u64 (trS (Dl (wi r) (wi c) l (wi i)) (Dl (wi r) (wi c) l (wi k)) b),.bool (M5 (Dl (wi r) (wi c) l (wi i)) (Dl (wi r) (wi c) l (wi k)) b)]
 | _=>.undef
abbrev Ct.Ea.ts:TS:=[.st [.i .i64,.i .i64,.s .u64],.i .i64,.i .i64,.i .u64]
def Ct.Ea.Bu:=BP Ct.Ea.ts Ct.Ea.pre Ct.Ea.out
def Ct.rounds.pre:PB
 | [.i r,.i c,.l l,.i p,.i q,.l m,.i b]=>(BD r c l&&BD p q m)&&((Bq l&&Bq m)&&(Br b&&Ci (p=c/\q=c)))
 | _=>wh
def Ct.rounds.out:PD
 | [.i r,.i c,.l l,.i p,.i q,.l m,.i b]=>.CJ [.agg [.int .i64 r,.int .i64 c,.Bj .arg .u64 ((DC (wi r) (wi c) b 60 l m).1)],.agg [.int .i64 p,.int .i64 q,.Bj .arg .u64 ((DC (wi r) (wi c) b 60 l m).2.1)],.int .i64 ((DC (wi r) (wi c) b 60 l m).2.2)]
 | _=>.undef
abbrev Ct.rounds.ts:TS:=[.st [.i .i64,.i .i64,.s .u64],.st [.i .i64,.i .i64,.s .u64],.i .u64]
def Ct.rounds.Bu:=BP Ct.rounds.ts Ct.rounds.pre Ct.rounds.out
def Ct.CB.pre:PB
 | [.i _r,.i _c,.l l,.i k]=>Cw l&&Ci (wj l<=1000/\-2300<=k/\k<=2300)
 | _=>wh
def Ct.CB.out:PD
 | [.i r,.i c,.l l,.i k]=>.agg [.int .i64 r,.int .i64 c,.Bj .arg .u64 (B5 l k)]
 | _=>.undef
abbrev Ct.CB.ts:TS:=[.st [.i .i64,.i .i64,.s .u64],.i .i64]
def Ct.CB.Bu:=BP Ct.CB.ts Ct.CB.pre Ct.CB.out
def Ct.at.pre:PB
 | [.i r,.i c,.l l,.l x]=>BD r c l&&Ci (((wj x:Nat):Int)=c/\HO (wi c) x=wc)
 | _=>wh
def Ct.at.out:PD
 | [.i r,.i c,.l l,.l x]=>.agg [.int .i64 r,.int .i64 c,.Bj .BE .u64 (Dp (wi r) (wi c) l x)]
 | _=>.undef
abbrev Ct.at.ts:TS:=[.st [.i .i64,.i .i64,.s .u64],.s .i64]
def Ct.at.Bu:=BP Ct.at.ts Ct.at.pre Ct.at.out
def Ct.Gm.pre:PB
 | [.i r,.i c,.l l]=>BD r c l&&Bq l
 | _=>wh
def Ct.Gm.out:PD
 | [.i r,.i c,.l l]=>.Bj .BE .u64 (CS (wi r) (wi c) l)
 | _=>.undef
abbrev Ct.Gm.ts:TS:=[.st [.i .i64,.i .i64,.s .u64]]
def Ct.Gm.Bu:=BP Ct.Gm.ts Ct.Gm.pre Ct.Gm.out
def Ct.BW.pre:PB
 | [.i _r,.i _c,.l l]=>Bq l
 | _=>wh
def Ct.BW.out:PD
 | [.i r,.i c,.l l]=>.CJ [.agg [.int .i64 ((Gz r c l).1),.int .i64 ((Gz r c l).2.1),.Bj .arg .u64 ((Gz r c l).2.2.1)],.agg [.int .i64 ((HS r c l).1),.int .i64 ((HS r c l).2.1),.Bj .BE .u64 ((HS r c l).2.2.1)],.Bj .BE .u64 (Od r c l),.int .i64 (G7 r c l)]
 | _=>.undef
abbrev Ct.BW.ts:TS:=[.st [.i .i64,.i .i64,.s .u64]]
def Ct.BW.Bu:=BP Ct.BW.ts Ct.BW.pre Ct.BW.out
def CG.Check.pre:PB
 | [.i _r,.i _c,.l l,.i _p,.i _q,.l m]=>Bq l&&Bq m
 | _=>wh
def CG.Check.out:PD
 | [.i r,.i c,.l l,.i p,.i q,.l m]=>.int .i64 (Wn r c l p q m)
 | _=>.undef
abbrev CG.Check.ts:TS:=[.st [.i .i64,.i .i64,.s .u64],.st [.i .i64,.i .i64,.s .u64]]
def CG.Check.Bu:=BP CG.Check.ts CG.Check.pre CG.Check.out
def CG.CY.pre:PB
 | [.i _r,.i _c,.l l,.i _p,.i _q,.l m]=>Bq l&&Bq m
 | _=>wh
def CG.CY.out:PD
 | [.i r,.i c,.l l,.i p,.i q,.l m]=>.CJ [.agg [.int .i64 ((Hd r c l p q m).1),.int .i64 ((Hd r c l p q m).2.1),.Bj .arg .u64 ((Hd r c l p q m).2.2.1),.int .i64 ((Hf r c l p q m).1),.int .i64 ((Hf r c l p q m).2.1),.Bj .BE .u64 ((Hf r c l p q m).2.2.1),.int .i64 ((He r c l p q m).1),.int .i64 ((He r c l p q m).2.1),.Bj .BE .u64 ((He r c l p q m).2.2.1),.int .i64 ((Hg r c l p q m).1),.int .i64 ((Hg r c l p q m).2.1),.Bj .BE .u64 ((Hg r c l p q m).2.2.1),.Bj .BE .u64 (Fq r c l p q m),.Bj .BE .u64 (Iu r c l p q m)],.int .i64 (CX r c l p q m)]
 | _=>.undef
abbrev CG.CY.ts:TS:=[.st [.i .i64,.i .i64,.s .u64],.st [.i .i64,.i .i64,.s .u64]]
def CG.CY.Bu:=BP CG.CY.ts CG.CY.pre CG.CY.out
def CG.DB.pre:PB
 | [.i _a1,.i _b1,.l _l1,.i _a2,.i _b2,.l _l2,.i _a3,.i _b3,.l _l3,.i _a4,.i _b4,.l _l4,.l _x,.l y]=>Cw y
 | _=>wh
def CG.DB.out:PD
 | [.i _a1,.i _b1,.l _l1,.i _a2,.i _b2,.l _l2,.i _a3,.i _b3,.l _l3,.i _a4,.i _b4,.l _l4,.l _x,.l y]=>.int .i64 (Rz y)
 | _=>.undef
abbrev CG.DB.ts:TS:=[.st [.i .i64,.i .i64,.s .u64,.i .i64,.i .i64,.s .u64,.i .i64,.i .i64,.s .u64,.i .i64,.i .i64,.s .u64,.s .u64,.s .u64]]
def CG.DB.Bu:=BP CG.DB.ts CG.DB.pre CG.DB.out
def BS.one.pre:PB
 | [.i _b]=>wc
 | _=>wh
def BS.one.out:PD
 | [.i b]=>.agg [.int .i64 (1:Int),.int .i64 (1:Int),.Bj .BE .u64 ([b])]
 | _=>.undef
abbrev BS.one.ts:TS:=[.i .u64]
def BS.one.Bu:=BP BS.one.ts BS.one.pre BS.one.out
def BS.FP.pre:PB
 | []=>wc
 | _=>wh
def BS.FP.out:PD
 | []=>.bool wc
 | _=>.undef
abbrev BS.FP.ts:TS:=[]
def BS.FP.Bu:=BP BS.FP.ts BS.FP.pre BS.FP.out
def BS.unit.pre:PB
 | []=>wc
 | _=>wh
def BS.unit.out:PD
 | []=>.agg [.bool (BB (mQ (1))),.Bj .arg .u32 (Bk (mQ (1))),.int .i64 (eQ (1))]
 | _=>.undef
abbrev BS.unit.ts:TS:=[]
def BS.unit.Bu:=BP BS.unit.ts BS.unit.pre BS.unit.out
def BY.BZ.pre:PB
 | [.i r,.i c,.l l]=>BD r c l&&Bq l
 | _=>wh
def BY.BZ.out:PD
 | [.i r,.i c,.l l]=>.agg [.bool (BB (mQ (orQ (wi r) (wi c) l))),.Bj .arg .u32 (Bk (mQ (orQ (wi r) (wi c) l))),.int .i64 (eQ (orQ (wi r) (wi c) l))]
 | _=>.undef
abbrev BY.BZ.ts:TS:=[.st [.i .i64,.i .i64,.s .u64]]
def BY.BZ.Bu:=BP BY.BZ.ts BY.BZ.pre BY.BZ.out
def BS.fit.pre:PB
 | [.i _a1,.i _b1,.l l1,.i _a2,.i _b2,.l l2,.i _a3,.i _b3,.l l3,.i _a4,.i _b4,.l l4,.l x,.l y,.i _r,.i _c,.l _l,.i _p,.i _q,.l _m]=>((Bq l1&&Bq l2)&&(Bq l3&&Bq l4))&&(Cw x&&Cw y)
 | _=>wh
def BS.fit.out:PD
 | [.i a1,.i b1,.l l1,.i a2,.i b2,.l l2,.i a3,.i b3,.l l3,.i a4,.i b4,.l l4,.l x,.l y,.i r,.i c,.l _l,.i p,.i _q,.l _m]=>.bool (AcU a1 b1 l1 a2 b2 l2 a3 b3 l3 a4 b4 l4 x y r c p)
 | _=>.undef
abbrev BS.fit.ts:TS:=[.st [.i .i64,.i .i64,.s .u64,.i .i64,.i .i64,.s .u64,.i .i64,.i .i64,.s .u64,.i .i64,.i .i64,.s .u64,.s .u64,.s .u64],.st [.i .i64,.i .i64,.s .u64],.st [.i .i64,.i .i64,.s .u64]]
def BS.fit.Bu:=BP BS.fit.ts BS.fit.pre BS.fit.out
def BS.asked.pre:PB
 | [.i _r,.i _c,.l l,.i _p,.i _q,.l m]=>Bq l&&Bq m
 | _=>wh
def BS.asked.out:PD
 | [.i r,.i c,.l l,.i p,.i q,.l m]=>.CJ [.agg [.int .i64 ((Hn r c l p q m (Hd r c l p q m)).1),.int .i64 ((Hn r c l p q m (Hd r c l p q m)).2.1),.Bj .arg .u64 ((Hn r c l p q m (Hd r c l p q m)).2.2.1),.int .i64 ((Hn r c l p q m (Hf r c l p q m)).1),.int .i64 ((Hn r c l p q m (Hf r c l p q m)).2.1),.Bj .arg .u64 ((Hn r c l p q m (Hf r c l p q m)).2.2.1),.int .i64 ((Hn r c l p q m (He r c l p q m)).1),.int .i64 ((Hn r c l p q m (He r c l p q m)).2.1),.Bj .arg .u64 ((Hn r c l p q m (He r c l p q m)).2.2.1),.int .i64 ((Hn r c l p q m (Hg r c l p q m)).1),.int .i64 ((Hn r c l p q m (Hg r c l p q m)).2.1),.Bj .arg .u64 ((Hn r c l p q m (Hg r c l p q m)).2.2.1),.Bj .arg .u64 (WB r c l p q m (Fq r c l p q m)),.Bj .arg .u64 (WB r c l p q m (Iu r c l p q m))],.bool (Nu r c l p q m),.bool (Pa r c l p q m)]
 | _=>.undef
abbrev BS.asked.ts:TS:=[.st [.i .i64,.i .i64,.s .u64],.st [.i .i64,.i .i64,.s .u64]]
def BS.asked.Bu:=BP BS.asked.ts BS.asked.pre BS.asked.out
def BS.Ca.pre:PB
 | [.i _r,.i _c,.l l,.i _p,.i _q,.l m]=>Bq l&&Bq m
 | _=>wh
def BS.Ca.out:PD
 | [.i _r,.i _c,.l _l,.i _p,.i _q,.l _m]=>.bool wc
 | _=>.undef
abbrev BS.Ca.ts:TS:=[.st [.i .i64,.i .i64,.s .u64],.st [.i .i64,.i .i64,.s .u64]]
def BS.Ca.Bu:=BP BS.Ca.ts BS.Ca.pre BS.Ca.out
def B0.Add.q.pre:PB
 | [.b n,.l a,.i e,.b m,.l b,.i f]=>Ud n a e&&Ud m b f
 | _=>wh
def B0.Add.q.out:PD
 | [.b n,.l a,.i e,.b m,.l b,.i f]=>.agg [.bool (BB (mQ (vQ n a e+vQ m b f))),.Bj .arg .u32 (Bk (mQ (vQ n a e+vQ m b f))),.int .i64 (eQ (vQ n a e+vQ m b f))]
 | _=>.undef
abbrev B0.Add.q.ts:TS:=[.st [.b,.s .u32,.i .i64],.st [.b,.s .u32,.i .i64]]
def B0.Add.q.Bu:=BP B0.Add.q.ts B0.Add.q.pre B0.Add.q.out
def B0.Sub.q.pre:PB
 | [.b n,.l a,.i e,.b m,.l b,.i f]=>Ud n a e&&Ud m b f
 | _=>wh
def B0.Sub.q.out:PD
 | [.b n,.l a,.i e,.b m,.l b,.i f]=>.agg [.bool (BB (mQ (vQ n a e-vQ m b f))),.Bj .arg .u32 (Bk (mQ (vQ n a e-vQ m b f))),.int .i64 (eQ (vQ n a e-vQ m b f))]
 | _=>.undef
abbrev B0.Sub.q.ts:TS:=[.st [.b,.s .u32,.i .i64],.st [.b,.s .u32,.i .i64]]
def B0.Sub.q.Bu:=BP B0.Sub.q.ts B0.Sub.q.pre B0.Sub.q.out
def B0.Mul.q.pre:PB
 | [.b n,.l a,.i e,.b m,.l b,.i f]=>Ud n a e&&Ud m b f
 | _=>wh
def B0.Mul.q.out:PD
 | [.b n,.l a,.i e,.b m,.l b,.i f]=>.agg [.bool (BB (mQ (vQ n a e*vQ m b f))),.Bj .arg .u32 (Bk (mQ (vQ n a e*vQ m b f))),.int .i64 (eQ (vQ n a e*vQ m b f))]
 | _=>.undef
abbrev B0.Mul.q.ts:TS:=[.st [.b,.s .u32,.i .i64],.st [.b,.s .u32,.i .i64]]
def B0.Mul.q.Bu:=BP B0.Mul.q.ts B0.Mul.q.pre B0.Mul.q.out
def B0.Dw.q.pre:PB
 | [.b n,.l a,.i e,.i k]=>Ud n a e&&Ci (-2000<=k/\k<=2000)
 | _=>wh
def B0.Dw.q.out:PD
 | [.b n,.l a,.i e,.i k]=>.agg [.bool (BB (mQ (vQ n a e*tw k))),.Bj .arg .u32 (Bk (mQ (vQ n a e*tw k))),.int .i64 (eQ (vQ n a e*tw k))]
 | _=>.undef
abbrev B0.Dw.q.ts:TS:=[.st [.b,.s .u32,.i .i64],.i .i64]
def B0.Dw.q.Bu:=BP B0.Dw.q.ts B0.Dw.q.pre B0.Dw.q.out
def B0.Compare.q.pre:PB
 | [.b n,.l a,.i e,.b m,.l b,.i f]=>Ud n a e&&Ud m b f
 | _=>wh
def B0.Compare.q.out:PD
 | [.b n,.l a,.i e,.b m,.l b,.i f]=>.int .i64 (Aab (vQ n a e) (vQ m b f))
 | _=>.undef
abbrev B0.Compare.q.ts:TS:=[.st [.b,.s .u32,.i .i64],.st [.b,.s .u32,.i .i64]]
def B0.Compare.q.Bu:=BP B0.Compare.q.ts B0.Compare.q.pre B0.Compare.q.out
def B0.Of.q.pre:PB
 | [.b n,.l a,.i e]=>HD n a&&Ci (-5000<=e/\e<=5000)
 | _=>wh
def B0.Of.q.out:PD
 | [.b n,.l a,.i e]=>.agg [.bool (BB (mQ (vQ n a e))),.Bj .arg .u32 (Bk (mQ (vQ n a e))),.int .i64 (eQ (vQ n a e))]
 | _=>.undef
abbrev B0.Of.q.ts:TS:=[.st [.b,.s .u32],.i .i64]
def B0.Of.q.Bu:=BP B0.Of.q.ts B0.Of.q.pre B0.Of.q.out
def Cc.Value.q.pre:PB
 | [.i x]=>Br x
 | _=>wh
def Cc.Value.q.out:PD
 | [.i x]=>.agg [.bool (BB (mQ (I8 x))),.Bj .arg .u32 (Bk (mQ (I8 x))),.int .i64 (eQ (I8 x))]
 | _=>.undef
abbrev Cc.Value.q.ts:TS:=[.i .u64]
def Cc.Value.q.Bu:=BP Cc.Value.q.ts Cc.Value.q.pre Cc.Value.q.out
def D8.I4.pre:PB
 | [.i x]=>Br x
 | _=>wh
def D8.I4.out:PD
 | [.i x]=>.int .i64 (EA x)
 | _=>.undef
abbrev D8.I4.ts:TS:=[.i .u64]
def D8.I4.Bu:=BP D8.I4.ts D8.I4.pre D8.I4.out
def Bo.plus.own.pre:PB
 | [.l a,.l b]=>G9 a&&G9 b
 | _=>wh
def Bo.plus.own.out:PD
 | [.l a,.l b]=>.Bj (.own 100005 121) .u32 (HV a b)
 | _=>.undef
abbrev Bo.plus.own.ts:TS:=[.s .u32,.s .u32]
def Bo.plus.own.Bu:=BP Bo.plus.own.ts Bo.plus.own.pre Bo.plus.own.out
theorem tt0:∀a b c:Bool,((a==a)&&(b&&(c&&wc)))=(b&&c):=by decide
theorem tt1:∀a b:Bool,(cond a b wh)=(a&&b):=by decide
theorem Qk:∀a:Bool,(((!a)||(a==wc))&&wc)=wc:=by decide
theorem J7:∀a:Bool,((!(a==wc))||((((!(a==wc))||(a==wc))&&wc)&&wc))=wc:=by decide
theorem M3:∀a:Bool,((!(a==wc))||wc)=wc:=by decide
theorem tt5:∀a b:Bool,(cond a wc b)=(a||b):=by decide
theorem Xb:∀a:Bool,((!(!a))||(a==wh))=wc:=by decide
theorem Rw:∀a:Bool,((!(a==wh))||((((!(a==wh))||(a==wh))&&wc)&&wc))=wc:=by decide
theorem tt8:∀a:Bool,((!(a==wh))||((((!(a==wh))||(a==wh))&&(((!(a==wh))||(a==wh))&&wc))&&wc))=wc:=by decide
theorem TO:∀a:Bool,((!(a==wh))||wc)=wc:=by decide
theorem CD:∀a:Bool,(a&&wc)=a:=by decide
theorem AmA:∀a b c d e:Bool,(cond a (bif b then wc else (cond c (bif d then wc else e) wh)) wh)=(a&&(b||(c&&(d||e)))):=by decide
theorem AkW:∀a b:Bool,((!(a==wc))||(((!(a==wc))||(a==wc))&&((!(!b))||((a==wc)&&(b==wh)))))=wc:=by decide
theorem Am9:∀a b c:Bool,((!((a==wc)&&(b==wh)))||(((!((a==wc)&&(b==wh)))||((a==wc)&&(b==wh)))&&(((!c)||(((a==wc)&&(b==wh))&&(c==wc)))&&wc)))=wc:=by decide
theorem Am8:∀a b c d:Bool,((!(((a==wc)&&(b==wh))&&(c==wc)))||(((!(((a==wc)&&(b==wh))&&(c==wc)))||(((a==wc)&&(b==wh))&&(c==wc)))&&((!(!d))||((((a==wc)&&(b==wh))&&(c==wc))&&(d==wh)))))=wc:=by decide
theorem AkU:∀a b c d:Bool,((!((((a==wc)&&(b==wh))&&(c==wc))&&(d==wh)))||((((!((((a==wc)&&(b==wh))&&(c==wc))&&(d==wh)))||((((a==wc)&&(b==wh))&&(c==wc))&&(d==wh)))&&wc)&&wc))=wc:=by decide
theorem Am7:∀a b c d:Bool,((!((((a==wc)&&(b==wh))&&(c==wc))&&(d==wh)))||wc)=wc:=by decide
theorem Am6:∀a b c:Bool,((!(((a==wc)&&(b==wh))&&(c==wc)))||((((!(((a==wc)&&(b==wh))&&(c==wc)))||(((a==wc)&&(b==wh))&&(c==wc)))&&wc)&&wc))=wc:=by decide
theorem Am5:∀a b c:Bool,((!(((a==wc)&&(b==wh))&&(c==wc)))||wc)=wc:=by decide
theorem AkT:∀a b:Bool,((!((a==wc)&&(b==wh)))||((((!((a==wc)&&(b==wh)))||((a==wc)&&(b==wh)))&&wc)&&wc))=wc:=by decide
theorem AkS:∀a b:Bool,((!((a==wc)&&(b==wh)))||((((!((a==wc)&&(b==wh)))||((a==wc)&&(b==wh)))&&(((!((a==wc)&&(b==wh)))||((a==wc)&&(b==wh)))&&wc))&&wc))=wc:=by decide
theorem AdZ:∀a b:Bool,((!((a==wc)&&(b==wh)))||wc)=wc:=by decide
theorem AbK:∀a:Bool,((!(a==wc))||((((!(a==wc))||(a==wc))&&(((!(a==wc))||(a==wc))&&wc))&&wc))=wc:=by decide
theorem AiQ:∀a b:Bool,(cond (!a) wc b)=((!a)||b):=by decide
theorem TQ:∀a:Bool,((!(!(!a)))||((!a)==wh))=wc:=by decide
theorem O6:∀a:Bool,((!((!a)==wh))||((((!((!a)==wh))||((!a)==wh))&&wc)&&wc))=wc:=by decide
theorem Sn:∀a:Bool,((!((!a)==wh))||wc)=wc:=by decide
theorem Am4:∀a b:Bool,(cond a (!b) wh)=(a&&(!b)):=by decide
theorem AdY:∀a b:Bool,(cond (!a) wc (!b))=((!a)||(!b)):=by decide
theorem AbJ:∀a b:Bool,((!((!a)==wh))||((((!((!a)==wh))||((!a)==wh))&&wc)&&b))=((!a)||b):=by decide
theorem AkR:∀a b c d:Bool,(cond (bif a then b else wh) wc (bif c then d else wh))=((a&&b)||(c&&d)):=by decide
theorem AkQ:∀a b:Bool,((!(!(cond a b wh)))||((cond a b wh)==wh))=wc:=by decide
theorem AkP:∀a b c:Bool,((!((cond a b wh)==wh))||(((!((cond a b wh)==wh))||((cond a b wh)==wh))&&(((!c)||(((cond a b wh)==wh)&&(c==wc)))&&wc)))=wc:=by decide
theorem AkO:∀a b c:Bool,((!(((cond a b wh)==wh)&&(c==wc)))||((((!(((cond a b wh)==wh)&&(c==wc)))||(((cond a b wh)==wh)&&(c==wc)))&&wc)&&wc))=wc:=by decide
theorem AkN:∀a b c:Bool,((!(((cond a b wh)==wh)&&(c==wc)))||wc)=wc:=by decide
theorem AgO:∀a b:Bool,((!((cond a b wh)==wh))||((((!((cond a b wh)==wh))||((cond a b wh)==wh))&&wc)&&wc))=wc:=by decide
theorem AkM:∀a b:Bool,((!((cond a b wh)==wh))||wc)=wc:=by decide
theorem JZ:∀a b:Bool,((a&&b)&&wc)=(a&&b):=by decide
theorem Am3:∀a b c:Bool,(cond (bif (!a) then wc else (!b)) wc c)=(((!a)||(!b))||c):=by decide
theorem AkL:∀a b:Bool,((!(!(cond (!a) wc (!b))))||((cond (!a) wc (!b))==wh))=wc:=by decide
theorem AkK:∀a b:Bool,((!((cond (!a) wc (!b))==wh))||((((!((cond (!a) wc (!b))==wh))||((cond (!a) wc (!b))==wh))&&(((!((cond (!a) wc (!b))==wh))||((cond (!a) wc (!b))==wh))&&wc))&&wc))=wc:=by decide
theorem AdX:∀a b:Bool,((!((cond (!a) wc (!b))==wh))||((((!((cond (!a) wc (!b))==wh))||((cond (!a) wc (!b))==wh))&&wc)&&wc))=wc:=by decide
theorem AdW:∀a b:Bool,((!((cond (!a) wc (!b))==wh))||wc)=wc:=by decide
theorem Am2:∀a b c d:Bool,(((a&&b)&&(c&&d))&&wc)=((a&&b)&&(c&&d)):=by decide
theorem Am1:∀a b c d e f g h:Bool,(cond (bif (cond (bif (cond (bif (cond a wc b) then wc else c) wc d) then wc else e) wc f) then wc else g) wc h)=(((((((a||b)||c)||d)||e)||f)||g)||h):=by decide
theorem Am0:∀a b c d e f g:Bool,((!(!(cond (bif (cond (bif (cond (bif a then wc else b) wc c) then wc else d) wc e) then wc else f) wc g)))||((cond (bif (cond (bif (cond (bif a then wc else b) wc c) then wc else d) wc e) then wc else f) wc g)==wh))=wc:=by decide
theorem AkJ:∀a b c d e f g:Bool,((!((cond (bif (cond (bif (cond (bif a then wc else b) wc c) then wc else d) wc e) then wc else f) wc g)==wh))||((((!((cond (bif (cond (bif (cond (bif a then wc else b) wc c) then wc else d) wc e) then wc else f) wc g)==wh))||((cond (bif (cond (bif (cond (bif a then wc else b) wc c) then wc else d) wc e) then wc else f) wc g)==wh))&&(((!((cond (bif (cond (bif (cond (bif a then wc else b) wc c) then wc else d) wc e) then wc else f) wc g)==wh))||((cond (bif (cond (bif (cond (bif a then wc else b) wc c) then wc else d) wc e) then wc else f) wc g)==wh))&&wc))&&wc))=wc:=by decide
theorem AiP:∀a b c d e f g:Bool,((!((cond (bif (cond (bif (cond (bif a then wc else b) wc c) then wc else d) wc e) then wc else f) wc g)==wh))||wc)=wc:=by decide
theorem Amz:∀a b c d e f g:Bool,((!((cond (bif (cond (bif (cond (bif a then wc else b) wc c) then wc else d) wc e) then wc else f) wc g)==wh))||((((!((cond (bif (cond (bif (cond (bif a then wc else b) wc c) then wc else d) wc e) then wc else f) wc g)==wh))||((cond (bif (cond (bif (cond (bif a then wc else b) wc c) then wc else d) wc e) then wc else f) wc g)==wh))&&wc)&&wc))=wc:=by decide
theorem Amy:∀a b c d e f:Bool,((!(!(cond (bif (cond (bif (cond a wc b) then wc else c) wc d) then wc else e) wc f)))||((cond (bif (cond (bif (cond a wc b) then wc else c) wc d) then wc else e) wc f)==wh))=wc:=by decide
theorem AkI:∀a b c d e f:Bool,((!((cond (bif (cond (bif (cond a wc b) then wc else c) wc d) then wc else e) wc f)==wh))||((((!((cond (bif (cond (bif (cond a wc b) then wc else c) wc d) then wc else e) wc f)==wh))||((cond (bif (cond (bif (cond a wc b) then wc else c) wc d) then wc else e) wc f)==wh))&&(((!((cond (bif (cond (bif (cond a wc b) then wc else c) wc d) then wc else e) wc f)==wh))||((cond (bif (cond (bif (cond a wc b) then wc else c) wc d) then wc else e) wc f)==wh))&&wc))&&wc))=wc:=by decide
theorem AiO:∀a b c d e f:Bool,((!((cond (bif (cond (bif (cond a wc b) then wc else c) wc d) then wc else e) wc f)==wh))||wc)=wc:=by decide
theorem Amx:∀a b c d e f:Bool,((!((cond (bif (cond (bif (cond a wc b) then wc else c) wc d) then wc else e) wc f)==wh))||((((!((cond (bif (cond (bif (cond a wc b) then wc else c) wc d) then wc else e) wc f)==wh))||((cond (bif (cond (bif (cond a wc b) then wc else c) wc d) then wc else e) wc f)==wh))&&wc)&&wc))=wc:=by decide
theorem Amw:∀a b c d e:Bool,((!(!(cond (bif (cond (bif a then wc else b) wc c) then wc else d) wc e)))||((cond (bif (cond (bif a then wc else b) wc c) then wc else d) wc e)==wh))=wc:=by decide
theorem Amv:∀a b c d e:Bool,((!((cond (bif (cond (bif a then wc else b) wc c) then wc else d) wc e)==wh))||((((!((cond (bif (cond (bif a then wc else b) wc c) then wc else d) wc e)==wh))||((cond (bif (cond (bif a then wc else b) wc c) then wc else d) wc e)==wh))&&(((!((cond (bif (cond (bif a then wc else b) wc c) then wc else d) wc e)==wh))||((cond (bif (cond (bif a then wc else b) wc c) then wc else d) wc e)==wh))&&wc))&&wc))=wc:=by decide
theorem Amu:∀a b c d e:Bool,((!((cond (bif (cond (bif a then wc else b) wc c) then wc else d) wc e)==wh))||((((!((cond (bif (cond (bif a then wc else b) wc c) then wc else d) wc e)==wh))||((cond (bif (cond (bif a then wc else b) wc c) then wc else d) wc e)==wh))&&wc)&&wc))=wc:=by decide
theorem AkH:∀a b c d e:Bool,((!((cond (bif (cond (bif a then wc else b) wc c) then wc else d) wc e)==wh))||wc)=wc:=by decide
theorem AiN:∀a b c d:Bool,((!(!(cond (bif (cond a wc b) then wc else c) wc d)))||((cond (bif (cond a wc b) then wc else c) wc d)==wh))=wc:=by decide
theorem AiM:∀a b c d:Bool,((!((cond (bif (cond a wc b) then wc else c) wc d)==wh))||((((!((cond (bif (cond a wc b) then wc else c) wc d)==wh))||((cond (bif (cond a wc b) then wc else c) wc d)==wh))&&(((!((cond (bif (cond a wc b) then wc else c) wc d)==wh))||((cond (bif (cond a wc b) then wc else c) wc d)==wh))&&wc))&&wc))=wc:=by decide
theorem AkG:∀a b c d:Bool,((!((cond (bif (cond a wc b) then wc else c) wc d)==wh))||((((!((cond (bif (cond a wc b) then wc else c) wc d)==wh))||((cond (bif (cond a wc b) then wc else c) wc d)==wh))&&wc)&&wc))=wc:=by decide
theorem AbI:∀a b c d:Bool,((!((cond (bif (cond a wc b) then wc else c) wc d)==wh))||wc)=wc:=by decide
theorem AgN:∀a b c:Bool,((!(!(cond (bif a then wc else b) wc c)))||((cond (bif a then wc else b) wc c)==wh))=wc:=by decide
theorem AbH:∀a b c:Bool,((!((cond (bif a then wc else b) wc c)==wh))||((((!((cond (bif a then wc else b) wc c)==wh))||((cond (bif a then wc else b) wc c)==wh))&&wc)&&wc))=wc:=by decide
theorem AbG:∀a b c:Bool,((!((cond (bif a then wc else b) wc c)==wh))||wc)=wc:=by decide
theorem AgM:∀a b:Bool,((!(!(cond a wc b)))||((cond a wc b)==wh))=wc:=by decide
theorem YN:∀a b:Bool,((!((cond a wc b)==wh))||((((!((cond a wc b)==wh))||((cond a wc b)==wh))&&wc)&&wc))=wc:=by decide
theorem Xa:∀a b:Bool,((!((cond a wc b)==wh))||wc)=wc:=by decide
theorem AkF:∀a b c d:Bool,(((!(cond (bif (cond a b wh) then c else wh) d wh))||((cond (bif (cond a b wh) then c else wh) d wh)==wc))&&wc)=wc:=by decide
theorem AkE:∀a b c d:Bool,((!((cond (bif (cond a b wh) then c else wh) d wh)==wc))||((((!((cond (bif (cond a b wh) then c else wh) d wh)==wc))||((cond (bif (cond a b wh) then c else wh) d wh)==wc))&&(((!((cond (bif (cond a b wh) then c else wh) d wh)==wc))||((cond (bif (cond a b wh) then c else wh) d wh)==wc))&&wc))&&wc))=wc:=by decide
theorem AdV:∀a b c d:Bool,((!((cond (bif (cond a b wh) then c else wh) d wh)==wc))||((((!((cond (bif (cond a b wh) then c else wh) d wh)==wc))||((cond (bif (cond a b wh) then c else wh) d wh)==wc))&&wc)&&wc))=wc:=by decide
theorem AgL:∀a b c d:Bool,((!((cond (bif (cond a b wh) then c else wh) d wh)==wc))||wc)=wc:=by decide
theorem AiL:∀a b c:Bool,(((!(cond (bif a then b else wh) c wh))||((cond (bif a then b else wh) c wh)==wc))&&wc)=wc:=by decide
theorem AbF:∀a b c:Bool,((!((cond (bif a then b else wh) c wh)==wc))||((((!((cond (bif a then b else wh) c wh)==wc))||((cond (bif a then b else wh) c wh)==wc))&&wc)&&wc))=wc:=by decide
theorem AiK:∀a b c:Bool,((!((cond (bif a then b else wh) c wh)==wc))||wc)=wc:=by decide
theorem AiJ:∀a b:Bool,(((!(cond a b wh))||((cond a b wh)==wc))&&wc)=wc:=by decide
theorem AbE:∀a b:Bool,((!((cond a b wh)==wc))||((((!((cond a b wh)==wc))||((cond a b wh)==wc))&&wc)&&wc))=wc:=by decide
theorem AiI:∀a b:Bool,((!((cond a b wh)==wc))||wc)=wc:=by decide
theorem AkD:∀a b c:Bool,((!(a==wc))||((((!(a==wc))||(a==wc))&&(((!(a==wc))||(a==wc))&&wc))&&(b&&c)))=((!a)||(b&&c)):=by decide
theorem AkC:∀a:Bool,(((a&&wc)&&wc)&&wc)=a:=by decide
theorem AkA:∀a b:Bool,((!(a==wc))||((((!(a==wc))||(a==wc))&&wc)&&b))=((!a)||b):=by decide
theorem Amt:∀a b:Bool,((!(a==wh))||((((!(a==wh))||(a==wh))&&wc)&&b))=(a||b):=by decide
theorem Ams:∀a b:Bool,(cond a wc (!b))=(a||(!b)):=by decide
theorem AiH:∀a b c:Bool,((a&&b)&&((a&&c)&&wc))=((a&&b)&&(a&&c)):=by decide
theorem Amr:∀a:Bool,((a&&wc)&&wc)=a:=by decide
theorem Ak9:∀a b c d e:Bool,(cond (bif (cond (bif a then wc else b) wc c) then wc else d) wc e)=((((a||b)||c)||d)||e):=by decide
theorem AgK:∀a b:Bool,((!((cond a wc b)==wh))||((((!((cond a wc b)==wh))||((cond a wc b)==wh))&&(((!((cond a wc b)==wh))||((cond a wc b)==wh))&&wc))&&wc))=wc:=by decide
theorem Amq:∀a b c d:Bool,(cond (bif (cond a wc b) then wc else c) wc d)=(((a||b)||c)||d):=by decide
theorem Ak8:∀a b c:Bool,((!((cond (bif a then wc else b) wc c)==wh))||((((!((cond (bif a then wc else b) wc c)==wh))||((cond (bif a then wc else b) wc c)==wh))&&(((!((cond (bif a then wc else b) wc c)==wh))||((cond (bif a then wc else b) wc c)==wh))&&wc))&&wc))=wc:=by decide
theorem Ak7:∀a b c:Bool,((!((cond a b wh)==wc))||((((!((cond a b wh)==wc))||((cond a b wh)==wc))&&wc)&&c))=((!(a&&b))||c):=by decide
theorem Amp:∀a b c:Bool,(cond a (bif b then wc else c) wh)=(a&&(b||c)):=by decide
theorem Amo:∀a b c:Bool,((!((a==wc)&&(b==wh)))||((((!((a==wc)&&(b==wh)))||((a==wc)&&(b==wh)))&&wc)&&c))=((!(a&&(!b)))||c):=by decide
theorem Amn:∀a b c d:Bool,((!((a==wc)&&(b==wh)))||((((!((a==wc)&&(b==wh)))||((a==wc)&&(b==wh)))&&(((!((a==wc)&&(b==wh)))||((a==wc)&&(b==wh)))&&wc))&&(c&&d)))=((!(a&&(!b)))||(c&&d)):=by decide
theorem Amm:∀a b:Bool,((!(a==wc))||((((!(a==wc))||(a==wc))&&(((!(a==wc))||(a==wc))&&wc))&&b))=((!a)||b):=by decide
theorem Aml:∀a b c:Bool,(((a&&b)&&c)&&wc)=((a&&b)&&c):=by decide
theorem Amk:∀a:Bool,((((!a)||(a==wc))&&wc)&&wc)=wc:=by decide
theorem Ak6:∀a:Bool,(((!(a==wc))||((((!(a==wc))||(a==wc))&&wc)&&wc))&&wc)=wc:=by decide
theorem Amj:∀a b:Bool,(((!(a==wc))||((((!(a==wc))||(a==wc))&&(((!(a==wc))||(a==wc))&&(((!(a==wc))||(a==wc))&&wc)))&&b))&&wc)=((!a)||b):=by decide
theorem Ak5:∀a b:Bool,(((!(a==wc))||((((!(a==wc))||(a==wc))&&wc)&&b))&&wc)=((!a)||b):=by decide
theorem Ak4:∀a b c:Bool,(((!(a==wc))||((((!(a==wc))||(a==wc))&&(((!(a==wc))||(a==wc))&&wc))&&(b&&c)))&&wc)=((!a)||(b&&c)):=by decide
theorem Xc:∀a:Bool,(((!(a==wc))||wc)&&wc)=wc:=by decide
theorem Alb:∀a b c:Bool,(cond (bif (!a) then wc else (!b)) wc (!c))=(((!a)||(!b))||(!c)):=by decide
theorem Ala:∀a b c:Bool,((!((cond (!a) wc (!b))==wh))||((((!((cond (!a) wc (!b))==wh))||((cond (!a) wc (!b))==wh))&&(((!((cond (!a) wc (!b))==wh))||((cond (!a) wc (!b))==wh))&&wc))&&c))=(((!a)||(!b))||c):=by decide
theorem AkZ:∀a b c:Bool,((!((cond (!a) wc (!b))==wh))||((((!((cond (!a) wc (!b))==wh))||((cond (!a) wc (!b))==wh))&&wc)&&c))=(((!a)||(!b))||c):=by decide
theorem AkY:∀a b:Bool,((!((!a)==wh))||((((!((!a)==wh))||((!a)==wh))&&(((!((!a)==wh))||((!a)==wh))&&wc))&&b))=((!a)||b):=by decide
theorem AkX:∀a b c d e:Bool,((!((cond (bif (cond a b wh) then c else wh) d wh)==wc))||((((!((cond (bif (cond a b wh) then c else wh) d wh)==wc))||((cond (bif (cond a b wh) then c else wh) d wh)==wc))&&wc)&&e))=((!(((a&&b)&&c)&&d))||e):=by decide
theorem AaA:∀a b c:Bool,(cond (bif a then wc else b) wc c)=((a||b)||c):=by decide
theorem AkV:∀a b c d:Bool,((!((cond (bif a then b else wh) c wh)==wc))||((((!((cond (bif a then b else wh) c wh)==wc))||((cond (bif a then b else wh) c wh)==wc))&&wc)&&d))=((!((a&&b)&&c))||d):=by decide
theorem Aa9:∀a b:Bool,(((!(!(cond a wc b)))||((cond a wc b)==wh))&&wc)=wc:=by decide
theorem QW:∀a b:Bool,(((!((cond a wc b)==wh))||((((!((cond a wc b)==wh))||((cond a wc b)==wh))&&(((!((cond a wc b)==wh))||((cond a wc b)==wh))&&wc))&&wc))&&wc)=wc:=by decide
theorem Mm:∀a b:Bool,(((!((cond a wc b)==wh))||((((!((cond a wc b)==wh))||((cond a wc b)==wh))&&wc)&&wc))&&wc)=wc:=by decide
theorem Ml:∀a b:Bool,(((!((cond a wc b)==wh))||wc)&&wc)=wc:=by decide
theorem Aa8:∀a:Bool,(((!(!a))||(a==wh))&&wc)=wc:=by decide
theorem Mk:∀a:Bool,(((!(a==wh))||((((!(a==wh))||(a==wh))&&(((!(a==wh))||(a==wh))&&wc))&&wc))&&wc)=wc:=by decide
theorem Mj:∀a:Bool,(((!(a==wh))||((((!(a==wh))||(a==wh))&&wc)&&wc))&&wc)=wc:=by decide
theorem Jy:∀a:Bool,(((!(a==wh))||wc)&&wc)=wc:=by decide
open Go Go.Den Go.Cn Go.Proofs
set_option maxRecDepth 100000
def soft.Split.GN:List (Nat × Ew):=[]
def soft.Split.E:Env:=Dr (CW soft.Split.GN) (fun _=>wh) (fun _=>wN) (fun _=>wN)
theorem soft.Split.ev(N:Nat)(x:Int):Cz soft.Split.E N f202 (Bw f202) [.int .u64 x]=wM (.agg [.bool ((DL .u64 x 63)==(1:Int)),.int .i64 (Bh (F9 .u64 (DL .u64 x 52) 2047)),.int .u64 (F9 .u64 x 4503599627370495)]):=by kernel_rfl
abbrev soft.Split.Kn:=Ev prog 202 soft.Split.Bu
theorem soft.Split.D9(hk:Fe prog soft.Split.GN)(h:Hyp soft.Split.E f202 soft.Split.ts soft.Split.pre soft.Split.out):soft.Split.Kn :=Gc (IQ hk _ _ _) func202 (by kernel_rfl) (by kernel_rfl) h
def soft.Kind.GN:List (Nat × Ew):=[(202,soft.Split.Bu)]
def soft.Kind.E:Env:=Dr (CW soft.Kind.GN) (fun _=>wh) (fun _=>wN) (fun _=>wN)
theorem soft.Kind.ev(N:Nat)(x:Int):Cz soft.Kind.E N f165 (Bw f165) [.int .u64 x]=cond (Br x) (bif (((JC x)==(2047:Int))&&((Db x)==(0:Int))) then wM (.int .i64 3) else bif ((JC x)==(2047:Int)) then wM (.int .i64 4) else bif (BH 0 (JC x)) then wM (.int .i64 2) else bif (BH 0 (Db x)) then wM (.int .i64 1) else wM (.int .i64 0)) wN :=Et (ET (CQ (tt0 (DN x) _ _) rfl rfl) rfl)
abbrev soft.Kind.Kn:=Ev prog 165 soft.Kind.Bu
theorem soft.Kind.D9(hk:Fe prog soft.Kind.GN)(h:Hyp soft.Kind.E f165 soft.Kind.ts soft.Kind.pre soft.Kind.out):soft.Kind.Kn :=Gc (IQ hk _ _ _) func165 (by kernel_rfl) (by kernel_rfl) h
def soft.Sign.GN:List (Nat × Ew):=[]
def soft.Sign.E:Env:=Dr (CW soft.Sign.GN) (fun _=>wh) (fun _=>wN) (fun _=>wN)
theorem soft.Sign.ev(N:Nat)(x:Int):Cz soft.Sign.E N f181 (Bw f181) [.int .u64 x]=wM (.bool ((DL .u64 x 63)==(1:Int))):=by kernel_rfl
abbrev soft.Sign.Kn:=Ev prog 181 soft.Sign.Bu
theorem soft.Sign.D9(hk:Fe prog soft.Sign.GN)(h:Hyp soft.Sign.E f181 soft.Sign.ts soft.Sign.pre soft.Sign.out):soft.Sign.Kn :=Gc (IQ hk _ _ _) func181 (by kernel_rfl) (by kernel_rfl) h
def soft.Finite.GN:List (Nat × Ew):=[(165,soft.Kind.Bu)]
def soft.Finite.E:Env:=Dr (CW soft.Finite.GN) (fun _=>wh) (fun _=>wN) (fun _=>wN)
theorem soft.Finite.ev(N:Nat)(x:Int):Cz soft.Finite.E N f136 (Bw f136) [.int .u64 x]=cond (Br x) (bif ((BF x)==(3:Int)) then wM (.bool wh) else bif ((BF x)==(4:Int)) then wM (.bool wh) else wM (.bool wc)) wN:=by kernel_rfl
abbrev soft.Finite.Kn:=Ev prog 136 soft.Finite.Bu
theorem soft.Finite.D9(hk:Fe prog soft.Finite.GN)(h:Hyp soft.Finite.E f136 soft.Finite.ts soft.Finite.pre soft.Finite.out):soft.Finite.Kn :=Gc (IQ hk _ _ _) func136 (by kernel_rfl) (by kernel_rfl) h
def soft.EK.GN:List (Nat × Ew):=[]
def soft.EK.E:Env:=Dr (CW soft.EK.GN) (fun _=>wh) (fun _=>wN) (fun _=>wN)
theorem soft.EK.ev(N:Nat)(x:Int):Cz soft.EK.E N f81 (Bw f81) [.int .u64 x]=wM (.int .u64 (Aii .u64 x 9223372036854775808)):=by kernel_rfl
abbrev soft.EK.Kn:=Ev prog 81 soft.EK.Bu
theorem soft.EK.D9(hk:Fe prog soft.EK.GN)(h:Hyp soft.EK.E f81 soft.EK.ts soft.EK.pre soft.EK.out):soft.EK.Kn :=Gc (IQ hk _ _ _) func81 (by kernel_rfl) (by kernel_rfl) h
def soft.EX.GN:List (Nat × Ew):=[(202,soft.Split.Bu)]
def soft.EX.E:Env:=Dr (CW soft.EX.GN) (fun _=>wh) (fun _=>wN) (fun _=>wN)
theorem soft.EX.ev(N:Nat)(x:Int):Cz soft.EX.E N f166 (Bw f166) [.int .u64 x]=cond (Br x) (bif ((JC x)==(0:Int)) then wM (.CJ [.int .u64 (Db x),.int .i64 (-1074:Int)]) else wM (.CJ [.int .u64 (Hw .u64 (Db x) 4503599627370496),.int .i64 (Bh ((JC x)-1075))])) wN:=by kernel_rfl
abbrev soft.EX.Kn:=Ev prog 166 soft.EX.Bu
theorem soft.EX.D9(hk:Fe prog soft.EX.GN)(h:Hyp soft.EX.E f166 soft.EX.ts soft.EX.pre soft.EX.out):soft.EX.Kn :=Gc (IQ hk _ _ _) func166 (by kernel_rfl) (by kernel_rfl) h
def soft.Pack.GN:List (Nat × Ew):=[(81,soft.EK.Bu)]
def soft.Pack.E(rk:Nat):Env:=Dr (CW ((214,Acl [.b,.i .u64,.i .i64] soft.Pack.pre soft.Pack.out soft.Pack.mu rk)::soft.Pack.GN)) (fun _=>wh) (fun _=>wN) (fun _=>wN)
theorem soft.Pack.ev(N rk:Nat)(n:Bool)(m e:Int):Cz (soft.Pack.E rk) N f214 (Bw f214) [.bool n,.int .u64 m,.int .i64 e]=cond (m==(0:Int)) (bif n then cond (Br 0) (wM (.int .u64 (Cy 0))) wN else wM (.int .u64 0)) (bif (DT 9007199254740992 m) then cond ((IY (DL .u64 m 1) (Bh (e+1)))&&(Ci ((LH (DL .u64 m 1) (Bh (e+1)))<rk))) (wM (.int .u64 (Py n (DL .u64 m 1) (Bh (e+1))))) wN else bif ((BH m 4503599627370496)&&(BH (-1074:Int) e)) then cond ((IY (Cr .u64 m 1) (Bh (e-1)))&&(Ci ((LH (Cr .u64 m 1) (Bh (e-1)))<rk))) (wM (.int .u64 (Py n (Cr .u64 m 1) (Bh (e-1))))) wN else bif (BH m 4503599627370496) then cond n (bif (Br m) then wM (.int .u64 (Cy m)) else wN) (wM (.int .u64 m)) else bif (DT 2047 (Bh (e+1075))) then cond n (bif (Br 9218868437227405312) then wM (.int .u64 (Cy 9218868437227405312)) else wN) (wM (.int .u64 9218868437227405312)) else bif n then cond (Br (Hw .u64 (Cr .u64 (BU (Bh (e+1075))) 52) (F9 .u64 m 4503599627370495))) (wM (.int .u64 (Cy (Hw .u64 (Cr .u64 (BU (Bh (e+1075))) 52) (F9 .u64 m 4503599627370495))))) wN else wM (.int .u64 (Hw .u64 (Cr .u64 (BU (Bh (e+1075))) 52) (F9 .u64 m 4503599627370495)))) :=Et (ET rfl (ET rfl (B4 (M3 (BH m 4503599627370496)) (B4 (J7 (BH m 4503599627370496)) (B4 (Qk (BH m 4503599627370496)) (CQ (tt1 _ _) rfl rfl))))))
theorem soft.Pack.D9(hk:Fe prog soft.Pack.GN)(h:∀(rk:Nat) (n:Bool) (m e:Int),soft.Pack.pre [.b n,.i m,.i e]=wc->soft.Pack.mu [.b n,.i m,.i e]<rk+1->∃N dv drops,Cz (soft.Pack.E rk) N f214 (Bw f214) [.bool n,.int .u64 m,.int .i64 e]=wM dv/\Wk drops dv (soft.Pack.out [.b n,.i m,.i e])):Ev prog 214 soft.Pack.Bu:=by have call:=HP (f:=214) func214 (by kernel_rfl) (show f214.body=wM (Bw f214) by kernel_rfl);refine⟨Z9 (E:=soft.Pack.E) func214 (show f214.body=wM (Bw f214) by kernel_rfl) soft.Pack.mu (fun rk hm=>IQ (.cons ⟨hm,call⟩ hk) _ _ _) fun rk ats dvs he hp hr=>?_,call⟩;obtain⟨n,_,_,rfl,rfl,he0⟩:=he.Al5;obtain⟨m,_,_,rfl,rfl,he1⟩:=he0.UT;obtain⟨e,_,_,rfl,rfl,he2⟩:=he1.UT;obtain⟨rfl,rfl⟩:=he2.HE;exact h rk n m e hp hr
abbrev soft.Pack.Kn:Prop:=Ev prog 214 soft.Pack.Bu
def soft.DA.hint:Nat->Option BK
 | 0=>wM { Da:=[0,1,2,3,10],Cg:=[],Cv:=[] }
 | _=>wN
def soft.DA.GN:List (Nat × Ew):=[(165,soft.Kind.Bu),(214,soft.Pack.Bu)]
def soft.DA.live:Nat->Option (List Nat)
 | 7=>wM [0,1,2,3,10]
 | 12=>wM [0,2,3,10,11,12,13,14]
 | 14=>wM [0,2,10,11,14]
 | 16=>wM [0,2,10,11,14]
 | 18=>wM [14,15,16]
 | _=>wN
def soft.DA.E:Env:=Dr (CW soft.DA.GN) (fun _=>wh) soft.DA.hint soft.DA.live
section
variable(N:Nat)(p14_3:Bool)(p15:Int)(M:Nat)(n:Bool)(m e p11 p10_4:Int)(p14_2:Bool)(p10_3 p11_2:Int)(p14_1 r:Bool)(p10_2 p11_1 p12 p13:Int)(p14:Bool)(p10_1 p10:Int)
def soft.DA.L0:Option DV:=C6 soft.DA.E N f180 (Bw f180) [1,1,1,0,0] [] M ⟨Fp 111 [(0,.bool n),(1,.int .u64 m),(2,.int .i64 e),(3,.bool r),(10,.int .i64 p10)],[]⟩
def soft.DA.C7:Option DV:=cutAt soft.DA.E N f180 (Bw f180) [1,1,1,1] [] ⟨Fp 111 [(0,.bool n),(1,.int .u64 m),(2,.int .i64 e),(3,.bool r),(10,.int .i64 p10_1)],[]⟩
def soft.DA.C12:Option DV:=cutAt soft.DA.E N f180 (Bw f180) [1,1,1,1,1,1,1,1,0] [] ⟨Fp 111 [(0,.bool n),(2,.int .i64 e),(3,.bool r),(10,.int .i64 p10_2),(11,.int .u64 p11_1),(12,.int .u64 p12),(13,.int .u64 p13),(14,.bool p14)],[]⟩
def soft.DA.C14:Option DV:=cutAt soft.DA.E N f180 (Bw f180) [1,1,1,1,1,1,1,1,1,0] [] ⟨Fp 111 [(0,.bool n),(2,.int .i64 e),(10,.int .i64 p10_3),(11,.int .u64 p11_2),(14,.bool p14_1)],[]⟩
def soft.DA.C16:Option DV:=cutAt soft.DA.E N f180 (Bw f180) [1,1,1,1,1,1,1,1,1,1] [] ⟨Fp 111 [(0,.bool n),(2,.int .i64 e),(10,.int .i64 p10_4),(11,.int .u64 p11),(14,.bool p14_2)],[]⟩
def soft.DA.C18:Option DV:=cutAt soft.DA.E N f180 (Bw f180) [1,1,1,1,1,1,1,1,1,1,1,1,0] [] ⟨Fp 111 [(14,.bool p14_3),(15,.int .u64 p15),(16,.int .u8 0)],[]⟩
theorem soft.DA.B7:soft.DA.L0 N (M+1) n m e r p10=cond (decide (0<=p10)) (bif ((DT 9007199254740992 (DL .u64 m p10))||(BH (Bh (e+p10)) (-1074:Int))) then cond ((Bh (p10+1))==(63:Int)) (soft.DA.C7 N n m e r (Bh (p10+1))) (soft.DA.L0 N M n m e r (Bh (p10+1))) else soft.DA.C7 N n m e r p10) wN :=Et (ET (B4 (TO (DT 9007199254740992 (DL .u64 m p10))) (B4 (TO (DT 9007199254740992 (DL .u64 m p10))) (B4 (tt8 (DT 9007199254740992 (DL .u64 m p10))) (B4 (Rw (DT 9007199254740992 (DL .u64 m p10))) (B4 (Xb (DT 9007199254740992 (DL .u64 m p10))) (CQ (tt5 _ _) rfl rfl)))))) rfl)
theorem soft.DA.Ab5:soft.DA.C7 N n m e r p10_1=cond (decide (0<=p10_1)) (bif (decide (0<=p10_1)) then cond (BH 0 p10_1) (bif (decide (0<=(Bh (p10_1-1)))) then soft.DA.C12 N n e r p10_1 (DL .u64 m p10_1) (F9 .u64 m (BU ((Cr .u64 1 p10_1)-1))) (Cr .u64 1 (Bh (p10_1-1))) (cond ((F9 .u64 m (BU ((Cr .u64 1 p10_1)-1)))==(0:Int)) (!r) wh) else wN) (soft.DA.C12 N n e r p10_1 (DL .u64 m p10_1) (F9 .u64 m (BU ((Cr .u64 1 p10_1)-1))) 0 (cond ((F9 .u64 m (BU ((Cr .u64 1 p10_1)-1)))==(0:Int)) (!r) wh)) else wN) wN:=
 yP ((DO _ _ _ _ _ _ _).trans (by kernel_rfl))
 (CQ (CD _) (CQ (CD _) (ET (ET (B4 (M3 ((F9 .u64 m (BU ((Cr .u64 1 p10_1)-1)))==(0:Int))) (B4 (J7 ((F9 .u64 m (BU ((Cr .u64 1 p10_1)-1)))==(0:Int))) (B4 (Qk ((F9 .u64 m (BU ((Cr .u64 1 p10_1)-1)))==(0:Int))) rfl))) rfl) (B4 (M3 ((F9 .u64 m (BU ((Cr .u64 1 p10_1)-1)))==(0:Int))) (B4 (J7 ((F9 .u64 m (BU ((Cr .u64 1 p10_1)-1)))==(0:Int))) (B4 (Qk ((F9 .u64 m (BU ((Cr .u64 1 p10_1)-1)))==(0:Int))) rfl)))) rfl) rfl)
theorem soft.DA.Aav:soft.DA.C12 N n e r p10_2 p11_1 p12 p13 p14=cond ((BH 0 p10_2)&&((BH p13 p12)||((p12==p13)&&(r||((F9 .u64 p11_1 1)==(1:Int)))))) (soft.DA.C14 N n e p10_2 (BU (p11_1+1)) p14) (soft.DA.C14 N n e p10_2 p11_1 p14):=
 yP ((DO _ _ _ _ _ _ _).trans (by kernel_rfl))
 (B4 (M3 (BH 0 p10_2)) (B4 (M3 (BH 0 p10_2)) (B4 (AbK (BH 0 p10_2)) (B4 (J7 (BH 0 p10_2)) (B4 (AdZ (BH 0 p10_2) (BH p13 p12)) (B4 (AdZ (BH 0 p10_2) (BH p13 p12)) (B4 (AkS (BH 0 p10_2) (BH p13 p12)) (B4 (AkT (BH 0 p10_2) (BH p13 p12)) (B4 (Am5 (BH 0 p10_2) (BH p13 p12) (p12==p13)) (B4 (Am6 (BH 0 p10_2) (BH p13 p12) (p12==p13)) (B4 (Am7 (BH 0 p10_2) (BH p13 p12) (p12==p13) r) (B4 (AkU (BH 0 p10_2) (BH p13 p12) (p12==p13) r) (B4 (AkU (BH 0 p10_2) (BH p13 p12) (p12==p13) r) (B4 (Am8 (BH 0 p10_2) (BH p13 p12) (p12==p13) r) (B4 (Am9 (BH 0 p10_2) (BH p13 p12) (p12==p13)) (B4 (AkW (BH 0 p10_2) (BH p13 p12)) (B4 (Qk (BH 0 p10_2)) (CQ (AmA _ _ _ _ _) rfl rfl))))))))))))))))))
theorem soft.DA.AjW:soft.DA.C14 N n e p10_3 p11_2 p14_1=cond (BH (Bh (e+p10_3)) (-1074:Int)) (soft.DA.C16 N n e 0 p10_3 p14_1) (soft.DA.C16 N n e p11_2 p10_3 p14_1):=(DO _ _ _ _ _ _ _).trans (by kernel_rfl)
theorem soft.DA.Aau:soft.DA.C16 N n e p11 p10_4 p14_2=cond (IY p11 (max (Bh (e+p10_4)) (-1074:Int))) (soft.DA.C18 N p14_2 (Py n p11 (max (Bh (e+p10_4)) (-1074:Int)))) wN:=(DO _ _ _ _ _ _ _).trans (by kernel_rfl)
theorem soft.DA.Aat:soft.DA.C18 N p14_3 p15=cond ((!p14_3)||((NX .u64 p15 9223372036854775808)==(9218868437227405312:Int))) (bif (Br p15) then cond ((BF p15)==(3:Int)) (wM (.CJ [.int .u64 p15,.int .u8 5])) (bif ((BF p15)==(0:Int)) then cond ((BF p15)==(0:Int)) (wM (.CJ [.int .u64 p15,.int .u8 3])) (wM (.CJ [.int .u64 p15,.int .u8 1])) else bif ((BF p15)==(1:Int)) then wM (.CJ [.int .u64 p15,.int .u8 3]) else wM (.CJ [.int .u64 p15,.int .u8 1])) else wN) (wM (.CJ [.int .u64 p15,.int .u8 0])):=
 yP ((DO _ _ _ _ _ _ _).trans (by kernel_rfl))
 (B4 (Sn p14_3) (B4 (O6 p14_3) (B4 (O6 p14_3) (B4 (TQ p14_3) (CQ (AiQ _ _) rfl rfl)))))
theorem soft.DA.ev:Cz soft.DA.E N f180 (Bw f180) [.bool n,.int .u64 m,.int .i64 e,.bool r]=cond ((m==(0:Int))&&(!r)) (bif (IY 0 (-1074:Int)) then wM (.CJ [.int .u64 (Py n 0 (-1074:Int)),.int .u8 0]) else wN) (soft.DA.L0 N N n m e r 0) :=Et (B4 (M3 (m==(0:Int))) (B4 (J7 (m==(0:Int))) (B4 (Qk (m==(0:Int))) (CQ (Am4 _ _) rfl rfl))))
end
theorem Bi{a b:Bool}:(a&&b)=wc↔a=wc/\b=wc:=by simp
theorem AaX{n:Nat}(hn:n<2^64):((DL .u64 (n:Int) (63:Int))==(1:Int))=DN n:=by rw[show(63:Int)=((63:Nat):Int) from rfl,G3 .u64 n 63 (by decide)];unfold DN Ce;rw[Ad,Ar];simp only[beq_iff_eq,Ai];omega
theorem Ahk{n:Nat}(hn:n<2^64):Bh (F9 .u64 (DL .u64 (n:Int) (52:Int)) (2047:Int))=JC n:=by rw[show(52:Int)=((52:Nat):Int) from rfl,G3 .u64 n 52 (by decide),show(2047:Int)=((2^11-1:Nat):Int) from rfl,Hh 11 (by omega) (by decide)];unfold JC DH;rw[Ad,Bz (by omega) (by omega)]
theorem Af7{n:Nat}(hn:n<2^64):F9 .u64 (n:Int) (4503599627370495:Int)=Db n:=by rw[show(4503599627370495:Int)=((2^52-1:Nat):Int) from rfl,Hh 52 hn (by decide)];unfold Db Df;rw[Ad]
theorem soft.Split.Bp:soft.Split.Kn:=soft.Split.D9 .nil fun x hp=>by obtain⟨n,rfl,hn⟩:=C3 (x:=x) hp;refine⟨0,soft.Split.out [.i n],[],?_,Wk.GA (.cons .bool (.cons .int (.cons .int .nil)))⟩;rw[soft.Split.ev,AaX hn,Ahk hn,Af7 hn];rfl
theorem soft.Kind.Bp:soft.Kind.Kn:=soft.Kind.D9 (kc soft.Split.Bp .nil) fun x hp=>by
 obtain⟨n,rfl,hn⟩:=C3 (x:=x) hp;refine⟨0,soft.Kind.out [.i n],[],?_,.int⟩;rw[soft.Kind.ev,CI hn];show _=wM (DV.int .i64 (BF n));unfold BF Bn JC Db;simp only[Ad,Aa,B8];have:=Il n;by_cases h1:DH n=2047
 ·by_cases h2:Df n=0
  ·simp[h1,h2]
  ·have:((Df n:Int)==0)=wh:=by simp; exact h2
   simp[h1,this,h2]
 ·have h1':((DH n:Int)==2047)=wh:=by simp; omega
  rw[h1'];by_cases h3:0<DH n
  ·simp[h1,h3]
  ·by_cases h4:0<Df n
   ·simp[h1,h3,h4]
   ·simp[h1,h3,h4]
theorem soft.Sign.Bp:soft.Sign.Kn:=soft.Sign.D9 .nil fun x hp=>by obtain⟨n,rfl,hn⟩:=C3 (x:=x) hp;refine⟨0,soft.Sign.out [.i n],[],?_,.bool⟩;rw[soft.Sign.ev,AaX hn];rfl
theorem Tk(n:Nat):GJ n=!(decide (Bn n=3)||decide (Bn n=4)):=by
 have:=Il n;unfold GJ Bn;by_cases h1:DH n=2047
 ·by_cases h2:Df n=0<;>simp[h1,h2]
 ·have:DH n<2047:=by omega
  by_cases h3:0<DH n
  ·simp[h1,h3,this]
  ·by_cases h4:0<Df n<;>simp[h1,h3,h4,this]
theorem soft.Finite.Bp:soft.Finite.Kn:=soft.Finite.D9 (kc soft.Kind.Bp .nil) fun x hp=>by
 obtain⟨n,rfl,hn⟩:=C3 (x:=x) hp;refine⟨0,soft.Finite.out [.i n],[],?_,.bool⟩;rw[soft.Finite.ev,CI hn];show _=wM (DV.bool (Du n));unfold Du BF;rw[Ad,Tk];by_cases h3:Bn n=3
 ·simp[h3]
 ·by_cases h4:Bn n=4
  ·simp[h4]
  ·have e3:((Bn n:Int)==3)=wh:=by simp; omega
   have e4:((Bn n:Int)==4)=wh:=by simp; omega
   simp[h3,h4,e3,e4]
theorem AcA{n:Nat}(hn:n<2^64):Aii .u64 (n:Int) (9223372036854775808:Int)=Cy n:=by rw[show(9223372036854775808:Int)=((2^63:Nat):Int) from rfl,Agl hn (by decide),AgA hn];unfold Cy DR;rw[Ad]
theorem soft.EK.Bp:soft.EK.Kn:=soft.EK.D9 .nil fun x hp=>by obtain⟨n,rfl,hn⟩:=C3 (x:=x) hp;refine⟨0,soft.EK.out [.i n],[],?_,.int⟩;rw[soft.EK.ev,AcA hn];rfl
theorem soft.EX.Bp:soft.EX.Kn:=soft.EX.D9 (kc soft.Split.Bp .nil) fun x hp=>by
 obtain⟨n,rfl,hn⟩:=C3 (x:=x) hp;refine⟨0,soft.EX.out [.i n],[],?_,Wk.FQ (.cons .int (.cons .int .nil))⟩;rw[soft.EX.ev,CI hn];show _=wM (DV.CJ [.int .u64 (Cf n),.int .i64 (BR n)]);have hf:=Jm n;have hp:=Il n;unfold Cf BR JC Db Bx B6;rw[Ad];by_cases h:DH n=0
 ·simp[h]
 ·have e:((DH n:Int)==0)=wh:=by simp; omega
  have e2:Hw .u64 ((Df n:Nat):Int) (4503599627370496:Int)=((Df n+2^52:Nat):Int):=by rw[show(4503599627370496:Int)=((1*2^52:Nat):Int) from rfl,Adl (by omega) (by omega)];congr 1; omega
  rw[e,e2,Bz (by omega) (by omega)];simp[h]
end Go.Proofs.S1
end
