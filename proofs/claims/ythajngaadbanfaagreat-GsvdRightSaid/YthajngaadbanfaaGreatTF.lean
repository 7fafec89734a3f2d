/- A verified evaluator of the program's form and its use for this seat: NorL, BndL, RatV, DyQ, QuoW, SvdW, TotW, InfW, GsvW, S1Specs, S1Tt, S1EqSoft. -/
import Derived.Test.YthajngaadbanfaaGreatTE
set_option linter.unusedVariables false
set_option linter.unusedSimpArgs false
open Option renaming some->xQ,none->xY
open Bool renaming true->xZ,false->x5
open Int renaming toNat->wQ
open List renaming length->wj,getD->wt
open List renaming mem_cons->zF,mem_map->zh,range->zf
open Nat renaming mul_pos->xV,pow_succ->zH,log2_self_le->z6,zero_le->zo,zero_mul->zJ,lt_log2_self->yx,div_add_mod->zG,one_mul->zC,mul_le_mul_left->yM,zero_div->xo
open Rat renaming natCast_mul->zQ,natCast_le_natCast->y9,mul_le_mul_of_nonneg_left->zd,le_of_lt->za,mul_le_mul_of_nonneg_right->zb,intCast_neg->wS,mul_assoc->xq,mul_nonneg->zc,intCast_mul->xr,intCast_add->wT
open Int renaming natAbs_mul->yt
open Eq renaming trans->yS
noncomputable section
open Go.Proofs.Tryz
namespace Go.Ck
open Go.Den
theorem AiB{M a b:Nat}{E:Int}(h:2^a<=M)(g:(b:Int)-1074<=a+E):Cs (2^b) (-1074)<=Cs M E:=by
 by_cases k:-1074<=E
 ·have s:=(DE M (E+1074).toNat E).1;rw[show E-((E+1074).toNat:Int)=-1074 by omega] at s;rw[<- s];refine FJ (AP (m:=2^(a+(E+1074).toNat)) (Aq (by decide) (by omega)) ?_);rw[A5]; exact An _ h
 ·have s:=(DE (2^b) (-1074-E).toNat (-1074)).1;rw[show(-1074:Int)-((-1074-E).toNat:Int)=E by omega,<- A5] at s;rw[<- s];exact FJ (AP (Aq (by decide) (by omega)) h)
theorem J4{M a:Nat}{E:Int}(h:2^a<=M)(g:0<=a+E):pw 0<=Cs M E:=by
 obtain⟨t,ht⟩:∃t:Nat,t=1074:=⟨1074,rfl⟩
 rw[<- Sz (k:=0) (by decide),AS,<- ht];exact AiB h (by omega)
def Nn(a:Nat):Prop:=a<=NW
def U4(a:Nat):Prop:=pw 0<=a/\a<=NW
theorem Fx:NW=9221120237041090560:=rfl
theorem RY:pw 0=4607182418800017408:=by unfold pw; omega
theorem Xy:U4 NW:=⟨by rw[RY,Fx]; omega,AB _⟩
theorem Xz:U4 E8:=⟨by rw[RY,EB]; omega,by rw[Fx,EB]; omega⟩
theorem Jx(V:Nat)(E:Int):Nn (Cs V E):=by have:=Ok V E;rw[EB] at this;unfold Nn; rw[Fx]; omega
theorem Aay:Nn NW:=AB _
theorem Aaz:Nn E8:=Xz.2
theorem LZ{z:Nat}(h:pw 0<=z%2^63):2^52<=By z/\-52<=B7 z:=by
 have h1:1023<=DR z:=by unfold DR; rw[RY] at h; omega
 unfold By B7;rw[Ay (by omega),Ay (by omega)];omega
theorem ET{a:Nat}(h:Nn a):Cd a=x5:=by unfold Nn at h; rw[Fx] at h;exact Ag (by omega)
theorem Afk{z:Nat}:Nn (En z z).1/\(pw 0<=z%2^63->U4 (En z z).1):=by
 have hp:(Cd z !=Cd z)=x5:=by cases Cd z<;>rfl
 unfold En;by_cases k4:Bk z=4
 ·rw[Az (.inl k4)]; exact⟨Aay,fun _=>Xy⟩
 rw[Ay (by omega)];by_cases k3:Bk z=3
 ·rw[Az (.inl k3),Ay (by omega),hp,FQ]; exact⟨Aaz,fun _=>Xz⟩
 rw[Ay (by omega),hp,FQ];refine⟨Jx _ _,fun h=>⟨?_,Jx _ _⟩⟩;obtain⟨h1,h2⟩:=LZ h;refine J4 (a:=104) ?_ (by omega);rw[show(104:Nat)=52+52 from rfl,A5];exact AE h1 h1
theorem TZ{a:Nat}(h:Nn a)(k3:Bk a=3):a=E8:=by have:=XL (b:=a) (by unfold Nn at h; rw[Fx] at h; omega) k3;rw[ET h] at this;exact this.symm
theorem Aky{a:Nat}(h:Nn a):GG a=a:=by unfold GG;rw[ET h];unfold Nn at h; rw[Fx] at h;show((a%2^63:Nat):Int)=a;omega
theorem Wl{a:Nat}(h:Nn a)(g:Int):EI a g=ES a g:=by unfold EI ES; rw[ET h]; rfl
theorem U1{s t:Nat}(hs:Nn s)(ht:Nn t):Nn (Ef s t).1/\(U4 s\/U4 t->U4 (Ef s t).1):=by
 have hN:Nn NW/\(U4 s\/U4 t->U4 NW):=⟨Aay,fun _=>Xy⟩
 have hI:Nn E8/\(U4 s\/U4 t->U4 E8):=⟨Aaz,fun _=>Xz⟩
 by_cases k:Bk s=4\/Bk t=4
 ·have:(Ef s t).1=NW:=by unfold Ef; rw[Az k]
  rw[this]; exact hN
 by_cases s3:Bk s=3
 ·rw[Ahs k s3];split
  ·exact hN
  ·obtain rfl:=TZ hs s3; exact hI
 by_cases t3:Bk t=3
 ·rw[Aeq k s3 t3];obtain rfl:=TZ ht t3; exact hI
 have ek:=SK s3 (by omega) t3 (by omega) (g:=min (B7 s) (B7 t)) (Int.le_refl _);generalize hg:min (B7 s) (B7 t)=g at ek;rw[Wl hs,Wl ht] at ek;have e0:¬((ES s g:Int)+(ES t g:Int)<0):=by omega
 unfold UB at ek;rw[Ay e0] at ek
 have n2:(Ef s t).1=Cs ((ES s g:Int)+(ES t g:Int)).natAbs g:=by
  have hn:Cd (Ef s t).1=x5\/(Ef s t).1%2^63=0:=by
   unfold GG at ek;cases hh:Cd (Ef s t).1
   ·exact .inl rfl
   ·rw[hh] at ek;have ek:-(((Ef s t).1%2^63:Nat):Int)=_:=ek;exact .inr (by omega)
  have hlt:(Ef s t).1<2^64:=(QB (by unfold Nn at hs; rw[Fx] at hs; omega) (by unfold Nn at ht; rw[Fx] at ht; omega)).1
  have hnf:Cd (Ef s t).1=x5:=by
   rw[NT k s3 t3];unfold Ih;have hh:(Cd s&&Cd t)=x5:=by rw[ET hs]; rfl
   split
   ·show Cd (Co (Cd s&&Cd t) 0)=x5;rw[hh]; rfl
   ·rename_i h0;rw[hg,Wl hs,Wl ht];rw[Ag e0,FQ];exact ET (Jx _ _)
  unfold GG at ek;rw[hnf] at ek;have ek:(((Ef s t).1%2^63:Nat):Int)=_:=ek;unfold Cd at hnf;have:=of_decide_eq_false hnf;omega
 rw[n2];refine⟨Jx _ _,fun h=>⟨?_,Jx _ _⟩⟩;have ms:=J6 (b:=s) (f:=g) (by omega) (by omega);have mt:=J6 (b:=t) (f:=g) (by omega) (by omega);rcases h with h | h
 ·have:=FJ (V:=ES s g) (W:=((ES s g:Int)+(ES t g:Int)).natAbs) (E:=g) (by omega);have h1:=h.1;unfold Nn at hs; rw[Fx] at hs;rw[ms] at this; omega
 ·have:=FJ (V:=ES t g) (W:=((ES s g:Int)+(ES t g:Int)).natAbs) (E:=g) (by omega);have h1:=h.1;unfold Nn at ht; rw[Fx] at ht;rw[mt] at this; omega
theorem Ng(k:Int):∀(l:Bf) (s:Nat),Nn s->∃t:Nat,FX k s l=t/\Nn t/\((U4 s\/∃x∈l,pw 0<=(BX x k).toNat%2^63)->U4 t)
 | [],s,h=>⟨s,rfl,h,fun g=>by
  rcases g with g | ⟨x,hx,_⟩
  ·exact g
  ·cases hx⟩
 | x::l,s,h=>by
   obtain⟨q1,q2⟩:=Afk (z:=(BX x k).toNat);obtain⟨a1,a2⟩:=U1 h q1;obtain⟨t,e,t1,t2⟩:=Ng k l _ a1;refine⟨t,?_,t1,fun g=>t2 ?_⟩
   ·unfold FX;rw[<- e];unfold DM C0;rw[Ad,Ad]
   ·rcases g with g | ⟨y,hy,g⟩
    ·exact .inl (a2 (.inl g))
    ·rcases zF.1 hy with rfl | hy
     ·exact .inl (a2 (.inr (q2 g)))
     ·exact .inr ⟨y,hy,g⟩
theorem AiE{n:Nat}(h:n≠0):1<=IY n:=Xd (by omega)
theorem Ts{b:Nat}(h:U4 b):U4 (E4 b).1:=by
 have hn:=ET h.2;by_cases k4:Bk b=4
 ·rw[Tb k4]; exact Xy
 by_cases k0:Bk b=0\/b=E8
 ·rw[Jg k4 k0]; exact h
 rw[Nh k4 k0 hn];refine⟨?_,Jx _ _⟩;have k3:Bk b≠3:=fun e=>k0 (.inr (TZ h.2 e))
 have hm:b%2^63=b:=by have:=h.2; rw[Fx] at this; omega
 obtain⟨p1,p2⟩:=LZ (z:=b) (by rw[hm]; exact h.1);have hK:=(PU (b:=b) (by omega)).2;generalize hr:(B7 b-(EJ b:Int)) / 2-1=r at hK ⊢;have hst:2*IY (By b*2^EJ b)<=Ev (By b*2^EJ b):=by unfold Ev; omega
 by_cases hr0:0<=r
 ·have:=AiE (n:=By b*2^EJ b) (by have:=xV (show 0<By b by omega) (Cv (EJ b)); omega);exact J4 (a:=0) (by omega) (by omega)
 ·have h2:2^((-1-r).toNat+(-1-r).toNat)<=By b*2^EJ b:=by refine AP (m:=2^(52+EJ b)) (Aq (by decide) (by omega)) ?_;rw[A5];exact An _ p1
  have h3:=Qs h2;refine J4 (a:=(-1-r).toNat+1) ?_ (by omega);rw[zH]; omega
theorem Fq{b:Nat}(h:Bk b=0):b%2^63=0:=by
 unfold Bk DR Dn at h;split at h
 ·split at h<;>omega
 ·split at h
  ·omega
  ·split at h<;>omega
theorem Lr{b:Nat}(k3:Bk b≠3)(k4:Bk b≠4)(k0:Bk b≠0):E2 b=((By b).log2:Int)+B7 b/\-1074<=E2 b:=by
 have:=CO b;have hf:Hg b=xZ:=by rw[Jn]; simp[k3,k4]
 unfold E2;rw[Az ⟨hf,k0⟩];exact⟨rfl,by omega⟩
theorem Mw(b:Nat):E2 b=E2 (b%2^63):=by
 have h1:DR (b%2^63)=DR b:=by unfold DR; omega
 have h2:Dn (b%2^63)=Dn b:=by unfold Dn; omega
 unfold E2 Hg Bk By B7;rw[h1,h2]
theorem Pf{b:Nat}(k3:Bk b≠3)(k4:Bk b≠4)(k0:Bk b≠0):pw 0<=(Cl b (-E2 b)).1%2^63:=by
 obtain⟨e,_⟩:=Lr k3 k4 k0;rw[GR k4 (by omega)];have m0:By b≠0:=fun h=>k0 ((Da k3 k4).1 h)
 have:=J4 (M:=By b) (a:=(By b).log2) (E:=B7 b+-E2 b) (z6 m0) (by omega);have hl:=Jv (By b) (B7 b+-E2 b);have e2:Co (Cd b) (Cs (By b) (B7 b+-E2 b))%2^63=Cs (By b) (B7 b+-E2 b):=by unfold Co; split<;>omega
 show pw 0<=Co (Cd b) (Cs (By b) (B7 b+-E2 b))%2^63;rw[e2]; exact this
theorem Zw{x:Int}{l:Bf}{m:Nat}(k:Bk x.toNat=4):IM (x::l) m=NW:=Az k
theorem Uv{x:Int}{l:Bf}{m:Nat}(k:Bk x.toNat≠4):IM (x::l) m=IM l (max m (Ea x.toNat)):=Ay k
theorem Q3:∀(l:Bf) (m:Nat),IM l m=NW\/IM l m=m\/∃x∈l,Bk x.toNat≠4/\IM l m=Ea x.toNat
 | [],_=>.inr (.inl rfl)
 | x::l,m=>by
   by_cases k4:Bk x.toNat=4
   ·exact .inl (Zw k4)
   rw[Uv k4];rcases Q3 l (max m (Ea x.toNat)) with g | g | ⟨y,hy,g,g'⟩
   ·exact .inl g
   ·rw[g];rcases Nat.le_total m (Ea x.toNat) with k | k
    ·exact .inr (.inr ⟨x,AY,k4,Nat.max_eq_right k⟩)
    ·exact .inr (.inl (Nat.max_eq_left k))
   ·exact .inr (.inr ⟨y,AN _ hy,g,g'⟩)
theorem Abi:∀(l:Bf) (m:Nat),IM l m=NW\/(m<=IM l m/\∀x∈l,Ea x.toNat<=IM l m)
 | [],_=>.inr ⟨AB _,fun _ h=>by cases h⟩
 | x::l,m=>by
   by_cases k4:Bk x.toNat=4
   ·exact .inl (Zw k4)
   rw[Uv k4];rcases Abi l (max m (Ea x.toNat)) with g | ⟨g1,g2⟩
   ·exact .inl g
   ·refine .inr ⟨by omega,fun y hy=>?_⟩;rcases zF.1 hy with rfl | hy
    ·omega
    ·exact g2 y hy
theorem Rk(b:Nat):Bk (Ea b)=Bk b:=by
 have h1:DR (Ea b)=DR b:=by unfold DR Ea; omega
 have h2:Dn (Ea b)=Dn b:=by unfold Dn Ea; omega
 unfold Bk; rw[h1,h2]
theorem abs_zero{b:Nat}(h:Ea b=0):Bk b=0:=by rw[<- Rk,h]; decide
theorem Ahi{y:Bf}(h:∃x∈y,BH x≠0):IM y 0=NW\/∃z∈y,Bk z.toNat≠4/\Bk z.toNat≠0/\IM y 0=Ea z.toNat:=by
 obtain⟨x,hx,hk⟩:=h;rcases Abi y 0 with g | ⟨_,g⟩
 ·exact .inl g
 have g:=g x hx;have x0:Ea x.toNat≠0:=fun e=>hk (by unfold BH; rw[abs_zero e]; rfl)
 rcases Q3 y 0 with e | e | ⟨z,hz,k,e⟩
 ·exact .inl e
 ·omega
 ·refine .inr ⟨z,hz,k,fun k0=>?_,e⟩;have:=Fq k0;unfold Ea at e g x0; omega
theorem AaI(b:Nat):Bk (Ec b)=Bk b:=by
 have h1:DR (Ec b)=DR b:=by unfold DR Ec; split<;>omega
 have h2:Dn (Ec b)=Dn b:=by unfold Dn Ec; split<;>omega
 unfold Bk; rw[h1,h2]
open Go.Den
theorem WE{V u k:Nat}{E:Int}(hk:k<=1023)(h:V<=2^u)(g:(u:Int)+E<=k):Cs V E<=pw k:=by
 refine AP (FJ h) ?_;obtain⟨t,ht⟩:∃t:Nat,t=1074:=⟨1074,rfl⟩
 rw[<- Sz hk,<- ht];by_cases hE:-1074<=E
 ·have s:=(DE (2^u) (E+1074).toNat E).1;rw[show E-((E+1074).toNat:Int)=-1074 by omega,<- A5] at s;rw[<- s];exact FJ (Aq (by decide) (by omega))
 ·have s:=(DE (2^(k+t)) (-1074-E).toNat (-1074)).1;rw[show(-1074:Int)-((-1074-E).toNat:Int)=E by omega,<- A5] at s;rw[<- s];exact FJ (Aq (by decide) (by omega))
theorem Bd.S4{k V u:Nat}{E:Int}(s:Bool)(hk:k<=1023)(h:V<=2^u)(g:(u:Int)+E<=k):Bd k (Co s (Go.Ck.Cs V E)):=Bd.Cs s hk (WE hk h g)
theorem Bd.log{k a:Nat}(h:Bd k a)(h0:By a≠0):((By a).log2:Int)+B7 a<=k:=by
 have pa:=CO a;have hm:=h.2.2;obtain⟨t,ht⟩:∃t:Nat,t=1074:=⟨1074,rfl⟩
 have e:Ij a=By a*2^(B7 a+1074).toNat:=by unfold Ij ES; congr 2
 rw[e,<- ht] at hm;have h1:=An (2^(B7 a+1074).toNat) (z6 h0);rw[<- A5] at h1;have:=(Nat.pow_le_pow_iff_right (a:=2) (by decide)).1 (AP h1 hm);omega
theorem Bd.part{k a:Nat}(h:Bd k a)(h0:By a≠0):By a<=2^((k:Int)-B7 a).toNat/\B7 a<=k:=by
 have pa:=CO a;have hm:=h.2.2;have hl:=h.log h0;obtain⟨t,ht⟩:∃t:Nat,t=1074:=⟨1074,rfl⟩
 have e:Ij a=By a*2^(B7 a+1074).toNat:=by unfold Ij ES; congr 2
 refine⟨?_,by omega⟩;rw[e,<- ht,show k+t=((k:Int)-B7 a).toNat+(B7 a+1074).toNat by omega,A5] at hm;exact Nat.le_of_mul_le_mul_right hm (Cv _)
theorem Bd.scale{k j a:Nat}{n:Int}(hj:j<=1023)(h:Bd k a)(g:(k:Int)+n<=j):Bd j (Cl a n).1:=by
 by_cases k0:Bk a=0
 ·unfold Cl;rw[Ay h.2.1,Az (.inr k0)];refine .Kc hj h.2.1 ?_;rw[Fq k0]; exact zo _
 have h0:By a≠0:=fun e=>k0 ((Da h.1 h.2.1).1 e)
 rw[GR h.2.1 (by have:=h.1; omega)];obtain⟨p1,p2⟩:=h.part h0;exact .S4 _ hj p1 (by omega)
theorem AgH{a b:Nat}(a3:Bk a≠3)(a4:Bk a≠4)(b3:Bk b≠3)(b4:Bk b≠4)(h:Ea a<=Ea b)(h0:By a≠0):((By a).log2:Int)+B7 a<=((By b).log2:Int)+B7 b:=by
 have pa:=CO a;have pb:=CO b
 have hm:ES a (-1074)<=ES b (-1074):=by
  rcases AF (ES b (-1074)) (ES a (-1074)) with g | g
  ·have:=(TE (f:=-1074) b4 a4 pb.1 pa.1).1 g;unfold Ea at h; omega
  ·exact g
 unfold ES at hm
 have hb0:By b≠0:=fun e=>by rw[e,zJ] at hm;have:=xV (show 0<By a by omega) (Cv (B7 a - -1074).toNat);omega
 have h1:=An (2^(B7 a - -1074).toNat) (z6 h0);have h2:=Nat.mul_lt_mul_of_pos_right (yx (n:=By b)) (Cv (B7 b - -1074).toNat);rw[<- A5] at h1 h2;have:=(Nat.pow_lt_pow_iff_right (a:=2) (by decide)).1 (AK (AP h1 hm) h2);omega
theorem Bd.down{a b:Nat}(a3:Bk a≠3)(a4:Bk a≠4)(b3:Bk b≠3)(b4:Bk b≠4)(h:Ea a<=Ea b):Bd 1 (Cl a (-E2 b)).1:=by
 by_cases k0:Bk a=0
 ·unfold Cl;rw[Ay a4,Az (.inr k0)];refine .Kc (by decide) a4 ?_;rw[Fq k0]; exact zo _
 have h0:By a≠0:=fun e=>k0 ((Da a3 a4).1 e)
 have hb0:Bk b≠0:=fun e=>by have:=Fq e;have hh:Bk a=0:=abs_zero (by unfold Ea at h ⊢; omega);exact k0 hh
 have hl:=AgH a3 a4 b3 b4 h h0;obtain⟨ee,_⟩:=Lr b3 b4 hb0;rw[GR a4 (by omega)];exact .S4 _ (by decide) (Nat.le_of_lt (yx (n:=By a))) (by omega)
structure Lo(t:Nat)(a:Nat):Prop where
 k3:Bk a≠3
 k4:Bk a≠4
 m0:By a≠0
 log:-(t:Int)<=((By a).log2:Int)+B7 a
theorem Lo.k0{t a:Nat}(h:Lo t a):Bk a≠0:=fun e=>h.m0 ((Da h.k3 h.k4).2 e)
theorem Lo.Po{a:Nat}(k3:Bk a≠3)(k4:Bk a≠4)(h:pw 0<=a%2^63):Lo 0 a:=by
 obtain⟨h1,h2⟩:=LZ h;have h0:By a≠0:=by omega
 refine⟨k3,k4,h0,?_⟩;have:=(Nat.le_log2 h0).2 h1;omega
theorem Afd{X Y K u:Nat}(hY:0<Y)(h:X*2^K<=Y*2^u):EW X Y K<=2^(u+1):=by
 unfold EW;have hd:=zG (X*2^K) Y;have hq:X*2^K / Y<=2^u:=Nat.div_le_of_le_mul h;rw[zH];split
 ·omega
 ·rename_i hr
  have:X*2^K / Y≠2^u:=fun e=>by rw[e] at hd;omega
  omega
theorem Bd.div{j t a b:Nat}(hk:j+t<=1023)(ha:Bd j a)(hb:Lo t b):Bd (j+t) (KS a b).1:=by
 have b0:=hb.k0;have a3:=ha.1;have a4:=ha.2.1;have b3:=hb.k3;have b4:=hb.k4;unfold KS;rw[Ay (by omega),Ay (by omega),Ay a3];by_cases k0:Bk a=0
 ·rw[Az (.inr k0)]; exact .zero _ _
 rw[Ay (by omega),Ay b0];have m0:By a≠0:=fun e=>k0 ((Da a3 a4).1 e)
 obtain⟨p1,p2⟩:=ha.part m0;have hl:=hb.log;have l52:=YA hb.m0;obtain⟨u,hu⟩:∃u:Nat,(u:Int)=(j:Int)+t-B7 a+B7 b+120:=⟨((j:Int)+t-B7 a+B7 b+120).toNat,by omega⟩
 refine .S4 _ hk (Afd (u:=u) (by have:=hb.m0; omega) ?_) (by omega);refine AP (An _ p1) (AP ?_ (An _ (z6 hb.m0)));rw[<- A5,<- A5];exact Aq (by decide) (by omega)
theorem AcR{n u:Nat}(h:n<=2^(u+u)):Ev n<=2^(u+1):=by
 obtain⟨h1,_⟩:=J8 n;rw[A5] at h
 have hq:IY n<=2^u:=by
  rcases AF (2^u) (IY n) with g | g
  ·have:=Nat.mul_lt_mul'' g g;omega
  ·exact g
 unfold Ev;rw[zH];split
 ·omega
 ·rename_i hr
  have:IY n≠2^u:=fun e=>by rw[e] at h1 hr;omega
  omega
theorem Bd.root{j b:Nat}(hj:j<=1000)(hb:Bd (j+j) b)(hn:Cd b=x5):Bd j (E4 b).1:=by
 by_cases k0:Bk b=0
 ·rw[Jg hb.2.1 (.inl k0)];refine .Kc (by omega) hb.2.1 ?_;rw[Fq k0]; exact zo _
 have m0:By b≠0:=fun e=>k0 ((Da hb.1 hb.2.1).1 e)
 have hi:b≠E8:=fun e=>hb.1 (by rw[e]; exact YO)
 rw[Nh hb.2.1 (fun h=>h.elim k0 hi) hn];obtain⟨p1,p2⟩:=hb.part m0;obtain⟨r1,r2⟩:=PU m0;generalize hr:(B7 b-(EJ b:Int)) / 2-1=r at r2 ⊢;have hrk:128<=EJ b:=by unfold EJ; omega
 obtain⟨u,hu⟩:∃u:Nat,(u:Int)=(j:Int)-r-1:=⟨((j:Int)-r-1).toNat,by omega⟩
 have h2:By b*2^EJ b<=2^(u+u):=by refine AP (An _ p1) ?_;rw[<- A5];exact Aq (by decide) (by omega)
 have:=Bd.S4 (k:=j) (E:=r) x5 (by omega) (AcR h2) (by omega);rw[FQ] at this;exact this
def Bm(m k:Nat)(a:Nat):Prop:=Bk a≠3/\Bk a≠4/\Ij a<=m*2^(k+1074)
theorem Bd.bm{k a:Nat}(h:Bd k a):Bm 1 k a:=⟨h.1,h.2.1,by rw[zC]; exact h.2.2⟩
theorem Bm.bd{m k a j:Nat}(h:Bm m k a)(hm:m<=2^j):Bd (k+j) a:=by
 refine⟨h.1,h.2.1,AP h.2.2 ?_⟩;obtain⟨t,ht⟩:∃t:Nat,t=1074:=⟨1074,rfl⟩
 rw[<- ht,show k+j+t=j+(k+t) by omega,A5 2 j];exact An _ hm
theorem Ag8{m k:Nat}(h0:m≠0)(hm:m<=1024)(hk:k<=1000):∃z:Nat,z=Cs (m*2^(k+1074)) (-1074)/\z%2^63=z/\Bk z≠4/\Ij z=m*2^(k+1074):=by
 obtain⟨t,ht⟩:∃t:Nat,t=1074:=⟨1074,rfl⟩
 have s:=(DE m (k+t) k).1;rw[show(k:Int)-((k+t:Nat):Int)=-1074 by omega] at s;have hu:Cs m k<=pw (k+10):=WE (by omega) (u:=10) (by omega) (by omega);have hi:Cs m k<E8:=AK hu (Nw (by omega)).2.2.2.2;obtain⟨_,d,e1,e2⟩:=AaR x5 h0 (YK (V:=m) (E:=(k:Int)) (by omega) (by omega)) hi;rw[FQ] at e1 e2;have hl:=Jv m k;have pe:=CO (Cs m k);have k4:=Gy x5 m k;rw[FQ] at k4;refine⟨Cs m k,?_,Ao hl,k4,?_⟩
 ·rw[<- ht]; exact s.symm
 ·unfold Ij ES;rw[e1,e2,A7,<- A5];congr 2;omega
theorem Bm.Kc{m k a z:Nat}(hz:Ij z=m*2^(k+1074))(z4:Bk z≠4)(zi:z%2^63<E8)(a4:Bk a≠4)(h:a%2^63<=z%2^63):Bm m k a:=by
 have a3:Bk a≠3:=fun e=>by have:=Ox e; omega
 refine⟨a3,a4,?_⟩;rw[<- hz];have pa:=CO a;have pz:=CO z;rcases AF (Ij z) (Ij a) with g | g
 ·have:=(TE (f:=-1074) z4 a4 pz.1 pa.1).1 g;omega
 ·exact g
theorem Bm.add{m n k a b:Nat}(h0:m+n≠0)(hmn:m+n<=1024)(hk:k<=1000)(ha:Bm m k a)(hb:Bm n k b):Bm (m+n) k (Ef a b).1:=by
 obtain⟨a3,a4,am⟩:=ha;obtain⟨b3,b4,bm⟩:=hb;have pa:=CO a;have pb:=CO b;have ek:=SK a3 a4 b3 b4 (g:=-1074) (by omega)
 have e4:Bk (Ef a b).1≠4:=by
  rw[NT (by omega) a3 b3];unfold Ih;split
  ·have:Bk (Co (Cd a&&Cd b) 0)=0:=by cases (Cd a&&Cd b)<;>decide
   show Bk (Co (Cd a&&Cd b) 0)≠4;omega
  ·exact Gy _ _ _
 obtain⟨z,ez,z63,z4,zm⟩:=Ag8 h0 hmn hk
 have zi:z%2^63<E8:=by
  have hu:z<=pw (k+10):=by rw[ez];refine WE (u:=k+1074+10) (by omega) ?_ (by omega);rw[A5 2 (k+1074),A0];exact yM _ hmn
  have:=(Nw (k:=k+10) (by omega)).2.2.2.2;omega
 refine .Kc zm z4 zi e4 ?_
 have hs:(EI a (-1074)+EI b (-1074)).natAbs<=(m+n)*2^(k+1074):=by have h1:=KC a;have h2:=KC b;have:(m+n)*2^(k+1074)=m*2^(k+1074)+n*2^(k+1074):=AM _ _ _;omega
 have hr:=FJ (E:=-1074) hs;rw[<- ez] at hr;have hn:(GG (Ef a b).1).natAbs=(Ef a b).1%2^63:=by unfold GG; rw[Sw]
 rw[<- hn,ek,z63];unfold UB;split<;>omega
def Bl(k:Nat)(l:Bf):Prop:=∀x∈l,Bd k x.toNat
theorem Bl.mono{j k:Nat}{l:Bf}(h:Bl j l)(g:j<=k):Bl k l:=fun x hx=>(h x hx).mono g
theorem Ajd{k:Nat}{x:Int}{l:Bf}(h1:Bd k x.toNat)(h2:Bl k l):Bl k (x::l):=fun y hy=>by
 rcases zF.1 hy with rfl | hy
 ·exact h1
 ·exact h2 y hy
theorem Abg{α:Type}{k:Nat}{l:List α}{f:α->Int}(h:∀j,Bd k (f j).toNat):Bl k (l.map f):=fun x hx=>by obtain⟨j,_,rfl⟩:=zh.1 hx;exact h j
theorem NO{k:Nat}{l:Bf}(h:Bl k l)(j:Nat):Bd k (l.getD j 0).toNat:=by
 by_cases hj:j<l.length
 ·rw[Al,As hj]; exact h _ (List.getElem_mem hj)
 ·rw[Al,Bb (by omega)]; exact Bd.zero x5 k
theorem Xw{k r c:Nat}{f:Nat->Nat->Int}(h:∀i j,Bd k (f i j).toNat):Bl k (BZ r c f):=fun x hx=>by unfold BZ at hx;obtain⟨j,_,rfl⟩:=zh.1 hx;exact h _ _
theorem Acw{j k:Nat}(hjk:j+k<=1000):∀(x y:Bf) (s t:Nat),Bl j x->Bl k y->Bm t (j+k) s->0<t->t+x.length<=1024->Bm (t+x.length) (j+k) (Q0 s x y)
 | [],_,s,t,_,_,hs,_,_=>hs
 | a::x,[],s,t,_,_,hs,_,_=>⟨hs.1,hs.2.1,AP hs.2.2 (An _ (by omega))⟩
 | a::x,b::y,s,t,hx,hy,hs,h0,ht=>by simp only[List.length_cons] at ht ⊢;have h1:Bm (t+1) (j+k) (Ef s (En a.toNat b.toNat).1).1:=Bm.add (by omega) (by omega) hjk hs (Bd.mul (by omega) (hx a AY) (hy b AY)).bm;have:=Acw hjk x y _ (t+1) (fun z hz=>hx z (AN _ hz)) (fun z hz=>hy z (AN _ hz)) h1 (by omega) (by omega);rw[show t+(x.length+1)=t+1+x.length by omega];exact this
theorem Ls{j k:Nat}{x y:Bf}(hjk:j+k<=1000)(hx:Bl j x)(hy:Bl k y)(hl:x.length<=7):Bd (j+k+3) (Fk x y).toNat:=by have z:Bm 1 (j+k) 0:=(Bd.zero x5 (j+k)).bm;have:=Acw hjk x y 0 1 hx hy z (by decide) (by omega);show Bd (j+k+3) (wQ ((Q0 0 x y:Nat):Int));rw[Ad];exact this.bd (by omega)
def tw(e:Int):Rat:=(2:Rat)^e
theorem Nc:(2:Rat)≠0:=by decide
theorem Eu(a b:Int):tw (a+b)=tw a*tw b:=Rat.zpow_add Nc a b
theorem KW:tw 0=1:=Rat.zpow_zero 2
theorem DP(e:Int):0<tw e:=Rat.zpow_pos (by decide)
theorem H8(n:Nat):tw (n:Int)=((2^n:Nat):Rat):=by
 unfold tw;rw[Rat.zpow_natCast]
 induction n with
 | zero=>rfl
 | succ n ih=>rw[Rat.pow_succ,ih,zH]; exact(zQ _ _).symm
theorem AcB(n:Nat):1<=tw (n:Int):=by rw[H8];have:=Cv n;exact y9.2 (show 1<=2^n from this)
theorem UT{a b:Int}(h:a<=b):tw a<=tw b:=by
 have e:b=a+((b-a).toNat:Int):=by omega
 rw[e,Eu];have h1:=AcB (b-a).toNat;have h2:=DP a;have:=zd h1 (za h2);rw[Rat.mul_one] at this;exact this
theorem Sl(e:Int):tw (e+1)=2*tw e:=by
 have:tw 1=2:=by have:=H8 1;exact this
 rw[Eu,this]; grind
theorem Al1(e:Int):tw e≠0:=fun h=>by have:=DP e; grind
theorem Nd(V k:Nat)(E:Int):((V*2^k:Nat):Rat)*tw (E-k)=(V:Rat)*tw E:=by
 have e:tw E=tw (E-k)*tw (k:Int):=by rw[<- Eu]; congr 1; omega
 rw[e,zQ,<- H8];grind
def Nr(x y d:Rat):Prop:=x<=y+d/\y<=x+d
theorem Nr.mono{x y d e:Rat}(h:Nr x y d)(g:d<=e):Nr x y e:=by unfold Nr at *; grind
theorem Nr.symm{x y d:Rat}(h:Nr x y d):Nr y x d:=⟨h.2,h.1⟩
theorem Nr.trans{x y z d e:Rat}(h:Nr x y d)(g:Nr y z e):Nr x z (d+e):=by unfold Nr at *; grind
theorem Af4(V k:Nat):2*(HT V k*2^k)<=2*V+2^k/\2*V<=2*(HT V k*2^k)+2^k:=by
 have hd:=zG V (2^k);have hm:=Nat.mod_lt V (Cv k);unfold HT;rw[AM,A0 (V / 2^k)];split
 ·rw[zC]; omega
 ·rw[zJ]; omega
theorem Adj(V k:Nat):Nr ((HT V k*2^k:Nat):Rat) (V:Rat) (tw ((k:Int)-1)):=by
 obtain⟨h1,h2⟩:=Af4 V k
 have e:((2^k:Nat):Rat)=2*tw ((k:Int)-1):=by rw[<- H8,<- Sl]; congr 1; omega
 have h1:((2*(HT V k*2^k):Nat):Rat)<=((2*V+2^k:Nat):Rat):=y9.2 h1;have h2:((2*V:Nat):Rat)<=((2*(HT V k*2^k)+2^k:Nat):Rat):=y9.2 h2;rw[Rat.natCast_add,zQ 2,zQ 2,e] at h1 h2;have t:((2:Nat):Rat)=2:=rfl;rw[t] at h1 h2;unfold Nr;grind
theorem Nr.scale{x y d c:Rat}(h:Nr x y d)(hc:0<=c):Nr (x*c) (y*c) (d*c):=by have h1:=zb h.1 hc;have h2:=zb h.2 hc;unfold Nr;grind
theorem AdJ(M:Nat)(E:Int):Nr ((kept M E:Rat)*tw (Cp M E)) ((M:Rat)*tw E) (if Cp M E<=E then 0 else tw (Cp M E-1)):=by
 unfold kept HS;generalize Cp M E=L;by_cases h:L<=E
 ·rw[Az h];have e1:(L-E).toNat=0:=by omega
  have e2:tw L=tw (E-((-(L-E)).toNat:Int)):=by congr 1; omega
  rw[e1,Ko,e2,Nd];unfold Nr; grind
 ·rw[Ay h];have e1:(-(L-E)).toNat=0:=by omega
  rw[e1,AG,AR];have h1:=(Adj M (L-E).toNat).scale (c:=tw E) (za (DP E))
  have e2:((HT M (L-E).toNat*2^(L-E).toNat:Nat):Rat)*tw E=(HT M (L-E).toNat:Rat)*tw L:=by have:=Nd (HT M (L-E).toNat) (L-E).toNat L;rw[show L-((L-E).toNat:Int)=E by omega] at this;exact this
  have e3:tw (((L-E).toNat:Int)-1)*tw E=tw (L-1):=by rw[<- Eu]; congr 1; omega
  rw[e2,e3] at h1;exact h1
def Lz(s:Bool):Rat:=if s then -1 else 1
def vR(a:Nat):Rat:=Lz (Cd a)*((By a:Nat):Rat)*tw (B7 a)
theorem WC(s:Bool)(m:Nat):((GI s m:Int):Rat)=Lz s*(m:Rat):=by
 unfold GI Lz;cases s
 ·simp; rfl
 ·show(((-(m:Int)):Int):Rat)=-1*(m:Rat)
  rw[wS];have e:((m:Int):Rat)=(m:Rat):=rfl;rw[e]; grind
theorem AbK(s t:Bool):Lz (s !=t)=Lz s*Lz t:=by cases s<;>cases t<;>decide +kernel
theorem XO{a:Nat}{g:Int}(h:g<=B7 a):((EI a g:Int):Rat)*tw g=vR a:=by unfold EI vR;rw[WC];have:=Nd (By a) (B7 a-g).toNat (B7 a);rw[show B7 a-((B7 a-g).toNat:Int)=g by omega] at this;rw[xq,this,xq]
theorem Aft(s:Bool){V:Nat}{E:Int}(hi:Cs V E<E8):vR (Co s (Cs V E))=Lz s*((kept V E:Rat)*tw (Cp V E)):=by
 by_cases h0:V=0
 ·subst h0;have e1:Cs 0 E=0:=by unfold Cs; rw[Az rfl]
  have e2:kept 0 E=0:=by unfold kept HS HT;rw[zJ,xo,Nat.zero_mod];have:=Cv (Cp 0 E-E).toNat;rw[Ay (by omega)]
  have e3:By (Co s 0)=0:=by cases s<;>decide
  rw[e1,e2];unfold vR;rw[e3];have z:((0:Nat):Rat)=0:=rfl;rw[z];grind
 have er:Cs V E=(Cp V E+1074).toNat*2^52+kept V E:=by unfold Cs at hi ⊢;rw[Ay h0] at hi ⊢;omega
 have hl:-1074<=Cp V E:=by unfold Cp; omega
 have hk:=Ach (V:=V) (E:=E);have hlt:=Jv V E;rw[er] at hi hlt;rw[er];by_cases hq:kept V E<2^53
 ·have hc:2^52<=kept V E\/Cp V E=-1074:=by
   by_cases h:Cp V E=E+V.log2-52
   ·exact .inl (Xc h0 h)
   ·refine .inr ?_;unfold Cp at h ⊢; omega
  obtain⟨p1,p2⟩:=OW s hq hl hc hi;unfold vR;rw[p1,p2,sign_neg s hlt,xq]
 ·have hq:kept V E=2^53:=by omega
  rw[hq] at hi hlt ⊢;have e:(Cp V E+1074).toNat*2^52+2^53=(Cp V E+1+1074).toNat*2^52+2^52:=by omega
  rw[e] at hi hlt ⊢;obtain⟨p1,p2⟩:=OW s (q:=2^52) (L:=Cp V E+1) (by decide) (by omega) (.inl (AB _)) hi;unfold vR;rw[p1,p2,sign_neg s hlt,xq,Sl];have t:((2^53:Nat):Rat)=2*((2^52:Nat):Rat):=by decide +kernel
  rw[t];grind
def uR:Rat:=tw (-53)
def Ci:Rat:=tw (-1075)
theorem Dc:0<uR:=DP _
theorem Ee:0<Ci:=DP _
theorem Afn{s:Bool}{x y d:Rat}(h:Nr x y d):Nr (Lz s*x) (Lz s*y) d:=by
 unfold Lz;unfold Nr at *
 cases s<;>simp<;>grind
theorem Agd{V:Nat}(h:V≠0):tw (V.log2:Int)<=(V:Rat):=by rw[H8];exact y9.2 (z6 h)
theorem H9(V:Nat):(0:Rat)<=(V:Rat):=by have:((0:Nat):Rat)<=(V:Rat):=y9.2 (zo V);exact this
theorem L8(V:Nat)(E:Int):0<=(V:Rat)*tw E:=zc (H9 V) (za (DP E))
theorem AiG{V:Nat}{E:Int}(h0:V≠0):(if Cp V E<=E then 0 else tw (Cp V E-1))<=uR*((V:Rat)*tw E)+Ci/\(-1074<=E->(if Cp V E<=E then 0 else tw (Cp V E-1))<=uR*((V:Rat)*tw E))/\(V<2^53->(if Cp V E<=E then 0 else tw (Cp V E-1))<=Ci):=by
 have hn:=L8 V E;have hu:=zc (za Dc) hn;have he:=Ee;by_cases h:Cp V E<=E
 ·rw[Az h];exact⟨by grind,fun _=>hu,fun _=>by grind⟩
 rw[Ay h];by_cases h1:Cp V E=E+V.log2-52
 ·have e:tw (Cp V E-1)=uR*(tw (V.log2:Int)*tw E):=by unfold uR;rw[h1,<- Eu,<- Eu]; congr 1; omega
  have hl:=zb (Agd h0) (za (DP E));have hl:=zd hl (za Dc);rw[e];refine⟨by grind,fun _=>hl,fun hv=>?_⟩;have:=AdE hv;omega
 ·have e:Cp V E=-1074:=by unfold Cp at h1 ⊢; omega
  have e2:tw (Cp V E-1)=Ci:=by unfold Ci; rw[e]; rfl
  rw[e2];exact⟨by grind,fun _=>by omega,fun _=>Rat.le_refl⟩
theorem Nt(s:Bool){V:Nat}{E:Int}(hi:Cs V E<E8):Nr (vR (Co s (Cs V E))) (Lz s*((V:Rat)*tw E)) (uR*((V:Rat)*tw E)+Ci)/\(-1074<=E->Nr (vR (Co s (Cs V E))) (Lz s*((V:Rat)*tw E)) (uR*((V:Rat)*tw E)))/\(V<2^53->Nr (vR (Co s (Cs V E))) (Lz s*((V:Rat)*tw E)) Ci):=by
 rw[Aft s hi];by_cases h0:V=0
 ·subst h0
  have e2:kept 0 E=0:=by unfold kept HS HT;rw[zJ,xo,Nat.zero_mod];have:=Cv (Cp 0 E-E).toNat;rw[Ay (by omega)]
  rw[e2];have z:((0:Nat):Rat)=0:=rfl;have he:=Ee;rw[z];unfold Nr;refine⟨by grind,fun _=>by grind,fun _=>by grind⟩
 have h:=Afn (s:=s) (AdJ V E);obtain⟨g1,g2,g3⟩:=AiG (E:=E) h0;exact⟨h.mono g1,fun k=>h.mono (g2 k),fun k=>h.mono (g3 k)⟩
def Ab(x B:Rat):Prop:=-B<=x/\x<=B
theorem Ab.nn{x B:Rat}(h:Ab x B):0<=B:=by unfold Ab at h; grind
theorem Aai{s:Bool}{x B:Rat}(hx:0<=x):Ab (Lz s*x) B↔x<=B:=by unfold Ab Lz;cases s<;>simp<;>grind
theorem AiP{v e w f:Int}(h:(v:Rat)*tw e=(w:Rat)*tw f):mD v=mD w/\eD v e=eD w f:=by
 have key:∀{v e w f:Int},e<=f->(v:Rat)*tw e=(w:Rat)*tw f->mD v=mD w/\eD v e=eD w f:=by
  intro v e w f hef h
  have e1:tw f=((2^(f-e).toNat:Nat):Rat)*tw e:=by rw[<- H8,<- Eu]; congr 1; omega
  have h2:((v:Rat)-(w:Rat)*((2^(f-e).toNat:Nat):Rat))*tw e=0:=by rw[e1] at h; grind
  have h3:(v:Rat)=(w:Rat)*((2^(f-e).toNat:Nat):Rat):=by
   rcases Rat.mul_eq_zero.1 h2 with k | k
   ·grind
   ·exact absurd k (Al1 e)
  have h4:((v:Int):Rat)=((w*((2^(f-e).toNat:Nat):Int):Int):Rat):=by rw[xr]; exact h3
  have h5:v=w*((2^(f-e).toNat:Nat):Int):=Rat.intCast_inj.1 h4;refine⟨by rw[h5,Aku],?_⟩;have h6:=AkH w f (f-e).toNat;rw[<- h5,show f-((f-e).toNat:Int)=e by omega] at h6;exact h6
 rcases Int.le_total e f with k | k
 ·exact key k h
 ·obtain⟨h1,h2⟩:=key k h.symm;exact⟨h1.symm,h2.symm⟩
open Classical in
def dyP(x:Rat):Int × Int:=if h:∃p:Int × Int,x=(p.1:Rat)*tw p.2 then Classical.choose h else (0,0)
def mQ(x:Rat):Int:=mD (dyP x).1
def eQ(x:Rat):Int:=eD (dyP x).1 (dyP x).2
theorem V6{x:Rat}{v e:Int}(h:x=(v:Rat)*tw e):mQ x=mD v/\eQ x=eD v e:=by
 have hx:∃p:Int × Int,x=(p.1:Rat)*tw p.2:=⟨(v,e),h⟩
 have e1:dyP x=Classical.choose hx:=by unfold dyP; rw[dif_pos hx]
 have h1:=Classical.choose_spec hx;rw[<- e1] at h1;exact AiP (h1.symm.trans h)
theorem AfX(v e:Int):((mD v:Int):Rat)*tw (eD v e)=(v:Rat)*tw e:=by
 by_cases h:v=0
 ·subst h;rw[Li.2 rfl];have:((0:Int):Rat)=0:=rfl;rw[this]; grind
 ·have e1:=S9 v;have e2:eD v e=e+NZ v.natAbs:=by unfold eD; rw[Ay h]
  have e3:(v:Rat)=((mD v:Int):Rat)*((2^NZ v.natAbs:Nat):Rat):=by have h2:((v:Int):Rat)=((mD v*((2^NZ v.natAbs:Nat):Int):Int):Rat):=Rat.intCast_inj.2 e1;rw[xr] at h2;exact h2
  rw[e2,Eu,H8,e3,<- e3];grind
structure Dg(g t n:Nat)(x:Rat):Prop where
 ex:∃v:Int,x=(v:Rat)*tw (-(g:Int))/\v.natAbs<=n*2^t
theorem Dg.add{g t n m:Nat}{x y:Rat}(h:Dg g t n x)(k:Dg g t m y):Dg g t (n+m) (x+y):=by
 obtain⟨⟨v,rfl,h⟩⟩:=h;obtain⟨⟨w,rfl,k⟩⟩:=k;refine⟨v+w,?_,?_⟩
 ·rw[wT]; grind
 ·rw[AM]; omega
theorem Dg.neg{g t n:Nat}{x:Rat}(h:Dg g t n x):Dg g t n (-x):=by obtain⟨⟨v,rfl,h⟩⟩:=h;refine⟨-v,?_,by omega⟩;rw[wS]; grind
theorem Dg.sub{g t n m:Nat}{x y:Rat}(h:Dg g t n x)(k:Dg g t m y):Dg g t (n+m) (x-y):=by have:=h.add k.neg;rw[Rat.sub_eq_add_neg]; exact this
theorem Dg.mul{g t n h s m:Nat}{x y:Rat}(a:Dg g t n x)(b:Dg h s m y):Dg (g+h) (t+s) (n*m) (x*y):=by
 obtain⟨⟨v,rfl,a⟩⟩:=a;obtain⟨⟨w,rfl,b⟩⟩:=b;refine⟨v*w,?_,?_⟩
 ·have e:tw (-((g+h:Nat):Int))=tw (-(g:Int))*tw (-(h:Int)):=by rw[<- Eu]; congr 1; omega
  rw[xr,e]; grind
 ·rw[yt,A5];have:=AE a b
  have e:n*m*(2^t*2^s)=n*2^t*(m*2^s):=by rw[A7,Nat.mul_left_comm m,<- A7]
  rw[e]; exact this
theorem Dg.up{g t n:Nat}{x:Rat}(h:Dg g t n x)(k:Nat):Dg (g+k) (t+k) n x:=by
 obtain⟨⟨v,rfl,h⟩⟩:=h;refine⟨v*((2^k:Nat):Int),?_,?_⟩
 ·have e:tw (-(g:Int))=((2^k:Nat):Rat)*tw (-((g+k:Nat):Int)):=by rw[<- H8,<- Eu]; congr 1; omega
  have e2:(((2^k:Nat):Int):Rat)=((2^k:Nat):Rat):=rfl;rw[xr,e2,e]; grind
 ·rw[yt,Int.natAbs_natCast,A5,<- A7];exact An _ h
theorem Dg.mono{g t n m:Nat}{x:Rat}(h:Dg g t n x)(k:n<=m):Dg g t m x:=by obtain⟨⟨v,e,h⟩⟩:=h;exact⟨v,e,AP h (An _ k)⟩
theorem Dg.wide{g t n s:Nat}{x:Rat}(h:Dg g t n x)(k:t<=s):Dg g s n x:=by obtain⟨⟨v,e,h⟩⟩:=h;exact⟨v,e,AP h (yM _ (Aq (by decide) k))⟩
theorem Dg.scale{g t n:Nat}{x:Rat}(h:Dg g t n x)(k:Nat):Dg (g+k) t n (x*tw (-(k:Int))):=by
 obtain⟨⟨v,rfl,h⟩⟩:=h;refine⟨v,?_,h⟩;have e:tw (-((g+k:Nat):Int))=tw (-(g:Int))*tw (-(k:Int)):=by rw[<- Eu]; congr 1; omega
 rw[e]; grind
theorem Dg.zero(g t n:Nat):Dg g t n 0:=⟨0,by have:((0:Int):Rat)=0:=rfl;rw[this]; grind,zo _⟩
theorem Dg.tw(g:Nat):Dg g 0 1 (tw (-(g:Int))):=⟨1,by have:((1:Int):Rat)=1:=rfl;rw[this]; grind,by decide⟩
theorem Dg.word(a:Nat){t:Nat}(ht:2099<=t):Dg 1074 t 1 (vR a):=by
 obtain⟨p1,p2⟩:=CO a;refine⟨EI a (-1074),(XO p1).symm,?_⟩;have e:(EI a (-1074)).natAbs=By a*2^(B7 a-(-1074)).toNat:=KC a;have h1:By a<=2^53:=by have:=EX a; omega
 have h3:=AE h1 (AB (2^(B7 a-(-1074)).toNat));rw[<- A5] at h3;rw[e,zC];exact AP h3 (Aq (by decide) (by omega))
def Dq(x:Rat):Prop:=∃g t n:Nat,g<=40000/\t<=40000/\n<=1073741824/\Dg g t n x
theorem Dg.dq{g t n:Nat}{x:Rat}(h:Dg g t n x)(hg:g<=40000)(ht:t<=40000)(hn:n<=1073741824):Dq x:=⟨g,t,n,hg,ht,hn,h⟩
theorem Dq.parts{x:Rat}(h:Dq x):x=((mQ x:Int):Rat)*tw (eQ x)/\DC (mQ x).natAbs<10000/\-50000<=eQ x/\eQ x<=50000/\mD (mQ x)=mQ x:=by
 obtain⟨g,t,n,hg,ht,hn,⟨v,e,hv⟩⟩:=h;obtain⟨h1,h2⟩:=V6 e
 have b1:v.natAbs<=2^(t+30):=by refine AP hv ?_;rw[A5,A0];exact yM _ hn
 have b2:v.natAbs<2^(t+31):=AK b1 (Nat.pow_lt_pow_right (by decide) (by omega));refine⟨?_,?_,?_⟩
 ·rw[h1,h2,AfX]; exact e
 ·rw[h1];have l1:=Rh v;have l2:DC (mD v).natAbs<=(t+31) / 32+1:=Jy (AU (AK l1 b2) (Aq (by decide) (by omega)));omega
 ·rw[h1,h2];by_cases h0:v=0
  ·rw[show eD v (-(g:Int))=0 by unfold eD; rw[Az h0],Li.2 h0];exact⟨by decide,by decide,Li.2 rfl⟩
  ·have e2:eD v (-(g:Int))=-(g:Int)+NZ v.natAbs:=by unfold eD; rw[Ay h0]
   have l:=AeD (n:=v.natAbs) (by omega);have l2:=(AZ (n:=v.natAbs) (by omega)).2 b2;refine⟨by omega,by omega,?_⟩;have:=V6 (x:=((mD v:Int):Rat)*tw (eD v (-(g:Int)))) rfl;rw[AfX,<- e,h1] at this;exact this.1.symm
theorem Dq.RF{x:Rat}(h:Dq x):RF (BG (mQ x)) (Bo (mQ x))=xZ:=Aav (by have:=h.parts.2.1; omega)
theorem Dq.I8{x:Rat}(h:Dq x):I8 (BG (mQ x)) (Bo (mQ x))=xZ:=GY (by have:=h.parts.2.1; omega)
theorem Dq.okM{x:Rat}(h:Dq x):okM (BG (mQ x)) (Bo (mQ x))=xZ:=Bv.2 ⟨by unfold Bo; rw[Gk]; have:=h.parts.2.1; omega,Us _⟩
theorem Dq.MQ{x:Rat}(h:Dq x):MQ (eQ x)=xZ:=Bv.2 (by have:=h.parts.2.2; omega)
def vQ(n:Bool)(a:Bf)(e:Int):Rat:=((wv n a:Int):Rat)*tw e
def Qz(n:Bool)(a:Bf)(e:Int):Bool:=Ch (∃x,Dq x/\n=BG (mQ x)/\a=Bo (mQ x)/\e=eQ x)
theorem JM{x:Rat}(h:Dq x):Qz (BG (mQ x)) (Bo (mQ x)) (eQ x)=xZ:=Bv.2 ⟨x,h,rfl,rfl,rfl⟩
theorem H5{x:Rat}(h:Dq x):vQ (BG (mQ x)) (Bo (mQ x)) (eQ x)=x:=by unfold vQ;rw[EV]; exact h.parts.1.symm
theorem Kh{n:Bool}{a:Bf}{e:Int}(h:Qz n a e=xZ):∃x,Dq x/\n=BG (mQ x)/\a=Bo (mQ x)/\e=eQ x:=Bv.1 h
theorem Wo{v e l:Int}(h:l<=e):((XF v e l:Int):Rat)*tw l=(v:Rat)*tw e:=by
 unfold XF
 have e1:tw e=((2^(e-l).toNat:Nat):Rat)*tw l:=by rw[<- H8,<- Eu]; congr 1; omega
 have e2:(((2^(e-l).toNat:Nat):Int):Rat)=((2^(e-l).toNat:Nat):Rat):=rfl;rw[xr,e2,e1]; grind
theorem AbH{v e l:Int}(h:v≠0->l<=e):((Hf v (e-l):Int):Rat)*tw l=(v:Rat)*tw e:=by
 rw[WA h];by_cases h0:v=0
 ·subst h0;rw[HO];have:((0:Int):Rat)=0:=rfl;rw[this]; grind
 ·exact Wo (h h0)
theorem Ahr(v e w f:Int):((Abr v e w f:Int):Rat)*tw (DB v e w f)=(v:Rat)*tw e+(w:Rat)*tw f:=by obtain⟨l1,l2⟩:=AfZ (v:=v) (e:=e) (w:=w) (f:=f);unfold Abr;have h1:=AbH l1;have h2:=AbH l2;rw[wT,<- h1,<- h2]; grind
theorem AmD(v e w f:Int):KT v e w f=mQ ((v:Rat)*tw e+(w:Rat)*tw f)/\Z7 v e w f=eQ ((v:Rat)*tw e+(w:Rat)*tw f):=by obtain⟨h1,h2⟩:=V6 (Ahr v e w f).symm;exact⟨h1.symm,h2.symm⟩
theorem Akm(v e:Int):mD v=mQ ((v:Rat)*tw e)/\eD v e=eQ ((v:Rat)*tw e):=by obtain⟨h1,h2⟩:=V6 (x:=(v:Rat)*tw e) rfl;exact⟨h1.symm,h2.symm⟩
theorem AnM(v e w f:Int):mD (v*w)=mQ ((v:Rat)*tw e*((w:Rat)*tw f))/\eD (v*w) (e+f)=eQ ((v:Rat)*tw e*((w:Rat)*tw f)):=by
 have h:(v:Rat)*tw e*((w:Rat)*tw f)=((v*w:Int):Rat)*tw (e+f):=by rw[xr,Eu]; grind
 obtain⟨h1,h2⟩:=V6 h;exact⟨h1.symm,h2.symm⟩
def Abc(x y:Rat):Int:=if x<y then -1 else if y<x then 1 else 0
theorem AnU{x y:Rat}(hx:Dq x)(hy:Dq y):Sd (mQ x) (eQ x) (mQ y) (eQ y)=Abc x y:=by
 obtain⟨x1,_,x3,_⟩:=hx.parts;obtain⟨y1,_,y3,_⟩:=hy.parts;have h:=AiU (v:=mQ x) (e:=eQ x) (w:=mQ y) (f:=eQ y) (g:=-50000) (fun _=>x3) (fun _=>y3);have e1:=Wo (v:=mQ x) x3;have e2:=Wo (v:=mQ y) y3;rw[<- x1] at e1;rw[<- y1] at e2
 have key:∀a b:Int,a<b↔(a:Rat)*tw (-50000)<(b:Rat)*tw (-50000):=fun a b=>by
  have p:=DP (-50000);constructor
  ·intro h;exact Rat.mul_lt_mul_of_pos_right (Rat.intCast_lt_intCast.2 h) p
  ·intro h;rcases Int.lt_or_le a b with k | k
   ·exact k
   ·have:=zb (Rat.intCast_le_intCast.2 k) (za p);grind
 rw[h];unfold Sc Abc;have k1:=key (XF (mQ x) (eQ x) (-50000)) (XF (mQ y) (eQ y) (-50000));have k2:=key (XF (mQ y) (eQ y) (-50000)) (XF (mQ x) (eQ x) (-50000));rw[e1,e2] at k1 k2;simp only[k1,k2]
theorem AiX(x y:Rat):Abc x y<=0↔x<=y:=by
 unfold Abc;split
 ·rename_i h;exact⟨fun _=>za h,fun _=>by decide⟩
 ·split
  ·rename_i h;exact⟨fun k=>absurd k (by decide),fun k=>by grind⟩
  ·exact⟨fun _=>by grind,fun _=>by decide⟩
def Ds(x:Rat):Prop:=∃g t n:Nat,g<=15000/\t<=15000/\n<=536870912/\Dg g t n x
def dsB(n:Bool)(a:Bf)(e:Int):Bool:=Ch (∃x,Ds x/\n=BG (mQ x)/\a=Bo (mQ x)/\e=eQ x)
noncomputable abbrev F5 (x:Rat):Rat:=vQ (BG (mQ x)) (Bo (mQ x)) (eQ x)
noncomputable abbrev VN (x:Rat):Bool:=Qz (BG (mQ x)) (Bo (mQ x)) (eQ x)
noncomputable abbrev dSo (x:Rat):Bool:=dsB (BG (mQ x)) (Bo (mQ x)) (eQ x)
def I7(x:Int):Rat:=vR x.toNat
def OI:Nat->(Nat->Rat)->Rat
 | 0,_=>0
 | n+1,f=>OI n f+f n
def GB(x:Bf):Rat:=OI x.length fun i=>I7 (x.getD i 0)*I7 (x.getD i 0)
def Ui(x:Rat):List DV:=[.bool (BG (mQ x)),.Bj .arg .u32 (Bo (mQ x)),.int .i64 (eQ x)]
def Akf:List DV->Rat
 | [.bool n,.Bj _ _ a,.int _ e]=>vQ n a e
 | _=>0
def Amp(y:List (List DV))(n:Nat):Bool:=Ch (n<=64/\y.length=n/\∀r∈y,∃x,Dg 2148 4300 100 x/\r=Ui x)
def YH(a b:Int):Bool:=decide (G4 a b<0)
def Du(R n:Nat)(l:Bf)(p:Nat):Bf:=Dm (n:Int) l (p:Int) 0 R
def MW(x y:Bf)(low:Int):Bool:=(!(YH low (Cb x))||!(YH low (Cb y)))||!(YH (BX (C0 (Cb x) (Cb y)) (-44)) (KQ (Fk x y)))
def OG(x y:Bf):Int:=Fl (Ej (Fk y y) (Fk x x)) (DM (Fk x y) (Fk x y))
def SR(z:Int):Int:=Fl Ty (DM (KQ z) (DQ (DM Ty (C0 z z))))
def KX(z:Int):Int:=if DX z=xZ then C1 (SR z) else SR z
def EP(t:Int):Int:=Fl Ty (DQ (DM Ty (C0 t t)))
def Es(t:Int):Int:=C0 (EP t) t
def trC(x y:Bf)(low:Int):Int:=if MW x y low=xZ then 0 else EP (KX (OG x y))
def trS(x y:Bf)(low:Int):Int:=if MW x y low=xZ then 0 else Es (KX (OG x y))
def LK(R n:Nat)(l:Bf)(i k:Nat)(c s:Int):Bf:=BZ R n fun a b =>
 if a=i then DM (C0 c (CE (n:Int) l (i:Int) (b:Int))) (C0 s (CE (n:Int) l (k:Int) (b:Int)))
 else if a=k then Ej (C0 c (CE (n:Int) l (k:Int) (b:Int))) (C0 s (CE (n:Int) l (i:Int) (b:Int))) else CE (n:Int) l (a:Int) (b:Int)
def Hs(R n:Nat)(l:Bf)(i k:Nat)(c s:Int):Bf:=BZ R n fun a b =>
 if b=i then DM (C0 c (CE (n:Int) l (a:Int) (i:Int))) (C0 s (CE (n:Int) l (a:Int) (k:Int)))
 else if b=k then Ej (C0 c (CE (n:Int) l (a:Int) (k:Int))) (C0 s (CE (n:Int) l (a:Int) (i:Int))) else CE (n:Int) l (a:Int) (b:Int)
def J1(be:Bf->Bf->Int->Bool)(R n:Nat)(low:Int)(p q:Nat)(s:Bf × Bf × Bool):Bf × Bf × Bool:=
 if be (Du R n s.1 p) (Du R n s.1 q) low=xZ then s
 else (Hs R n s.1 p q (EP (KX (OG (Du R n s.1 p) (Du R n s.1 q)))) (C1 (Es (KX (OG (Du R n s.1 p) (Du R n s.1 q))))),
  Hs n n s.2.1 p q (EP (KX (OG (Du R n s.1 p) (Du R n s.1 q)))) (C1 (Es (KX (OG (Du R n s.1 p) (Du R n s.1 q))))),x5)
def KP(be:Bf->Bf->Int->Bool)(R n:Nat)(low:Int)(p:Nat):Nat->Nat->Bf × Bf × Bool->Bf × Bf × Bool
 | 0,_,s=>s
 | d+1,q,s=>KP be R n low p d (q+1) (J1 be R n low p q s)
def ID(be:Bf->Bf->Int->Bool)(R n:Nat)(low:Int):Nat->Nat->Bf × Bf × Bool->Bf × Bf × Bool
 | 0,_,s=>s
 | d+1,p,s=>ID be R n low d (p+1) (KP be R n low p (n-(p+1)) (p+1) s)
def GC(R n:Nat)(low:Int)(w v:Bf):Bf × Bf × Bool:=ID MW R n low n 0 (w,v,xZ)
def DL(R n:Nat)(low:Int):Nat->Bf->Bf->Bf × Bf × Int
 | 0,w,v=>(w,v,6)
 | m+1,w,v=>if (GC R n low w v).2.2=xZ then ((GC R n low w v).1,(GC R n low w v).2.1,0) else DL R n low m (GC R n low w v).1 (GC R n low w v).2.1
def CX(R n:Nat)(l:Bf):Bf:=(zf n).map fun c=>Cb (Du R n l c)
def NF(key:Int->Int)(x:Int):Bf->Bf
 | []=>[x]
 | y::t=>if G4 (key y) (key x)<0 then y::NF key x t else x::y::t
def OH(key:Int->Int)(l:Bf):Bf:=l.foldl (fun acc x=>NF key x acc) []
def NC(l:Bf)(i:Int):Int:=l.getD i.toNat 0
def Kb(n:Nat):Bf:=(zf n).map fun i:Nat=>(i:Int)
def EC(l x:Bf):Bf:=(OH (NC l) x).reverse
def Afl(l:Bf)(n:Nat):Bf:=EC l (Kb n)
def Im(n:Nat)(x:Bf):Bool:=x.all fun i=>decide (0<=i/\i<(n:Int))
def Dz(R n:Nat)(l ps:Bf):Bf:=BZ R n fun i k=>CE (n:Int) l (i:Int) (ps.getD k 0)
def CC(l:Bf):Int:=BQ (BK l)
def De(R n:Nat)(l:Bf):Bf × Bf × Int:=DL R n (BX (Cb (B6 l (-(CC l)))) (-44)) 60 (B6 l (-(CC l))) (F2 n)
def Ly(R n:Nat)(l:Bf):Bf:=Afl (CX R n (De R n l).1) n
def EF(R n:Nat)(l:Bf):Bf:=B6 (Dz R n (De R n l).1 (Ly R n l)) (CC l)
def Fv(R n:Nat)(l:Bf):Bf:=Dz n n (De R n l).2.1 (Ly R n l)
def GW(r c:Int)(l:Bf):Int :=if BU r c l≠0 then BU r c l else if (De r.toNat c.toNat l).2.2≠0 then 6 else if (DA (EF r.toNat c.toNat l)&&DA (Fv r.toNat c.toNat l))=xZ then 0 else 2
def GL(r c:Int)(l:Bf):MX:=if GW r c l≠0 then JJ (GW r c l) else (r,c,EF r.toNat c.toNat l,0)
def It(r c:Int)(l:Bf):MX:=if GW r c l≠0 then JJ (GW r c l) else (c,c,Fv r.toNat c.toNat l,0)
def O6(r c:Int)(l:Bf):Bf:=if GW r c l≠0 then [] else CX r.toNat c.toNat (EF r.toNat c.toNat l)
def Zu(r c:Int)(l:Bf)(p q:Int)(m:Bf):Int:=if BU r c l≠0 then BU r c l else BU p q m
def AaQ(b:Int):Bool:=!(decide (G4 (BX 4607182418800017408 (-40)) b<0))
def Sa(l:Bf):Int:=(l.countP AaQ:Nat)
def VH(r c:Int)(l:Bf)(p q:Int)(m:Bf):Int :=if Zu r c l p q m≠0 then Zu r c l p q m else if c≠q\/c<1\/r+p<c\/6<r+p then 3 else 0
def gsQ(r c:Int)(l:Bf)(p:Int)(m:Bf):MX:=U8 (r+p) c (l++m)
def Hb(r c:Int)(l:Bf)(p:Int)(m:Bf):MX:=L4 (gsQ r c l p m) 0 0 r c
def gsL(r c:Int)(l:Bf)(p:Int)(m:Bf):MX:=L4 (gsQ r c l p m) r 0 p c
def gsV(r c:Int)(l:Bf)(p:Int)(m:Bf):MX:=It (Hb r c l p m).1 (Hb r c l p m).2.1 (Hb r c l p m).2.2.1
def XG(r c:Int)(l:Bf)(p:Int)(m:Bf):MX:=mulM (gsL r c l p m) (gsV r c l p m)
def Di(r c:Int)(l:Bf)(p q:Int)(m:Bf):Int:=
 if VH r c l p q m≠0 then VH r c l p q m else if Fp (r+p) c (l++m)≠0 then 2
 else if GW (Hb r c l p m).1 (Hb r c l p m).2.1 (Hb r c l p m).2.2.1≠0 then GW (Hb r c l p m).1 (Hb r c l p m).2.1 (Hb r c l p m).2.2.1
 else if DA (XG r c l p m).2.2.1=xZ then 0 else 2
def gsO(e:Int)(x:MX):MX:=if e≠0 then JJ e else x
def AaJ(e:Int)(x:Bf):Bf:=if e≠0 then [] else x
def Hy(r c:Int)(l:Bf)(p q:Int)(m:Bf):MX:=gsO (Di r c l p q m) (GL (Hb r c l p m).1 (Hb r c l p m).2.1 (Hb r c l p m).2.2.1)
def H0(r c:Int)(l:Bf)(p q:Int)(m:Bf):MX:=gsO (Di r c l p q m) (XG r c l p m)
def Hz(r c:Int)(l:Bf)(p q:Int)(m:Bf):MX:=gsO (Di r c l p q m) (gsV r c l p m)
def H2(r c:Int)(l:Bf)(p q:Int)(m:Bf):MX:=gsO (Di r c l p q m) (PA (r+p) c (l++m))
def F9(r c:Int)(l:Bf)(p q:Int)(m:Bf):Bf:=AaJ (Di r c l p q m) (O6 (Hb r c l p m).1 (Hb r c l p m).2.1 (Hb r c l p m).2.2.1)
def IJ(r c:Int)(l:Bf)(p q:Int)(m:Bf):Bf:=AaJ (Di r c l p q m) (CX p.toNat c.toNat (XG r c l p m).2.2.1)
def Abl(r c:Int)(l:Bf)(p q:Int)(m:Bf):Bool:=(BA r c l&&G5 l 100)&&(BA p q m&&G5 m 100)
def NP(r c:Int)(l:Bf)(p q:Int)(m:Bf):Bool:=Abl r c l p q m&&decide (Di r c l p q m=0)
def HB(r c:Int)(l:Bf)(p q:Int)(m:Bf)(x:MX):MX:=if NP r c l p q m=xZ then x else JJ 0
def X4(r c:Int)(l:Bf)(p q:Int)(m:Bf)(x:Bf):Bf:=if NP r c l p q m=xZ then x else []
def AdT(a1 b1:Int)(l1:Bf)(a2 b2:Int)(l2:Bf)(a3 b3:Int)(l3:Bf)(a4 b4:Int)(l4 x y:Bf)(r c p:Int):Bool:=
 ((decide (BU a1 b1 l1=0/\a1=r/\b1=c)&&decide (BU a2 b2 l2=0/\a2=p/\b2=c))&&(decide (BU a3 b3 l3=0/\a3=c/\b3=c)&&decide (BU a4 b4 l4=0/\a4=c/\b4=c))) &&
 ((decide ((x.length:Int)=c)&&decide ((y.length:Int)=c))&&(DA x&&DA y))
def AdS(r c p:Int)(w u v t:MX)(x y:Bf):Bool:=AdT w.1 w.2.1 w.2.2.1 u.1 u.2.1 u.2.2.1 v.1 v.2.1 v.2.2.1 t.1 t.2.1 t.2.2.1 x y r c p
def P3(r c:Int)(l:Bf)(p q:Int)(m:Bf):Bool:=
 if Abl r c l p q m=xZ then (if Di r c l p q m=0 then AdS r c p (Hy r c l p q m) (H0 r c l p q m) (Hz r c l p q m) (H2 r c l p q m) (F9 r c l p q m) (IJ r c l p q m)
  else decide (Di r c l p q m=3\/Di r c l p q m=6)) else xZ
def Gg(l:Bf):List (List DV):=l.map fun x=>Ui (I7 x)
def E6(g t k:Nat)(y:List (List DV))(n:Nat):Bool:=Ch (n<=64/\y.length=n/\∀r∈y,∃x,Dg g t k x/\r=Ui x)
def Sx(y:List (List DV))(i:Nat):Rat:=Akf (y.getD i [])
def tmQ(C K:Nat)(y z:List (List DV))(i k:Nat):Rat:=OI C fun j=>Sx y (i*C+j)*Sx z (j*K+k)
def Md(R C K:Nat)(y z:List (List DV)):List (List DV):=(zf (R*K)).map fun j=>Ui (tmQ C K y z (j / K) (j%K))
def Xk(y z:List (List DV)):Rat:=OI y.length fun i=>(Sx y i-Sx z i)*(Sx y i-Sx z i)
def Sn(R Q V C:Nat)(l m h g:Bf):Rat:=Xk (Gg l) (Md R V C (Md R Q V (Gg m) (Gg h)) (Gg (BZ V C fun i k=>CE (V:Int) g (k:Int) (i:Int))))
end Go.Ck
namespace Go.Proofs.S1
open Go Go.Den Go.Ck
abbrev PB:=List F4->Bool
abbrev PD:=List F4->DV
abbrev TS:=List AT
def soft.Split.pre:PB
 | [.i x]=>Br x
 | _=>x5
def soft.Split.out:PD
 | [.i x]=>.agg [.bool (DX x),.int .i64 (Ka x),.int .u64 (Dk x)]
 | _=>.undef
abbrev soft.Split.ts:TS:=[.i .u64]
def soft.Split.Bt:=BO soft.Split.ts soft.Split.pre soft.Split.out
def soft.Kind.pre:PB
 | [.i x]=>Br x
 | _=>x5
def soft.Kind.out:PD
 | [.i x]=>.int .i64 (BH x)
 | _=>.undef
abbrev soft.Kind.ts:TS:=[.i .u64]
def soft.Kind.Bt:=BO soft.Kind.ts soft.Kind.pre soft.Kind.out
def soft.Sign.pre:PB
 | [.i x]=>Br x
 | _=>x5
def soft.Sign.out:PD
 | [.i x]=>.bool (DX x)
 | _=>.undef
abbrev soft.Sign.ts:TS:=[.i .u64]
def soft.Sign.Bt:=BO soft.Sign.ts soft.Sign.pre soft.Sign.out
def soft.Finite.pre:PB
 | [.i x]=>Br x
 | _=>x5
def soft.Finite.out:PD
 | [.i x]=>.bool (D5 x)
 | _=>.undef
abbrev soft.Finite.ts:TS:=[.i .u64]
def soft.Finite.Bt:=BO soft.Finite.ts soft.Finite.pre soft.Finite.out
def soft.EZ.pre:PB
 | [.i x]=>Br x
 | _=>x5
def soft.EZ.out:PD
 | [.i x]=>.int .u64 (C1 x)
 | _=>.undef
abbrev soft.EZ.ts:TS:=[.i .u64]
def soft.EZ.Bt:=BO soft.EZ.ts soft.EZ.pre soft.EZ.out
def soft.Fo.pre:PB
 | [.i x]=>Br x
 | _=>x5
def soft.Fo.out:PD
 | [.i x]=>.CR [.int .u64 (Cf x),.int .i64 (BT x)]
 | _=>.undef
abbrev soft.Fo.ts:TS:=[.i .u64]
def soft.Fo.Bt:=BO soft.Fo.ts soft.Fo.pre soft.Fo.out
def soft.Pack.mu:List F4->Nat
 | [.b _n,.i m,.i e]=>Mk m e
 | _=>0
def soft.Pack.pre:PB
 | [.b _n,.i m,.i e]=>Jw m e
 | _=>x5
def soft.Pack.out:PD
 | [.b n,.i m,.i e]=>.int .u64 (PX n m e)
 | _=>.undef
abbrev soft.Pack.ts:TS:=[.b,.i .u64,.i .i64]
def soft.Pack.Bt:=BO soft.Pack.ts soft.Pack.pre soft.Pack.out
def soft.DI.pre:PB
 | [.b _n,.i m,.i e,.b r]=>E5 m e r
 | _=>x5
def soft.DI.out:PD
 | [.b n,.i m,.i e,.b r]=>.CR [.int .u64 (EM n m e r),.int .u8 (EL n m e r)]
 | _=>.undef
abbrev soft.DI.ts:TS:=[.b,.i .u64,.i .i64,.b]
def soft.DI.Bt:=BO soft.DI.ts soft.DI.pre soft.DI.out
def sum.right.pre:PB
 | [.i m,.i d]=>Br m&&Ch (0<=d/\d<1000000)
 | _=>x5
def sum.right.out:PD
 | [.i m,.i d]=>.int .u64 (Fb m d)
 | _=>.undef
abbrev sum.right.ts:TS:=[.i .u64,.i .i64]
def sum.right.Bt:=BO sum.right.ts sum.right.pre sum.right.out
def sum.Gt.pre:PB
 | [.i a,.i b]=>(Br a&&Br b)&&(!(D5 a)||!(D5 b))
 | _=>x5
def sum.Gt.out:PD
 | [.i a,.i b]=>.CR [.int .u64 (DM a b),.int .u8 (RU a b)]
 | _=>.undef
abbrev sum.Gt.ts:TS:=[.i .u64,.i .u64]
def sum.Gt.Bt:=BO sum.Gt.ts sum.Gt.pre sum.Gt.out
def sum.Add.pre:PB
 | [.i a,.i b]=>Br a&&Br b
 | _=>x5
def sum.Add.out:PD
 | [.i a,.i b]=>.CR [.int .u64 (DM a b),.int .u8 (RU a b)]
 | _=>.undef
abbrev sum.Add.ts:TS:=[.i .u64,.i .u64]
def sum.Add.Bt:=BO sum.Add.ts sum.Add.pre sum.Add.out
def sum.Sub.pre:PB
 | [.i a,.i b]=>Br a&&Br b
 | _=>x5
def sum.Sub.out:PD
 | [.i a,.i b]=>.CR [.int .u64 (Ej a b),.int .u8 (Amk a b)]
 | _=>.undef
abbrev sum.Sub.ts:TS:=[.i .u64,.i .u64]
def sum.Sub.Bt:=BO sum.Sub.ts sum.Sub.pre sum.Sub.out
def Ca.Neg.pre:PB
 | [.i x]=>Br x
 | _=>x5
def Ca.Neg.out:PD
 | [.i x]=>.bool (DX x)
 | _=>.undef
abbrev Ca.Neg.ts:TS:=[.i .u64]
def Ca.Neg.Bt:=BO Ca.Neg.ts Ca.Neg.pre Ca.Neg.out
def Ca.Power.pre:PB
 | [.i x]=>N4 x
 | _=>x5
def Ca.Power.out:PD
 | [.i x]=>.int .i64 (Ka x)
 | _=>.undef
abbrev Ca.Power.ts:TS:=[.i .u64]
def Ca.Power.Bt:=BO Ca.Power.ts Ca.Power.pre Ca.Power.out
def Ca.MU.pre:PB
 | [.i x]=>N4 x
 | _=>x5
def Ca.MU.out:PD
 | [.i x]=>.int .u64 (Dk x)
 | _=>.undef
abbrev Ca.MU.ts:TS:=[.i .u64]
def Ca.MU.Bt:=BO Ca.MU.ts Ca.MU.pre Ca.MU.out
def Ca.Kind.pre:PB
 | [.i x]=>N4 x
 | _=>x5
def Ca.Kind.out:PD
 | [.i x]=>.int .i64 (BH x)
 | _=>.undef
abbrev Ca.Kind.ts:TS:=[.i .u64]
def Ca.Kind.Bt:=BO Ca.Kind.ts Ca.Kind.pre Ca.Kind.out
def Ca.Finite.pre:PB
 | [.i x]=>Br x
 | _=>x5
def Ca.Finite.out:PD
 | [.i x]=>.bool (D5 x)
 | _=>.undef
abbrev Ca.Finite.ts:TS:=[.i .u64]
def Ca.Finite.Bt:=BO Ca.Finite.ts Ca.Finite.pre Ca.Finite.out
def DH.CZ.pre:PB
 | [.i x]=>Br x
 | _=>x5
def DH.CZ.out:PD
 | [.i x]=>.int .i64 (64-EO x)
 | _=>.undef
abbrev DH.CZ.ts:TS:=[.i .u64]
def DH.CZ.Bt:=BO DH.CZ.ts DH.CZ.pre DH.CZ.out
def DH.JS.pre:PB
 | [.i x,.i y]=>Br x&&Br y
 | _=>x5
def DH.JS.out:PD
 | [.i x,.i y]=>.CR [.int .u64 (OM x y),.int .u64 (Lh x y)]
 | _=>.undef
abbrev DH.JS.ts:TS:=[.i .u64,.i .u64]
def DH.JS.Bt:=BO DH.JS.ts DH.JS.pre DH.JS.out
def times.signed.pre:PB
 | [.i b,.b _n]=>Br b
 | _=>x5
def times.signed.out:PD
 | [.i b,.b n]=>.int .u64 (OJ n b)
 | _=>.undef
abbrev times.signed.ts:TS:=[.i .u64,.b]
def times.signed.Bt:=BO times.signed.ts times.signed.pre times.signed.out
def times.nan.pre:PB
 | [.i a,.i b]=>Br a&&Br b
 | _=>x5
def times.nan.out:PD
 | [.i a,.i b]=>.bool (AfQ a b)
 | _=>.undef
abbrev times.nan.ts:TS:=[.i .u64,.i .u64]
def times.nan.Bt:=BO times.nan.ts times.nan.pre times.nan.out
def times.norm.pre:PB
 | [.i b]=>Br b&&Ke b
 | _=>x5
def times.norm.out:PD
 | [.i b]=>.CR [.int .u64 (Dp b),.int .i64 (G9 b)]
 | _=>.undef
abbrev times.norm.ts:TS:=[.i .u64]
def times.norm.Bt:=BO times.norm.ts times.norm.pre times.norm.out
def times.wide.pre:PB
 | [.b _n,.i m,.i e,.b _r]=>Mb m e
 | _=>x5
def times.wide.out:PD
 | [.b n,.i m,.i e,.b r]=>.CR [.int .u64 (EM n m e r),.int .u8 (EL n m e r)]
 | _=>.undef
abbrev times.wide.ts:TS:=[.b,.i .u64,.i .i64,.b]
def times.wide.Bt:=BO times.wide.ts times.wide.pre times.wide.out
def times.Mul.pre:PB
 | [.i a,.i b]=>Br a&&Br b
 | _=>x5
def times.Mul.out:PD
 | [.i a,.i b]=>.CR [.int .u64 (C0 a b),.int .u8 (Amu a b)]
 | _=>.undef
abbrev times.Mul.ts:TS:=[.i .u64,.i .u64]
def times.Mul.Bt:=BO times.Mul.ts times.Mul.pre times.Mul.out
def times.Div.pre:PB
 | [.i a,.i b]=>Br a&&Br b
 | _=>x5
def times.Div.out:PD
 | [.i a,.i b]=>.CR [.int .u64 (Fl a b),.int .u8 (Am4 a b)]
 | _=>.undef
abbrev times.Div.ts:TS:=[.i .u64,.i .u64]
def times.Div.Bt:=BO times.Div.ts times.Div.pre times.Div.out
def Bs.Add.pre:PB
 | [.i a,.i b]=>Br a&&Br b
 | _=>x5
def Bs.Add.out:PD
 | [.i a,.i b]=>.int .u64 (DM a b)
 | _=>.undef
abbrev Bs.Add.ts:TS:=[.i .u64,.i .u64]
def Bs.Add.Bt:=BO Bs.Add.ts Bs.Add.pre Bs.Add.out
def Bs.Sub.pre:PB
 | [.i a,.i b]=>Br a&&Br b
 | _=>x5
def Bs.Sub.out:PD
 | [.i a,.i b]=>.int .u64 (Ej a b)
 | _=>.undef
abbrev Bs.Sub.ts:TS:=[.i .u64,.i .u64]
def Bs.Sub.Bt:=BO Bs.Sub.ts Bs.Sub.pre Bs.Sub.out
def Bs.Mul.pre:PB
 | [.i a,.i b]=>Br a&&Br b
 | _=>x5
def Bs.Mul.out:PD
 | [.i a,.i b]=>.int .u64 (C0 a b)
 | _=>.undef
abbrev Bs.Mul.ts:TS:=[.i .u64,.i .u64]
def Bs.Mul.Bt:=BO Bs.Mul.ts Bs.Mul.pre Bs.Mul.out
def Bs.fit.pre:PB
 | [.l _x,.l _y]=>xZ
 | _=>x5
def Bs.fit.out:PD
 | [.l x,.l y]=>.bool (NI x y)
 | _=>.undef
abbrev Bs.fit.ts:TS:=[.s .u64,.s .u64]
def Bs.fit.Bt:=BO Bs.fit.ts Bs.fit.pre Bs.fit.out
def Bs.P8.pre:PB
 | [.l x,.l y]=>(NI x y&&Bp x)&&Bp y
 | _=>x5
def Bs.P8.out:PD
 | [.l x,.l y]=>.CR [.int .u64 (Fk x y),.int .i64 (0:Int)]
 | _=>.undef
abbrev Bs.P8.ts:TS:=[.s .u64,.s .u64]
def Bs.P8.Bt:=BO Bs.P8.ts Bs.P8.pre Bs.P8.out
def Bh.size.pre:PB
 | [.i _n]=>xZ
 | _=>x5
def Bh.size.out:PD
 | [.i n]=>.bool (CJ n)
 | _=>.undef
abbrev Bh.size.ts:TS:=[.i .i64]
def Bh.size.Bt:=BO Bh.size.ts Bh.size.pre Bh.size.out
def Bh.Check.pre:PB
 | [.i _r,.i _c,.l _l]=>xZ
 | _=>x5
def Bh.Check.out:PD
 | [.i r,.i c,.l l]=>.int .i64 (IL r c l)
 | _=>.undef
abbrev Bh.Check.ts:TS:=[.st [.i .i64,.i .i64,.s .u64]]
def Bh.Check.Bt:=BO Bh.Check.ts Bh.Check.pre Bh.Check.out
def Bh.get.pre:PB
 | [.i r,.i c,.l l,.i i,.i k]=>FI r c l i k
 | _=>x5
def Bh.get.out:PD
 | [.i _r,.i c,.l l,.i i,.i k]=>.int .u64 (CE c l i k)
 | _=>.undef
abbrev Bh.get.ts:TS:=[.st [.i .i64,.i .i64,.s .u64],.i .i64,.i .i64]
def Bh.get.Bt:=BO Bh.get.ts Bh.get.pre Bh.get.out
def Bh.two.pre:PB
 | [.i _r,.i _c,.l _l,.i _p,.i _q,.l _m]=>xZ
 | _=>x5
def Bh.two.out:PD
 | [.i r,.i c,.l l,.i p,.i q,.l m]=>.int .i64 (SQ r c l p q m)
 | _=>.undef
abbrev Bh.two.ts:TS:=[.st [.i .i64,.i .i64,.s .u64],.st [.i .i64,.i .i64,.s .u64]]
def Bh.two.Bt:=BO Bh.two.ts Bh.two.pre Bh.two.out
def Bh.Row.pre:PB
 | [.i r,.i c,.l l,.i i,.i f]=>WI r c l i&&decide (f=0)
 | _=>x5
def Bh.Row.out:PD
 | [.i _r,.i c,.l l,.i i,.i _f]=>.Bj .BE .u64 (JZ c l i)
 | _=>.undef
abbrev Bh.Row.ts:TS:=[.st [.i .i64,.i .i64,.s .u64],.i .i64,.i .i64]
def Bh.Row.Bt:=BO Bh.Row.ts Bh.Row.pre Bh.Row.out
def Bh.Ei.pre:PB
 | [.i r,.i c,.l l,.i k,.i f]=>Ht r c l k&&Ch (0<=f/\f<=r)
 | _=>x5
def Bh.Ei.out:PD
 | [.i r,.i c,.l l,.i k,.i f]=>.Bj .BE .u64 (Dm c l k f (wQ (r-f)))
 | _=>.undef
abbrev Bh.Ei.ts:TS:=[.st [.i .i64,.i .i64,.s .u64],.i .i64,.i .i64]
def Bh.Ei.Bt:=BO Bh.Ei.ts Bh.Ei.pre Bh.Ei.out
def Bh.JT.pre:PB
 | [.i _i,.i _k]=>xZ
 | _=>x5
def Bh.JT.out:PD
 | [.i i,.i k]=>.int .u64 (Mv i k)
 | _=>.undef
abbrev Bh.JT.ts:TS:=[.i .i64,.i .i64]
def Bh.JT.Bt:=BO Bh.JT.ts Bh.JT.pre Bh.JT.out
def Bh.HE.pre:PB
 | [.i i,.i k,.i r,.i c,.l l]=>FI r c l k i
 | _=>x5
def Bh.HE.out:PD
 | [.i i,.i k,.i _r,.i c,.l l]=>.int .u64 (CE c l k i)
 | _=>.undef
abbrev Bh.HE.ts:TS:=[.i .i64,.i .i64,.cp [.i .i64,.i .i64,.s .u64]]
def Bh.HE.Bt:=BO Bh.HE.ts Bh.HE.pre Bh.HE.out
def Bh.HF.pre:PB
 | [.i i,.i k,.i r,.i c,.l l,.i x,.i y]=>FI r c l (x+i) (y+k)&&Tc x y i k
 | _=>x5
def Bh.HF.out:PD
 | [.i i,.i k,.i _r,.i c,.l l,.i x,.i y]=>.int .u64 (CE c l (x+i) (y+k))
 | _=>.undef
abbrev Bh.HF.ts:TS:=[.i .i64,.i .i64,.cp [.i .i64,.i .i64,.s .u64],.cp [.i .i64],.cp [.i .i64]]
def Bh.HF.Bt:=BO Bh.HF.ts Bh.HF.pre Bh.HF.out
def Bh.Gu.pre:PB
 | [.i i,.i k,.i r,.i c,.l l,.i p,.i q,.l m]=>LF r c l p q m i k
 | _=>x5
def Bh.Gu.out:PD
 | [.i i,.i k,.i r,.i c,.l l,.i _p,.i q,.l m]=>.int .u64 (Jf r c l q m i k)
 | _=>.undef
abbrev Bh.Gu.ts:TS:=[.i .i64,.i .i64,.cp [.i .i64,.i .i64,.s .u64],.cp [.i .i64,.i .i64,.s .u64]]
def Bh.Gu.Bt:=BO Bh.Gu.ts Bh.Gu.pre Bh.Gu.out
def Bh.JR.pre:PB
 | [.i i,.i k,.i r,.i c,.l l,.i p,.i q,.l m]=>Rd r c l p q m i k
 | _=>x5
def Bh.JR.out:PD
 | [.i i,.i k,.i _r,.i c,.l l,.i p,.i q,.l m]=>.int .u64 (Fk (JZ c l i) (MS p q m k))
 | _=>.undef
abbrev Bh.JR.ts:TS:=[.i .i64,.i .i64,.cp [.i .i64,.i .i64,.s .u64],.cp [.i .i64,.i .i64,.s .u64]]
def Bh.JR.Bt:=BO Bh.JR.ts Bh.JR.pre Bh.JR.out
def Bh.of.IV.pre:PB
 | [.i a,.i b]=>(CJ a&&CJ b)
 | _=>x5
def Bh.of.IV.out:PD
 | [.i a,.i b]=>.agg [.int .i64 a,.int .i64 b,.Bj .BE .u64 (BZ (wQ a) (wQ b) (fun j1 j2=>Mv j1 j2))]
 | _=>.undef
abbrev Bh.of.IV.ts:TS:=[.i .i64,.i .i64,.fn 168 []]
def Bh.of.IV.Bt:=BO Bh.of.IV.ts Bh.of.IV.pre Bh.of.IV.out
def Bh.of.D0.pre:PB
 | [.i a,.i b,.i r,.i c,.l l]=>(CJ a&&CJ b)&&BA r c l&&decide (a=c/\b=r)
 | _=>x5
def Bh.of.D0.out:PD
 | [.i a,.i b,.i _r,.i c,.l l]=>.agg [.int .i64 a,.int .i64 b,.Bj .BE .u64 (BZ (wQ a) (wQ b) (fun j1 j2=>CE c l j2 j1))]
 | _=>.undef
abbrev Bh.of.D0.ts:TS:=[.i .i64,.i .i64,.fn 232 [.cp [.i .i64,.i .i64,.s .u64]]]
def Bh.of.D0.Bt:=BO Bh.of.D0.ts Bh.of.D0.pre Bh.of.D0.out
def Bh.of.Part.pre:PB
 | [.i a,.i b,.i r,.i c,.l l,.i x,.i y]=>(CJ a&&CJ b)&&BA r c l&&K8 r c x y a b
 | _=>x5
def Bh.of.Part.out:PD
 | [.i a,.i b,.i _r,.i c,.l l,.i x,.i y]=>.agg [.int .i64 a,.int .i64 b,.Bj .BE .u64 (BZ (wQ a) (wQ b) (fun j1 j2=>CE c l (x+j1) (y+j2)))]
 | _=>.undef
abbrev Bh.of.Part.ts:TS:=[.i .i64,.i .i64,.fn 122 [.cp [.i .i64,.i .i64,.s .u64],.cp [.i .i64],.cp [.i .i64]]]
def Bh.of.Part.Bt:=BO Bh.of.Part.ts Bh.of.Part.pre Bh.of.Part.out
def Bh.of.Stack.pre:PB
 | [.i a,.i b,.i r,.i c,.l l,.i p,.i q,.l m]=>(CJ a&&CJ b)&&(BA r c l&&BA p q m)&&decide (a=r+p/\b=c/\q=c)
 | _=>x5
def Bh.of.Stack.out:PD
 | [.i a,.i b,.i r,.i c,.l l,.i _p,.i q,.l m]=>.agg [.int .i64 a,.int .i64 b,.Bj .BE .u64 (BZ (wQ a) (wQ b) (fun j1 j2=>Jf r c l q m j1 j2))]
 | _=>.undef
abbrev Bh.of.Stack.ts:TS:=[.i .i64,.i .i64,.fn 118 [.cp [.i .i64,.i .i64,.s .u64],.cp [.i .i64,.i .i64,.s .u64]]]
def Bh.of.Stack.Bt:=BO Bh.of.Stack.ts Bh.of.Stack.pre Bh.of.Stack.out
def Bh.of.Mul.pre:PB
 | [.i a,.i b,.i r,.i c,.l l,.i p,.i q,.l m]=>(CJ a&&CJ b)&&((BA r c l&&BA p q m)&&(Bp l&&Bp m))&&decide (a=r/\b=q/\c=p)
 | _=>x5
def Bh.of.Mul.out:PD
 | [.i a,.i b,.i _r,.i c,.l l,.i p,.i q,.l m]=>.agg [.int .i64 a,.int .i64 b,.Bj .BE .u64 (BZ (wQ a) (wQ b) (fun j1 j2=>Fk (JZ c l j1) (MS p q m j2)))]
 | _=>.undef
abbrev Bh.of.Mul.ts:TS:=[.i .i64,.i .i64,.fn 133 [.cp [.i .i64,.i .i64,.s .u64],.cp [.i .i64,.i .i64,.s .u64]]]
def Bh.of.Mul.Bt:=BO Bh.of.Mul.ts Bh.of.Mul.pre Bh.of.Mul.out
def Bh.IV.pre:PB
 | [.i _n]=>xZ
 | _=>x5
def Bh.IV.out:PD
 | [.i n]=>.CR [.agg [.int .i64 ((KR n).1),.int .i64 ((KR n).2.1),.Bj .BE .u64 ((KR n).2.2.1)],.int .i64 ((KR n).2.2.2)]
 | _=>.undef
abbrev Bh.IV.ts:TS:=[.i .i64]
def Bh.IV.Bt:=BO Bh.IV.ts Bh.IV.pre Bh.IV.out
def Bh.D0.pre:PB
 | [.i _r,.i _c,.l _l]=>xZ
 | _=>x5
def Bh.D0.out:PD
 | [.i r,.i c,.l l]=>.CR [.agg [.int .i64 ((E3 r c l).1),.int .i64 ((E3 r c l).2.1),.Bj .BE .u64 ((E3 r c l).2.2.1)],.int .i64 ((E3 r c l).2.2.2)]
 | _=>.undef
abbrev Bh.D0.ts:TS:=[.st [.i .i64,.i .i64,.s .u64]]
def Bh.D0.Bt:=BO Bh.D0.ts Bh.D0.pre Bh.D0.out
def Bh.Part.pre:PB
 | [.i _r,.i _c,.l _l,.i _x,.i _y,.i _a,.i _b]=>xZ
 | _=>x5
def Bh.Part.out:PD
 | [.i r,.i c,.l l,.i x,.i y,.i a,.i b]=>.CR [.agg [.int .i64 ((Fy r c l x y a b).1),.int .i64 ((Fy r c l x y a b).2.1),.Bj .BE .u64 ((Fy r c l x y a b).2.2.1)],.int .i64 ((Fy r c l x y a b).2.2.2)]
 | _=>.undef
abbrev Bh.Part.ts:TS:=[.st [.i .i64,.i .i64,.s .u64],.i .i64,.i .i64,.i .i64,.i .i64]
def Bh.Part.Bt:=BO Bh.Part.ts Bh.Part.pre Bh.Part.out
def Bh.Stack.pre:PB
 | [.i _r,.i _c,.l _l,.i _p,.i _q,.l _m]=>xZ
 | _=>x5
def Bh.Stack.out:PD
 | [.i r,.i c,.l l,.i p,.i q,.l m]=>.CR [.agg [.int .i64 ((Je r c l p q m).1),.int .i64 ((Je r c l p q m).2.1),.Bj .BE .u64 ((Je r c l p q m).2.2.1)],.int .i64 ((Je r c l p q m).2.2.2)]
 | _=>.undef
abbrev Bh.Stack.ts:TS:=[.st [.i .i64,.i .i64,.s .u64],.st [.i .i64,.i .i64,.s .u64]]
def Bh.Stack.Bt:=BO Bh.Stack.ts Bh.Stack.pre Bh.Stack.out
def Bh.Mul.pre:PB
 | [.i _r,.i _c,.l l,.i _p,.i _q,.l m]=>Bp l&&Bp m
 | _=>x5
def Bh.Mul.out:PD
 | [.i r,.i c,.l l,.i p,.i q,.l m]=>.CR [.agg [.int .i64 ((Pq r c l p q m).1),.int .i64 ((Pq r c l p q m).2.1),.Bj .BE .u64 ((Pq r c l p q m).2.2.1)],.int .i64 ((Pq r c l p q m).2.2.2)]
 | _=>.undef
abbrev Bh.Mul.ts:TS:=[.st [.i .i64,.i .i64,.s .u64],.st [.i .i64,.i .i64,.s .u64]]
def Bh.Mul.Bt:=BO Bh.Mul.ts Bh.Mul.pre Bh.Mul.out
def Cn.Jd.pre:PB
 | [.i _r,.i _c,.l _l]=>xZ
 | _=>x5
def Cn.Jd.out:PD
 | [.i r,.i c,.l l]=>.bool (BA r c l)
 | _=>.undef
abbrev Cn.Jd.ts:TS:=[.st [.i .i64,.i .i64,.s .u64]]
def Cn.Jd.Bt:=BO Cn.Jd.ts Cn.Jd.pre Cn.Jd.out
def Cn.At.pre:PB
 | [.i r,.i c,.l l,.i i,.i k]=>FI r c l i k
 | _=>x5
def Cn.At.out:PD
 | [.i _r,.i c,.l l,.i i,.i k]=>.int .u64 (CE c l i k)
 | _=>.undef
abbrev Cn.At.ts:TS:=[.st [.i .i64,.i .i64,.s .u64],.i .i64,.i .i64]
def Cn.At.Bt:=BO Cn.At.ts Cn.At.pre Cn.At.out
def Cn.JQ.pre:PB
 | [.i a,.i b]=>CJ a&&CJ b
 | _=>x5
def Cn.JQ.out:PD
 | [.i a,.i b]=>.agg [.int .i64 a,.int .i64 b,.Bj .BE .u64 (BZ (wQ a) (wQ b) (fun _ _=>0))]
 | _=>.undef
abbrev Cn.JQ.ts:TS:=[.i .i64,.i .i64]
def Cn.JQ.Bt:=BO Cn.JQ.ts Cn.JQ.pre Cn.JQ.out
def Cn.P6.pre:PB
 | [.i r,.i c,.l l,.i i,.i k,.i _b]=>FI r c l i k
 | _=>x5
def Cn.P6.out:PD
 | [.i r,.i c,.l l,.i i,.i k,.i b]=>.agg [.int .i64 r,.int .i64 c,.Bj .BE .u64 (List.set l (wQ (i*c+k)) b)]
 | _=>.undef
abbrev Cn.P6.ts:TS:=[.st [.i .i64,.i .i64,.s .u64],.i .i64,.i .i64,.i .u64]
def Cn.P6.Bt:=BO Cn.P6.ts Cn.P6.pre Cn.P6.out
def Cn.Row.pre:PB
 | [.i r,.i c,.l l,.i i]=>WI r c l i
 | _=>x5
def Cn.D0.pre:PB
 | [.i r,.i c,.l l]=>BA r c l
 | _=>x5
def Cn.D0.out:PD
 | [.i r,.i c,.l l]=>.agg [.int .i64 c,.int .i64 r,.Bj .BE .u64 (BZ (wQ c) (wQ r) (fun j1 j2=>CE c l j2 j1))]
 | _=>.undef
abbrev Cn.D0.ts:TS:=[.st [.i .i64,.i .i64,.s .u64]]
def Cn.D0.Bt:=BO Cn.D0.ts Cn.D0.pre Cn.D0.out
def Bq.KE.pre:PB
 | [.l l,.i _i]=>GZ l
 | _=>x5
def Bq.KE.out:PD
 | [.l l,.i i]=>.int .u64 (Gx l i)
 | _=>.undef
abbrev Bq.KE.ts:TS:=[.s .u32,.i .i64]
def Bq.KE.Bt:=BO Bq.KE.ts Bq.KE.pre Bq.KE.out
def Bq.Made.pre:PB
 | [.b _n,.l l]=>GZ l
 | _=>x5
def Bq.Made.out:PD
 | [.b n,.l l]=>.agg [.bool (BG (wv n l)),.Bj .arg .u32 (Bo (wv n l))]
 | _=>.undef
abbrev Bq.Made.ts:TS:=[.b,.s .u32]
def Bq.Made.Bt:=BO Bq.Made.ts Bq.Made.pre Bq.Made.out
def Bq.Of.pre:PB
 | [.i n]=>VF n
 | _=>x5
def Bq.Of.out:PD
 | [.i n]=>.agg [.bool (BG (n)),.Bj .arg .u32 (Bo (n))]
 | _=>.undef
abbrev Bq.Of.ts:TS:=[.i .i64]
def Bq.Of.Bt:=BO Bq.Of.ts Bq.Of.pre Bq.Of.out
def Bq.Jt.pre:PB
 | [.l a,.l b]=>GZ a&&GZ b
 | _=>x5
def Bq.Jt.out:PD
 | [.l a,.l b]=>.int .i64 (Rs (C3 a) (C3 b))
 | _=>.undef
abbrev Bq.Jt.ts:TS:=[.s .u32,.s .u32]
def Bq.Jt.Bt:=BO Bq.Jt.ts Bq.Jt.pre Bq.Jt.out
def Bq.plus.pre:PB
 | [.l a,.l b]=>GZ a&&GZ b
 | _=>x5
def Bq.plus.out:PD
 | [.l a,.l b]=>.Bj .arg .u32 (Ix a b)
 | _=>.undef
abbrev Bq.plus.ts:TS:=[.s .u32,.s .u32]
def Bq.plus.Bt:=BO Bq.plus.ts Bq.plus.pre Bq.plus.out
def Bq.minus.pre:PB
 | [.l a,.l b]=>(GZ a&&GZ b)&&leL b a
 | _=>x5
def Bq.minus.out:PD
 | [.l a,.l b]=>.Bj .arg .u32 (Ho a b)
 | _=>.undef
abbrev Bq.minus.ts:TS:=[.s .u32,.s .u32]
def Bq.minus.Bt:=BO Bq.minus.ts Bq.minus.pre Bq.minus.out
def Bq.Add.pre:PB
 | [.b n,.l a,.b m,.l b]=>I8 n a&&I8 m b
 | _=>x5
def Bq.Add.out:PD
 | [.b n,.l a,.b m,.l b]=>.agg [.bool (BG (wv n a+wv m b)),.Bj .arg .u32 (Bo (wv n a+wv m b))]
 | _=>.undef
abbrev Bq.Add.ts:TS:=[.st [.b,.s .u32],.st [.b,.s .u32]]
def Bq.Add.Bt:=BO Bq.Add.ts Bq.Add.pre Bq.Add.out
def Bq.Neg.pre:PB
 | [.b n,.l a]=>I8 n a
 | _=>x5
def Bq.Neg.out:PD
 | [.b n,.l a]=>.agg [.bool (BG (- wv n a)),.Bj .arg .u32 (Bo (- wv n a))]
 | _=>.undef
abbrev Bq.Neg.ts:TS:=[.st [.b,.s .u32]]
def Bq.Neg.Bt:=BO Bq.Neg.ts Bq.Neg.pre Bq.Neg.out
def Bq.HJ.pre:PB
 | [.b n,.l a]=>I8 n a
 | _=>x5
def Bq.HJ.out:PD
 | [.b n,.l a]=>.agg [.bool (BG (2*wv n a)),.Bj .arg .u32 (Bo (2*wv n a))]
 | _=>.undef
abbrev Bq.HJ.ts:TS:=[.st [.b,.s .u32]]
def Bq.HJ.Bt:=BO Bq.HJ.ts Bq.HJ.pre Bq.HJ.out
def Bq.IU.pre:PB
 | [.b n,.l a]=>I8 n a
 | _=>x5
def Bq.IU.out:PD
 | [.b n,.l a]=>.agg [.bool (BG (Jb (wv n a) 1)),.Bj .arg .u32 (Bo (Jb (wv n a) 1))]
 | _=>.undef
abbrev Bq.IU.ts:TS:=[.st [.b,.s .u32]]
def Bq.IU.Bt:=BO Bq.IU.ts Bq.IU.pre Bq.IU.out
def Bq.CM.pre:PB
 | [.b n,.l a,.i k]=>RF n a&&Akn k
 | _=>x5
def Bq.CM.out:PD
 | [.b n,.l a,.i k]=>.agg [.bool (BG (Hf (wv n a) k)),.Bj .arg .u32 (Bo (Hf (wv n a) k))]
 | _=>.undef
abbrev Bq.CM.ts:TS:=[.st [.b,.s .u32],.i .i64]
def Bq.CM.Bt:=BO Bq.CM.ts Bq.CM.pre Bq.CM.out
def Bq.Rz.pre:PB
 | [.b n,.l a]=>I8 n a
 | _=>x5
def Bq.Rz.out:PD
 | [.b n,.l a]=>.int .i64 (TP (wv n a))
 | _=>.undef
abbrev Bq.Rz.ts:TS:=[.st [.b,.s .u32]]
def Bq.Rz.Bt:=BO Bq.Rz.ts Bq.Rz.pre Bq.Rz.out
def Bq.ZA.pre:PB
 | [.b n,.l a]=>I8 n a
 | _=>x5
def Bq.ZA.out:PD
 | [.b n,.l a]=>.bool (Adr (wv n a))
 | _=>.undef
abbrev Bq.ZA.ts:TS:=[.st [.b,.s .u32]]
def Bq.ZA.Bt:=BO Bq.ZA.ts Bq.ZA.pre Bq.ZA.out
def B4.Of.pre:PB
 | [.b n,.l a,.i e]=>I8 n a&&Pn e
 | _=>x5
def B4.Of.out:PD
 | [.b n,.l a,.i e]=>.agg [.bool (BG (mD (wv n a))),.Bj .arg .u32 (Bo (mD (wv n a))),.int .i64 (eD (wv n a) e)]
 | _=>.undef
abbrev B4.Of.ts:TS:=[.st [.b,.s .u32],.i .i64]
def B4.Of.Bt:=BO B4.Of.ts B4.Of.pre B4.Of.out
def B4.Neg.pre:PB
 | [.b n,.l a,.i _e]=>I8 n a
 | _=>x5
def B4.Neg.out:PD
 | [.b n,.l a,.i e]=>.agg [.bool (BG (- wv n a)),.Bj .arg .u32 (Bo (- wv n a)),.int .i64 e]
 | _=>.undef
abbrev B4.Neg.ts:TS:=[.st [.b,.s .u32,.i .i64]]
def B4.Neg.Bt:=BO B4.Neg.ts B4.Neg.pre B4.Neg.out
def B4.ZB.pre:PB
 | [.b n,.l a,.i _e,.b m,.l b,.i _f]=>I8 n a&&I8 m b
 | _=>x5
def B4.ZB.out:PD
 | [.b n,.l a,.i e,.b m,.l b,.i f]=>.int .i64 (DB (wv n a) e (wv m b) f)
 | _=>.undef
abbrev B4.ZB.ts:TS:=[.st [.b,.s .u32,.i .i64],.st [.b,.s .u32,.i .i64]]
def B4.ZB.Bt:=BO B4.ZB.ts B4.ZB.pre B4.ZB.out
def B4.Level.pre:PB
 | [.b n,.l a,.i e,.i f]=>RF n a&&Adq (wv n a) e f
 | _=>x5
def B4.Level.out:PD
 | [.b n,.l a,.i e,.i f]=>.agg [.bool (BG (Hf (wv n a) (e-f))),.Bj .arg .u32 (Bo (Hf (wv n a) (e-f)))]
 | _=>.undef
abbrev B4.Level.ts:TS:=[.st [.b,.s .u32,.i .i64],.i .i64]
def B4.Level.Bt:=BO B4.Level.ts B4.Level.pre B4.Level.out
def B4.Add.pre:PB
 | [.b n,.l a,.i e,.b m,.l b,.i f]=>((RF n a&&RF m b)&&MQ e)&&MQ f
 | _=>x5
def B4.Add.out:PD
 | [.b n,.l a,.i e,.b m,.l b,.i f]=>.agg [.bool (BG (KT (wv n a) e (wv m b) f)),.Bj .arg .u32 (Bo (KT (wv n a) e (wv m b) f)),.int .i64 (Z7 (wv n a) e (wv m b) f)]
 | _=>.undef
abbrev B4.Add.ts:TS:=[.st [.b,.s .u32,.i .i64],.st [.b,.s .u32,.i .i64]]
def B4.Add.Bt:=BO B4.Add.ts B4.Add.pre B4.Add.out
def B4.Sub.pre:PB
 | [.b n,.l a,.i e,.b m,.l b,.i f]=>((RF n a&&RF m b)&&MQ e)&&MQ f
 | _=>x5
def B4.Sub.out:PD
 | [.b n,.l a,.i e,.b m,.l b,.i f]=>.agg [.bool (BG (KT (wv n a) e (- wv m b) f)),.Bj .arg .u32 (Bo (KT (wv n a) e (- wv m b) f)),.int .i64 (Z7 (wv n a) e (- wv m b) f)]
 | _=>.undef
abbrev B4.Sub.ts:TS:=[.st [.b,.s .u32,.i .i64],.st [.b,.s .u32,.i .i64]]
def B4.Sub.Bt:=BO B4.Sub.ts B4.Sub.pre B4.Sub.out
def B4.D7.pre:PB
 | [.b n,.l a,.i e,.i k]=>(I8 n a&&MQ e)&&MQ k
 | _=>x5
def B4.D7.out:PD
 | [.b n,.l a,.i e,.i k]=>.agg [.bool (BG (mD (wv n a))),.Bj .arg .u32 (Bo (mD (wv n a))),.int .i64 (eD (wv n a) (e+k))]
 | _=>.undef
abbrev B4.D7.ts:TS:=[.st [.b,.s .u32,.i .i64],.i .i64]
def B4.D7.Bt:=BO B4.D7.ts B4.D7.pre B4.D7.out
def B4.XH.pre:PB
 | [.b n,.l a,.i e]=>I8 n a&&MQ e
 | _=>x5
def B4.XH.out:PD
 | [.b n,.l a,.i e]=>.int .i64 (Hi (wv n a) e)
 | _=>.undef
abbrev B4.XH.ts:TS:=[.st [.b,.s .u32,.i .i64]]
def B4.XH.Bt:=BO B4.XH.ts B4.XH.pre B4.XH.out
def B4.Sign.pre:PB
 | [.b n,.l a,.i _e]=>I8 n a
 | _=>x5
def B4.Sign.out:PD
 | [.b n,.l a,.i _e]=>.int .i64 (KO (wv n a))
 | _=>.undef
abbrev B4.Sign.ts:TS:=[.st [.b,.s .u32,.i .i64]]
def B4.Sign.Bt:=BO B4.Sign.ts B4.Sign.pre B4.Sign.out
def B4.Compare.pre:PB
 | [.b n,.l a,.i e,.b m,.l b,.i f]=>((RF n a&&RF m b)&&MQ e)&&MQ f
 | _=>x5
def B4.Compare.out:PD
 | [.b n,.l a,.i e,.b m,.l b,.i f]=>.int .i64 (Sd (wv n a) e (wv m b) f)
 | _=>.undef
abbrev B4.Compare.ts:TS:=[.st [.b,.s .u32,.i .i64],.st [.b,.s .u32,.i .i64]]
def B4.Compare.Bt:=BO B4.Compare.ts B4.Compare.pre B4.Compare.out
def Ca.Value.pre:PB
 | [.i x]=>Br x
 | _=>x5
def Ca.Value.out:PD
 | [.i x]=>.agg [.bool (BG (mD (G3 x))),.Bj .arg .u32 (Bo (mD (G3 x))),.int .i64 (eD (G3 x) (BT x))]
 | _=>.undef
abbrev Ca.Value.ts:TS:=[.i .u64]
def Ca.Value.Bt:=BO Ca.Value.ts Ca.Value.pre Ca.Value.out
def Bq.single.pre:PB
 | [.l a,.i x]=>GZ a&&Agt x
 | _=>x5
def Bq.single.out:PD
 | [.l a,.i x]=>.Bj .arg .u32 (singleL a x)
 | _=>.undef
abbrev Bq.single.ts:TS:=[.s .u32,.i .u32]
def Bq.single.Bt:=BO Bq.single.ts Bq.single.pre Bq.single.out
def Bq.Mul.pre:PB
 | [.b n,.l a,.b m,.l b]=>okM n a&&okM m b
 | _=>x5
def Bq.Mul.out:PD
 | [.b n,.l a,.b m,.l b]=>.agg [.bool (BG (wv n a*wv m b)),.Bj .arg .u32 (Bo (wv n a*wv m b))]
 | _=>.undef
abbrev Bq.Mul.ts:TS:=[.st [.b,.s .u32],.st [.b,.s .u32]]
def Bq.Mul.Bt:=BO Bq.Mul.ts Bq.Mul.pre Bq.Mul.out
def B4.Mul.pre:PB
 | [.b n,.l a,.i e,.b m,.l b,.i f]=>(okM n a&&okM m b)&&(MQ e&&MQ f)
 | _=>x5
def B4.Mul.out:PD
 | [.b n,.l a,.i e,.b m,.l b,.i f]=>.agg [.bool (BG (mD (wv n a*wv m b))),.Bj .arg .u32 (Bo (mD (wv n a*wv m b))),.int .i64 (eD (wv n a*wv m b) (e+f))]
 | _=>.undef
abbrev B4.Mul.ts:TS:=[.st [.b,.s .u32,.i .i64],.st [.b,.s .u32,.i .i64]]
def B4.Mul.Bt:=BO B4.Mul.ts B4.Mul.pre B4.Mul.out
def compare.O9.pre:PB
 | [.i b]=>Br b
 | _=>x5
def compare.O9.out:PD
 | [.i b]=>.int .i64 (Vu b)
 | _=>.undef
abbrev compare.O9.ts:TS:=[.i .u64]
def compare.O9.Bt:=BO compare.O9.ts compare.O9.pre compare.O9.out
def compare.Order.pre:PB
 | [.i a,.i b]=>Br a&&Br b
 | _=>x5
def compare.Order.out:PD
 | [.i a,.i b]=>.CR [.int .i64 (G4 a b),.bool (Amq a b)]
 | _=>.undef
abbrev compare.Order.ts:TS:=[.i .u64,.i .u64]
def compare.Order.Bt:=BO compare.Order.ts compare.Order.pre compare.Order.out
def compare.MT.pre:PB
 | [.i a,.i b]=>Br a&&Br b
 | _=>x5
def compare.MT.out:PD
 | [.i a,.i b]=>.bool (decide (G4 a b<0))
 | _=>.undef
abbrev compare.MT.ts:TS:=[.i .u64,.i .u64]
def compare.MT.Bt:=BO compare.MT.ts compare.MT.pre compare.MT.out
def compare.XI.pre:PB
 | [.i a]=>Br a
 | _=>x5
def compare.XI.out:PD
 | [.i a]=>.int .u64 (KQ a)
 | _=>.undef
abbrev compare.XI.ts:TS:=[.i .u64]
def compare.XI.Bt:=BO compare.XI.ts compare.XI.pre compare.XI.out
def compare.D7.pre:PB
 | [.i a,.i n]=>Ew a n
 | _=>x5
def compare.D7.out:PD
 | [.i a,.i n]=>.CR [.int .u64 (BX a n),.int .u8 (Aia a n)]
 | _=>.undef
abbrev compare.D7.ts:TS:=[.i .u64,.i .i64]
def compare.D7.Bt:=BO compare.D7.ts compare.D7.pre compare.D7.out
def Bs.CM.pre:PB
 | [.i a,.i n]=>Ew a n
 | _=>x5
def Bs.CM.out:PD
 | [.i a,.i n]=>.int .u64 (BX a n)
 | _=>.undef
abbrev Bs.CM.ts:TS:=[.i .u64,.i .i64]
def Bs.CM.Bt:=BO Bs.CM.ts Bs.CM.pre Bs.CM.out
def Bs.Div.pre:PB
 | [.i a,.i b]=>Br a&&Br b
 | _=>x5
def Bs.Div.out:PD
 | [.i a,.i b]=>.int .u64 (Fl a b)
 | _=>.undef
abbrev Bs.Div.ts:TS:=[.i .u64,.i .u64]
def Bs.Div.Bt:=BO Bs.Div.ts Bs.Div.pre Bs.Div.out
def Bs.DT.pre:PB
 | [.l x]=>Cq x
 | _=>x5
def Bs.DT.out:PD
 | [.l x]=>.int .u64 (BK x)
 | _=>.undef
abbrev Bs.DT.ts:TS:=[.s .u64]
def Bs.DT.Bt:=BO Bs.DT.ts Bs.DT.pre Bs.DT.out
def Bs.Finite.pre:PB
 | [.l x]=>Cq x
 | _=>x5
def Bs.Finite.out:PD
 | [.l x]=>.bool (DA x)
 | _=>.undef
abbrev Bs.Finite.ts:TS:=[.s .u64]
def Bs.Finite.Bt:=BO Bs.Finite.ts Bs.Finite.pre Bs.Finite.out
def DS.Check.pre:PB
 | [.i _r,.i _c,.l l]=>Bp l
 | _=>x5
def DS.Check.out:PD
 | [.i r,.i c,.l l]=>.int .i64 (BU r c l)
 | _=>.undef
abbrev DS.Check.ts:TS:=[.st [.i .i64,.i .i64,.s .u64]]
def DS.Check.Bt:=BO DS.Check.ts DS.Check.pre DS.Check.out
def solve.Amd.Up.pre:PB
 | [.i r,.i c,.l l,.i p,.i q,.l m,.i n]=>AjR r c l p q m&&decide (n=r)
 | _=>x5
def CB.Finite.pre:PB
 | [.l x]=>Cq x
 | _=>x5
def CB.Finite.out:PD
 | [.l x]=>.bool (DA x)
 | _=>.undef
abbrev CB.Finite.ts:TS:=[.s .u64]
def CB.Finite.Bt:=BO CB.Finite.ts CB.Finite.pre CB.Finite.out
def Dt.Check.pre:PB
 | [.i _r,.i _c,.l l]=>Bp l
 | _=>x5
def Dt.Check.out:PD
 | [.i r,.i c,.l l]=>.int .i64 (BU r c l)
 | _=>.undef
abbrev Dt.Check.ts:TS:=[.st [.i .i64,.i .i64,.s .u64]]
def Dt.Check.Bt:=BO Dt.Check.ts Dt.Check.pre Dt.Check.out
def root.Hx.pre:PB
 | [.i m]=>Ch (0<=m/\m<9223372036854775808)
 | _=>x5
def root.Hx.out:PD
 | [.i m]=>.CR [.int .u64 (Ql m),.bool (Qm m)]
 | _=>.undef
abbrev root.Hx.ts:TS:=[.i .u64]
def root.Hx.Bt:=BO root.Hx.ts root.Hx.pre root.Hx.out
def root.Sqrt.pre:PB
 | [.i a]=>Br a
 | _=>x5
def root.Sqrt.out:PD
 | [.i a]=>.CR [.int .u64 (DQ a),.int .u8 (Ni a)]
 | _=>.undef
abbrev root.Sqrt.ts:TS:=[.i .u64]
def root.Sqrt.Bt:=BO root.Sqrt.ts root.Sqrt.pre root.Sqrt.out
def Bs.Sqrt.pre:PB
 | [.i a]=>Br a
 | _=>x5
def Bs.Sqrt.out:PD
 | [.i a]=>.int .u64 (DQ a)
 | _=>.undef
abbrev Bs.Sqrt.ts:TS:=[.i .u64]
def Bs.Sqrt.Bt:=BO Bs.Sqrt.ts Bs.Sqrt.pre Bs.Sqrt.out
def compare.MZ.pre:PB
 | [.i a]=>Br a
 | _=>x5
def compare.MZ.out:PD
 | [.i a]=>.int .i64 (BQ a)
 | _=>.undef
abbrev compare.MZ.ts:TS:=[.i .u64]
def compare.MZ.Bt:=BO compare.MZ.ts compare.MZ.pre compare.MZ.out
def Bs.Norm.pre:PB
 | [.l x]=>Cq x&&Ch (wj x<=64)
 | _=>x5
def Bs.Norm.out:PD
 | [.l x]=>.CR [.int .u64 (Cb x),.int .i64 (0:Int)]
 | _=>.undef
abbrev Bs.Norm.ts:TS:=[.s .u64]
def Bs.Norm.Bt:=BO Bs.Norm.ts Bs.Norm.pre Bs.Norm.out
def BC.Ed.pre:PB
 | [.l x]=>Cq x
 | _=>x5
def BC.Ed.out:PD
 | [.l x]=>.bool (Fi x)
 | _=>.undef
abbrev BC.Ed.ts:TS:=[.s .u64]
def BC.Ed.Bt:=BO BC.Ed.ts BC.Ed.pre BC.Ed.out
def BC.lead.pre:PB
 | [.l x]=>Cq x
 | _=>x5
def BC.lead.out:PD
 | [.l x]=>.int .u64 (Lk x)
 | _=>.undef
abbrev BC.lead.ts:TS:=[.s .u64]
def BC.lead.Bt:=BO BC.lead.ts BC.lead.pre BC.lead.out
def BC.CG.pre:PB
 | [.l x,.i k]=>Cq x&&Ch (wj x<=1000/\-2300<=k/\k<=2300)
 | _=>x5
def BC.CG.out:PD
 | [.l x,.i k]=>.Bj .BE .u64 (B6 x k)
 | _=>.undef
abbrev BC.CG.ts:TS:=[.s .u64,.i .i64]
def BC.CG.Bt:=BO BC.CG.ts BC.CG.pre BC.CG.out
def BC.HH.pre:PB
 | [.i _i]=>xZ
 | _=>x5
def BC.HH.out:PD
 | [.i _i]=>.int .u64 (0:Int)
 | _=>.undef
abbrev BC.HH.ts:TS:=[.i .i64]
def BC.HH.Bt:=BO BC.HH.ts BC.HH.pre BC.HH.out
def BC.HG.pre:PB
 | [.i i,.l y,.i d]=>(Ch (0<=i/\i<wj y)&&Bp y)&&Br d
 | _=>x5
def BC.HG.out:PD
 | [.i i,.l y,.i d]=>.int .u64 (Fl (wt y (wQ i) 0) d)
 | _=>.undef
abbrev BC.HG.ts:TS:=[.i .i64,.cp [.s .u64],.cp [.i .u64]]
def BC.HG.Bt:=BO BC.HG.ts BC.HG.pre BC.HG.out
def BC.row.Zero.pre:PB
 | [.i n]=>Ch (1<=n/\n<=64)
 | _=>x5
def BC.row.Zero.out:PD
 | [.i n]=>.Bj .BE .u64 (GX (wQ n) (fun _=>0))
 | _=>.undef
abbrev BC.row.Zero.ts:TS:=[.i .i64,.fn 227 []]
def BC.row.Zero.Bt:=BO BC.row.Zero.ts BC.row.Zero.pre BC.row.Zero.out
def BC.row.Div.pre:PB
 | [.i n,.l y,.i d]=>(Ch (1<=n/\n<=64/\n=wj y)&&Bp y)&&Br d
 | _=>x5
def BC.row.Div.out:PD
 | [.i n,.l y,.i d]=>.Bj .BE .u64 (GX (wQ n) (fun j=>Fl (wt y j 0) d))
 | _=>.undef
abbrev BC.row.Div.ts:TS:=[.i .i64,.fn 230 [.cp [.s .u64],.cp [.i .u64]]]
def BC.row.Div.Bt:=BO BC.row.Div.ts BC.row.Div.pre BC.row.Div.out
def BC.Dj.pre:PB
 | [.l x]=>Cq x
 | _=>x5
def BC.Dj.out:PD
 | [.l x]=>.CR [.Bj .BE .u64 ((Ce x).1),.int .u64 ((Ce x).2.1),.int .u64 ((Ce x).2.2.1),.int .i64 ((Ce x).2.2.2)]
 | _=>.undef
abbrev BC.Dj.ts:TS:=[.s .u64]
def BC.Dj.Bt:=BO BC.Dj.ts BC.Dj.pre BC.Dj.out
def BC.Apply.pre:PB
 | [.i r,.i c,.l l,.i i,.i k,.l v,.i t]=>((BA r c l&&MA r c i k v)&&(Bp l&&Bp v))&&Br t
 | _=>x5
def BC.Apply.out:PD
 | [.i r,.i c,.l l,.i i,.i k,.l v,.i t]=>.CR [.agg [.int .i64 r,.int .i64 c,.Bj (.own 114002 43) .u64 (Fc (wQ r) (wQ c) l i k v t)],.int .i64 (0:Int)]
 | _=>.undef
abbrev BC.Apply.ts:TS:=[.st [.i .i64,.i .i64,.s .u64],.i .i64,.i .i64,.s .u64,.i .u64]
def BC.Apply.Bt:=BO BC.Apply.ts BC.Apply.pre BC.Apply.out
def qr.down.pre:PB
 | [.i r,.i c,.l l]=>(BA r c l&&DA l)&&Bp l
 | _=>x5
def qr.down.out:PD
 | [.i r,.i c,.l l]=>.CR [.agg [.int .i64 ((Gb r c l).1),.int .i64 ((Gb r c l).2.1),.Bj .arg .u64 ((Gb r c l).2.2.1)],.Cu .BE 2 (LQ r c l),.int .i64 ((Gb r c l).2.2.2)]
 | _=>.undef
abbrev qr.down.ts:TS:=[.st [.i .i64,.i .i64,.s .u64]]
def qr.down.Bt:=BO qr.down.ts qr.down.pre qr.down.out
def qr.DN.pre:PB
 | [.i _r,.i _c,.l l]=>Bp l
 | _=>x5
def qr.DN.out:PD
 | [.i r,.i c,.l l]=>.CR [.agg [.int .i64 ((qX r c l).1),.int .i64 ((qX r c l).2.1),.Bj .arg .u64 ((qX r c l).2.2.1)],.agg [.int .i64 ((rX r c l).1),.int .i64 ((rX r c l).2.1),.Bj .arg .u64 ((rX r c l).2.2.1)],.int .i64 (Fp r c l)]
 | _=>.undef
abbrev qr.DN.ts:TS:=[.st [.i .i64,.i .i64,.s .u64]]
def qr.DN.Bt:=BO qr.DN.ts qr.DN.pre qr.DN.out
def qr.OF.pre:PB
 | [.i _r,.i _c,.l l]=>Bp l
 | _=>x5
def qr.OF.out:PD
 | [.i r,.i c,.l l]=>.CR [.agg [.int .i64 ((U8 r c l).1),.int .i64 ((U8 r c l).2.1),.Bj .BE .u64 ((U8 r c l).2.2.1)],.agg [.int .i64 ((PA r c l).1),.int .i64 ((PA r c l).2.1),.Bj .BE .u64 ((PA r c l).2.2.1)],.int .i64 (Fp r c l)]
 | _=>.undef
abbrev qr.OF.ts:TS:=[.st [.i .i64,.i .i64,.s .u64]]
def qr.OF.Bt:=BO qr.OF.ts qr.OF.pre qr.OF.out
def K6.MZ.pre:PB
 | [.i a]=>Br a
 | _=>x5
def K6.MZ.out:PD
 | [.i a]=>.int .i64 (BQ a)
 | _=>.undef
abbrev K6.MZ.ts:TS:=[.i .u64]
def K6.MZ.Bt:=BO K6.MZ.ts K6.MZ.pre K6.MZ.out
def Aoi.Gq.pre:PB
 | []=>xZ
 | _=>x5
def CB.Gs.pre:PB
 | [.l x,.i k]=>Cq x&&Ch (0<=k/\k<=1000)
 | _=>x5
def CB.Gs.out:PD
 | [.l x,.i k]=>.bool (G5 x k)
 | _=>.undef
abbrev CB.Gs.ts:TS:=[.s .u64,.i .i64]
def CB.Gs.Bt:=BO CB.Gs.ts CB.Gs.pre CB.Gs.out
def Dt.Gs.pre:PB
 | [.i _r,.i _c,.l l,.i k]=>Bp l&&Ch (0<=k/\k<=1000)
 | _=>x5
def Dt.Gs.out:PD
 | [.i r,.i c,.l l,.i k]=>.bool (BA r c l&&G5 l k)
 | _=>.undef
abbrev Dt.Gs.ts:TS:=[.st [.i .i64,.i .i64,.s .u64],.i .i64]
def Dt.Gs.Bt:=BO Dt.Gs.ts Dt.Gs.pre Dt.Gs.out
def CB.D8.q.pre:PB
 | [.l x]=>Cq x&&Ch (wj x<=64)
 | _=>x5
def CB.D8.q.out:PD
 | [.l x]=>.agg [.bool (BG (mQ (GB x))),.Bj .arg .u32 (Bo (mQ (GB x))),.int .i64 (eQ (GB x))]
 | _=>.undef
abbrev CB.D8.q.ts:TS:=[.s .u64]
def CB.D8.q.Bt:=BO CB.D8.q.ts CB.D8.q.pre CB.D8.q.out
def Dt.Iq.pre:PB
 | [.i r,.i c,.l l]=>Bp l&&BA r c l
 | _=>x5
def Dt.Iq.out:PD
 | [.i _r,.i _c,.l l]=>.agg [.bool (BG (mQ (GB l))),.Bj .arg .u32 (Bo (mQ (GB l))),.int .i64 (eQ (GB l))]
 | _=>.undef
abbrev Dt.Iq.ts:TS:=[.st [.i .i64,.i .i64,.s .u64]]
def Dt.Iq.Bt:=BO Dt.Iq.ts Dt.Iq.pre Dt.Iq.out
def Dt.HD.pre:PB
 | [.b n,.l a,.i e,.b m,.l b,.i f,.i k]=>(dsB n a e&&dsB m b f)&&Ch (0<=k/\k<=1000)
 | _=>x5
def Dt.HD.out:PD
 | [.b n,.l a,.i e,.b m,.l b,.i f,.i k]=>.bool (decide (vQ n a e<=vQ m b f*tw (-2*k)+tw (-4000)))
 | _=>.undef
abbrev Dt.HD.ts:TS:=[.st [.b,.s .u32,.i .i64],.st [.b,.s .u32,.i .i64],.i .i64]
def Dt.HD.Bt:=BO Dt.HD.ts Dt.HD.pre Dt.HD.out
def DF.Rows.pre:PB
 | [.i r,.i c,.l l,.i i,.i k,.i x,.i y]=>BA r c l&&(Bp l&&((Br x&&Br y)&&Ch (0<=i/\i<r/\0<=k/\k<r/\i≠k)))
 | _=>x5
def DF.Rows.out:PD
 | [.i r,.i c,.l l,.i i,.i k,.i x,.i y]=>.CR [.agg [.int .i64 r,.int .i64 c,.Bj .BE .u64 (LK (wQ r) (wQ c) l (wQ i) (wQ k) x y)],.int .i64 (0:Int)]
 | _=>.undef
abbrev DF.Rows.ts:TS:=[.st [.i .i64,.i .i64,.s .u64],.i .i64,.i .i64,.i .u64,.i .u64]
def DF.Rows.Bt:=BO DF.Rows.ts DF.Rows.pre DF.Rows.out
def DF.P9.pre:PB
 | [.i r,.i c,.l l,.i i,.i k,.i x,.i y]=>BA r c l&&(Bp l&&((Br x&&Br y)&&Ch (0<=i/\i<c/\0<=k/\k<c/\i≠k)))
 | _=>x5
def DF.P9.out:PD
 | [.i r,.i c,.l l,.i i,.i k,.i x,.i y]=>.CR [.agg [.int .i64 r,.int .i64 c,.Bj .arg .u64 (Hs (wQ r) (wQ c) l (wQ i) (wQ k) x y)],.int .i64 (0:Int)]
 | _=>.undef
abbrev DF.P9.ts:TS:=[.st [.i .i64,.i .i64,.s .u64],.i .i64,.i .i64,.i .u64,.i .u64]
def DF.P9.Bt:=BO DF.P9.ts DF.P9.pre DF.P9.out
def Cx.Fe.pre:PB
 | [.i i,.i k,.l l]=>Cq l&&Ch (0<=i/\i<((wj l:Nat):Int)/\0<=k/\k<((wj l:Nat):Int))
 | _=>x5
def Cx.Fe.out:PD
 | [.i i,.i k,.l l]=>.int .i64 (G4 (NC l k) (NC l i))
 | _=>.undef
abbrev Cx.Fe.ts:TS:=[.i .i64,.i .i64,.cp [.s .u64]]
def Cx.Fe.Bt:=BO Cx.Fe.ts Cx.Fe.pre Cx.Fe.out
def BP.Bu.pre:PB
 | [.l x,.i a,.i b,.l l]=>Cq l&&Ch (Im (wj l) x=xZ/\wj x<=6/\a=0/\b=((wj x:Nat):Int))
 | _=>x5
def BP.Bu.Tx:List F4->Bf
 | [.l x,.i _a,.i _b,.l l]=>EC l x
 | _=>[]
abbrev BP.Bu.ts:TS:=[.i .i64,.i .i64,.fn 130 [.cp [.s .u64]]]
def BP.BB.pre:PB
 | [.l x,.i n,.l l]=>Cq l&&Ch (Im (wj l) x=xZ/\wj x<=6/\n=((wj x:Nat):Int))
 | _=>x5
def BP.BB.Tx:List F4->Bf
 | [.l x,.i _n,.l l]=>EC l x
 | _=>[]
abbrev BP.BB.ts:TS:=[.i .i64,.fn 130 [.cp [.s .u64]]]
def BP.BF.pre:PB
 | [.l x,.l l]=>Cq l&&Ch (Im (wj l) x=xZ/\wj x<=6)
 | _=>x5
def BP.BF.Tx:List F4->Bf
 | [.l x,.l l]=>EC l x
 | _=>[]
abbrev BP.BF.ts:TS:=[.fn 130 [.cp [.s .u64]]]
def Cx.Ek.pre:PB
 | [.i r,.i c,.l l,.i i,.i k,.i b]=>BA r c l&&(Bp l&&(Br b&&Ch (0<=i/\i<c/\0<=k/\k<c)))
 | _=>x5
def Cx.Ek.out:PD
 | [.i r,.i c,.l l,.i i,.i k,.i b]=>.agg [.int .u64 (trC (Du (wQ r) (wQ c) l (wQ i)) (Du (wQ r) (wQ c) l (wQ k)) b),.int .u64 (trS (Du (wQ r) (wQ c) l (wQ i)) (Du (wQ r) (wQ c) l (wQ k)) b),.bool (MW (Du (wQ r) (wQ c) l (wQ i)) (Du (wQ r) (wQ c) l (wQ k)) b)]
 | _=>.undef
abbrev Cx.Ek.ts:TS:=[.st [.i .i64,.i .i64,.s .u64],.i .i64,.i .i64,.i .u64]
def Cx.Ek.Bt:=BO Cx.Ek.ts Cx.Ek.pre Cx.Ek.out
def Cx.rounds.pre:PB
 | [.i r,.i c,.l l,.i p,.i q,.l m,.i b]=>(BA r c l&&BA p q m)&&((Bp l&&Bp m)&&(Br b&&Ch (p=c/\q=c)))
 | _=>x5
def Cx.rounds.out:PD
 | [.i r,.i c,.l l,.i p,.i q,.l m,.i b]=>.CR [.agg [.int .i64 r,.int .i64 c,.Bj .arg .u64 ((DL (wQ r) (wQ c) b 60 l m).1)],.agg [.int .i64 p,.int .i64 q,.Bj .arg .u64 ((DL (wQ r) (wQ c) b 60 l m).2.1)],.int .i64 ((DL (wQ r) (wQ c) b 60 l m).2.2)]
 | _=>.undef
abbrev Cx.rounds.ts:TS:=[.st [.i .i64,.i .i64,.s .u64],.st [.i .i64,.i .i64,.s .u64],.i .u64]
def Cx.rounds.Bt:=BO Cx.rounds.ts Cx.rounds.pre Cx.rounds.out
def Cx.CG.pre:PB
 | [.i _r,.i _c,.l l,.i k]=>Cq l&&Ch (wj l<=1000/\-2300<=k/\k<=2300)
 | _=>x5
def Cx.CG.out:PD
 | [.i r,.i c,.l l,.i k]=>.agg [.int .i64 r,.int .i64 c,.Bj .arg .u64 (B6 l k)]
 | _=>.undef
abbrev Cx.CG.ts:TS:=[.st [.i .i64,.i .i64,.s .u64],.i .i64]
def Cx.CG.Bt:=BO Cx.CG.ts Cx.CG.pre Cx.CG.out
def Cx.at.pre:PB
 | [.i r,.i c,.l l,.l x]=>BA r c l&&Ch (((wj x:Nat):Int)=c/\Im (wQ c) x=xZ)
 | _=>x5
def Cx.at.out:PD
 | [.i r,.i c,.l l,.l x]=>.agg [.int .i64 r,.int .i64 c,.Bj .BE .u64 (Dz (wQ r) (wQ c) l x)]
 | _=>.undef
abbrev Cx.at.ts:TS:=[.st [.i .i64,.i .i64,.s .u64],.s .i64]
def Cx.at.Bt:=BO Cx.at.ts Cx.at.pre Cx.at.out
def Cx.G8.pre:PB
 | [.i r,.i c,.l l]=>BA r c l&&Bp l
 | _=>x5
def Cx.G8.out:PD
 | [.i r,.i c,.l l]=>.Bj .BE .u64 (CX (wQ r) (wQ c) l)
 | _=>.undef
abbrev Cx.G8.ts:TS:=[.st [.i .i64,.i .i64,.s .u64]]
def Cx.G8.Bt:=BO Cx.G8.ts Cx.G8.pre Cx.G8.out
def Cx.BY.pre:PB
 | [.i _r,.i _c,.l l]=>Bp l
 | _=>x5
def Cx.BY.out:PD
 | [.i r,.i c,.l l]=>.CR [.agg [.int .i64 ((GL r c l).1),.int .i64 ((GL r c l).2.1),.Bj .arg .u64 ((GL r c l).2.2.1)],.agg [.int .i64 ((It r c l).1),.int .i64 ((It r c l).2.1),.Bj .BE .u64 ((It r c l).2.2.1)],.Bj .BE .u64 (O6 r c l),.int .i64 (GW r c l)]
 | _=>.undef
abbrev Cx.BY.ts:TS:=[.st [.i .i64,.i .i64,.s .u64]]
def Cx.BY.Bt:=BO Cx.BY.ts Cx.BY.pre Cx.BY.out
def CN.Check.pre:PB
 | [.i _r,.i _c,.l l,.i _p,.i _q,.l m]=>Bp l&&Bp m
 | _=>x5
def CN.Check.out:PD
 | [.i r,.i c,.l l,.i p,.i q,.l m]=>.int .i64 (VH r c l p q m)
 | _=>.undef
abbrev CN.Check.ts:TS:=[.st [.i .i64,.i .i64,.s .u64],.st [.i .i64,.i .i64,.s .u64]]
def CN.Check.Bt:=BO CN.Check.ts CN.Check.pre CN.Check.out
def CN.Dj.pre:PB
 | [.i _r,.i _c,.l l,.i _p,.i _q,.l m]=>Bp l&&Bp m
 | _=>x5
def CN.Dj.out:PD
 | [.i r,.i c,.l l,.i p,.i q,.l m]=>.CR [.agg [.int .i64 ((Hy r c l p q m).1),.int .i64 ((Hy r c l p q m).2.1),.Bj .arg .u64 ((Hy r c l p q m).2.2.1),.int .i64 ((H0 r c l p q m).1),.int .i64 ((H0 r c l p q m).2.1),.Bj .BE .u64 ((H0 r c l p q m).2.2.1),.int .i64 ((Hz r c l p q m).1),.int .i64 ((Hz r c l p q m).2.1),.Bj .BE .u64 ((Hz r c l p q m).2.2.1),.int .i64 ((H2 r c l p q m).1),.int .i64 ((H2 r c l p q m).2.1),.Bj .BE .u64 ((H2 r c l p q m).2.2.1),.Bj .BE .u64 (F9 r c l p q m),.Bj .BE .u64 (IJ r c l p q m)],.int .i64 (Di r c l p q m)]
 | _=>.undef
abbrev CN.Dj.ts:TS:=[.st [.i .i64,.i .i64,.s .u64],.st [.i .i64,.i .i64,.s .u64]]
def CN.Dj.Bt:=BO CN.Dj.ts CN.Dj.pre CN.Dj.out
def CN.DJ.pre:PB
 | [.i _a1,.i _b1,.l _l1,.i _a2,.i _b2,.l _l2,.i _a3,.i _b3,.l _l3,.i _a4,.i _b4,.l _l4,.l _x,.l y]=>Cq y
 | _=>x5
def CN.DJ.out:PD
 | [.i _a1,.i _b1,.l _l1,.i _a2,.i _b2,.l _l2,.i _a3,.i _b3,.l _l3,.i _a4,.i _b4,.l _l4,.l _x,.l y]=>.int .i64 (Sa y)
 | _=>.undef
abbrev CN.DJ.ts:TS:=[.st [.i .i64,.i .i64,.s .u64,.i .i64,.i .i64,.s .u64,.i .i64,.i .i64,.s .u64,.i .i64,.i .i64,.s .u64,.s .u64,.s .u64]]
def CN.DJ.Bt:=BO CN.DJ.ts CN.DJ.pre CN.DJ.out
def Cw.one.pre:PB
 | [.i _b]=>xZ
 | _=>x5
def Cw.one.out:PD
 | [.i b]=>.agg [.int .i64 (1:Int),.int .i64 (1:Int),.Bj .BE .u64 ([b])]
 | _=>.undef
abbrev Cw.one.ts:TS:=[.i .u64]
def Cw.one.Bt:=BO Cw.one.ts Cw.one.pre Cw.one.out
def Cw.Gq.pre:PB
 | []=>xZ
 | _=>x5
def Cw.Gq.out:PD
 | []=>.bool xZ
 | _=>.undef
abbrev Cw.Gq.ts:TS:=[]
def Cw.Gq.Bt:=BO Cw.Gq.ts Cw.Gq.pre Cw.Gq.out
def BJ.Of.pre:PB
 | [.i _r,.i _c,.l l]=>Bp l&&Ch (wj l<=64)
 | _=>x5
def BJ.Of.out:PD
 | [.i r,.i c,.l l]=>.agg [.int .i64 r,.int .i64 c,.Cu .BE 3 (Gg l)]
 | _=>.undef
abbrev BJ.Of.ts:TS:=[.st [.i .i64,.i .i64,.s .u64]]
def BJ.Of.Bt:=BO BJ.Of.ts BJ.Of.pre BJ.Of.out
def BJ.Dd.pre:PB
 | [.i r,.i c,.r y,.i p,.i q,.r z]=>(E6 2148 4200 6 y (wQ r*wQ c)&&E6 1074 2100 1 z (wQ p*wQ q))&&Ch (p=c/\0<=r/\r<=6/\1<=c/\c<=6/\0<=q/\q<=6)
 | _=>x5
def BJ.Dd.out:PD
 | [.i r,.i c,.r y,.i _p,.i q,.r z]=>.agg [.int .i64 r,.int .i64 q,.Cu .BE 3 (Md (wQ r) (wQ c) (wQ q) y z)]
 | _=>.undef
abbrev BJ.Dd.ts:TS:=[.st [.i .i64,.i .i64,.rl 3],.st [.i .i64,.i .i64,.rl 3]]
def BJ.Dd.Bt:=BO BJ.Dd.ts BJ.Dd.pre BJ.Dd.out
def BJ.KU.pre:PB
 | [.i _r,.i _c,.r y,.i _p,.i _q,.r z]=>E6 1074 2100 1 y (wj y)&&(E6 3222 6300 36 z (wj z)&&Ch (wj y=wj z/\wj y<=36))
 | _=>x5
def BJ.KU.out:PD
 | [.i _r,.i _c,.r y,.i _p,.i _q,.r z]=>.agg [.bool (BG (mQ (Xk y z))),.Bj .arg .u32 (Bo (mQ (Xk y z))),.int .i64 (eQ (Xk y z))]
 | _=>.undef
abbrev BJ.KU.ts:TS:=[.st [.i .i64,.i .i64,.rl 3],.st [.i .i64,.i .i64,.rl 3]]
def BJ.KU.Bt:=BO BJ.KU.ts BJ.KU.pre BJ.KU.out
def BJ.KM.pre:PB
 | [.i r,.i c,.l l,.i p,.i q,.l m,.i u,.i v,.l h,.i a,.i b,.l g]=>(BA r c l&&BA p q m)&&((BA u v h&&BA a b g)&&(((Bp l&&Bp m)&&(Bp h&&Bp g))&&decide (p=r/\q=u/\v=b/\a=c/\1<=q/\1<=v)))
 | _=>x5
def BJ.KM.out:PD
 | [.i r,.i c,.l l,.i _p,.i q,.l m,.i _u,.i v,.l h,.i _a,.i _b,.l g]=>.agg [.bool (BG (mQ (Sn (wQ r) (wQ q) (wQ v) (wQ c) l m h g))),.Bj .arg .u32 (Bo (mQ (Sn (wQ r) (wQ q) (wQ v) (wQ c) l m h g))),.int .i64 (eQ (Sn (wQ r) (wQ q) (wQ v) (wQ c) l m h g))]
 | _=>.undef
abbrev BJ.KM.ts:TS:=[.st [.i .i64,.i .i64,.s .u64],.st [.i .i64,.i .i64,.s .u64],.st [.i .i64,.i .i64,.s .u64],.st [.i .i64,.i .i64,.s .u64]]
def BJ.KM.Bt:=BO BJ.KM.ts BJ.KM.pre BJ.KM.out
def Cw.DK.pre:PB
 | [.i _r,.i _c,.l l,.i _p,.i _q,.l m]=>Bp l&&Bp m
 | _=>x5
def Cw.DK.out:PD
 | [.i _r,.i _c,.l _l,.i _p,.i _q,.l _m]=>.bool xZ
 | _=>.undef
abbrev Cw.DK.ts:TS:=[.st [.i .i64,.i .i64,.s .u64],.st [.i .i64,.i .i64,.s .u64]]
def Cw.DK.Bt:=BO Cw.DK.ts Cw.DK.pre Cw.DK.out
def Cw.fit.pre:PB
 | [.i _a1,.i _b1,.l l1,.i _a2,.i _b2,.l l2,.i _a3,.i _b3,.l l3,.i _a4,.i _b4,.l l4,.l x,.l y,.i _r,.i _c,.l _l,.i _p,.i _q,.l _m]=>((Bp l1&&Bp l2)&&(Bp l3&&Bp l4))&&(Cq x&&Cq y)
 | _=>x5
def Cw.fit.out:PD
 | [.i a1,.i b1,.l l1,.i a2,.i b2,.l l2,.i a3,.i b3,.l l3,.i a4,.i b4,.l l4,.l x,.l y,.i r,.i c,.l _l,.i p,.i _q,.l _m]=>.bool (AdT a1 b1 l1 a2 b2 l2 a3 b3 l3 a4 b4 l4 x y r c p)
 | _=>.undef
abbrev Cw.fit.ts:TS:=[.st [.i .i64,.i .i64,.s .u64,.i .i64,.i .i64,.s .u64,.i .i64,.i .i64,.s .u64,.i .i64,.i .i64,.s .u64,.s .u64,.s .u64],.st [.i .i64,.i .i64,.s .u64],.st [.i .i64,.i .i64,.s .u64]]
def Cw.fit.Bt:=BO Cw.fit.ts Cw.fit.pre Cw.fit.out
def Cw.asked.pre:PB
 | [.i _r,.i _c,.l l,.i _p,.i _q,.l m]=>Bp l&&Bp m
 | _=>x5
def Cw.asked.out:PD
 | [.i r,.i c,.l l,.i p,.i q,.l m]=>.CR [.agg [.int .i64 ((HB r c l p q m (Hy r c l p q m)).1),.int .i64 ((HB r c l p q m (Hy r c l p q m)).2.1),.Bj .arg .u64 ((HB r c l p q m (Hy r c l p q m)).2.2.1),.int .i64 ((HB r c l p q m (H0 r c l p q m)).1),.int .i64 ((HB r c l p q m (H0 r c l p q m)).2.1),.Bj .arg .u64 ((HB r c l p q m (H0 r c l p q m)).2.2.1),.int .i64 ((HB r c l p q m (Hz r c l p q m)).1),.int .i64 ((HB r c l p q m (Hz r c l p q m)).2.1),.Bj .arg .u64 ((HB r c l p q m (Hz r c l p q m)).2.2.1),.int .i64 ((HB r c l p q m (H2 r c l p q m)).1),.int .i64 ((HB r c l p q m (H2 r c l p q m)).2.1),.Bj .arg .u64 ((HB r c l p q m (H2 r c l p q m)).2.2.1),.Bj .arg .u64 (X4 r c l p q m (F9 r c l p q m)),.Bj .arg .u64 (X4 r c l p q m (IJ r c l p q m))],.bool (NP r c l p q m),.bool (P3 r c l p q m)]
 | _=>.undef
abbrev Cw.asked.ts:TS:=[.st [.i .i64,.i .i64,.s .u64],.st [.i .i64,.i .i64,.s .u64]]
def Cw.asked.Bt:=BO Cw.asked.ts Cw.asked.pre Cw.asked.out
def B4.Add.q.pre:PB
 | [.b n,.l a,.i e,.b m,.l b,.i f]=>Qz n a e&&Qz m b f
 | _=>x5
def B4.Add.q.out:PD
 | [.b n,.l a,.i e,.b m,.l b,.i f]=>.agg [.bool (BG (mQ (vQ n a e+vQ m b f))),.Bj .arg .u32 (Bo (mQ (vQ n a e+vQ m b f))),.int .i64 (eQ (vQ n a e+vQ m b f))]
 | _=>.undef
abbrev B4.Add.q.ts:TS:=[.st [.b,.s .u32,.i .i64],.st [.b,.s .u32,.i .i64]]
def B4.Add.q.Bt:=BO B4.Add.q.ts B4.Add.q.pre B4.Add.q.out
def B4.Sub.q.pre:PB
 | [.b n,.l a,.i e,.b m,.l b,.i f]=>Qz n a e&&Qz m b f
 | _=>x5
def B4.Sub.q.out:PD
 | [.b n,.l a,.i e,.b m,.l b,.i f]=>.agg [.bool (BG (mQ (vQ n a e-vQ m b f))),.Bj .arg .u32 (Bo (mQ (vQ n a e-vQ m b f))),.int .i64 (eQ (vQ n a e-vQ m b f))]
 | _=>.undef
abbrev B4.Sub.q.ts:TS:=[.st [.b,.s .u32,.i .i64],.st [.b,.s .u32,.i .i64]]
def B4.Sub.q.Bt:=BO B4.Sub.q.ts B4.Sub.q.pre B4.Sub.q.out
def B4.Mul.q.pre:PB
 | [.b n,.l a,.i e,.b m,.l b,.i f]=>Qz n a e&&Qz m b f
 | _=>x5
def B4.Mul.q.out:PD
 | [.b n,.l a,.i e,.b m,.l b,.i f]=>.agg [.bool (BG (mQ (vQ n a e*vQ m b f))),.Bj .arg .u32 (Bo (mQ (vQ n a e*vQ m b f))),.int .i64 (eQ (vQ n a e*vQ m b f))]
 | _=>.undef
abbrev B4.Mul.q.ts:TS:=[.st [.b,.s .u32,.i .i64],.st [.b,.s .u32,.i .i64]]
def B4.Mul.q.Bt:=BO B4.Mul.q.ts B4.Mul.q.pre B4.Mul.q.out
def B4.D7.q.pre:PB
 | [.b n,.l a,.i e,.i k]=>Qz n a e&&Ch (-2000<=k/\k<=2000)
 | _=>x5
def B4.D7.q.out:PD
 | [.b n,.l a,.i e,.i k]=>.agg [.bool (BG (mQ (vQ n a e*tw k))),.Bj .arg .u32 (Bo (mQ (vQ n a e*tw k))),.int .i64 (eQ (vQ n a e*tw k))]
 | _=>.undef
abbrev B4.D7.q.ts:TS:=[.st [.b,.s .u32,.i .i64],.i .i64]
def B4.D7.q.Bt:=BO B4.D7.q.ts B4.D7.q.pre B4.D7.q.out
def B4.Compare.q.pre:PB
 | [.b n,.l a,.i e,.b m,.l b,.i f]=>Qz n a e&&Qz m b f
 | _=>x5
def B4.Compare.q.out:PD
 | [.b n,.l a,.i e,.b m,.l b,.i f]=>.int .i64 (Abc (vQ n a e) (vQ m b f))
 | _=>.undef
abbrev B4.Compare.q.ts:TS:=[.st [.b,.s .u32,.i .i64],.st [.b,.s .u32,.i .i64]]
def B4.Compare.q.Bt:=BO B4.Compare.q.ts B4.Compare.q.pre B4.Compare.q.out
def B4.Of.q.pre:PB
 | [.b n,.l a,.i e]=>I8 n a&&Ch (-5000<=e/\e<=5000)
 | _=>x5
def B4.Of.q.out:PD
 | [.b n,.l a,.i e]=>.agg [.bool (BG (mQ (vQ n a e))),.Bj .arg .u32 (Bo (mQ (vQ n a e))),.int .i64 (eQ (vQ n a e))]
 | _=>.undef
abbrev B4.Of.q.ts:TS:=[.st [.b,.s .u32],.i .i64]
def B4.Of.q.Bt:=BO B4.Of.q.ts B4.Of.q.pre B4.Of.q.out
def Ca.Value.q.pre:PB
 | [.i x]=>Br x
 | _=>x5
def Ca.Value.q.out:PD
 | [.i x]=>.agg [.bool (BG (mQ (I7 x))),.Bj .arg .u32 (Bo (mQ (I7 x))),.int .i64 (eQ (I7 x))]
 | _=>.undef
abbrev Ca.Value.q.ts:TS:=[.i .u64]
def Ca.Value.q.Bt:=BO Ca.Value.q.ts Ca.Value.q.pre Ca.Value.q.out
def DH.IS.pre:PB
 | [.i x]=>Br x
 | _=>x5
def DH.IS.out:PD
 | [.i x]=>.int .i64 (EO x)
 | _=>.undef
abbrev DH.IS.ts:TS:=[.i .u64]
def DH.IS.Bt:=BO DH.IS.ts DH.IS.pre DH.IS.out
def Bq.plus.own.pre:PB
 | [.l a,.l b]=>GZ a&&GZ b
 | _=>x5
def Bq.plus.own.out:PD
 | [.l a,.l b]=>.Bj (.own 100005 121) .u32 (Ix a b)
 | _=>.undef
abbrev Bq.plus.own.ts:TS:=[.s .u32,.s .u32]
def Bq.plus.own.Bt:=BO Bq.plus.own.ts Bq.plus.own.pre Bq.plus.own.out
theorem tt0:∀a b c:Bool,((a==a)&&(b&&(c&&xZ)))=(b&&c):=by decide
theorem tt1:∀a b:Bool,(cond a b x5)=(a&&b):=by decide
theorem QG:∀a:Bool,(((!a)||(a==xZ))&&xZ)=xZ:=by decide
theorem JV:∀a:Bool,((!(a==xZ))||((((!(a==xZ))||(a==xZ))&&xZ)&&xZ))=xZ:=by decide
theorem MH:∀a:Bool,((!(a==xZ))||xZ)=xZ:=by decide
theorem tt5:∀a b:Bool,(cond a xZ b)=(a||b):=by decide
theorem XT:∀a:Bool,((!(!a))||(a==x5))=xZ:=by decide
theorem RW:∀a:Bool,((!(a==x5))||((((!(a==x5))||(a==x5))&&xZ)&&xZ))=xZ:=by decide
theorem tt8:∀a:Bool,((!(a==x5))||((((!(a==x5))||(a==x5))&&(((!(a==x5))||(a==x5))&&xZ))&&xZ))=xZ:=by decide
theorem U5:∀a:Bool,((!(a==x5))||xZ)=xZ:=by decide
theorem CF:∀a:Bool,(a&&xZ)=a:=by decide
theorem AnC:∀a b c d e:Bool,(cond a (bif b then xZ else (cond c (bif d then xZ else e) x5)) x5)=(a&&(b||(c&&(d||e)))):=by decide
theorem AlX:∀a b:Bool,((!(a==xZ))||(((!(a==xZ))||(a==xZ))&&((!(!b))||((a==xZ)&&(b==x5)))))=xZ:=by decide
theorem AnB:∀a b c:Bool,((!((a==xZ)&&(b==x5)))||(((!((a==xZ)&&(b==x5)))||((a==xZ)&&(b==x5)))&&(((!c)||(((a==xZ)&&(b==x5))&&(c==xZ)))&&xZ)))=xZ:=by decide
theorem AnA:∀a b c d:Bool,((!(((a==xZ)&&(b==x5))&&(c==xZ)))||(((!(((a==xZ)&&(b==x5))&&(c==xZ)))||(((a==xZ)&&(b==x5))&&(c==xZ)))&&((!(!d))||((((a==xZ)&&(b==x5))&&(c==xZ))&&(d==x5)))))=xZ:=by decide
theorem AlV:∀a b c d:Bool,((!((((a==xZ)&&(b==x5))&&(c==xZ))&&(d==x5)))||((((!((((a==xZ)&&(b==x5))&&(c==xZ))&&(d==x5)))||((((a==xZ)&&(b==x5))&&(c==xZ))&&(d==x5)))&&xZ)&&xZ))=xZ:=by decide
theorem An9:∀a b c d:Bool,((!((((a==xZ)&&(b==x5))&&(c==xZ))&&(d==x5)))||xZ)=xZ:=by decide
theorem An8:∀a b c:Bool,((!(((a==xZ)&&(b==x5))&&(c==xZ)))||((((!(((a==xZ)&&(b==x5))&&(c==xZ)))||(((a==xZ)&&(b==x5))&&(c==xZ)))&&xZ)&&xZ))=xZ:=by decide
theorem An7:∀a b c:Bool,((!(((a==xZ)&&(b==x5))&&(c==xZ)))||xZ)=xZ:=by decide
theorem AlU:∀a b:Bool,((!((a==xZ)&&(b==x5)))||((((!((a==xZ)&&(b==x5)))||((a==xZ)&&(b==x5)))&&xZ)&&xZ))=xZ:=by decide
theorem AlT:∀a b:Bool,((!((a==xZ)&&(b==x5)))||((((!((a==xZ)&&(b==x5)))||((a==xZ)&&(b==x5)))&&(((!((a==xZ)&&(b==x5)))||((a==xZ)&&(b==x5)))&&xZ))&&xZ))=xZ:=by decide
theorem AeQ:∀a b:Bool,((!((a==xZ)&&(b==x5)))||xZ)=xZ:=by decide
theorem AcJ:∀a:Bool,((!(a==xZ))||((((!(a==xZ))||(a==xZ))&&(((!(a==xZ))||(a==xZ))&&xZ))&&xZ))=xZ:=by decide
theorem AjQ:∀a b:Bool,(cond (!a) xZ b)=((!a)||b):=by decide
theorem U7:∀a:Bool,((!(!(!a)))||((!a)==x5))=xZ:=by decide
theorem OZ:∀a:Bool,((!((!a)==x5))||((((!((!a)==x5))||((!a)==x5))&&xZ)&&xZ))=xZ:=by decide
theorem SU:∀a:Bool,((!((!a)==x5))||xZ)=xZ:=by decide
theorem An6:∀a b:Bool,(cond a (!b) x5)=(a&&(!b)):=by decide
theorem AeP:∀a b:Bool,(cond (!a) xZ (!b))=((!a)||(!b)):=by decide
theorem AcI:∀a b:Bool,((!((!a)==x5))||((((!((!a)==x5))||((!a)==x5))&&xZ)&&b))=((!a)||b):=by decide
theorem AlS:∀a b c d:Bool,(cond (bif a then b else x5) xZ (bif c then d else x5))=((a&&b)||(c&&d)):=by decide
theorem AlR:∀a b:Bool,((!(!(cond a b x5)))||((cond a b x5)==x5))=xZ:=by decide
theorem AlQ:∀a b c:Bool,((!((cond a b x5)==x5))||(((!((cond a b x5)==x5))||((cond a b x5)==x5))&&(((!c)||(((cond a b x5)==x5)&&(c==xZ)))&&xZ)))=xZ:=by decide
theorem AlP:∀a b c:Bool,((!(((cond a b x5)==x5)&&(c==xZ)))||((((!(((cond a b x5)==x5)&&(c==xZ)))||(((cond a b x5)==x5)&&(c==xZ)))&&xZ)&&xZ))=xZ:=by decide
theorem AlO:∀a b c:Bool,((!(((cond a b x5)==x5)&&(c==xZ)))||xZ)=xZ:=by decide
theorem AhO:∀a b:Bool,((!((cond a b x5)==x5))||((((!((cond a b x5)==x5))||((cond a b x5)==x5))&&xZ)&&xZ))=xZ:=by decide
theorem AlN:∀a b:Bool,((!((cond a b x5)==x5))||xZ)=xZ:=by decide
theorem IW:∀a b:Bool,((a&&b)&&xZ)=(a&&b):=by decide
theorem An5:∀a b c:Bool,(cond (bif (!a) then xZ else (!b)) xZ c)=(((!a)||(!b))||c):=by decide
theorem AlM:∀a b:Bool,((!(!(cond (!a) xZ (!b))))||((cond (!a) xZ (!b))==x5))=xZ:=by decide
theorem AlL:∀a b:Bool,((!((cond (!a) xZ (!b))==x5))||((((!((cond (!a) xZ (!b))==x5))||((cond (!a) xZ (!b))==x5))&&(((!((cond (!a) xZ (!b))==x5))||((cond (!a) xZ (!b))==x5))&&xZ))&&xZ))=xZ:=by decide
theorem AeO:∀a b:Bool,((!((cond (!a) xZ (!b))==x5))||((((!((cond (!a) xZ (!b))==x5))||((cond (!a) xZ (!b))==x5))&&xZ)&&xZ))=xZ:=by decide
theorem AeN:∀a b:Bool,((!((cond (!a) xZ (!b))==x5))||xZ)=xZ:=by decide
theorem An4:∀a b c d:Bool,(((a&&b)&&(c&&d))&&xZ)=((a&&b)&&(c&&d)):=by decide
theorem An3:∀a b c d e f g h:Bool,(cond (bif (cond (bif (cond (bif (cond a xZ b) then xZ else c) xZ d) then xZ else e) xZ f) then xZ else g) xZ h)=(((((((a||b)||c)||d)||e)||f)||g)||h):=by decide
theorem An2:∀a b c d e f g:Bool,((!(!(cond (bif (cond (bif (cond (bif a then xZ else b) xZ c) then xZ else d) xZ e) then xZ else f) xZ g)))||((cond (bif (cond (bif (cond (bif a then xZ else b) xZ c) then xZ else d) xZ e) then xZ else f) xZ g)==x5))=xZ:=by decide
theorem AlK:∀a b c d e f g:Bool,((!((cond (bif (cond (bif (cond (bif a then xZ else b) xZ c) then xZ else d) xZ e) then xZ else f) xZ g)==x5))||((((!((cond (bif (cond (bif (cond (bif a then xZ else b) xZ c) then xZ else d) xZ e) then xZ else f) xZ g)==x5))||((cond (bif (cond (bif (cond (bif a then xZ else b) xZ c) then xZ else d) xZ e) then xZ else f) xZ g)==x5))&&(((!((cond (bif (cond (bif (cond (bif a then xZ else b) xZ c) then xZ else d) xZ e) then xZ else f) xZ g)==x5))||((cond (bif (cond (bif (cond (bif a then xZ else b) xZ c) then xZ else d) xZ e) then xZ else f) xZ g)==x5))&&xZ))&&xZ))=xZ:=by decide
theorem AjP:∀a b c d e f g:Bool,((!((cond (bif (cond (bif (cond (bif a then xZ else b) xZ c) then xZ else d) xZ e) then xZ else f) xZ g)==x5))||xZ)=xZ:=by decide
theorem An1:∀a b c d e f g:Bool,((!((cond (bif (cond (bif (cond (bif a then xZ else b) xZ c) then xZ else d) xZ e) then xZ else f) xZ g)==x5))||((((!((cond (bif (cond (bif (cond (bif a then xZ else b) xZ c) then xZ else d) xZ e) then xZ else f) xZ g)==x5))||((cond (bif (cond (bif (cond (bif a then xZ else b) xZ c) then xZ else d) xZ e) then xZ else f) xZ g)==x5))&&xZ)&&xZ))=xZ:=by decide
theorem An0:∀a b c d e f:Bool,((!(!(cond (bif (cond (bif (cond a xZ b) then xZ else c) xZ d) then xZ else e) xZ f)))||((cond (bif (cond (bif (cond a xZ b) then xZ else c) xZ d) then xZ else e) xZ f)==x5))=xZ:=by decide
theorem AlJ:∀a b c d e f:Bool,((!((cond (bif (cond (bif (cond a xZ b) then xZ else c) xZ d) then xZ else e) xZ f)==x5))||((((!((cond (bif (cond (bif (cond a xZ b) then xZ else c) xZ d) then xZ else e) xZ f)==x5))||((cond (bif (cond (bif (cond a xZ b) then xZ else c) xZ d) then xZ else e) xZ f)==x5))&&(((!((cond (bif (cond (bif (cond a xZ b) then xZ else c) xZ d) then xZ else e) xZ f)==x5))||((cond (bif (cond (bif (cond a xZ b) then xZ else c) xZ d) then xZ else e) xZ f)==x5))&&xZ))&&xZ))=xZ:=by decide
theorem AjO:∀a b c d e f:Bool,((!((cond (bif (cond (bif (cond a xZ b) then xZ else c) xZ d) then xZ else e) xZ f)==x5))||xZ)=xZ:=by decide
theorem Anz:∀a b c d e f:Bool,((!((cond (bif (cond (bif (cond a xZ b) then xZ else c) xZ d) then xZ else e) xZ f)==x5))||((((!((cond (bif (cond (bif (cond a xZ b) then xZ else c) xZ d) then xZ else e) xZ f)==x5))||((cond (bif (cond (bif (cond a xZ b) then xZ else c) xZ d) then xZ else e) xZ f)==x5))&&xZ)&&xZ))=xZ:=by decide
theorem Anx:∀a b c d e:Bool,((!(!(cond (bif (cond (bif a then xZ else b) xZ c) then xZ else d) xZ e)))||((cond (bif (cond (bif a then xZ else b) xZ c) then xZ else d) xZ e)==x5))=xZ:=by decide
theorem Anw:∀a b c d e:Bool,((!((cond (bif (cond (bif a then xZ else b) xZ c) then xZ else d) xZ e)==x5))||((((!((cond (bif (cond (bif a then xZ else b) xZ c) then xZ else d) xZ e)==x5))||((cond (bif (cond (bif a then xZ else b) xZ c) then xZ else d) xZ e)==x5))&&(((!((cond (bif (cond (bif a then xZ else b) xZ c) then xZ else d) xZ e)==x5))||((cond (bif (cond (bif a then xZ else b) xZ c) then xZ else d) xZ e)==x5))&&xZ))&&xZ))=xZ:=by decide
theorem Anv:∀a b c d e:Bool,((!((cond (bif (cond (bif a then xZ else b) xZ c) then xZ else d) xZ e)==x5))||((((!((cond (bif (cond (bif a then xZ else b) xZ c) then xZ else d) xZ e)==x5))||((cond (bif (cond (bif a then xZ else b) xZ c) then xZ else d) xZ e)==x5))&&xZ)&&xZ))=xZ:=by decide
theorem AlI:∀a b c d e:Bool,((!((cond (bif (cond (bif a then xZ else b) xZ c) then xZ else d) xZ e)==x5))||xZ)=xZ:=by decide
theorem AjN:∀a b c d:Bool,((!(!(cond (bif (cond a xZ b) then xZ else c) xZ d)))||((cond (bif (cond a xZ b) then xZ else c) xZ d)==x5))=xZ:=by decide
theorem AjM:∀a b c d:Bool,((!((cond (bif (cond a xZ b) then xZ else c) xZ d)==x5))||((((!((cond (bif (cond a xZ b) then xZ else c) xZ d)==x5))||((cond (bif (cond a xZ b) then xZ else c) xZ d)==x5))&&(((!((cond (bif (cond a xZ b) then xZ else c) xZ d)==x5))||((cond (bif (cond a xZ b) then xZ else c) xZ d)==x5))&&xZ))&&xZ))=xZ:=by decide
theorem AlH:∀a b c d:Bool,((!((cond (bif (cond a xZ b) then xZ else c) xZ d)==x5))||((((!((cond (bif (cond a xZ b) then xZ else c) xZ d)==x5))||((cond (bif (cond a xZ b) then xZ else c) xZ d)==x5))&&xZ)&&xZ))=xZ:=by decide
theorem AcH:∀a b c d:Bool,((!((cond (bif (cond a xZ b) then xZ else c) xZ d)==x5))||xZ)=xZ:=by decide
theorem AhN:∀a b c:Bool,((!(!(cond (bif a then xZ else b) xZ c)))||((cond (bif a then xZ else b) xZ c)==x5))=xZ:=by decide
theorem AcG:∀a b c:Bool,((!((cond (bif a then xZ else b) xZ c)==x5))||((((!((cond (bif a then xZ else b) xZ c)==x5))||((cond (bif a then xZ else b) xZ c)==x5))&&xZ)&&xZ))=xZ:=by decide
theorem AcF:∀a b c:Bool,((!((cond (bif a then xZ else b) xZ c)==x5))||xZ)=xZ:=by decide
theorem AhM:∀a b:Bool,((!(!(cond a xZ b)))||((cond a xZ b)==x5))=xZ:=by decide
theorem ZT:∀a b:Bool,((!((cond a xZ b)==x5))||((((!((cond a xZ b)==x5))||((cond a xZ b)==x5))&&xZ)&&xZ))=xZ:=by decide
theorem XS:∀a b:Bool,((!((cond a xZ b)==x5))||xZ)=xZ:=by decide
theorem AlG:∀a b c d:Bool,(((!(cond (bif (cond a b x5) then c else x5) d x5))||((cond (bif (cond a b x5) then c else x5) d x5)==xZ))&&xZ)=xZ:=by decide
theorem AlF:∀a b c d:Bool,((!((cond (bif (cond a b x5) then c else x5) d x5)==xZ))||((((!((cond (bif (cond a b x5) then c else x5) d x5)==xZ))||((cond (bif (cond a b x5) then c else x5) d x5)==xZ))&&(((!((cond (bif (cond a b x5) then c else x5) d x5)==xZ))||((cond (bif (cond a b x5) then c else x5) d x5)==xZ))&&xZ))&&xZ))=xZ:=by decide
theorem AeM:∀a b c d:Bool,((!((cond (bif (cond a b x5) then c else x5) d x5)==xZ))||((((!((cond (bif (cond a b x5) then c else x5) d x5)==xZ))||((cond (bif (cond a b x5) then c else x5) d x5)==xZ))&&xZ)&&xZ))=xZ:=by decide
theorem AhL:∀a b c d:Bool,((!((cond (bif (cond a b x5) then c else x5) d x5)==xZ))||xZ)=xZ:=by decide
theorem AjL:∀a b c:Bool,(((!(cond (bif a then b else x5) c x5))||((cond (bif a then b else x5) c x5)==xZ))&&xZ)=xZ:=by decide
theorem AcE:∀a b c:Bool,((!((cond (bif a then b else x5) c x5)==xZ))||((((!((cond (bif a then b else x5) c x5)==xZ))||((cond (bif a then b else x5) c x5)==xZ))&&xZ)&&xZ))=xZ:=by decide
theorem AjK:∀a b c:Bool,((!((cond (bif a then b else x5) c x5)==xZ))||xZ)=xZ:=by decide
theorem AhK:∀a b:Bool,(((!(cond a b x5))||((cond a b x5)==xZ))&&xZ)=xZ:=by decide
theorem AcD:∀a b:Bool,((!((cond a b x5)==xZ))||((((!((cond a b x5)==xZ))||((cond a b x5)==xZ))&&xZ)&&xZ))=xZ:=by decide
theorem AhJ:∀a b:Bool,((!((cond a b x5)==xZ))||xZ)=xZ:=by decide
theorem AlE:∀a b c:Bool,((!(a==xZ))||((((!(a==xZ))||(a==xZ))&&(((!(a==xZ))||(a==xZ))&&xZ))&&(b&&c)))=((!a)||(b&&c)):=by decide
theorem AlD:∀a:Bool,(((a&&xZ)&&xZ)&&xZ)=a:=by decide
theorem AlB:∀a b:Bool,((!(a==xZ))||((((!(a==xZ))||(a==xZ))&&xZ)&&b))=((!a)||b):=by decide
theorem Anu:∀a b:Bool,((!(a==x5))||((((!(a==x5))||(a==x5))&&xZ)&&b))=(a||b):=by decide
theorem Ant:∀a b:Bool,(cond a xZ (!b))=(a||(!b)):=by decide
theorem AjJ:∀a b c:Bool,((a&&b)&&((a&&c)&&xZ))=((a&&b)&&(a&&c)):=by decide
theorem Ans:∀a:Bool,((a&&xZ)&&xZ)=a:=by decide
theorem AlA:∀a b c d e:Bool,(cond (bif (cond (bif a then xZ else b) xZ c) then xZ else d) xZ e)=((((a||b)||c)||d)||e):=by decide
theorem AhI:∀a b:Bool,((!((cond a xZ b)==x5))||((((!((cond a xZ b)==x5))||((cond a xZ b)==x5))&&(((!((cond a xZ b)==x5))||((cond a xZ b)==x5))&&xZ))&&xZ))=xZ:=by decide
theorem Anr:∀a b c d:Bool,(cond (bif (cond a xZ b) then xZ else c) xZ d)=(((a||b)||c)||d):=by decide
theorem Al9:∀a b c:Bool,((!((cond (bif a then xZ else b) xZ c)==x5))||((((!((cond (bif a then xZ else b) xZ c)==x5))||((cond (bif a then xZ else b) xZ c)==x5))&&(((!((cond (bif a then xZ else b) xZ c)==x5))||((cond (bif a then xZ else b) xZ c)==x5))&&xZ))&&xZ))=xZ:=by decide
theorem Al8:∀a b c:Bool,((!((cond a b x5)==xZ))||((((!((cond a b x5)==xZ))||((cond a b x5)==xZ))&&xZ)&&c))=((!(a&&b))||c):=by decide
theorem Anq:∀a b c:Bool,(cond a (bif b then xZ else c) x5)=(a&&(b||c)):=by decide
theorem Anp:∀a b c:Bool,((!((a==xZ)&&(b==x5)))||((((!((a==xZ)&&(b==x5)))||((a==xZ)&&(b==x5)))&&xZ)&&c))=((!(a&&(!b)))||c):=by decide
theorem Ano:∀a b c d:Bool,((!((a==xZ)&&(b==x5)))||((((!((a==xZ)&&(b==x5)))||((a==xZ)&&(b==x5)))&&(((!((a==xZ)&&(b==x5)))||((a==xZ)&&(b==x5)))&&xZ))&&(c&&d)))=((!(a&&(!b)))||(c&&d)):=by decide
theorem Al7:∀a b:Bool,((!(a==xZ))||((((!(a==xZ))||(a==xZ))&&(((!(a==xZ))||(a==xZ))&&xZ))&&b))=((!a)||b):=by decide
theorem Ann:∀a b c:Bool,(((a&&b)&&c)&&xZ)=((a&&b)&&c):=by decide
theorem Anm:∀a:Bool,((((!a)||(a==xZ))&&xZ)&&xZ)=xZ:=by decide
theorem Al6:∀a:Bool,(((!(a==xZ))||((((!(a==xZ))||(a==xZ))&&xZ)&&xZ))&&xZ)=xZ:=by decide
theorem Anl:∀a b:Bool,(((!(a==xZ))||((((!(a==xZ))||(a==xZ))&&(((!(a==xZ))||(a==xZ))&&(((!(a==xZ))||(a==xZ))&&xZ)))&&b))&&xZ)=((!a)||b):=by decide
theorem Al5:∀a b:Bool,(((!(a==xZ))||((((!(a==xZ))||(a==xZ))&&xZ)&&b))&&xZ)=((!a)||b):=by decide
theorem Al4:∀a b c:Bool,(((!(a==xZ))||((((!(a==xZ))||(a==xZ))&&(((!(a==xZ))||(a==xZ))&&xZ))&&(b&&c)))&&xZ)=((!a)||(b&&c)):=by decide
theorem XU:∀a:Bool,(((!(a==xZ))||xZ)&&xZ)=xZ:=by decide
theorem Amc:∀a b c:Bool,(cond (bif (!a) then xZ else (!b)) xZ (!c))=(((!a)||(!b))||(!c)):=by decide
theorem Amb:∀a b c:Bool,((!((cond (!a) xZ (!b))==x5))||((((!((cond (!a) xZ (!b))==x5))||((cond (!a) xZ (!b))==x5))&&(((!((cond (!a) xZ (!b))==x5))||((cond (!a) xZ (!b))==x5))&&xZ))&&c))=(((!a)||(!b))||c):=by decide
theorem Ama:∀a b c:Bool,((!((cond (!a) xZ (!b))==x5))||((((!((cond (!a) xZ (!b))==x5))||((cond (!a) xZ (!b))==x5))&&xZ)&&c))=(((!a)||(!b))||c):=by decide
theorem AlZ:∀a b:Bool,((!((!a)==x5))||((((!((!a)==x5))||((!a)==x5))&&(((!((!a)==x5))||((!a)==x5))&&xZ))&&b))=((!a)||b):=by decide
theorem AlY:∀a b c d e:Bool,((!((cond (bif (cond a b x5) then c else x5) d x5)==xZ))||((((!((cond (bif (cond a b x5) then c else x5) d x5)==xZ))||((cond (bif (cond a b x5) then c else x5) d x5)==xZ))&&xZ)&&e))=((!(((a&&b)&&c)&&d))||e):=by decide
theorem Ab9:∀a b c:Bool,(cond (bif a then xZ else b) xZ c)=((a||b)||c):=by decide
theorem R6:∀a b c:Bool,((a&&(b&&(c&&xZ)))&&xZ)=(a&&(b&&c)):=by decide
theorem AlW:∀a b c d:Bool,((!((cond (bif a then b else x5) c x5)==xZ))||((((!((cond (bif a then b else x5) c x5)==xZ))||((cond (bif a then b else x5) c x5)==xZ))&&xZ)&&d))=((!((a&&b)&&c))||d):=by decide
theorem Ab8:∀a b:Bool,(((!(!(cond a xZ b)))||((cond a xZ b)==x5))&&xZ)=xZ:=by decide
theorem R5:∀a b:Bool,(((!((cond a xZ b)==x5))||((((!((cond a xZ b)==x5))||((cond a xZ b)==x5))&&(((!((cond a xZ b)==x5))||((cond a xZ b)==x5))&&xZ))&&xZ))&&xZ)=xZ:=by decide
theorem ML:∀a b:Bool,(((!((cond a xZ b)==x5))||((((!((cond a xZ b)==x5))||((cond a xZ b)==x5))&&xZ)&&xZ))&&xZ)=xZ:=by decide
theorem MK:∀a b:Bool,(((!((cond a xZ b)==x5))||xZ)&&xZ)=xZ:=by decide
theorem Ab7:∀a:Bool,(((!(!a))||(a==x5))&&xZ)=xZ:=by decide
theorem MJ:∀a:Bool,(((!(a==x5))||((((!(a==x5))||(a==x5))&&(((!(a==x5))||(a==x5))&&xZ))&&xZ))&&xZ)=xZ:=by decide
theorem MI:∀a:Bool,(((!(a==x5))||((((!(a==x5))||(a==x5))&&xZ)&&xZ))&&xZ)=xZ:=by decide
theorem JN:∀a:Bool,(((!(a==x5))||xZ)&&xZ)=xZ:=by decide
open Go Go.Den Go.Ck Go.Proofs
set_option maxRecDepth 100000
def soft.Split.GM:List (Nat × Ez):=[]
def soft.Split.E:Env:=D6 (Db soft.Split.GM) (fun _=>x5) (fun _=>xY) (fun _=>xY)
theorem soft.Split.ev(N:Nat)(x:Int):Cz soft.Split.E N f202 (Bw f202) [.int .u64 x]=xQ (.agg [.bool ((DU .u64 x 63)==(1:Int)),.int .i64 (Bg (FZ .u64 (DU .u64 x 52) 2047)),.int .u64 (FZ .u64 x 4503599627370495)]):=by kernel_rfl
abbrev soft.Split.Kn:=Ey prog 202 soft.Split.Bt
theorem soft.Split.D4(hk:Ff prog soft.Split.GM)(h:Hyp soft.Split.E f202 soft.Split.ts soft.Split.pre soft.Split.out):soft.Split.Kn :=FO (JL hk _ _ _) func202 (by kernel_rfl) (by kernel_rfl) h
def soft.Kind.GM:List (Nat × Ez):=[(202,soft.Split.Bt)]
def soft.Kind.E:Env:=D6 (Db soft.Kind.GM) (fun _=>x5) (fun _=>xY) (fun _=>xY)
theorem soft.Kind.ev(N:Nat)(x:Int):Cz soft.Kind.E N f165 (Bw f165) [.int .u64 x]=cond (Br x) (bif (((Ka x)==(2047:Int))&&((Dk x)==(0:Int))) then xQ (.int .i64 3) else bif ((Ka x)==(2047:Int)) then xQ (.int .i64 4) else bif (BI 0 (Ka x)) then xQ (.int .i64 2) else bif (BI 0 (Dk x)) then xQ (.int .i64 1) else xQ (.int .i64 0)) xY :=Et (EY (CQ (tt0 (DX x) _ _) rfl rfl) rfl)
abbrev soft.Kind.Kn:=Ey prog 165 soft.Kind.Bt
theorem soft.Kind.D4(hk:Ff prog soft.Kind.GM)(h:Hyp soft.Kind.E f165 soft.Kind.ts soft.Kind.pre soft.Kind.out):soft.Kind.Kn :=FO (JL hk _ _ _) func165 (by kernel_rfl) (by kernel_rfl) h
def soft.Sign.GM:List (Nat × Ez):=[]
def soft.Sign.E:Env:=D6 (Db soft.Sign.GM) (fun _=>x5) (fun _=>xY) (fun _=>xY)
theorem soft.Sign.ev(N:Nat)(x:Int):Cz soft.Sign.E N f181 (Bw f181) [.int .u64 x]=xQ (.bool ((DU .u64 x 63)==(1:Int))):=by kernel_rfl
abbrev soft.Sign.Kn:=Ey prog 181 soft.Sign.Bt
theorem soft.Sign.D4(hk:Ff prog soft.Sign.GM)(h:Hyp soft.Sign.E f181 soft.Sign.ts soft.Sign.pre soft.Sign.out):soft.Sign.Kn :=FO (JL hk _ _ _) func181 (by kernel_rfl) (by kernel_rfl) h
def soft.Finite.GM:List (Nat × Ez):=[(165,soft.Kind.Bt)]
def soft.Finite.E:Env:=D6 (Db soft.Finite.GM) (fun _=>x5) (fun _=>xY) (fun _=>xY)
theorem soft.Finite.ev(N:Nat)(x:Int):Cz soft.Finite.E N f136 (Bw f136) [.int .u64 x]=cond (Br x) (bif ((BH x)==(3:Int)) then xQ (.bool x5) else bif ((BH x)==(4:Int)) then xQ (.bool x5) else xQ (.bool xZ)) xY:=by kernel_rfl
abbrev soft.Finite.Kn:=Ey prog 136 soft.Finite.Bt
theorem soft.Finite.D4(hk:Ff prog soft.Finite.GM)(h:Hyp soft.Finite.E f136 soft.Finite.ts soft.Finite.pre soft.Finite.out):soft.Finite.Kn :=FO (JL hk _ _ _) func136 (by kernel_rfl) (by kernel_rfl) h
def soft.EZ.GM:List (Nat × Ez):=[]
def soft.EZ.E:Env:=D6 (Db soft.EZ.GM) (fun _=>x5) (fun _=>xY) (fun _=>xY)
theorem soft.EZ.ev(N:Nat)(x:Int):Cz soft.EZ.E N f81 (Bw f81) [.int .u64 x]=xQ (.int .u64 (Aji .u64 x 9223372036854775808)):=by kernel_rfl
abbrev soft.EZ.Kn:=Ey prog 81 soft.EZ.Bt
theorem soft.EZ.D4(hk:Ff prog soft.EZ.GM)(h:Hyp soft.EZ.E f81 soft.EZ.ts soft.EZ.pre soft.EZ.out):soft.EZ.Kn :=FO (JL hk _ _ _) func81 (by kernel_rfl) (by kernel_rfl) h
def soft.Fo.GM:List (Nat × Ez):=[(202,soft.Split.Bt)]
def soft.Fo.E:Env:=D6 (Db soft.Fo.GM) (fun _=>x5) (fun _=>xY) (fun _=>xY)
theorem soft.Fo.ev(N:Nat)(x:Int):Cz soft.Fo.E N f166 (Bw f166) [.int .u64 x]=cond (Br x) (bif ((Ka x)==(0:Int)) then xQ (.CR [.int .u64 (Dk x),.int .i64 (-1074:Int)]) else xQ (.CR [.int .u64 (HK .u64 (Dk x) 4503599627370496),.int .i64 (Bg ((Ka x)-1075))])) xY:=by kernel_rfl
abbrev soft.Fo.Kn:=Ey prog 166 soft.Fo.Bt
theorem soft.Fo.D4(hk:Ff prog soft.Fo.GM)(h:Hyp soft.Fo.E f166 soft.Fo.ts soft.Fo.pre soft.Fo.out):soft.Fo.Kn :=FO (JL hk _ _ _) func166 (by kernel_rfl) (by kernel_rfl) h
def soft.Pack.GM:List (Nat × Ez):=[(81,soft.EZ.Bt)]
def soft.Pack.E(rk:Nat):Env:=D6 (Db ((214,Adi [.b,.i .u64,.i .i64] soft.Pack.pre soft.Pack.out soft.Pack.mu rk)::soft.Pack.GM)) (fun _=>x5) (fun _=>xY) (fun _=>xY)
theorem soft.Pack.ev(N rk:Nat)(n:Bool)(m e:Int):Cz (soft.Pack.E rk) N f214 (Bw f214) [.bool n,.int .u64 m,.int .i64 e]=cond (m==(0:Int)) (bif n then cond (Br 0) (xQ (.int .u64 (C1 0))) xY else xQ (.int .u64 0)) (bif (Eg 9007199254740992 m) then cond ((Jw (DU .u64 m 1) (Bg (e+1)))&&(Ch ((Mk (DU .u64 m 1) (Bg (e+1)))<rk))) (xQ (.int .u64 (PX n (DU .u64 m 1) (Bg (e+1))))) xY else bif ((BI m 4503599627370496)&&(BI (-1074:Int) e)) then cond ((Jw (Ct .u64 m 1) (Bg (e-1)))&&(Ch ((Mk (Ct .u64 m 1) (Bg (e-1)))<rk))) (xQ (.int .u64 (PX n (Ct .u64 m 1) (Bg (e-1))))) xY else bif (BI m 4503599627370496) then cond n (bif (Br m) then xQ (.int .u64 (C1 m)) else xY) (xQ (.int .u64 m)) else bif (Eg 2047 (Bg (e+1075))) then cond n (bif (Br 9218868437227405312) then xQ (.int .u64 (C1 9218868437227405312)) else xY) (xQ (.int .u64 9218868437227405312)) else bif n then cond (Br (HK .u64 (Ct .u64 (BV (Bg (e+1075))) 52) (FZ .u64 m 4503599627370495))) (xQ (.int .u64 (C1 (HK .u64 (Ct .u64 (BV (Bg (e+1075))) 52) (FZ .u64 m 4503599627370495))))) xY else xQ (.int .u64 (HK .u64 (Ct .u64 (BV (Bg (e+1075))) 52) (FZ .u64 m 4503599627370495)))) :=Et (EY rfl (EY rfl (B5 (MH (BI m 4503599627370496)) (B5 (JV (BI m 4503599627370496)) (B5 (QG (BI m 4503599627370496)) (CQ (tt1 _ _) rfl rfl))))))
theorem soft.Pack.D4(hk:Ff prog soft.Pack.GM)(h:∀(rk:Nat) (n:Bool) (m e:Int),soft.Pack.pre [.b n,.i m,.i e]=xZ->soft.Pack.mu [.b n,.i m,.i e]<rk+1->∃N dv drops,Cz (soft.Pack.E rk) N f214 (Bw f214) [.bool n,.int .u64 m,.int .i64 e]=xQ dv/\Wk drops dv (soft.Pack.out [.b n,.i m,.i e])):Ey prog 214 soft.Pack.Bt:=by have call:=Io (f:=214) func214 (by kernel_rfl) (show f214.body=xQ (Bw f214) by kernel_rfl);refine⟨Aa9 (E:=soft.Pack.E) func214 (show f214.body=xQ (Bw f214) by kernel_rfl) soft.Pack.mu (fun rk hm=>JL (.cons ⟨hm,call⟩ hk) _ _ _) fun rk ats dvs he hp hr=>?_,call⟩;obtain⟨n,_,_,rfl,rfl,he0⟩:=he.Am9;obtain⟨m,_,_,rfl,rfl,he1⟩:=he0.VG;obtain⟨e,_,_,rfl,rfl,he2⟩:=he1.VG;obtain⟨rfl,rfl⟩:=he2.Ib;exact h rk n m e hp hr
abbrev soft.Pack.Kn:Prop:=Ey prog 214 soft.Pack.Bt
def soft.DI.hint:Nat->Option BN
 | 0=>xQ { Df:=[0,1,2,3,10],Cg:=[],Cr:=[] }
 | _=>xY
def soft.DI.GM:List (Nat × Ez):=[(165,soft.Kind.Bt),(214,soft.Pack.Bt)]
def soft.DI.live:Nat->Option (List Nat)
 | 7=>xQ [0,1,2,3,10]
 | 12=>xQ [0,2,3,10,11,12,13,14]
 | 14=>xQ [0,2,10,11,14]
 | 16=>xQ [0,2,10,11,14]
 | 18=>xQ [14,15,16]
 | _=>xY
def soft.DI.E:Env:=D6 (Db soft.DI.GM) (fun _=>x5) soft.DI.hint soft.DI.live
section
variable(N:Nat)(p14_3:Bool)(p15:Int)(M:Nat)(n:Bool)(m e p11 p10_4:Int)(p14_2:Bool)(p10_3 p11_2:Int)(p14_1 r:Bool)(p10_2 p11_1 p12 p13:Int)(p14:Bool)(p10_1 p10:Int)
def soft.DI.L0:Option DV:=C6 soft.DI.E N f180 (Bw f180) [1,1,1,0,0] [] M ⟨Fz 111 [(0,.bool n),(1,.int .u64 m),(2,.int .i64 e),(3,.bool r),(10,.int .i64 p10)],[]⟩
def soft.DI.C7:Option DV:=cutAt soft.DI.E N f180 (Bw f180) [1,1,1,1] [] ⟨Fz 111 [(0,.bool n),(1,.int .u64 m),(2,.int .i64 e),(3,.bool r),(10,.int .i64 p10_1)],[]⟩
def soft.DI.C12:Option DV:=cutAt soft.DI.E N f180 (Bw f180) [1,1,1,1,1,1,1,1,0] [] ⟨Fz 111 [(0,.bool n),(2,.int .i64 e),(3,.bool r),(10,.int .i64 p10_2),(11,.int .u64 p11_1),(12,.int .u64 p12),(13,.int .u64 p13),(14,.bool p14)],[]⟩
def soft.DI.C14:Option DV:=cutAt soft.DI.E N f180 (Bw f180) [1,1,1,1,1,1,1,1,1,0] [] ⟨Fz 111 [(0,.bool n),(2,.int .i64 e),(10,.int .i64 p10_3),(11,.int .u64 p11_2),(14,.bool p14_1)],[]⟩
def soft.DI.C16:Option DV:=cutAt soft.DI.E N f180 (Bw f180) [1,1,1,1,1,1,1,1,1,1] [] ⟨Fz 111 [(0,.bool n),(2,.int .i64 e),(10,.int .i64 p10_4),(11,.int .u64 p11),(14,.bool p14_2)],[]⟩
def soft.DI.C18:Option DV:=cutAt soft.DI.E N f180 (Bw f180) [1,1,1,1,1,1,1,1,1,1,1,1,0] [] ⟨Fz 111 [(14,.bool p14_3),(15,.int .u64 p15),(16,.int .u8 0)],[]⟩
theorem soft.DI.B8:soft.DI.L0 N (M+1) n m e r p10=cond (decide (0<=p10)) (bif ((Eg 9007199254740992 (DU .u64 m p10))||(BI (Bg (e+p10)) (-1074:Int))) then cond ((Bg (p10+1))==(63:Int)) (soft.DI.C7 N n m e r (Bg (p10+1))) (soft.DI.L0 N M n m e r (Bg (p10+1))) else soft.DI.C7 N n m e r p10) xY :=Et (EY (B5 (U5 (Eg 9007199254740992 (DU .u64 m p10))) (B5 (U5 (Eg 9007199254740992 (DU .u64 m p10))) (B5 (tt8 (Eg 9007199254740992 (DU .u64 m p10))) (B5 (RW (Eg 9007199254740992 (DU .u64 m p10))) (B5 (XT (Eg 9007199254740992 (DU .u64 m p10))) (CQ (tt5 _ _) rfl rfl)))))) rfl)
theorem soft.DI.Ac5:soft.DI.C7 N n m e r p10_1=cond (decide (0<=p10_1)) (bif (decide (0<=p10_1)) then cond (BI 0 p10_1) (bif (decide (0<=(Bg (p10_1-1)))) then soft.DI.C12 N n e r p10_1 (DU .u64 m p10_1) (FZ .u64 m (BV ((Ct .u64 1 p10_1)-1))) (Ct .u64 1 (Bg (p10_1-1))) (cond ((FZ .u64 m (BV ((Ct .u64 1 p10_1)-1)))==(0:Int)) (!r) x5) else xY) (soft.DI.C12 N n e r p10_1 (DU .u64 m p10_1) (FZ .u64 m (BV ((Ct .u64 1 p10_1)-1))) 0 (cond ((FZ .u64 m (BV ((Ct .u64 1 p10_1)-1)))==(0:Int)) (!r) x5)) else xY) xY:=
 yS ((DY _ _ _ _ _ _ _).trans (by kernel_rfl))
 (CQ (CF _) (CQ (CF _) (EY (EY (B5 (MH ((FZ .u64 m (BV ((Ct .u64 1 p10_1)-1)))==(0:Int))) (B5 (JV ((FZ .u64 m (BV ((Ct .u64 1 p10_1)-1)))==(0:Int))) (B5 (QG ((FZ .u64 m (BV ((Ct .u64 1 p10_1)-1)))==(0:Int))) rfl))) rfl) (B5 (MH ((FZ .u64 m (BV ((Ct .u64 1 p10_1)-1)))==(0:Int))) (B5 (JV ((FZ .u64 m (BV ((Ct .u64 1 p10_1)-1)))==(0:Int))) (B5 (QG ((FZ .u64 m (BV ((Ct .u64 1 p10_1)-1)))==(0:Int))) rfl)))) rfl) rfl)
theorem soft.DI.Abx:soft.DI.C12 N n e r p10_2 p11_1 p12 p13 p14=cond ((BI 0 p10_2)&&((BI p13 p12)||((p12==p13)&&(r||((FZ .u64 p11_1 1)==(1:Int)))))) (soft.DI.C14 N n e p10_2 (BV (p11_1+1)) p14) (soft.DI.C14 N n e p10_2 p11_1 p14):=
 yS ((DY _ _ _ _ _ _ _).trans (by kernel_rfl))
 (B5 (MH (BI 0 p10_2)) (B5 (MH (BI 0 p10_2)) (B5 (AcJ (BI 0 p10_2)) (B5 (JV (BI 0 p10_2)) (B5 (AeQ (BI 0 p10_2) (BI p13 p12)) (B5 (AeQ (BI 0 p10_2) (BI p13 p12)) (B5 (AlT (BI 0 p10_2) (BI p13 p12)) (B5 (AlU (BI 0 p10_2) (BI p13 p12)) (B5 (An7 (BI 0 p10_2) (BI p13 p12) (p12==p13)) (B5 (An8 (BI 0 p10_2) (BI p13 p12) (p12==p13)) (B5 (An9 (BI 0 p10_2) (BI p13 p12) (p12==p13) r) (B5 (AlV (BI 0 p10_2) (BI p13 p12) (p12==p13) r) (B5 (AlV (BI 0 p10_2) (BI p13 p12) (p12==p13) r) (B5 (AnA (BI 0 p10_2) (BI p13 p12) (p12==p13) r) (B5 (AnB (BI 0 p10_2) (BI p13 p12) (p12==p13)) (B5 (AlX (BI 0 p10_2) (BI p13 p12)) (B5 (QG (BI 0 p10_2)) (CQ (AnC _ _ _ _ _) rfl rfl))))))))))))))))))
theorem soft.DI.AkY:soft.DI.C14 N n e p10_3 p11_2 p14_1=cond (BI (Bg (e+p10_3)) (-1074:Int)) (soft.DI.C16 N n e 0 p10_3 p14_1) (soft.DI.C16 N n e p11_2 p10_3 p14_1):=(DY _ _ _ _ _ _ _).trans (by kernel_rfl)
theorem soft.DI.Abw:soft.DI.C16 N n e p11 p10_4 p14_2=cond (Jw p11 (max (Bg (e+p10_4)) (-1074:Int))) (soft.DI.C18 N p14_2 (PX n p11 (max (Bg (e+p10_4)) (-1074:Int)))) xY:=(DY _ _ _ _ _ _ _).trans (by kernel_rfl)
theorem soft.DI.Abv:soft.DI.C18 N p14_3 p15=cond ((!p14_3)||((O0 .u64 p15 9223372036854775808)==(9218868437227405312:Int))) (bif (Br p15) then cond ((BH p15)==(3:Int)) (xQ (.CR [.int .u64 p15,.int .u8 5])) (bif ((BH p15)==(0:Int)) then cond ((BH p15)==(0:Int)) (xQ (.CR [.int .u64 p15,.int .u8 3])) (xQ (.CR [.int .u64 p15,.int .u8 1])) else bif ((BH p15)==(1:Int)) then xQ (.CR [.int .u64 p15,.int .u8 3]) else xQ (.CR [.int .u64 p15,.int .u8 1])) else xY) (xQ (.CR [.int .u64 p15,.int .u8 0])):=
 yS ((DY _ _ _ _ _ _ _).trans (by kernel_rfl))
 (B5 (SU p14_3) (B5 (OZ p14_3) (B5 (OZ p14_3) (B5 (U7 p14_3) (CQ (AjQ _ _) rfl rfl)))))
theorem soft.DI.ev:Cz soft.DI.E N f180 (Bw f180) [.bool n,.int .u64 m,.int .i64 e,.bool r]=cond ((m==(0:Int))&&(!r)) (bif (Jw 0 (-1074:Int)) then xQ (.CR [.int .u64 (PX n 0 (-1074:Int)),.int .u8 0]) else xY) (soft.DI.L0 N N n m e r 0) :=Et (B5 (MH (m==(0:Int))) (B5 (JV (m==(0:Int))) (B5 (QG (m==(0:Int))) (CQ (An6 _ _) rfl rfl))))
end
end Go.Proofs.S1
end
