/- A verified evaluator of the program's form and its use for this seat: HouL, DiffL, MagL, RootM, NorL, BndL, RatV, DyQ, QuoW, S1Specs. -/
import Derived.Test.YtfpbkmeodcgcbaaGreatTE
set_option linter.unusedVariables false
set_option linter.unusedSimpArgs false
open Option renaming some->xM
open Bool renaming true->wg,false->wy
open Int renaming toNat->wz
open List renaming length->vA,getD->vB
open Nat renaming mod_lt->zv,lt_trans->y9,zero_le->zF,pow_succ->zG,mul_mul_mul_comm->xc,zero_mul->zI,lt_log2_self->yi,mul_add->yc,mul_pos->x6,log2_self_le->zS,div_add_mod->zK,one_mul->zA,mul_le_mul_left->yg,zero_div->y5
open List renaming mem_map->zu,mem_cons->zL,length_cons->zt,set->zw
open Int renaming natAbs_neg->y7,natAbs_mul->yw
open Rat renaming natCast_mul->zU,natCast_le_natCast->xd,mul_le_mul_of_nonneg_left->zl,le_of_lt->zc,mul_le_mul_of_nonneg_right->zd,intCast_neg->wT,mul_assoc->xw,mul_nonneg->ze,intCast_mul->xy,intCast_add->wV
open Classical renaming choose->wU,choose_spec->ud
noncomputable section
namespace Go.CI
open Go.Den
theorem Hn:Bo (0:Int)=wg:=Cq (n:=0) (by decide)
theorem Ag9:Bo AgC=wg:=Cq (n:=4607182418800017408) (by decide)
theorem AdQ{b:Nat}{n:Int}(h:b<2^64):(Co b n).1<2^64:=by
 unfold Co;by_cases h4:Bj b=4
 ·rw[Az h4]; exact(by decide:Jt<2^64)
 rw[Ay h4];by_cases h3:Bj b=3\/Bj b=0
 ·rw[Az h3]; exact h
 rw[Ay h3];exact Qr _ _ _
theorem FP{b n:Int}(h:Bo b=wg):Bo (BP b n)=wg:=by obtain⟨x,rfl,hx⟩:=BR h;exact Cq (AdQ (by rw[Ad]; exact hx))
theorem Pd(b:Nat):CV b<2^63:=zv _ (by decide)
theorem UW:∀(l:Bb) (m:Nat),m<2^64->It l m<2^64
 | [],m,h=>h
 | x::l,m,h=>by
   unfold It;split
   ·exact(by decide:Jt<2^64)
   ·have h2:=Pd x.toNat;exact UW l _ (by omega)
theorem Me(l:Bb):Bo (BA l)=wg:=Cq (UW l 0 (by decide))
theorem PQ(x:Int):Bo (Gf x)=wg:=Cq (y9 (Pd x.toNat) (by decide))
theorem AbQ{a b:Int}(ha:Bo a=wg)(hb:Bo b=wg):Bo (EN a b)=wg:=by obtain⟨x,rfl,hx⟩:=BR ha;obtain⟨y,rfl,hy⟩:=BR hb;exact Cq (Nw (by rw[Ad]; exact hx) (by rw[Ad]; exact hy)).1
theorem Uf{a:Int}(ha:Bo a=wg):Bo (CM a)=wg:=by obtain⟨x,rfl,hx⟩:=BR ha;exact Cq (OL (by rw[Ad]; exact hx))
theorem AfZ{b:Nat}(h:b<2^64):(Gu b).1<2^64:=by
 by_cases h4:Bj b=4
 ·rw[Qo h4]; exact(by decide:Jt<2^64)
 by_cases h0:Bj b=0\/b=Dk
 ·rw[IA h4 h0]; exact h
 cases hn:BE b with
 | true=>rw[Qn h4 h0 hn]; exact(by decide:Jt<2^64)
 | false =>unfold Gu;rw[Ay h4,Ay h0,hn,Ay (by decide)];exact y9 (HD _ _) (by decide)
theorem WX{a:Int}(ha:Bo a=wg):Bo (ET a)=wg:=by obtain⟨x,rfl,hx⟩:=BR ha;exact Cq (AfZ (by rw[Ad]; exact hx))
theorem AfX(k:Int):∀(l:Bb) {s:Int},Bo s=wg->Bo (JH k s l)=wg
 | [],_,h=>h
 | _::l,_,h=>AfX k l (AbQ h (Ft _ _))
theorem Q7(x:Bb):Bo (CB x)=wg:=by
 unfold CB;split
 ·exact Me x
 ·exact FP (WX (AfX _ _ Hn))
theorem Zc(x:Bb):Bo (Jn x)=wg:=by
 unfold Jn;split
 ·exact Q7 _
 ·exact Uf (Q7 _)
theorem Ak3(x:Bb):Bo (DK x)=wg:=FP (Zc x)
theorem AeQ(b:Nat):-1100<=Ea b/\Ea b<=1100:=by
 unfold Ea;split
 ·have h1:=C4 b;have h2:=E1 b;rename_i h
  have h3:(Bs b).log2<53:=by
   by_cases h0:Bs b=0
   ·rw[h0]; decide
   ·exact(AV h0).2 h2
  omega
 ·omega
theorem UH(x:Int):-1100<=BK x/\BK x<=1100:=AeQ x.toNat
theorem Gk{l:Bb}(h:Bg l=wg)(j:Nat):Bo (l.getD j 0)=wg:=QU (Bt.1 h) j
theorem Pa{l:Bb}(h:∀x∈l,Bo x=wg):Bg l=wg:=Bt.2 h
theorem DQ:Bg []=wg:=Pa fun _ h=>by cases h
theorem Aab{α:Type}{l:List α}{f:α->Int}(h:∀j,Bo (f j)=wg):Bg (l.map f)=wg:=Pa fun x hx=>by obtain⟨j,_,rfl⟩:=zu.1 hx;exact h j
theorem Afn{x:Int}{l:Bb}(h1:Bo x=wg)(h2:Bg l=wg):Bg (x::l)=wg:=Pa fun y hy=>by
 rcases zL.1 hy with rfl | hy
 ·exact h1
 ·exact Bt.1 h2 y hy
theorem JD{c i k:Int}{l:Bb}(h:Bg l=wg):Bo (Cc c l i k)=wg:=Gk h _
theorem FF(c b i:Int)(n:Nat)(l:Bb):(Cb c l b i n).length=n:=by unfold Cb; rw[AK,AH]
theorem HU{c b i:Int}{n:Nat}{l:Bb}(h:Bg l=wg):Bg (Cb c l b i n)=wg:=Aab fun _=>JD h
theorem Agp(n:Nat){f:Nat->Int}(h:∀j,Bo (f j)=wg):Bg (Gc n f)=wg:=Afn Ag9 (Aab fun _=>h _)
theorem HF{n:Nat}(h:n≠0)(f:Nat->Int):(Gc n f).length=n:=by unfold Gc;rw[zt,AK,AH];omega
theorem QD{x:Bb}(h:Bg x=wg):Bg (BV x).1=wg/\Bo (BV x).2.1=wg/\Bo (BV x).2.2.1=wg:=by
 have hz:Bg []=wg/\Bo (0:Int)=wg/\Bo (0:Int)=wg:=⟨DQ,Hn,Hn⟩
 unfold BV;split
 ·exact hz
 split
 ·unfold I2;split
  ·dsimp only;exact⟨Agp _ fun _=>Hn,Hn,Gk h 0⟩
  ·split
   ·dsimp only;exact⟨Agp _ fun _=>Yb _ _,Yb _ _,Ak3 x⟩
   ·exact hz
 ·exact hz
theorem Ld{x:Bb}(h:(BV x).2.2.2=0):(BV x).1.length=x.length:=by
 unfold BV at h ⊢;by_cases h1:x.length=0\/64<x.length
 ·rw[Az h1] at h; exact absurd h (by decide)
 rw[Ay h1] at h ⊢;by_cases h2:Dc x=wg
 ·rw[Az h2] at h ⊢;unfold I2 at h ⊢;by_cases h3:CX (x.drop 1)=wg
  ·rw[Az h3]; dsimp only; exact HF (n:=x.length) (by omega) _
  ·rw[Ay h3] at h ⊢;by_cases h4:CO (DK x)=wg
   ·rw[Az h4]; dsimp only[K6]; exact HF (n:=x.length) (by omega) _
   ·rw[Ay h4] at h; exact absurd h (by decide)
 ·rw[Ay h2] at h; exact absurd h (by decide)
theorem OY(x y:Bb):Bo (Fu x y)=wg:=Cq (XY x y 0 (by decide))
theorem Afl{c i k t a b:Int}{l v:Bb}(h:Bg l=wg):Bo (FB c l i k v t a b)=wg:=by
 unfold FB;split
 ·exact Kb (JD h) (Ft _ _)
 ·exact JD h
theorem Se{r c:Nat}{l:Bb}(h:Bg l=wg)(i k:Int)(v:Bb)(t:Int):Bg (Eh r c l i k v t)=wg:=FV fun _ _=>Afl h
theorem JC(r c:Nat)(l:Bb)(i k:Int)(v:Bb)(t:Int):(Eh r c l i k v t).length=r*c:=Ca _ _ _
theorem Afa{r c:Nat}{l:Bb}(h:Bg l=wg)(j:Nat){x:Int}(hx:Bo x=wg):Bg (H9 r c l j x)=wg:=FV fun a b=>by
 split
 ·split
  ·exact hx
  ·exact Hn
 ·exact JD h
theorem LK(r c:Nat)(l:Bb)(j:Nat):(Kg r c l j).length=r*c:=by unfold Kg H9; exact Ca _ _ _
theorem LL{r c:Nat}{l:Bb}(h:Bg l=wg)(j:Nat):Bg (Kg r c l j)=wg:=Afa (Se h _ _ _ _) _ (QD (HU h)).2.2
def Wa(r:Nat):Nat->List (Bb × Int)->Prop
 | _,[]=>True
 | j,m::ms=>(Bg m.1=wg/\Bo m.2=wg/\m.1.length+j=r)/\Wa r (j+1) ms
theorem UK(r c:Nat):∀(n j:Nat) (l:Bb) (x:Bb × List (Bb × Int)),Bg l=wg->l.length=r*c->j+n<=r->FZ r c n j l=xM x->Bg x.1=wg/\x.1.length=r*c/\x.2.length=n/\Wa r j x.2
 | 0,j,l,x,ha,hl,_,h=>by cases h;exact⟨ha,hl,rfl,trivial⟩
 | n+1,j,l,x,ha,hl,hj,h=>by
   unfold FZ at h;by_cases h1:(BV (CT r c l j)).2.2.2=0
   ·rw[Az h1,Option.map_eq_some_iff] at h;obtain⟨y,hy,rfl⟩:=h;obtain⟨a1,a2,a3,a4⟩:=UK r c n (j+1) _ y (LL ha j) (LK r c l j) (by omega) hy;have hm:=QD (x:=CT r c l j) (HU ha);have hlen:=Ld h1;refine⟨a1,a2,by rw[zt,a3],⟨hm.1,hm.2.1,?_⟩,a4⟩;show(BV (CT r c l j)).1.length+j=r;rw[hlen];unfold CT;rw[FF];omega
   ·rw[Ay h1] at h; cases h
theorem Nh(n:Nat):Bg (Fe n)=wg:=FV fun i k=>by
 unfold Hc;split
 ·exact Ag9
 ·exact Hn
theorem Nq(n:Nat):∀(ms:List (Bb × Int)) (j:Nat) (q:Bb),Bg q=wg->q.length=n*n->Bg (Fo n j ms q)=wg/\(Fo n j ms q).length=n*n
 | [],_,_,h1,h2=>⟨h1,h2⟩
 | m::ms,j,q,h1,h2=>by unfold Fo;exact⟨Se (Nq n ms (j+1) q h1 h2).1 _ _ _ _,JC _ _ _ _ _ _ _⟩
theorem AcU{r c:Nat}{l:Bb}(h:(Gw r c l).isSome=wg):Bg (FW r c l)=wg/\(FW r c l).length=r*r:=by
 unfold FW;cases hd:Gw r c l with
 | none=>rw[hd] at h; cases h
 | some x=>exact Nq r x.2 0 _ (Nh r) (by unfold Fe; exact Ca _ _ _)
theorem AcT{r c:Nat}{l:Bb}(ha:Bg l=wg)(hl:l.length=r*c)(h:(Gw r c l).isSome=wg):Bg (Fc r c l)=wg/\(Fc r c l).length=r*c:=by
 unfold Fc;cases hd:Gw r c l with
 | none=>rw[hd] at h; cases h
 | some x =>
   have hn:Er r c<=r:=by unfold Er; omega
   have:=UK r c (Er r c) 0 l x ha hl (by omega) hd;exact⟨this.1,this.2.1⟩
open Go.Den
theorem Hh(n:Nat):F9 n=!(decide (Bj n=3)||decide (Bj n=4)):=by
 have:=HI n;unfold F9 Bj;by_cases h:Dn n=2047
 ·by_cases h2:CL n=0<;>simp[h,h2]
 ·have h3:Dn n<2047:=by omega
  by_cases h4:0<Dn n
  ·simp[h,h3,h4]
  ·by_cases h5:0<CL n<;>simp[h,h3,h4,h5]
theorem SS(s:Bool)(m:Nat):(FX s m).natAbs=m:=by unfold FX; split<;>omega
theorem V0{b:Nat}(h:b<2^64)(g:Int):DT (D5 b) g=-(DT b g)/\By (D5 b)=By b/\F9 (D5 b)=F9 b:=by
 obtain⟨h1,h2,h3⟩:=H2 h;have hm:Bs (D5 b)=Bs b:=by unfold Bs; rw[h2,h3]
 have he:By (D5 b)=By b:=by unfold By; rw[h2]
 refine⟨?_,he,by unfold F9; rw[h2]⟩;unfold DT;rw[h1,hm,he];unfold FX;cases BE b
 ·rfl
 ·show((_:Nat):Int)=- -((_:Nat):Int);omega
def pw(k:Nat):Nat:=(k+1023)*2^52
theorem Mp{k:Nat}(h:k<=1023):Bs (pw k)=2^52/\By (pw k)=(k:Int)-52/\Bj (pw k)=2/\pw k%2^63=pw k/\pw k<Dk:=by
 have hp:Dn (pw k)=k+1023:=by unfold Dn pw; omega
 have hf:CL (pw k)=0:=by unfold CL pw; omega
 refine⟨?_,?_,?_,?_,?_⟩
 ·unfold Bs; rw[hp,hf,Ay (by omega)]
 ·unfold By; rw[hp,Ay (by omega)]; omega
 ·unfold Bj; rw[hp,Ay (by omega),Az (by omega)]
 ·unfold pw; omega
 ·rw[Eg]; unfold pw; omega
def Ip(a:Nat):Nat:=ES a (-1074)
theorem Acy{k:Nat}(h:k<=1023):Ip (pw k)=2^(k+1074):=by obtain⟨h1,h2,_⟩:=Mp h;unfold Ip ES;rw[h1,h2,<- A2];congr 1; omega
theorem SW{k:Nat}(h:k<=1023):Cj (2^(k+1074)) (-1074)=pw k:=by obtain⟨h1,h2,h3,h4,_⟩:=Mp h;have:=JN (b:=pw k) (f:=-1074) (by omega) (by omega);rw[h4] at this;rw[<- this,<- Acy h]; rfl
def Bd(k:Nat)(a:Nat):Prop:=Bj a≠3/\Bj a≠4/\Ip a<=2^(k+1074)
theorem Bd.mono{j k a:Nat}(h:Bd j a)(hk:j<=k):Bd k a:=⟨h.1,h.2.1,AL h.2.2 (Aq (by decide) (by omega))⟩
theorem Bd.LF{k a:Nat}(hk:k<=1023)(h4:Bj a≠4)(h:a%2^63<=pw k):Bd k a:=by
 obtain⟨p1,p2,p3,p4,p5⟩:=Mp hk;have h3:Bj a≠3:=fun e=>by have:=LN e; omega
 refine⟨h3,h4,?_⟩;have ha:=C4 a;rcases AA (Ip (pw k)) (Ip a) with g | g
 ·have:=(Uj (f:=-1074) (by omega) h4 (by omega) ha.1).1 g;omega
 ·rw[Acy hk] at g; exact g
theorem M5(s:Bool)(V:Nat)(E:Int):Bj (BG s (Cj V E))≠4:=by
 have h:=HE V E;rw[Eg] at h;have hp:=RA s (r:=Cj V E) (by omega);have hf:=PR s (Cj V E);unfold Bj;rw[hp,hf];split
 ·split
  ·omega
  ·omega
 ·split
  ·omega
  ·split<;>omega
theorem Bd.Cj{k:Nat}(s:Bool){V:Nat}{E:Int}(hk:k<=1023)(h:Cj V E<=pw k):Bd k (BG s (Cj V E)):=by
 refine .LF hk (M5 s V E) ?_;have:=HD V E;have e:BG s (Go.CI.Cj V E)%2^63=Go.CI.Cj V E:=by unfold BG; split<;>omega
 rw[e]; exact h
theorem Bd.zero(s:Bool)(k:Nat):Bd k (BG s 0):=by
 have:Bj (BG s 0)=0/\Ip (BG s 0)=0:=by cases s<;>decide +kernel
 exact⟨by omega,by omega,by rw[this.2]; exact zF _⟩
theorem Jb(a:Nat):(DT a (-1074)).natAbs=Ip a:=by unfold DT Ip ES;rw[SS]
theorem Bd.add{k a b:Nat}(hk:k+1<=1023)(ha:Bd k a)(hb:Bd k b):Bd (k+1) (Em a b).1:=by
 obtain⟨a3,a4,am⟩:=ha;obtain⟨b3,b4,bm⟩:=hb;have pa:=C4 a;have pb:=C4 b;have ek:=Tj a3 a4 b3 b4 (g:=-1074) (by omega)
 have e4:Bj (Em a b).1≠4:=by
  rw[Ls (by omega) a3 b3];unfold HV;split
  ·have:Bj (BG (BE a&&BE b) 0)=0:=by cases (BE a&&BE b)<;>decide
   show Bj (BG (BE a&&BE b) 0)≠4;omega
  ·exact M5 _ _ _
 refine .LF hk e4 ?_
 have hs:(DT a (-1074)+DT b (-1074)).natAbs<=2^(k+1+1074):=by
  have h1:=Jb a;have h2:=Jb b;have:2^(k+1+1074)=2^(k+1074)+2^(k+1074):=by rw[show k+1+1074=k+1074+1 by omega,zG]; omega
  omega
 have hr:=Fj (E:=-1074) hs;rw[SW hk] at hr;have hn:(F1 (Em a b).1).natAbs=(Em a b).1%2^63:=by unfold F1; rw[SS]
 rw[<- hn,ek];unfold Vg;split<;>omega
theorem Bd.mul{j k a b:Nat}(hk:j+k<=1023)(ha:Bd j a)(hb:Bd k b):Bd (j+k) (EA a b).1:=by
 obtain⟨a3,a4,am⟩:=ha;obtain⟨b3,b4,bm⟩:=hb;have pa:=C4 a;have pb:=C4 b;unfold EA;rw[Ay (by omega),Ay (by omega)];refine .Cj _ hk ?_;obtain⟨u,hu⟩:∃u:Nat,By a=(u:Int)-1074:=⟨(By a+1074).toNat,by omega⟩
 obtain⟨v,hv⟩:∃v:Nat,By b=(v:Int)-1074:=⟨(By b+1074).toNat,by omega⟩
 have ea:Ip a=Bs a*2^u:=by unfold Ip ES; congr 2; omega
 have eb:Ip b=Bs b*2^v:=by unfold Ip ES; congr 2; omega
 have s1:=(CZ (Bs a*Bs b) (u+v) (By a+By b)).1;obtain⟨t,ht⟩:∃t:Nat,t=1074:=⟨1074,rfl⟩
 rw[<- s1,<- SW hk,<- (CZ (2^(j+k+1074)) t (-1074)).1];rw[<- ht] at am bm ⊢;have ee:By a+By b-((u+v:Nat):Int)=-1074-(t:Int):=by omega
 rw[ee];refine Fj ?_
 have:Bs a*Bs b*2^(u+v)=Ip a*Ip b:=by rw[ea,eb,A2,xc]
 rw[this,<- A2,show j+k+t+t=(j+t)+(k+t) by omega,A2];exact A9 am bm
theorem Ug{k b:Nat}(hb:b<2^64)(h:Bd k b):Bd k (D5 b):=by
 obtain⟨h3,h4,hm⟩:=h;obtain⟨v1,v2,v3⟩:=V0 hb (-1074);have hf:F9 b=wg:=by rw[Hh]; simp[h3,h4]
 have k':=F2 (v3.trans hf);refine⟨k'.2,k'.1,?_⟩;rw[<- Jb,v1,y7,Jb]; exact hm
theorem Bd.sub{k a b:Nat}(hk:k+1<=1023)(hb64:b<2^64)(ha:Bd k a)(hb:Bd k b):Bd (k+1) (Rx a b).1:=Bd.add hk ha (Ug hb64 hb)
theorem Bd.fin{k a:Nat}(h:Bd k a):F9 a=wg:=by rw[Hh]; simp[h.1,h.2.1]
theorem Bd.AlL{k a:Nat}(hf:F9 a=wg)(h:Bs a≠0->((Bs a).log2:Int)+By a<(k:Int)):Bd k a:=by
 refine⟨(F2 hf).2,(F2 hf).1,?_⟩;have pa:=C4 a;unfold Ip ES;by_cases h0:Bs a=0
 ·rw[h0,zI]; exact zF _
 ·have hl:=h h0;have h1:=yi (n:=Bs a);have h2:Bs a*2^(By a - -1074).toNat<=2^((Bs a).log2+1)*2^(By a - -1074).toNat:=An _ (by omega);rw[<- A2] at h2;exact AL h2 (Aq (by decide) (by omega))
theorem AbA{P root rest two:Nat}(h1:P=root*root+rest)(h2:rest<=2*root)(h3:two<4):
 (4*root+1<=4*rest+two->4*P+two=(2*root+1)*(2*root+1)+(4*rest+two-(4*root+1))/\4*rest+two-(4*root+1)<=2*(2*root+1)) /\
 (4*rest+two<4*root+1->4*P+two=(2*root)*(2*root)+(4*rest+two)/\4*rest+two<=2*(2*root)):=by
 have e1:(2*root+1)*(2*root+1)=4*(root*root)+(4*root+1):=by
  rw[AI,yc,yc];have:2*root*(2*root)=4*(root*root):=by rw[xc]
  omega
 have e2:(2*root)*(2*root)=4*(root*root):=by rw[xc]
 constructor
 ·intro h; rw[e1]; omega
 ·intro h; rw[e2]; omega
theorem Ajq{P root rest:Nat}(h1:P=root*root+rest)(h2:rest<=2*root):root=Jm P:=by
 refine U0 (by omega) ?_;have:(root+1)*(root+1)=root*root+2*root+1:=by rw[AI,yc]; omega
 omega
theorem XK{M a b:Nat}{E:Int}(h:2^a<=M)(g:(b:Int)-1074<=a+E):Cj (2^b) (-1074)<=Cj M E:=by
 by_cases k:-1074<=E
 ·have s:=(CZ M (E+1074).toNat E).1;rw[show E-((E+1074).toNat:Int)=-1074 by omega] at s;rw[<- s];refine Fj (AL (m:=2^(a+(E+1074).toNat)) (Aq (by decide) (by omega)) ?_);rw[A2]; exact An _ h
 ·have s:=(CZ (2^b) (-1074-E).toNat (-1074)).1;rw[show(-1074:Int)-((-1074-E).toNat:Int)=E by omega,<- A2] at s;rw[<- s];exact Fj (AL (Aq (by decide) (by omega)) h)
theorem JL{M a:Nat}{E:Int}(h:2^a<=M)(g:0<=a+E):pw 0<=Cj M E:=by
 obtain⟨t,ht⟩:∃t:Nat,t=1074:=⟨1074,rfl⟩
 rw[<- SW (k:=0) (by decide),AO,<- ht];exact XK h (by omega)
theorem Ag4{M a:Nat}{E:Int}(h:2^a<=M)(g:-1074<=a+E):0<Cj M E:=by
 have:=XK (E:=E) (b:=0) h (by omega);have e:Cj (2^0) (-1074)=1:=by decide +kernel
 omega
def Nn(a:Nat):Prop:=a<=Jt
def Yv(a:Nat):Prop:=pw 0<=a/\a<=Jt
theorem Gq:Jt=9221120237041090560:=rfl
theorem TM:pw 0=4607182418800017408:=by unfold pw; omega
theorem Yi:Yv Jt:=⟨by rw[TM,Gq]; omega,A7 _⟩
theorem Yj:Yv Dk:=⟨by rw[TM,Eg]; omega,by rw[Gq,Eg]; omega⟩
theorem LH(V:Nat)(E:Int):Nn (Cj V E):=by have:=HE V E;rw[Eg] at this;unfold Nn; rw[Gq]; omega
theorem AgJ:Nn Jt:=A7 _
theorem AgK:Nn Dk:=Yj.2
theorem KP{z:Nat}(h:pw 0<=z%2^63):2^52<=Bs z/\-52<=By z:=by
 have h1:1023<=Dn z:=by unfold Dn; rw[TM] at h; omega
 unfold Bs By;rw[Ay (by omega),Ay (by omega)];omega
theorem Jv{a:Nat}(h:Nn a):BE a=wy:=by unfold Nn at h; rw[Gq] at h;exact Ag (by omega)
theorem Al0{z:Nat}:Nn (EA z z).1/\(pw 0<=z%2^63->Yv (EA z z).1):=by
 have hp:(BE z !=BE z)=wy:=by cases BE z<;>rfl
 unfold EA;by_cases k4:Bj z=4
 ·rw[Az (.inl k4)]; exact⟨AgJ,fun _=>Yi⟩
 rw[Ay (by omega)];by_cases k3:Bj z=3
 ·rw[Az (.inl k3),Ay (by omega),hp,Fx]; exact⟨AgK,fun _=>Yj⟩
 rw[Ay (by omega),hp,Fx];refine⟨LH _ _,fun h=>⟨?_,LH _ _⟩⟩;obtain⟨h1,h2⟩:=KP h;refine JL (a:=104) ?_ (by omega);rw[show(104:Nat)=52+52 from rfl,A2];exact A9 h1 h1
theorem Abr{a:Nat}(h:Nn a)(k3:Bj a=3):a=Dk:=by have:=JE (b:=a) (by unfold Nn at h; rw[Gq] at h; omega) k3;rw[Jv h] at this;exact this.symm
theorem WE{a:Nat}(h:Nn a)(g:Int):DT a g=ES a g:=by unfold DT ES; rw[Jv h]; rfl
theorem Ams{s t:Nat}(hs:Nn s)(ht:Nn t):Nn (Em s t).1/\(Yv s\/Yv t->Yv (Em s t).1):=by
 have hN:Nn Jt/\(Yv s\/Yv t->Yv Jt):=⟨AgJ,fun _=>Yi⟩
 have hI:Nn Dk/\(Yv s\/Yv t->Yv Dk):=⟨AgK,fun _=>Yj⟩
 by_cases k:Bj s=4\/Bj t=4
 ·have:(Em s t).1=Jt:=by unfold Em; rw[Az k]
  rw[this]; exact hN
 by_cases s3:Bj s=3
 ·rw[Aaf k s3];split
  ·exact hN
  ·obtain rfl:=Abr hs s3; exact hI
 by_cases t3:Bj t=3
 ·rw[WA k s3 t3];obtain rfl:=Abr ht t3; exact hI
 have ek:=Tj s3 (by omega) t3 (by omega) (g:=min (By s) (By t)) (Int.le_refl _);generalize hg:min (By s) (By t)=g at ek;rw[WE hs,WE ht] at ek;have e0:¬((ES s g:Int)+(ES t g:Int)<0):=by omega
 unfold Vg at ek;rw[Ay e0] at ek
 have n2:(Em s t).1=Cj ((ES s g:Int)+(ES t g:Int)).natAbs g:=by
  have hn:BE (Em s t).1=wy\/(Em s t).1%2^63=0:=by
   unfold F1 at ek;cases hh:BE (Em s t).1
   ·exact .inl rfl
   ·rw[hh] at ek;have ek:-(((Em s t).1%2^63:Nat):Int)=_:=ek;exact .inr (by omega)
  have hlt:(Em s t).1<2^64:=(Nw (by unfold Nn at hs; rw[Gq] at hs; omega) (by unfold Nn at ht; rw[Gq] at ht; omega)).1
  have hnf:BE (Em s t).1=wy:=by
   rw[Ls k s3 t3];unfold HV;have hh:(BE s&&BE t)=wy:=by rw[Jv hs]; rfl
   split
   ·show BE (BG (BE s&&BE t) 0)=wy;rw[hh]; rfl
   ·rename_i h0;rw[hg,WE hs,WE ht];rw[Ag e0,Fx];exact Jv (LH _ _)
  unfold F1 at ek;rw[hnf] at ek;have ek:(((Em s t).1%2^63:Nat):Int)=_:=ek;unfold BE at hnf;have:=of_decide_eq_false hnf;omega
 rw[n2];refine⟨LH _ _,fun h=>⟨?_,LH _ _⟩⟩;have ms:=JN (b:=s) (f:=g) (by omega) (by omega);have mt:=JN (b:=t) (f:=g) (by omega) (by omega);rcases h with h | h
 ·have:=Fj (V:=ES s g) (W:=((ES s g:Int)+(ES t g:Int)).natAbs) (E:=g) (by omega);have h1:=h.1;unfold Nn at hs; rw[Gq] at hs;rw[ms] at this; omega
 ·have:=Fj (V:=ES t g) (W:=((ES s g:Int)+(ES t g:Int)).natAbs) (E:=g) (by omega);have h1:=h.1;unfold Nn at ht; rw[Gq] at ht;rw[mt] at this; omega
theorem WW(k:Int):∀(l:Bb) (s:Nat),Nn s->∃t:Nat,JH k s l=t/\Nn t/\((Yv s\/∃x∈l,pw 0<=(BP x k).toNat%2^63)->Yv t)
 | [],s,h=>⟨s,rfl,h,fun g=>by
  rcases g with g | ⟨x,hx,_⟩
  ·exact g
  ·cases hx⟩
 | x::l,s,h=>by
   obtain⟨q1,q2⟩:=Al0 (z:=(BP x k).toNat);obtain⟨a1,a2⟩:=Ams h q1;obtain⟨t,e,t1,t2⟩:=WW k l _ a1;refine⟨t,?_,t1,fun g=>t2 ?_⟩
   ·unfold JH;rw[<- e];unfold EN CN;rw[Ad,Ad]
   ·rcases g with g | ⟨y,hy,g⟩
    ·exact .inl (a2 (.inl g))
    ·rcases zL.1 hy with rfl | hy
     ·exact .inl (a2 (.inr (q2 g)))
     ·exact .inr ⟨y,hy,g⟩
theorem AjZ{n:Nat}(h:n≠0):1<=Jm n:=XL (by omega)
theorem YR{b:Nat}(h:Yv b):Yv (Gu b).1:=by
 have hn:=Jv h.2;by_cases k4:Bj b=4
 ·rw[Qo k4]; exact Yi
 by_cases k0:Bj b=0\/b=Dk
 ·rw[IA k4 k0]; exact h
 rw[NK k4 k0 hn];refine⟨?_,LH _ _⟩;have k3:Bj b≠3:=fun e=>k0 (.inr (Abr h.2 e))
 have hm:b%2^63=b:=by have:=h.2; rw[Gq] at this; omega
 obtain⟨p1,p2⟩:=KP (z:=b) (by rw[hm]; exact h.1);have hK:=(NV (b:=b) (by omega)).2;generalize hr:(By b-(EV b:Int)) / 2-1=r at hK ⊢;have hst:2*Jm (Bs b*2^EV b)<=Eb (Bs b*2^EV b):=by unfold Eb; omega
 by_cases hr0:0<=r
 ·have:=AjZ (n:=Bs b*2^EV b) (by have:=x6 (show 0<Bs b by omega) (Cs (EV b)); omega);exact JL (a:=0) (by omega) (by omega)
 ·have h2:2^((-1-r).toNat+(-1-r).toNat)<=Bs b*2^EV b:=by refine AL (m:=2^(52+EV b)) (Aq (by decide) (by omega)) ?_;rw[A2];exact An _ p1
  have h3:=QQ h2;refine JL (a:=(-1-r).toNat+1) ?_ (by omega);rw[zG]; omega
theorem FJ{b:Nat}(h:Bj b=0):b%2^63=0:=by
 unfold Bj Dn CL at h;split at h
 ·split at h<;>omega
 ·split at h
  ·omega
  ·split at h<;>omega
theorem Afh{b:Nat}{n:Int}(h:Yv b)(g:-1074<=n):Bj (Co b n).1≠0:=by
 have k0:Bj b≠0:=fun e=>by have:=FJ e;have h1:=h.1; have h2:=h.2;rw[Gq] at h2; rw[TM] at h1; omega
 by_cases k4:Bj b=4
 ·unfold Co; rw[Az k4]; show Bj Jt≠0; decide +kernel
 by_cases k3:Bj b=3
 ·unfold Co; rw[Ay k4,Az (.inl k3)]; exact k0
 rw[He k4 (by omega)];intro e;have:=FJ e;have hm:b%2^63=b:=by have:=h.2; rw[Gq] at this; omega
 obtain⟨p1,p2⟩:=KP (z:=b) (by rw[hm]; exact h.1);have hp:=Ag4 (M:=Bs b) (a:=52) (E:=By b+n) p1 (by omega);rw[Jv h.2,Fx] at this;have hq:=LH (Bs b) (By b+n);unfold Nn at hq; rw[Gq] at hq;omega
theorem Nd{b:Nat}(k3:Bj b≠3)(k4:Bj b≠4)(k0:Bj b≠0):Ea b=((Bs b).log2:Int)+By b/\-1074<=Ea b:=by
 have:=C4 b;have hf:F9 b=wg:=by rw[Hh]; simp[k3,k4]
 unfold Ea;rw[Az ⟨hf,k0⟩];exact⟨rfl,by omega⟩
theorem Ni(b:Nat):Ea b=Ea (b%2^63):=by
 have h1:Dn (b%2^63)=Dn b:=by unfold Dn; omega
 have h2:CL (b%2^63)=CL b:=by unfold CL; omega
 unfold Ea F9 Bj Bs By;rw[h1,h2]
theorem KV{b:Nat}(k3:Bj b≠3)(k4:Bj b≠4)(k0:Bj b≠0):pw 0<=(Co b (-Ea b)).1%2^63:=by
 obtain⟨e,_⟩:=Nd k3 k4 k0;rw[He k4 (by omega)];have m0:Bs b≠0:=fun h=>k0 ((Dd k3 k4).1 h)
 have:=JL (M:=Bs b) (a:=(Bs b).log2) (E:=By b+-Ea b) (zS m0) (by omega);have hl:=HD (Bs b) (By b+-Ea b);have e2:BG (BE b) (Cj (Bs b) (By b+-Ea b))%2^63=Cj (Bs b) (By b+-Ea b):=by unfold BG; split<;>omega
 show pw 0<=BG (BE b) (Cj (Bs b) (By b+-Ea b))%2^63;rw[e2]; exact this
theorem Rh{x:Int}{l:Bb}{m:Nat}(k:Bj x.toNat=4):It (x::l) m=Jt:=Az k
theorem MC{x:Int}{l:Bb}{m:Nat}(k:Bj x.toNat≠4):It (x::l) m=It l (max m (CV x.toNat)):=Ay k
theorem Yh:∀(l:Bb) (m:Nat),It l m=Jt\/It l m=m\/∃x∈l,Bj x.toNat≠4/\It l m=CV x.toNat
 | [],_=>.inr (.inl rfl)
 | x::l,m=>by
   by_cases k4:Bj x.toNat=4
   ·exact .inl (Rh k4)
   rw[MC k4];rcases Yh l (max m (CV x.toNat)) with g | g | ⟨y,hy,g,g'⟩
   ·exact .inl g
   ·rw[g];rcases Nat.le_total m (CV x.toNat) with k | k
    ·exact .inr (.inr ⟨x,AU,k4,Nat.max_eq_right k⟩)
    ·exact .inr (.inl (Nat.max_eq_left k))
   ·exact .inr (.inr ⟨y,AJ _ hy,g,g'⟩)
theorem AbK:∀(l:Bb) (m:Nat),It l m=Jt\/(m<=It l m/\∀x∈l,CV x.toNat<=It l m)
 | [],_=>.inr ⟨A7 _,fun _ h=>by cases h⟩
 | x::l,m=>by
   by_cases k4:Bj x.toNat=4
   ·exact .inl (Rh k4)
   rw[MC k4];rcases AbK l (max m (CV x.toNat)) with g | ⟨g1,g2⟩
   ·exact .inl g
   ·refine .inr ⟨by omega,fun y hy=>?_⟩;rcases zL.1 hy with rfl | hy
    ·omega
    ·exact g2 y hy
theorem KM(b:Nat):Bj (CV b)=Bj b:=by
 have h1:Dn (CV b)=Dn b:=by unfold Dn CV; omega
 have h2:CL (CV b)=CL b:=by unfold CL CV; omega
 unfold Bj; rw[h1,h2]
theorem abs_zero{b:Nat}(h:CV b=0):Bj b=0:=by rw[<- KM,h]; decide
theorem UU{y:Bb}(h:∃x∈y,B8 x≠0):It y 0=Jt\/∃z∈y,Bj z.toNat≠4/\Bj z.toNat≠0/\It y 0=CV z.toNat:=by
 obtain⟨x,hx,hk⟩:=h;rcases AbK y 0 with g | ⟨_,g⟩
 ·exact .inl g
 have g:=g x hx;have x0:CV x.toNat≠0:=fun e=>hk (by unfold B8; rw[abs_zero e]; rfl)
 rcases Yh y 0 with e | e | ⟨z,hz,k,e⟩
 ·exact .inl e
 ·omega
 ·refine .inr ⟨z,hz,k,fun k0=>?_,e⟩;have:=FJ k0;unfold CV at e g x0; omega
theorem Aek{y:Bb}(h:∃x∈y,B8 x≠0):B8 (CB y)≠0:=by
 have eb:(BA y).toNat=It y 0:=Ad _;rcases UU h with e | ⟨z,hz,z4,z0,ez⟩
 ·have hf:CO (BA y)=wy:=by unfold CO; rw[eb,e]; decide +kernel
  unfold CB;rw[Az (.inr hf)];unfold B8;rw[eb,e];decide +kernel
 unfold CB;by_cases k:BA y=0\/CO (BA y)=wy
 ·rw[Az k];unfold B8;rw[eb,ez,KM];omega
 rw[Ay k];have ee:BK (BA y)=Ea z.toNat:=by unfold BK; rw[eb,ez,Ni z.toNat]; rfl
 have z3:Bj z.toNat≠3:=fun e=>k (.inr (by unfold CO; rw[eb,ez,Hh,KM,e]; rfl))
 rw[ee];obtain⟨t,e,t1,t2⟩:=WW (-Ea z.toNat) y 0 (zF _)
 have tb:=t2 (.inr ⟨z,hz,by unfold BP;rw[Ad];exact KV z3 z4 z0⟩)
 have e:JH (-Ea z.toNat) 0 y=t:=e;rw[e];have:=Afh (n:=Ea z.toNat) (YR tb) (Nd z3 z4 z0).2;intro h;refine this ?_;unfold B8 BP ET at h;rw[Ad,Ad,Ad] at h;omega
theorem Ux(b:Nat):Bj (D5 b)=Bj b:=by
 have h1:Dn (D5 b)=Dn b:=by unfold Dn D5; split<;>omega
 have h2:CL (D5 b)=CL b:=by unfold CL D5; split<;>omega
 unfold Bj; rw[h1,h2]
theorem Sy(x:Int):B8 (CM x)=B8 x:=by unfold B8 CM;rw[Ad,Ux]
theorem Aj6{x:Bb}(hf:Dc x=wg)(h:∃y∈x,B8 y≠0):B8 (Jn x)≠0:=by
 have key:B8 (CB (BM x (-BK (BA x))))≠0:=by
  refine Aek ?_;have eb:(BA x).toNat=It x 0:=Ad _;have hfx:∀z∈x,CO z=wg:=List.all_eq_true.1 hf;rcases UU h with e | ⟨z,hz,z4,z0,ez⟩
  ·exfalso;rcases Yh x 0 with g | g | ⟨z,hz,k,g⟩
   ·have:∀(l:Bb) (m:Nat),(∀z∈l,CO z=wg)->m<Dk->It l m<Dk:=fun l=>by
     induction l with
     | nil=>intro m _ h; exact h
     | cons z l ih =>
       intro m hl hm;have zk:=F2 (show F9 z.toNat=wg from hl z AU);rw[MC zk.1];refine ih _ (fun w hw=>hl w (AJ _ hw)) ?_
       have hz:CV z.toNat<Dk:=by
        rcases AA (CV z.toNat) Dk with h | h
        ·exact h
        ·exfalso
         have hpow:Dn z.toNat=2047:=by rw[Eg] at h;unfold CV at h; unfold Dn; omega
         have:=hl z AU;unfold CO F9 at this;rw[hpow] at this;exact absurd this (by decide)
       omega
    have:=this x 0 hfx (by rw[Eg]; omega);rw[e,Eg,Gq] at this;omega
   ·rw[e,Gq] at g; omega
   ·rw[e] at g;have h1:=KM z.toNat;rw[<- g] at h1;exact k (h1.symm.trans (by decide +kernel))
  ·have zf:=F2 (show F9 z.toNat=wg from hfx z hz);have ee:BK (BA x)=Ea z.toNat:=by unfold BK; rw[eb,ez,Ni z.toNat]; rfl
   refine⟨BP z (-Ea z.toNat),zu.2 ⟨z,hz,by rw[ee]⟩,?_⟩;have:=KV zf.2 zf.1 z0;intro k;unfold B8 BP at k;rw[Ad] at k;have k':=FJ (b:=(Co z.toNat (-Ea z.toNat)).1) (by omega);rw[TM] at this;omega
 unfold Jn;split
 ·exact key
 ·rw[Sy]; exact key
theorem SU{V u k:Nat}{E:Int}(hk:k<=1023)(h:V<=2^u)(g:(u:Int)+E<=k):Cj V E<=pw k:=by
 refine AL (Fj h) ?_;obtain⟨t,ht⟩:∃t:Nat,t=1074:=⟨1074,rfl⟩
 rw[<- SW hk,<- ht];by_cases hE:-1074<=E
 ·have s:=(CZ (2^u) (E+1074).toNat E).1;rw[show E-((E+1074).toNat:Int)=-1074 by omega,<- A2] at s;rw[<- s];exact Fj (Aq (by decide) (by omega))
 ·have s:=(CZ (2^(k+t)) (-1074-E).toNat (-1074)).1;rw[show(-1074:Int)-((-1074-E).toNat:Int)=E by omega,<- A2] at s;rw[<- s];exact Fj (Aq (by decide) (by omega))
theorem Bd.OH{k V u:Nat}{E:Int}(s:Bool)(hk:k<=1023)(h:V<=2^u)(g:(u:Int)+E<=k):Bd k (BG s (Go.CI.Cj V E)):=Bd.Cj s hk (SU hk h g)
theorem Bd.log{k a:Nat}(h:Bd k a)(h0:Bs a≠0):((Bs a).log2:Int)+By a<=k:=by
 have pa:=C4 a;have hm:=h.2.2;obtain⟨t,ht⟩:∃t:Nat,t=1074:=⟨1074,rfl⟩
 have e:Ip a=Bs a*2^(By a+1074).toNat:=by unfold Ip ES; congr 2
 rw[e,<- ht] at hm;have h1:=An (2^(By a+1074).toNat) (zS h0);rw[<- A2] at h1;have:=(Nat.pow_le_pow_iff_right (a:=2) (by decide)).1 (AL h1 hm);omega
theorem Bd.part{k a:Nat}(h:Bd k a)(h0:Bs a≠0):Bs a<=2^((k:Int)-By a).toNat/\By a<=k:=by
 have pa:=C4 a;have hm:=h.2.2;have hl:=h.log h0;obtain⟨t,ht⟩:∃t:Nat,t=1074:=⟨1074,rfl⟩
 have e:Ip a=Bs a*2^(By a+1074).toNat:=by unfold Ip ES; congr 2
 refine⟨?_,by omega⟩;rw[e,<- ht,show k+t=((k:Int)-By a).toNat+(By a+1074).toNat by omega,A2] at hm;exact Nat.le_of_mul_le_mul_right hm (Cs _)
theorem Bd.scale{k j a:Nat}{n:Int}(hj:j<=1023)(h:Bd k a)(g:(k:Int)+n<=j):Bd j (Co a n).1:=by
 by_cases k0:Bj a=0
 ·unfold Co;rw[Ay h.2.1,Az (.inr k0)];refine .LF hj h.2.1 ?_;rw[FJ k0]; exact zF _
 have h0:Bs a≠0:=fun e=>k0 ((Dd h.1 h.2.1).1 e)
 rw[He h.2.1 (by have:=h.1; omega)];obtain⟨p1,p2⟩:=h.part h0;exact .OH _ hj p1 (by omega)
theorem ZJ{a b:Nat}(a3:Bj a≠3)(a4:Bj a≠4)(b3:Bj b≠3)(b4:Bj b≠4)(h:CV a<=CV b)(h0:Bs a≠0):((Bs a).log2:Int)+By a<=((Bs b).log2:Int)+By b:=by
 have pa:=C4 a;have pb:=C4 b
 have hm:ES a (-1074)<=ES b (-1074):=by
  rcases AA (ES b (-1074)) (ES a (-1074)) with g | g
  ·have:=(Uj (f:=-1074) b4 a4 pb.1 pa.1).1 g;unfold CV at h; omega
  ·exact g
 unfold ES at hm
 have hb0:Bs b≠0:=fun e=>by rw[e,zI] at hm;have:=x6 (show 0<Bs a by omega) (Cs (By a - -1074).toNat);omega
 have h1:=An (2^(By a - -1074).toNat) (zS h0);have h2:=Nat.mul_lt_mul_of_pos_right (yi (n:=Bs b)) (Cs (By b - -1074).toNat);rw[<- A2] at h1 h2;have:=(Nat.pow_lt_pow_iff_right (a:=2) (by decide)).1 (AG (AL h1 hm) h2);omega
theorem Bd.down{a b:Nat}(a3:Bj a≠3)(a4:Bj a≠4)(b3:Bj b≠3)(b4:Bj b≠4)(h:CV a<=CV b):Bd 1 (Co a (-Ea b)).1:=by
 by_cases k0:Bj a=0
 ·unfold Co;rw[Ay a4,Az (.inr k0)];refine .LF (by decide) a4 ?_;rw[FJ k0]; exact zF _
 have h0:Bs a≠0:=fun e=>k0 ((Dd a3 a4).1 e)
 have hb0:Bj b≠0:=fun e=>by have:=FJ e;have hh:Bj a=0:=abs_zero (by unfold CV at h ⊢; omega);exact k0 hh
 have hl:=ZJ a3 a4 b3 b4 h h0;obtain⟨ee,_⟩:=Nd b3 b4 hb0;rw[He a4 (by omega)];exact .OH _ (by decide) (Nat.le_of_lt (yi (n:=Bs a))) (by omega)
structure Lo(t:Nat)(a:Nat):Prop where
 k3:Bj a≠3
 k4:Bj a≠4
 m0:Bs a≠0
 log:-(t:Int)<=((Bs a).log2:Int)+By a
theorem Lo.k0{t a:Nat}(h:Lo t a):Bj a≠0:=fun e=>h.m0 ((Dd h.k3 h.k4).2 e)
theorem Lo.mono{s t a:Nat}(h:Lo s a)(g:s<=t):Lo t a:=⟨h.k3,h.k4,h.m0,by have:=h.log; omega⟩
theorem Lo.TU{a:Nat}(k3:Bj a≠3)(k4:Bj a≠4)(h:pw 0<=a%2^63):Lo 0 a:=by
 obtain⟨h1,h2⟩:=KP h;have h0:Bs a≠0:=by omega
 refine⟨k3,k4,h0,?_⟩;have:=(Nat.le_log2 h0).2 h1;omega
theorem Lo.AaR{t a b:Nat}(h:Lo t a)(b3:Bj b≠3)(b4:Bj b≠4)(g:CV a<=CV b):Lo t b:=by have hl:=ZJ h.k3 h.k4 b3 b4 g h.m0;refine⟨b3,b4,fun e=>?_,by have:=h.log; omega⟩;have k0:=FJ ((Dd b3 b4).1 e);exact h.k0 (abs_zero (by unfold CV at g ⊢; omega))
theorem AfS{X Y K u:Nat}(hY:0<Y)(h:X*2^K<=Y*2^u):Ey X Y K<=2^(u+1):=by
 unfold Ey;have hd:=zK (X*2^K) Y;have hq:X*2^K / Y<=2^u:=Nat.div_le_of_le_mul h;rw[zG];split
 ·omega
 ·rename_i hr
  have:X*2^K / Y≠2^u:=fun e=>by rw[e] at hd;omega
  omega
theorem Bd.div{j t a b:Nat}(hk:j+t<=1023)(ha:Bd j a)(hb:Lo t b):Bd (j+t) (JW a b).1:=by
 have b0:=hb.k0;have a3:=ha.1;have a4:=ha.2.1;have b3:=hb.k3;have b4:=hb.k4;unfold JW;rw[Ay (by omega),Ay (by omega),Ay a3];by_cases k0:Bj a=0
 ·rw[Az (.inr k0)]; exact .zero _ _
 rw[Ay (by omega),Ay b0];have m0:Bs a≠0:=fun e=>k0 ((Dd a3 a4).1 e)
 obtain⟨p1,p2⟩:=ha.part m0;have hl:=hb.log;have l52:=Un hb.m0;obtain⟨u,hu⟩:∃u:Nat,(u:Int)=(j:Int)+t-By a+By b+120:=⟨((j:Int)+t-By a+By b+120).toNat,by omega⟩
 refine .OH _ hk (AfS (u:=u) (by have:=hb.m0; omega) ?_) (by omega);refine AL (An _ p1) (AL ?_ (An _ (zS hb.m0)));rw[<- A2,<- A2];exact Aq (by decide) (by omega)
theorem AdI{n u:Nat}(h:n<=2^(u+u)):Eb n<=2^(u+1):=by
 obtain⟨h1,_⟩:=JR n;rw[A2] at h
 have hq:Jm n<=2^u:=by
  rcases AA (2^u) (Jm n) with g | g
  ·have:=Nat.mul_lt_mul'' g g;omega
  ·exact g
 unfold Eb;rw[zG];split
 ·omega
 ·rename_i hr
  have:Jm n≠2^u:=fun e=>by rw[e] at h1 hr;omega
  omega
theorem Bd.root{j b:Nat}(hj:j<=1000)(hb:Bd (j+j) b)(hn:BE b=wy):Bd j (Gu b).1:=by
 by_cases k0:Bj b=0
 ·rw[IA hb.2.1 (.inl k0)];refine .LF (by omega) hb.2.1 ?_;rw[FJ k0]; exact zF _
 have m0:Bs b≠0:=fun e=>k0 ((Dd hb.1 hb.2.1).1 e)
 have hi:b≠Dk:=fun e=>hb.1 (by rw[e]; exact U4)
 rw[NK hb.2.1 (fun h=>h.elim k0 hi) hn];obtain⟨p1,p2⟩:=hb.part m0;obtain⟨r1,r2⟩:=NV m0;generalize hr:(By b-(EV b:Int)) / 2-1=r at r2 ⊢;have hrk:128<=EV b:=by unfold EV; omega
 obtain⟨u,hu⟩:∃u:Nat,(u:Int)=(j:Int)-r-1:=⟨((j:Int)-r-1).toNat,by omega⟩
 have h2:Bs b*2^EV b<=2^(u+u):=by refine AL (An _ p1) ?_;rw[<- A2];exact Aq (by decide) (by omega)
 have:=Bd.OH (k:=j) (E:=r) wy (by omega) (AdI h2) (by omega);rw[Fx] at this;exact this
def Bm(m k:Nat)(a:Nat):Prop:=Bj a≠3/\Bj a≠4/\Ip a<=m*2^(k+1074)
theorem Bd.bm{k a:Nat}(h:Bd k a):Bm 1 k a:=⟨h.1,h.2.1,by rw[zA]; exact h.2.2⟩
theorem Bm.bd{m k a j:Nat}(h:Bm m k a)(hm:m<=2^j):Bd (k+j) a:=by
 refine⟨h.1,h.2.1,AL h.2.2 ?_⟩;obtain⟨t,ht⟩:∃t:Nat,t=1074:=⟨1074,rfl⟩
 rw[<- ht,show k+j+t=j+(k+t) by omega,A2 2 j];exact An _ hm
theorem AhJ{m k:Nat}(h0:m≠0)(hm:m<=1024)(hk:k<=1000):∃z:Nat,z=Cj (m*2^(k+1074)) (-1074)/\z%2^63=z/\Bj z≠4/\Ip z=m*2^(k+1074):=by
 obtain⟨t,ht⟩:∃t:Nat,t=1074:=⟨1074,rfl⟩
 have s:=(CZ m (k+t) k).1;rw[show(k:Int)-((k+t:Nat):Int)=-1074 by omega] at s;have hu:Cj m k<=pw (k+10):=SU (by omega) (u:=10) (by omega) (by omega);have hi:Cj m k<Dk:=AG hu (Mp (by omega)).2.2.2.2;obtain⟨_,d,e1,e2⟩:=PU wy h0 (Oc (V:=m) (E:=(k:Int)) (by omega) (by omega)) hi;rw[Fx] at e1 e2;have hl:=HD m k;have pe:=C4 (Cj m k);have k4:=M5 wy m k;rw[Fx] at k4;refine⟨Cj m k,?_,Ao hl,k4,?_⟩
 ·rw[<- ht]; exact s.symm
 ·unfold Ip ES;rw[e1,e2,A4,<- A2];congr 2;omega
theorem Bm.LF{m k a z:Nat}(hz:Ip z=m*2^(k+1074))(z4:Bj z≠4)(zi:z%2^63<Dk)(a4:Bj a≠4)(h:a%2^63<=z%2^63):Bm m k a:=by
 have a3:Bj a≠3:=fun e=>by have:=LN e; omega
 refine⟨a3,a4,?_⟩;rw[<- hz];have pa:=C4 a;have pz:=C4 z;rcases AA (Ip z) (Ip a) with g | g
 ·have:=(Uj (f:=-1074) z4 a4 pz.1 pa.1).1 g;omega
 ·exact g
theorem Bm.add{m n k a b:Nat}(h0:m+n≠0)(hmn:m+n<=1024)(hk:k<=1000)(ha:Bm m k a)(hb:Bm n k b):Bm (m+n) k (Em a b).1:=by
 obtain⟨a3,a4,am⟩:=ha;obtain⟨b3,b4,bm⟩:=hb;have pa:=C4 a;have pb:=C4 b;have ek:=Tj a3 a4 b3 b4 (g:=-1074) (by omega)
 have e4:Bj (Em a b).1≠4:=by
  rw[Ls (by omega) a3 b3];unfold HV;split
  ·have:Bj (BG (BE a&&BE b) 0)=0:=by cases (BE a&&BE b)<;>decide
   show Bj (BG (BE a&&BE b) 0)≠4;omega
  ·exact M5 _ _ _
 obtain⟨z,ez,z63,z4,zm⟩:=AhJ h0 hmn hk
 have zi:z%2^63<Dk:=by
  have hu:z<=pw (k+10):=by rw[ez];refine SU (u:=k+1074+10) (by omega) ?_ (by omega);rw[A2 2 (k+1074),A1];exact yg _ hmn
  have:=(Mp (k:=k+10) (by omega)).2.2.2.2;omega
 refine .LF zm z4 zi e4 ?_
 have hs:(DT a (-1074)+DT b (-1074)).natAbs<=(m+n)*2^(k+1074):=by have h1:=Jb a;have h2:=Jb b;have:(m+n)*2^(k+1074)=m*2^(k+1074)+n*2^(k+1074):=AI _ _ _;omega
 have hr:=Fj (E:=-1074) hs;rw[<- ez] at hr;have hn:(F1 (Em a b).1).natAbs=(Em a b).1%2^63:=by unfold F1; rw[SS]
 rw[<- hn,ek,z63];unfold Vg;split<;>omega
theorem Bm.minus{m k b:Nat}(hb:b<2^64)(h:Bm m k b):Bm m k (D5 b):=by
 obtain⟨h3,h4,hm⟩:=h;obtain⟨v1,v2,v3⟩:=V0 hb (-1074);have hf:F9 b=wg:=by rw[Hh]; simp[h3,h4]
 have k':=F2 (v3.trans hf);refine⟨k'.2,k'.1,?_⟩;rw[<- Jb,v1,y7,Jb]; exact hm
def Bl(k:Nat)(l:Bb):Prop:=∀x∈l,Bd k x.toNat
theorem Bl.mono{j k:Nat}{l:Bb}(h:Bl j l)(g:j<=k):Bl k l:=fun x hx=>(h x hx).mono g
theorem Ak0{k:Nat}{x:Int}{l:Bb}(h1:Bd k x.toNat)(h2:Bl k l):Bl k (x::l):=fun y hy=>by
 rcases zL.1 hy with rfl | hy
 ·exact h1
 ·exact h2 y hy
theorem Sc{α:Type}{k:Nat}{l:List α}{f:α->Int}(h:∀j,Bd k (f j).toNat):Bl k (l.map f):=fun x hx=>by obtain⟨j,_,rfl⟩:=zu.1 hx;exact h j
theorem No{k:Nat}{l:Bb}(h:Bl k l)(j:Nat):Bd k (l.getD j 0).toNat:=by
 by_cases hj:j<l.length
 ·rw[Al,As hj]; exact h _ (List.getElem_mem hj)
 ·rw[Al,AY (by omega)]; exact Bd.zero wy k
theorem Yf{k r c:Nat}{f:Nat->Nat->Int}(h:∀i j,Bd k (f i j).toNat):Bl k (Cg r c f):=fun x hx=>by unfold Cg at hx;obtain⟨j,_,rfl⟩:=zu.1 hx;exact h _ _
theorem Ade{j k:Nat}(hjk:j+k<=1000):∀(x y:Bb) (s t:Nat),Bl j x->Bl k y->Bm t (j+k) s->0<t->t+x.length<=1024->Bm (t+x.length) (j+k) (J4 s x y)
 | [],_,s,t,_,_,hs,_,_=>hs
 | a::x,[],s,t,_,_,hs,_,_=>⟨hs.1,hs.2.1,AL hs.2.2 (An _ (by omega))⟩
 | a::x,b::y,s,t,hx,hy,hs,h0,ht=>by simp only[zt] at ht ⊢;have h1:Bm (t+1) (j+k) (Em s (EA a.toNat b.toNat).1).1:=Bm.add (by omega) (by omega) hjk hs (Bd.mul (by omega) (hx a AU) (hy b AU)).bm;have:=Ade hjk x y _ (t+1) (fun z hz=>hx z (AJ _ hz)) (fun z hz=>hy z (AJ _ hz)) h1 (by omega) (by omega);rw[show t+(x.length+1)=t+1+x.length by omega];exact this
theorem XZ{j k:Nat}{x y:Bb}(hjk:j+k<=1000)(hx:Bl j x)(hy:Bl k y)(hl:x.length<=7):Bd (j+k+3) (Fu x y).toNat:=by have z:Bm 1 (j+k) 0:=(Bd.zero wy (j+k)).bm;have:=Ade hjk x y 0 1 hx hy z (by decide) (by omega);show Bd (j+k+3) (wz ((J4 0 x y:Nat):Int));rw[Ad];exact this.bd (by omega)
def tw(e:Int):Rat:=(2:Rat)^e
theorem KR:(2:Rat)≠0:=by decide
theorem Ex(a b:Int):tw (a+b)=tw a*tw b:=Rat.zpow_add KR a b
theorem Oz:tw 0=1:=Rat.zpow_zero 2
theorem DC(e:Int):0<tw e:=Rat.zpow_pos (by decide)
theorem HS(n:Nat):tw (n:Int)=((2^n:Nat):Rat):=by
 unfold tw;rw[Rat.zpow_natCast]
 induction n with
 | zero=>rfl
 | succ n ih=>rw[Rat.pow_succ,ih,zG]; exact(zU _ _).symm
theorem Ad4(n:Nat):1<=tw (n:Int):=by rw[HS];have:=Cs n;exact xd.2 (show 1<=2^n from this)
theorem V6{a b:Int}(h:a<=b):tw a<=tw b:=by
 have e:b=a+((b-a).toNat:Int):=by omega
 rw[e,Ex];have h1:=Ad4 (b-a).toNat;have h2:=DC a;have:=zl h1 (zc h2);rw[Rat.mul_one] at this;exact this
theorem SK(e:Int):tw (e+1)=2*tw e:=by
 have:tw 1=2:=by have:=HS 1;exact this
 rw[Ex,this]; grind
theorem AmH(e:Int):tw e≠0:=fun h=>by have:=DC e; grind
theorem NH(V k:Nat)(E:Int):((V*2^k:Nat):Rat)*tw (E-k)=(V:Rat)*tw E:=by
 have e:tw E=tw (E-k)*tw (k:Int):=by rw[<- Ex]; congr 1; omega
 rw[e,zU,<- HS];grind
def Nr(x y d:Rat):Prop:=x<=y+d/\y<=x+d
theorem Nr.mono{x y d e:Rat}(h:Nr x y d)(g:d<=e):Nr x y e:=by unfold Nr at *; grind
theorem Nr.symm{x y d:Rat}(h:Nr x y d):Nr y x d:=⟨h.2,h.1⟩
theorem Nr.trans{x y z d e:Rat}(h:Nr x y d)(g:Nr y z e):Nr x z (d+e):=by unfold Nr at *; grind
theorem Nr.neg{x y d:Rat}(h:Nr x y d):Nr (-x) (-y) d:=by unfold Nr at *; grind
theorem Agu(V k:Nat):2*(HH V k*2^k)<=2*V+2^k/\2*V<=2*(HH V k*2^k)+2^k:=by
 have hd:=zK V (2^k);have hm:=zv V (Cs k);unfold HH;rw[AI,A1 (V / 2^k)];split
 ·rw[zA]; omega
 ·rw[zI]; omega
theorem Aea(V k:Nat):Nr ((HH V k*2^k:Nat):Rat) (V:Rat) (tw ((k:Int)-1)):=by
 obtain⟨h1,h2⟩:=Agu V k
 have e:((2^k:Nat):Rat)=2*tw ((k:Int)-1):=by rw[<- HS,<- SK]; congr 1; omega
 have h1:((2*(HH V k*2^k):Nat):Rat)<=((2*V+2^k:Nat):Rat):=xd.2 h1;have h2:((2*V:Nat):Rat)<=((2*(HH V k*2^k)+2^k:Nat):Rat):=xd.2 h2;rw[Rat.natCast_add,zU 2,zU 2,e] at h1 h2;have t:((2:Nat):Rat)=2:=rfl;rw[t] at h1 h2;unfold Nr;grind
theorem Nr.scale{x y d c:Rat}(h:Nr x y d)(hc:0<=c):Nr (x*c) (y*c) (d*c):=by have h1:=zd h.1 hc;have h2:=zd h.2 hc;unfold Nr;grind
theorem AeE(M:Nat)(E:Int):Nr ((kept M E:Rat)*tw (Cl M E)) ((M:Rat)*tw E) (if Cl M E<=E then 0 else tw (Cl M E-1)):=by
 unfold kept HR;generalize Cl M E=L;by_cases h:L<=E
 ·rw[Az h];have e1:(L-E).toNat=0:=by omega
  have e2:tw L=tw (E-((-(L-E)).toNat:Int)):=by congr 1; omega
  rw[e1,KJ,e2,NH];unfold Nr; grind
 ·rw[Ay h];have e1:(-(L-E)).toNat=0:=by omega
  rw[e1,AB,AN];have h1:=(Aea M (L-E).toNat).scale (c:=tw E) (zc (DC E))
  have e2:((HH M (L-E).toNat*2^(L-E).toNat:Nat):Rat)*tw E=(HH M (L-E).toNat:Rat)*tw L:=by have:=NH (HH M (L-E).toNat) (L-E).toNat L;rw[show L-((L-E).toNat:Int)=E by omega] at this;exact this
  have e3:tw (((L-E).toNat:Int)-1)*tw E=tw (L-1):=by rw[<- Ex]; congr 1; omega
  rw[e2,e3] at h1;exact h1
def Mj(s:Bool):Rat:=if s then -1 else 1
def vR(a:Nat):Rat:=Mj (BE a)*((Bs a:Nat):Rat)*tw (By a)
theorem Xg(s:Bool)(m:Nat):((FX s m:Int):Rat)=Mj s*(m:Rat):=by
 unfold FX Mj;cases s
 ·simp; rfl
 ·show(((-(m:Int)):Int):Rat)=-1*(m:Rat)
  rw[wT];have e:((m:Int):Rat)=(m:Rat):=rfl;rw[e]; grind
theorem Acs(s t:Bool):Mj (s !=t)=Mj s*Mj t:=by cases s<;>cases t<;>decide +kernel
theorem Af1{a:Nat}{g:Int}(h:g<=By a):((DT a g:Int):Rat)*tw g=vR a:=by unfold DT vR;rw[Xg];have:=NH (Bs a) (By a-g).toNat (By a);rw[show By a-((By a-g).toNat:Int)=g by omega] at this;rw[xw,this,xw]
theorem Agl(s:Bool){V:Nat}{E:Int}(hi:Cj V E<Dk):vR (BG s (Cj V E))=Mj s*((kept V E:Rat)*tw (Cl V E)):=by
 by_cases h0:V=0
 ·subst h0;have e1:Cj 0 E=0:=by unfold Cj; rw[Az rfl]
  have e2:kept 0 E=0:=by unfold kept HR HH;rw[zI,y5,Nat.zero_mod];have:=Cs (Cl 0 E-E).toNat;rw[Ay (by omega)]
  have e3:Bs (BG s 0)=0:=by cases s<;>decide
  rw[e1,e2];unfold vR;rw[e3];have z:((0:Nat):Rat)=0:=rfl;rw[z];grind
 have er:Cj V E=(Cl V E+1074).toNat*2^52+kept V E:=by unfold Cj at hi ⊢;rw[Ay h0] at hi ⊢;omega
 have hl:-1074<=Cl V E:=by unfold Cl; omega
 have hk:=AcL (V:=V) (E:=E);have hlt:=HD V E;rw[er] at hi hlt;rw[er];by_cases hq:kept V E<2^53
 ·have hc:2^52<=kept V E\/Cl V E=-1074:=by
   by_cases h:Cl V E=E+V.log2-52
   ·exact .inl (Tf h0 h)
   ·refine .inr ?_;unfold Cl at h ⊢; omega
  obtain⟨p1,p2⟩:=P8 s hq hl hc hi;unfold vR;rw[p1,p2,sign_neg s hlt,xw]
 ·have hq:kept V E=2^53:=by omega
  rw[hq] at hi hlt ⊢;have e:(Cl V E+1074).toNat*2^52+2^53=(Cl V E+1+1074).toNat*2^52+2^52:=by omega
  rw[e] at hi hlt ⊢;obtain⟨p1,p2⟩:=P8 s (q:=2^52) (L:=Cl V E+1) (by decide) (by omega) (.inl (A7 _)) hi;unfold vR;rw[p1,p2,sign_neg s hlt,xw,SK];have t:((2^53:Nat):Rat)=2*((2^52:Nat):Rat):=by decide +kernel
  rw[t];grind
def uR:Rat:=tw (-53)
def Cv:Rat:=tw (-1075)
theorem E5:0<uR:=DC _
theorem Ek:0<Cv:=DC _
theorem Agg{s:Bool}{x y d:Rat}(h:Nr x y d):Nr (Mj s*x) (Mj s*y) d:=by
 unfold Mj;unfold Nr at *
 cases s<;>simp<;>grind
theorem Ahl{V:Nat}(h:V≠0):tw (V.log2:Int)<=(V:Rat):=by rw[HS];exact xd.2 (zS h)
theorem Jw(V:Nat):(0:Rat)<=(V:Rat):=by have:((0:Nat):Rat)<=(V:Rat):=xd.2 (zF V);exact this
theorem Mc(V:Nat)(E:Int):0<=(V:Rat)*tw E:=ze (Jw V) (zc (DC E))
theorem Akc{V:Nat}{E:Int}(h0:V≠0):(if Cl V E<=E then 0 else tw (Cl V E-1))<=uR*((V:Rat)*tw E)+Cv/\(-1074<=E->(if Cl V E<=E then 0 else tw (Cl V E-1))<=uR*((V:Rat)*tw E))/\(V<2^53->(if Cl V E<=E then 0 else tw (Cl V E-1))<=Cv):=by
 have hn:=Mc V E;have hu:=ze (zc E5) hn;have he:=Ek;by_cases h:Cl V E<=E
 ·rw[Az h];exact⟨by grind,fun _=>hu,fun _=>by grind⟩
 rw[Ay h];by_cases h1:Cl V E=E+V.log2-52
 ·have e:tw (Cl V E-1)=uR*(tw (V.log2:Int)*tw E):=by unfold uR;rw[h1,<- Ex,<- Ex]; congr 1; omega
  have hl:=zd (Ahl h0) (zc (DC E));have hl:=zl hl (zc E5);rw[e];refine⟨by grind,fun _=>hl,fun hv=>?_⟩;have:=Ae6 hv;omega
 ·have e:Cl V E=-1074:=by unfold Cl at h1 ⊢; omega
  have e2:tw (Cl V E-1)=Cv:=by unfold Cv; rw[e]; rfl
  rw[e2];exact⟨by grind,fun _=>by omega,fun _=>Rat.le_refl⟩
theorem NR(s:Bool){V:Nat}{E:Int}(hi:Cj V E<Dk):Nr (vR (BG s (Cj V E))) (Mj s*((V:Rat)*tw E)) (uR*((V:Rat)*tw E)+Cv)/\(-1074<=E->Nr (vR (BG s (Cj V E))) (Mj s*((V:Rat)*tw E)) (uR*((V:Rat)*tw E)))/\(V<2^53->Nr (vR (BG s (Cj V E))) (Mj s*((V:Rat)*tw E)) Cv):=by
 rw[Agl s hi];by_cases h0:V=0
 ·subst h0
  have e2:kept 0 E=0:=by unfold kept HR HH;rw[zI,y5,Nat.zero_mod];have:=Cs (Cl 0 E-E).toNat;rw[Ay (by omega)]
  rw[e2];have z:((0:Nat):Rat)=0:=rfl;have he:=Ek;rw[z];unfold Nr;refine⟨by grind,fun _=>by grind,fun _=>by grind⟩
 have h:=Agg (s:=s) (AeE V E);obtain⟨g1,g2,g3⟩:=Akc (E:=E) h0;exact⟨h.mono g1,fun k=>h.mono (g2 k),fun k=>h.mono (g3 k)⟩
def Ab(x B:Rat):Prop:=-B<=x/\x<=B
theorem Ab.nn{x B:Rat}(h:Ab x B):0<=B:=by unfold Ab at h; grind
theorem Xh{s:Bool}{x B:Rat}(hx:0<=x):Ab (Mj s*x) B↔x<=B:=by unfold Ab Mj;cases s<;>simp<;>grind
theorem Akm{v e w f:Int}(h:(v:Rat)*tw e=(w:Rat)*tw f):mD v=mD w/\eD v e=eD w f:=by
 have key:∀{v e w f:Int},e<=f->(v:Rat)*tw e=(w:Rat)*tw f->mD v=mD w/\eD v e=eD w f:=by
  intro v e w f hef h
  have e1:tw f=((2^(f-e).toNat:Nat):Rat)*tw e:=by rw[<- HS,<- Ex]; congr 1; omega
  have h2:((v:Rat)-(w:Rat)*((2^(f-e).toNat:Nat):Rat))*tw e=0:=by rw[e1] at h; grind
  have h3:(v:Rat)=(w:Rat)*((2^(f-e).toNat:Nat):Rat):=by
   rcases Rat.mul_eq_zero.1 h2 with k | k
   ·grind
   ·exact absurd k (AmH e)
  have h4:((v:Int):Rat)=((w*((2^(f-e).toNat:Nat):Int):Int):Rat):=by rw[xy]; exact h3
  have h5:v=w*((2^(f-e).toNat:Nat):Int):=Rat.intCast_inj.1 h4;refine⟨by rw[h5,AlT],?_⟩;have h6:=Ami w f (f-e).toNat;rw[<- h5,show f-((f-e).toNat:Int)=e by omega] at h6;exact h6
 rcases Int.le_total e f with k | k
 ·exact key k h
 ·obtain⟨h1,h2⟩:=key k h.symm;exact⟨h1.symm,h2.symm⟩
open Classical in
def dyP(x:Rat):Int × Int:=if h:∃p:Int × Int,x=(p.1:Rat)*tw p.2 then wU h else (0,0)
def mQ(x:Rat):Int:=mD (dyP x).1
def eQ(x:Rat):Int:=eD (dyP x).1 (dyP x).2
theorem Wd{x:Rat}{v e:Int}(h:x=(v:Rat)*tw e):mQ x=mD v/\eQ x=eD v e:=by
 have hx:∃p:Int × Int,x=(p.1:Rat)*tw p.2:=⟨(v,e),h⟩
 have e1:dyP x=wU hx:=by unfold dyP; rw[dif_pos hx]
 have h1:=ud hx;rw[<- e1] at h1;exact Akm (h1.symm.trans h)
theorem Ahd(v e:Int):((mD v:Int):Rat)*tw (eD v e)=(v:Rat)*tw e:=by
 by_cases h:v=0
 ·subst h;rw[Jc.2 rfl];have:((0:Int):Rat)=0:=rfl;rw[this]; grind
 ·have e1:=QF v;have e2:eD v e=e+N9 v.natAbs:=by unfold eD; rw[Ay h]
  have e3:(v:Rat)=((mD v:Int):Rat)*((2^N9 v.natAbs:Nat):Rat):=by have h2:((v:Int):Rat)=((mD v*((2^N9 v.natAbs:Nat):Int):Int):Rat):=Rat.intCast_inj.2 e1;rw[xy] at h2;exact h2
  rw[e2,Ex,HS,e3,<- e3];grind
structure Dg(g t n:Nat)(x:Rat):Prop where
 ex:∃v:Int,x=(v:Rat)*tw (-(g:Int))/\v.natAbs<=n*2^t
theorem Dg.add{g t n m:Nat}{x y:Rat}(h:Dg g t n x)(k:Dg g t m y):Dg g t (n+m) (x+y):=by
 obtain⟨⟨v,rfl,h⟩⟩:=h;obtain⟨⟨w,rfl,k⟩⟩:=k;refine⟨v+w,?_,?_⟩
 ·rw[wV]; grind
 ·rw[AI]; omega
theorem Dg.neg{g t n:Nat}{x:Rat}(h:Dg g t n x):Dg g t n (-x):=by obtain⟨⟨v,rfl,h⟩⟩:=h;refine⟨-v,?_,by omega⟩;rw[wT]; grind
theorem Dg.sub{g t n m:Nat}{x y:Rat}(h:Dg g t n x)(k:Dg g t m y):Dg g t (n+m) (x-y):=by have:=h.add k.neg;rw[Rat.sub_eq_add_neg]; exact this
theorem Dg.mul{g t n h s m:Nat}{x y:Rat}(a:Dg g t n x)(b:Dg h s m y):Dg (g+h) (t+s) (n*m) (x*y):=by
 obtain⟨⟨v,rfl,a⟩⟩:=a;obtain⟨⟨w,rfl,b⟩⟩:=b;refine⟨v*w,?_,?_⟩
 ·have e:tw (-((g+h:Nat):Int))=tw (-(g:Int))*tw (-(h:Int)):=by rw[<- Ex]; congr 1; omega
  rw[xy,e]; grind
 ·rw[yw,A2];have:=A9 a b
  have e:n*m*(2^t*2^s)=n*2^t*(m*2^s):=by rw[A4,Nat.mul_left_comm m,<- A4]
  rw[e]; exact this
theorem Dg.up{g t n:Nat}{x:Rat}(h:Dg g t n x)(k:Nat):Dg (g+k) (t+k) n x:=by
 obtain⟨⟨v,rfl,h⟩⟩:=h;refine⟨v*((2^k:Nat):Int),?_,?_⟩
 ·have e:tw (-(g:Int))=((2^k:Nat):Rat)*tw (-((g+k:Nat):Int)):=by rw[<- HS,<- Ex]; congr 1; omega
  have e2:(((2^k:Nat):Int):Rat)=((2^k:Nat):Rat):=rfl;rw[xy,e2,e]; grind
 ·rw[yw,Int.natAbs_natCast,A2,<- A4];exact An _ h
theorem Dg.mono{g t n m:Nat}{x:Rat}(h:Dg g t n x)(k:n<=m):Dg g t m x:=by obtain⟨⟨v,e,h⟩⟩:=h;exact⟨v,e,AL h (An _ k)⟩
theorem Dg.wide{g t n s:Nat}{x:Rat}(h:Dg g t n x)(k:t<=s):Dg g s n x:=by obtain⟨⟨v,e,h⟩⟩:=h;exact⟨v,e,AL h (yg _ (Aq (by decide) k))⟩
theorem Dg.scale{g t n:Nat}{x:Rat}(h:Dg g t n x)(k:Nat):Dg (g+k) t n (x*tw (-(k:Int))):=by
 obtain⟨⟨v,rfl,h⟩⟩:=h;refine⟨v,?_,h⟩;have e:tw (-((g+k:Nat):Int))=tw (-(g:Int))*tw (-(k:Int)):=by rw[<- Ex]; congr 1; omega
 rw[e]; grind
theorem Dg.zero(g t n:Nat):Dg g t n 0:=⟨0,by have:((0:Int):Rat)=0:=rfl;rw[this]; grind,zF _⟩
theorem Dg.tw(g:Nat):Dg g 0 1 (tw (-(g:Int))):=⟨1,by have:((1:Int):Rat)=1:=rfl;rw[this]; grind,by decide⟩
theorem Dg.word(a:Nat){t:Nat}(ht:2099<=t):Dg 1074 t 1 (vR a):=by
 obtain⟨p1,p2⟩:=C4 a;refine⟨DT a (-1074),(Af1 p1).symm,?_⟩;have e:(DT a (-1074)).natAbs=Bs a*2^(By a-(-1074)).toNat:=Jb a;have h1:Bs a<=2^53:=by have:=E1 a; omega
 have h3:=A9 h1 (A7 (2^(By a-(-1074)).toNat));rw[<- A2] at h3;rw[e,zA];exact AL h3 (Aq (by decide) (by omega))
def Dq(x:Rat):Prop:=∃g t n:Nat,g<=40000/\t<=40000/\n<=1073741824/\Dg g t n x
theorem Dg.dq{g t n:Nat}{x:Rat}(h:Dg g t n x)(hg:g<=40000)(ht:t<=40000)(hn:n<=1073741824):Dq x:=⟨g,t,n,hg,ht,hn,h⟩
theorem Dq.parts{x:Rat}(h:Dq x):x=((mQ x:Int):Rat)*tw (eQ x)/\D3 (mQ x).natAbs<10000/\-50000<=eQ x/\eQ x<=50000/\mD (mQ x)=mQ x:=by
 obtain⟨g,t,n,hg,ht,hn,⟨v,e,hv⟩⟩:=h;obtain⟨h1,h2⟩:=Wd e
 have b1:v.natAbs<=2^(t+30):=by refine AL hv ?_;rw[A2,A1];exact yg _ hn
 have b2:v.natAbs<2^(t+31):=AG b1 (Nat.pow_lt_pow_right (by decide) (by omega));refine⟨?_,?_,?_⟩
 ·rw[h1,h2,Ahd]; exact e
 ·rw[h1];have l1:=RL v;have l2:D3 (mD v).natAbs<=(t+31) / 32+1:=JB (AP (AG l1 b2) (Aq (by decide) (by omega)));omega
 ·rw[h1,h2];by_cases h0:v=0
  ·rw[show eD v (-(g:Int))=0 by unfold eD; rw[Az h0],Jc.2 h0];exact⟨by decide,by decide,Jc.2 rfl⟩
  ·have e2:eD v (-(g:Int))=-(g:Int)+N9 v.natAbs:=by unfold eD; rw[Ay h0]
   have l:=AfB (n:=v.natAbs) (by omega);have l2:=(AV (n:=v.natAbs) (by omega)).2 b2;refine⟨by omega,by omega,?_⟩;have:=Wd (x:=((mD v:Int):Rat)*tw (eD v (-(g:Int)))) rfl;rw[Ahd,<- e,h1] at this;exact this.1.symm
theorem Dq.Rr{x:Rat}(h:Dq x):Rr (BB (mQ x)) (Bn (mQ x))=wg:=AaQ (by have:=h.parts.2.1; omega)
theorem Dq.IS{x:Rat}(h:Dq x):IS (BB (mQ x)) (Bn (mQ x))=wg:=Hj (by have:=h.parts.2.1; omega)
theorem Dq.okM{x:Rat}(h:Dq x):okM (BB (mQ x)) (Bn (mQ x))=wg:=Bt.2 ⟨by unfold Bn; rw[Gg]; have:=h.parts.2.1; omega,UR _⟩
theorem Dq.MU{x:Rat}(h:Dq x):MU (eQ x)=wg:=Bt.2 (by have:=h.parts.2.2; omega)
def vQ(n:Bool)(a:Bb)(e:Int):Rat:=((wv n a:Int):Rat)*tw e
def S5(n:Bool)(a:Bb)(e:Int):Bool:=CE (∃x,Dq x/\n=BB (mQ x)/\a=Bn (mQ x)/\e=eQ x)
theorem XW{x:Rat}(h:Dq x):S5 (BB (mQ x)) (Bn (mQ x)) (eQ x)=wg:=Bt.2 ⟨x,h,rfl,rfl,rfl⟩
theorem L7{x:Rat}(h:Dq x):vQ (BB (mQ x)) (Bn (mQ x)) (eQ x)=x:=by unfold vQ;rw[EE]; exact h.parts.1.symm
theorem K9{n:Bool}{a:Bb}{e:Int}(h:S5 n a e=wg):∃x,Dq x/\n=BB (mQ x)/\a=Bn (mQ x)/\e=eQ x:=Bt.1 h
theorem WK{v e l:Int}(h:l<=e):((Tq v e l:Int):Rat)*tw l=(v:Rat)*tw e:=by
 unfold Tq
 have e1:tw e=((2^(e-l).toNat:Nat):Rat)*tw l:=by rw[<- HS,<- Ex]; congr 1; omega
 have e2:(((2^(e-l).toNat:Nat):Int):Rat)=((2^(e-l).toNat:Nat):Rat):=rfl;rw[xy,e2,e1]; grind
theorem Acp{v e l:Int}(h:v≠0->l<=e):((Hv v (e-l):Int):Rat)*tw l=(v:Rat)*tw e:=by
 rw[Xe h];by_cases h0:v=0
 ·subst h0;rw[GW];have:((0:Int):Rat)=0:=rfl;rw[this]; grind
 ·exact WK (h h0)
theorem Aiy(v e w f:Int):((AbR v e w f:Int):Rat)*tw (D2 v e w f)=(v:Rat)*tw e+(w:Rat)*tw f:=by obtain⟨l1,l2⟩:=Ahh (v:=v) (e:=e) (w:=w) (f:=f);unfold AbR;have h1:=Acp l1;have h2:=Acp l2;rw[wV,<- h1,<- h2]; grind
theorem AnG(v e w f:Int):Ly v e w f=mQ ((v:Rat)*tw e+(w:Rat)*tw f)/\Aag v e w f=eQ ((v:Rat)*tw e+(w:Rat)*tw f):=by obtain⟨h1,h2⟩:=Wd (Aiy v e w f).symm;exact⟨h1.symm,h2.symm⟩
theorem AlJ(v e:Int):mD v=mQ ((v:Rat)*tw e)/\eD v e=eQ ((v:Rat)*tw e):=by obtain⟨h1,h2⟩:=Wd (x:=(v:Rat)*tw e) rfl;exact⟨h1.symm,h2.symm⟩
theorem AoK(v e w f:Int):mD (v*w)=mQ ((v:Rat)*tw e*((w:Rat)*tw f))/\eD (v*w) (e+f)=eQ ((v:Rat)*tw e*((w:Rat)*tw f)):=by
 have h:(v:Rat)*tw e*((w:Rat)*tw f)=((v*w:Int):Rat)*tw (e+f):=by rw[xy,Ex]; grind
 obtain⟨h1,h2⟩:=Wd h;exact⟨h1.symm,h2.symm⟩
def AbE(x y:Rat):Int:=if x<y then -1 else if y<x then 1 else 0
theorem AoR{x y:Rat}(hx:Dq x)(hy:Dq y):Rb (mQ x) (eQ x) (mQ y) (eQ y)=AbE x y:=by
 obtain⟨x1,_,x3,_⟩:=hx.parts;obtain⟨y1,_,y3,_⟩:=hy.parts;have h:=Adm (v:=mQ x) (e:=eQ x) (w:=mQ y) (f:=eQ y) (g:=-50000) (fun _=>x3) (fun _=>y3);have e1:=WK (v:=mQ x) x3;have e2:=WK (v:=mQ y) y3;rw[<- x1] at e1;rw[<- y1] at e2
 have key:∀a b:Int,a<b↔(a:Rat)*tw (-50000)<(b:Rat)*tw (-50000):=fun a b=>by
  have p:=DC (-50000);constructor
  ·intro h;exact Rat.mul_lt_mul_of_pos_right (Rat.intCast_lt_intCast.2 h) p
  ·intro h;rcases Int.lt_or_le a b with k | k
   ·exact k
   ·have:=zd (Rat.intCast_le_intCast.2 k) (zc p);grind
 rw[h];unfold RV AbE;have k1:=key (Tq (mQ x) (eQ x) (-50000)) (Tq (mQ y) (eQ y) (-50000));have k2:=key (Tq (mQ y) (eQ y) (-50000)) (Tq (mQ x) (eQ x) (-50000));rw[e1,e2] at k1 k2;simp only[k1,k2]
theorem Akx(x y:Rat):AbE x y<=0↔x<=y:=by
 unfold AbE;split
 ·rename_i h;exact⟨fun _=>zc h,fun _=>by decide⟩
 ·split
  ·rename_i h;exact⟨fun k=>absurd k (by decide),fun k=>by grind⟩
  ·exact⟨fun _=>by grind,fun _=>by decide⟩
def Ds(x:Rat):Prop:=∃g t n:Nat,g<=15000/\t<=15000/\n<=536870912/\Dg g t n x
def dsB(n:Bool)(a:Bb)(e:Int):Bool:=CE (∃x,Ds x/\n=BB (mQ x)/\a=Bn (mQ x)/\e=eQ x)
noncomputable abbrev DY (x:Rat):Rat:=vQ (BB (mQ x)) (Bn (mQ x)) (eQ x)
noncomputable abbrev Nk (x:Rat):Bool:=S5 (BB (mQ x)) (Bn (mQ x)) (eQ x)
noncomputable abbrev dSo (x:Rat):Bool:=dsB (BB (mQ x)) (Bn (mQ x)) (eQ x)
def DW(x:Int):Rat:=vR x.toNat
def F6:Nat->(Nat->Rat)->Rat
 | 0,_=>0
 | n+1,f=>F6 n f+f n
def Im(x:Bb):Rat:=F6 x.length fun i=>DW (x.getD i 0)*DW (x.getD i 0)
def XT(x y:Bb):Rat:=F6 x.length fun i=>DW (x.getD i 0)*DW (y.getD i 0)
def dyR(x:Rat):List DV:=[.bool (BB (mQ x)),.Bh .arg .u32 (Bn (mQ x)),.int .i64 (eQ x)]
def Ph:List DV->Rat
 | [.bool n,.Bh _ _ a,.int _ e]=>vQ n a e
 | _=>0
def M9(x:Bb)(y:List (List DV)):Rat:=F6 x.length fun i=>DW (x.getD i 0)*Ph (y.getD i [])
def N2(y:List (List DV))(n:Nat):Bool:=CE (n<=64/\y.length=n/\∀r∈y,∃x,Dg 2148 4300 100 x/\r=dyR x)
def Px(c:Nat)(l m h:Bb)(q:Nat)(i k:Nat):Rat:=(F6 c fun j=>DW (Cc (c:Int) l (i:Int) (j:Int))*DW (Cc (q:Int) m (j:Int) (k:Int)))-DW (Cc (q:Int) h (i:Int) (k:Int))
def Jr(r c q:Nat)(l m h:Bb):Rat:=F6 q fun k=>F6 c fun j=>(F6 r fun i=>DW (Cc (c:Int) l (i:Int) (j:Int))*Px c l m h q i k)*(F6 r fun i=>DW (Cc (c:Int) l (i:Int) (j:Int))*Px c l m h q i k)
end Go.CI
namespace Go.Proofs.S1
open Go Go.Den Go.CI
abbrev PB:=List G0->Bool
abbrev PD:=List G0->DV
abbrev TS:=List AT
def soft.Split.pre:PB
 | [.i x]=>Bo x
 | _=>wy
def soft.Split.out:PD
 | [.i x]=>.agg [.bool (DI x),.int .i64 (K1 x),.int .u64 (Df x)]
 | _=>.undef
abbrev soft.Split.ts:TS:=[.i .u64]
def soft.Split.Bk:=B9 soft.Split.ts soft.Split.pre soft.Split.out
def soft.Kind.pre:PB
 | [.i x]=>Bo x
 | _=>wy
def soft.Kind.out:PD
 | [.i x]=>.int .i64 (B8 x)
 | _=>.undef
abbrev soft.Kind.ts:TS:=[.i .u64]
def soft.Kind.Bk:=B9 soft.Kind.ts soft.Kind.pre soft.Kind.out
def soft.Sign.pre:PB
 | [.i x]=>Bo x
 | _=>wy
def soft.Sign.out:PD
 | [.i x]=>.bool (DI x)
 | _=>.undef
abbrev soft.Sign.ts:TS:=[.i .u64]
def soft.Sign.Bk:=B9 soft.Sign.ts soft.Sign.pre soft.Sign.out
def soft.Finite.pre:PB
 | [.i x]=>Bo x
 | _=>wy
def soft.Finite.out:PD
 | [.i x]=>.bool (CO x)
 | _=>.undef
abbrev soft.Finite.ts:TS:=[.i .u64]
def soft.Finite.Bk:=B9 soft.Finite.ts soft.Finite.pre soft.Finite.out
def soft.DO.pre:PB
 | [.i x]=>Bo x
 | _=>wy
def soft.DO.out:PD
 | [.i x]=>.int .u64 (CM x)
 | _=>.undef
abbrev soft.DO.ts:TS:=[.i .u64]
def soft.DO.Bk:=B9 soft.DO.ts soft.DO.pre soft.DO.out
def soft.Fh.pre:PB
 | [.i x]=>Bo x
 | _=>wy
def soft.Fh.out:PD
 | [.i x]=>.Cw [.int .u64 (Ci x),.int .i64 (BO x)]
 | _=>.undef
abbrev soft.Fh.ts:TS:=[.i .u64]
def soft.Fh.Bk:=B9 soft.Fh.ts soft.Fh.pre soft.Fh.out
def soft.Pack.mu:List G0->Nat
 | [.b _n,.i m,.i e]=>MM m e
 | _=>0
def soft.Pack.pre:PB
 | [.b _n,.i m,.i e]=>J9 m e
 | _=>wy
def soft.Pack.out:PD
 | [.b n,.i m,.i e]=>.int .u64 (Q0 n m e)
 | _=>.undef
abbrev soft.Pack.ts:TS:=[.b,.i .u64,.i .i64]
def soft.Pack.Bk:=B9 soft.Pack.ts soft.Pack.pre soft.Pack.out
def soft.DG.pre:PB
 | [.b _n,.i m,.i e,.b r]=>Ep m e r
 | _=>wy
def soft.DG.out:PD
 | [.b n,.i m,.i e,.b r]=>.Cw [.int .u64 (EJ n m e r),.int .u8 (EI n m e r)]
 | _=>.undef
abbrev soft.DG.ts:TS:=[.b,.i .u64,.i .i64,.b]
def soft.DG.Bk:=B9 soft.DG.ts soft.DG.pre soft.DG.out
def sum.right.pre:PB
 | [.i m,.i d]=>Bo m&&CE (0<=d/\d<1000000)
 | _=>wy
def sum.right.out:PD
 | [.i m,.i d]=>.int .u64 (EX m d)
 | _=>.undef
abbrev sum.right.ts:TS:=[.i .u64,.i .i64]
def sum.right.Bk:=B9 sum.right.ts sum.right.pre sum.right.out
def sum.G1.pre:PB
 | [.i a,.i b]=>(Bo a&&Bo b)&&(!(CO a)||!(CO b))
 | _=>wy
def sum.G1.out:PD
 | [.i a,.i b]=>.Cw [.int .u64 (EN a b),.int .u8 (SB a b)]
 | _=>.undef
abbrev sum.G1.ts:TS:=[.i .u64,.i .u64]
def sum.G1.Bk:=B9 sum.G1.ts sum.G1.pre sum.G1.out
def sum.Add.pre:PB
 | [.i a,.i b]=>Bo a&&Bo b
 | _=>wy
def sum.Add.out:PD
 | [.i a,.i b]=>.Cw [.int .u64 (EN a b),.int .u8 (SB a b)]
 | _=>.undef
abbrev sum.Add.ts:TS:=[.i .u64,.i .u64]
def sum.Add.Bk:=B9 sum.Add.ts sum.Add.pre sum.Add.out
def sum.Sub.pre:PB
 | [.i a,.i b]=>Bo a&&Bo b
 | _=>wy
def sum.Sub.out:PD
 | [.i a,.i b]=>.Cw [.int .u64 (CA a b),.int .u8 (Ano a b)]
 | _=>.undef
abbrev sum.Sub.ts:TS:=[.i .u64,.i .u64]
def sum.Sub.Bk:=B9 sum.Sub.ts sum.Sub.pre sum.Sub.out
def BJ.Neg.pre:PB
 | [.i x]=>Bo x
 | _=>wy
def BJ.Neg.out:PD
 | [.i x]=>.bool (DI x)
 | _=>.undef
abbrev BJ.Neg.ts:TS:=[.i .u64]
def BJ.Neg.Bk:=B9 BJ.Neg.ts BJ.Neg.pre BJ.Neg.out
def BJ.Power.pre:PB
 | [.i x]=>Jx x
 | _=>wy
def BJ.Power.out:PD
 | [.i x]=>.int .i64 (K1 x)
 | _=>.undef
abbrev BJ.Power.ts:TS:=[.i .u64]
def BJ.Power.Bk:=B9 BJ.Power.ts BJ.Power.pre BJ.Power.out
def BJ.NB.pre:PB
 | [.i x]=>Jx x
 | _=>wy
def BJ.NB.out:PD
 | [.i x]=>.int .u64 (Df x)
 | _=>.undef
abbrev BJ.NB.ts:TS:=[.i .u64]
def BJ.NB.Bk:=B9 BJ.NB.ts BJ.NB.pre BJ.NB.out
def BJ.Kind.pre:PB
 | [.i x]=>Jx x
 | _=>wy
def BJ.Kind.out:PD
 | [.i x]=>.int .i64 (B8 x)
 | _=>.undef
abbrev BJ.Kind.ts:TS:=[.i .u64]
def BJ.Kind.Bk:=B9 BJ.Kind.ts BJ.Kind.pre BJ.Kind.out
def BJ.Finite.pre:PB
 | [.i x]=>Bo x
 | _=>wy
def BJ.Finite.out:PD
 | [.i x]=>.bool (CO x)
 | _=>.undef
abbrev BJ.Finite.ts:TS:=[.i .u64]
def BJ.Finite.Bk:=B9 BJ.Finite.ts BJ.Finite.pre BJ.Finite.out
def BJ.DO.pre:PB
 | [.i x]=>Bo x
 | _=>wy
def BJ.DO.out:PD
 | [.i x]=>.int .u64 (CM x)
 | _=>.undef
abbrev BJ.DO.ts:TS:=[.i .u64]
def BJ.DO.Bk:=B9 BJ.DO.ts BJ.DO.pre BJ.DO.out
def Fz.Canon.pre:PB
 | [.i x]=>Jx x
 | _=>wy
def Fz.Canon.out:PD
 | [.i x]=>.int .u64 (US x)
 | _=>.undef
abbrev Fz.Canon.ts:TS:=[.i .u64]
def Fz.Canon.Bk:=B9 Fz.Canon.ts Fz.Canon.pre Fz.Canon.out
def DE.CY.pre:PB
 | [.i x]=>Bo x
 | _=>wy
def DE.CY.out:PD
 | [.i x]=>.int .i64 (64-EK x)
 | _=>.undef
abbrev DE.CY.ts:TS:=[.i .u64]
def DE.CY.Bk:=B9 DE.CY.ts DE.CY.pre DE.CY.out
def DE.Ko.pre:PB
 | [.i x,.i y]=>Bo x&&Bo y
 | _=>wy
def DE.Ko.out:PD
 | [.i x,.i y]=>.Cw [.int .u64 (Pv x y),.int .u64 (LJ x y)]
 | _=>.undef
abbrev DE.Ko.ts:TS:=[.i .u64,.i .u64]
def DE.Ko.Bk:=B9 DE.Ko.ts DE.Ko.pre DE.Ko.out
def times.signed.pre:PB
 | [.i b,.b _n]=>Bo b
 | _=>wy
def times.signed.out:PD
 | [.i b,.b n]=>.int .u64 (Pq n b)
 | _=>.undef
abbrev times.signed.ts:TS:=[.i .u64,.b]
def times.signed.Bk:=B9 times.signed.ts times.signed.pre times.signed.out
def times.nan.pre:PB
 | [.i a,.i b]=>Bo a&&Bo b
 | _=>wy
def times.nan.out:PD
 | [.i a,.i b]=>.bool (AgS a b)
 | _=>.undef
abbrev times.nan.ts:TS:=[.i .u64,.i .u64]
def times.nan.Bk:=B9 times.nan.ts times.nan.pre times.nan.out
def times.norm.pre:PB
 | [.i b]=>Bo b&&K3 b
 | _=>wy
def times.norm.out:PD
 | [.i b]=>.Cw [.int .u64 (Dj b),.int .i64 (GK b)]
 | _=>.undef
abbrev times.norm.ts:TS:=[.i .u64]
def times.norm.Bk:=B9 times.norm.ts times.norm.pre times.norm.out
def times.wide.pre:PB
 | [.b _n,.i m,.i e,.b _r]=>MG m e
 | _=>wy
def times.wide.out:PD
 | [.b n,.i m,.i e,.b r]=>.Cw [.int .u64 (EJ n m e r),.int .u8 (EI n m e r)]
 | _=>.undef
abbrev times.wide.ts:TS:=[.b,.i .u64,.i .i64,.b]
def times.wide.Bk:=B9 times.wide.ts times.wide.pre times.wide.out
def times.Mul.pre:PB
 | [.i a,.i b]=>Bo a&&Bo b
 | _=>wy
def times.Mul.out:PD
 | [.i a,.i b]=>.Cw [.int .u64 (CN a b),.int .u8 (An1 a b)]
 | _=>.undef
abbrev times.Mul.ts:TS:=[.i .u64,.i .u64]
def times.Mul.Bk:=B9 times.Mul.ts times.Mul.pre times.Mul.out
def times.Div.pre:PB
 | [.i a,.i b]=>Bo a&&Bo b
 | _=>wy
def times.Div.out:PD
 | [.i a,.i b]=>.Cw [.int .u64 (El a b),.int .u8 (AnD a b)]
 | _=>.undef
abbrev times.Div.ts:TS:=[.i .u64,.i .u64]
def times.Div.Bk:=B9 times.Div.ts times.Div.pre times.Div.out
def Bu.Add.pre:PB
 | [.i a,.i b]=>Bo a&&Bo b
 | _=>wy
def Bu.Add.out:PD
 | [.i a,.i b]=>.int .u64 (EN a b)
 | _=>.undef
abbrev Bu.Add.ts:TS:=[.i .u64,.i .u64]
def Bu.Add.Bk:=B9 Bu.Add.ts Bu.Add.pre Bu.Add.out
def Bu.Sub.pre:PB
 | [.i a,.i b]=>Bo a&&Bo b
 | _=>wy
def Bu.Sub.out:PD
 | [.i a,.i b]=>.int .u64 (CA a b)
 | _=>.undef
abbrev Bu.Sub.ts:TS:=[.i .u64,.i .u64]
def Bu.Sub.Bk:=B9 Bu.Sub.ts Bu.Sub.pre Bu.Sub.out
def Bu.Mul.pre:PB
 | [.i a,.i b]=>Bo a&&Bo b
 | _=>wy
def Bu.Mul.out:PD
 | [.i a,.i b]=>.int .u64 (CN a b)
 | _=>.undef
abbrev Bu.Mul.ts:TS:=[.i .u64,.i .u64]
def Bu.Mul.Bk:=B9 Bu.Mul.ts Bu.Mul.pre Bu.Mul.out
def Bu.fit.pre:PB
 | [.l _x,.l _y]=>wg
 | _=>wy
def Bu.fit.out:PD
 | [.l x,.l y]=>.bool (NA x y)
 | _=>.undef
abbrev Bu.fit.ts:TS:=[.s .u64,.s .u64]
def Bu.fit.Bk:=B9 Bu.fit.ts Bu.fit.pre Bu.fit.out
def Bu.FL.pre:PB
 | [.l x,.l y]=>(NA x y&&Bg x)&&Bg y
 | _=>wy
def Bu.FL.out:PD
 | [.l x,.l y]=>.Cw [.int .u64 (Fu x y),.int .i64 (0:Int)]
 | _=>.undef
abbrev Bu.FL.ts:TS:=[.s .u64,.s .u64]
def Bu.FL.Bk:=B9 Bu.FL.ts Bu.FL.pre Bu.FL.out
def Bv.F.pre:PB
 | [.i x]=>Bo x
 | _=>wy
def Bv.F.out:PD
 | [.i x]=>.fl (wz x)
 | _=>.undef
abbrev Bv.F.ts:TS:=[.i .u64]
def Bv.F.Bk:=B9 Bv.F.ts Bv.F.pre Bv.F.out
def Bv.B.pre:PB
 | [.f _x]=>wg
 | _=>wy
def Bv.B.out:PD
 | [.f x]=>.int .u64 (FA x)
 | _=>.undef
abbrev Bv.B.ts:TS:=[.fl]
def Bv.B.Bk:=B9 Bv.B.ts Bv.B.pre Bv.B.out
def Bv.Add.pre:PB
 | [.i a,.i b]=>Bo a&&Bo b
 | _=>wy
def Bv.Add.out:PD
 | [.i a,.i b]=>.int .u64 (EN a b)
 | _=>.undef
abbrev Bv.Add.ts:TS:=[.i .u64,.i .u64]
def Bv.Add.Bk:=B9 Bv.Add.ts Bv.Add.pre Bv.Add.out
def Bv.Sub.pre:PB
 | [.i a,.i b]=>Bo a&&Bo b
 | _=>wy
def Bv.Sub.out:PD
 | [.i a,.i b]=>.int .u64 (CA a b)
 | _=>.undef
abbrev Bv.Sub.ts:TS:=[.i .u64,.i .u64]
def Bv.Sub.Bk:=B9 Bv.Sub.ts Bv.Sub.pre Bv.Sub.out
def Bv.Mul.pre:PB
 | [.i a,.i b]=>Bo a&&Bo b
 | _=>wy
def Bv.Mul.out:PD
 | [.i a,.i b]=>.int .u64 (CN a b)
 | _=>.undef
abbrev Bv.Mul.ts:TS:=[.i .u64,.i .u64]
def Bv.Mul.Bk:=B9 Bv.Mul.ts Bv.Mul.pre Bv.Mul.out
def Bv.FL.pre:PB
 | [.l x,.l y]=>(NA x y&&Bg x)&&Bg y
 | _=>wy
def Bv.FL.out:PD
 | [.l x,.l y]=>.int .u64 (Fu x y)
 | _=>.undef
abbrev Bv.FL.ts:TS:=[.s .u64,.s .u64]
def Bv.FL.Bk:=B9 Bv.FL.ts Bv.FL.pre Bv.FL.out
def Bc.size.pre:PB
 | [.i _n]=>wg
 | _=>wy
def Bc.size.out:PD
 | [.i n]=>.bool (Ce n)
 | _=>.undef
abbrev Bc.size.ts:TS:=[.i .i64]
def Bc.size.Bk:=B9 Bc.size.ts Bc.size.pre Bc.size.out
def Bc.Check.pre:PB
 | [.i _r,.i _c,.l _l]=>wg
 | _=>wy
def Bc.Check.out:PD
 | [.i r,.i c,.l l]=>.int .i64 (Ki r c l)
 | _=>.undef
abbrev Bc.Check.ts:TS:=[.st [.i .i64,.i .i64,.s .u64]]
def Bc.Check.Bk:=B9 Bc.Check.ts Bc.Check.pre Bc.Check.out
def Bc.get.pre:PB
 | [.i r,.i c,.l l,.i i,.i k]=>Db r c l i k
 | _=>wy
def Bc.get.out:PD
 | [.i _r,.i c,.l l,.i i,.i k]=>.int .u64 (Cc c l i k)
 | _=>.undef
abbrev Bc.get.ts:TS:=[.st [.i .i64,.i .i64,.s .u64],.i .i64,.i .i64]
def Bc.get.Bk:=B9 Bc.get.ts Bc.get.pre Bc.get.out
def Bc.two.pre:PB
 | [.i _r,.i _c,.l _l,.i _p,.i _q,.l _m]=>wg
 | _=>wy
def Bc.two.out:PD
 | [.i r,.i c,.l l,.i p,.i q,.l m]=>.int .i64 (Ru r c l p q m)
 | _=>.undef
abbrev Bc.two.ts:TS:=[.st [.i .i64,.i .i64,.s .u64],.st [.i .i64,.i .i64,.s .u64]]
def Bc.two.Bk:=B9 Bc.two.ts Bc.two.pre Bc.two.out
def Bc.Row.pre:PB
 | [.i r,.i c,.l l,.i i,.i f]=>KY r c l i&&decide (f=0)
 | _=>wy
def Bc.Row.out:PD
 | [.i _r,.i c,.l l,.i i,.i _f]=>.Bh .BF .u64 (Ee c l i)
 | _=>.undef
abbrev Bc.Row.ts:TS:=[.st [.i .i64,.i .i64,.s .u64],.i .i64,.i .i64]
def Bc.Row.Bk:=B9 Bc.Row.ts Bc.Row.pre Bc.Row.out
def Bc.EB.pre:PB
 | [.i r,.i c,.l l,.i k,.i f]=>EM r c l k&&CE (0<=f/\f<=r)
 | _=>wy
def Bc.EB.out:PD
 | [.i r,.i c,.l l,.i k,.i f]=>.Bh .BF .u64 (Cb c l k f (wz (r-f)))
 | _=>.undef
abbrev Bc.EB.ts:TS:=[.st [.i .i64,.i .i64,.s .u64],.i .i64,.i .i64]
def Bc.EB.Bk:=B9 Bc.EB.ts Bc.EB.pre Bc.EB.out
def Bc.Gl.pre:PB
 | [.i _i,.i _k]=>wg
 | _=>wy
def Bc.Gl.out:PD
 | [.i _i,.i _k]=>.int .u64 (0:Int)
 | _=>.undef
abbrev Bc.Gl.ts:TS:=[.i .i64,.i .i64]
def Bc.Gl.Bk:=B9 Bc.Gl.ts Bc.Gl.pre Bc.Gl.out
def Bc.Ku.pre:PB
 | [.i _i,.i _k]=>wg
 | _=>wy
def Bc.Ku.out:PD
 | [.i i,.i k]=>.int .u64 (Hc i k)
 | _=>.undef
abbrev Bc.Ku.ts:TS:=[.i .i64,.i .i64]
def Bc.Ku.Bk:=B9 Bc.Ku.ts Bc.Ku.pre Bc.Ku.out
def Bc.HZ.pre:PB
 | [.i i,.i k,.i r,.i c,.l l]=>Db r c l k i
 | _=>wy
def Bc.HZ.out:PD
 | [.i i,.i k,.i _r,.i c,.l l]=>.int .u64 (Cc c l k i)
 | _=>.undef
abbrev Bc.HZ.ts:TS:=[.i .i64,.i .i64,.cp [.i .i64,.i .i64,.s .u64]]
def Bc.HZ.Bk:=B9 Bc.HZ.ts Bc.HZ.pre Bc.HZ.out
def Bc.Ia.pre:PB
 | [.i i,.i k,.i r,.i c,.l l,.i x,.i y]=>Db r c l (x+i) (y+k)&&Tz x y i k
 | _=>wy
def Bc.Ia.out:PD
 | [.i i,.i k,.i _r,.i c,.l l,.i x,.i y]=>.int .u64 (Cc c l (x+i) (y+k))
 | _=>.undef
abbrev Bc.Ia.ts:TS:=[.i .i64,.i .i64,.cp [.i .i64,.i .i64,.s .u64],.cp [.i .i64],.cp [.i .i64]]
def Bc.Ia.Bk:=B9 Bc.Ia.ts Bc.Ia.pre Bc.Ia.out
def Bc.Kl.pre:PB
 | [.i i,.i k,.i r,.i c,.l l,.i p,.i q,.l m]=>((Db r c l i k&&Db p q m i k)&&Bg l)&&Bg m
 | _=>wy
def Bc.Kl.out:PD
 | [.i i,.i k,.i _r,.i c,.l l,.i _p,.i q,.l m]=>.int .u64 (CA (Cc c l i k) (Cc q m i k))
 | _=>.undef
abbrev Bc.Kl.ts:TS:=[.i .i64,.i .i64,.cp [.i .i64,.i .i64,.s .u64],.cp [.i .i64,.i .i64,.s .u64]]
def Bc.Kl.Bk:=B9 Bc.Kl.ts Bc.Kl.pre Bc.Kl.out
def Bc.G5.pre:PB
 | [.i i,.i k,.i r,.i c,.l l,.i p,.i q,.l m]=>Ml r c l p q m i k
 | _=>wy
def Bc.G5.out:PD
 | [.i i,.i k,.i r,.i c,.l l,.i _p,.i q,.l m]=>.int .u64 (HT r c l q m i k)
 | _=>.undef
abbrev Bc.G5.ts:TS:=[.i .i64,.i .i64,.cp [.i .i64,.i .i64,.s .u64],.cp [.i .i64,.i .i64,.s .u64]]
def Bc.G5.Bk:=B9 Bc.G5.ts Bc.G5.pre Bc.G5.out
def Bc.Km.pre:PB
 | [.i i,.i k,.i r,.i c,.l l,.i p,.i q,.l m]=>RI r c l p q m i k
 | _=>wy
def Bc.Km.out:PD
 | [.i i,.i k,.i _r,.i c,.l l,.i p,.i q,.l m]=>.int .u64 (Fu (Ee c l i) (Hw p q m k))
 | _=>.undef
abbrev Bc.Km.ts:TS:=[.i .i64,.i .i64,.cp [.i .i64,.i .i64,.s .u64],.cp [.i .i64,.i .i64,.s .u64]]
def Bc.Km.Bk:=B9 Bc.Km.ts Bc.Km.pre Bc.Km.out
def Bc.of.FE.pre:PB
 | [.i a,.i b]=>(Ce a&&Ce b)
 | _=>wy
def Bc.of.FE.out:PD
 | [.i a,.i b]=>.agg [.int .i64 a,.int .i64 b,.Bh .BF .u64 (Cg (wz a) (wz b) (fun j1 j2=>Hc j1 j2))]
 | _=>.undef
abbrev Bc.of.FE.ts:TS:=[.i .i64,.i .i64,.fn 135 []]
def Bc.of.FE.Bk:=B9 Bc.of.FE.ts Bc.of.FE.pre Bc.of.FE.out
def Bc.of.Du.pre:PB
 | [.i a,.i b,.i r,.i c,.l l]=>(Ce a&&Ce b)&&B5 r c l&&decide (a=c/\b=r)
 | _=>wy
def Bc.of.Du.out:PD
 | [.i a,.i b,.i _r,.i c,.l l]=>.agg [.int .i64 a,.int .i64 b,.Bh .BF .u64 (Cg (wz a) (wz b) (fun j1 j2=>Cc c l j2 j1))]
 | _=>.undef
abbrev Bc.of.Du.ts:TS:=[.i .i64,.i .i64,.fn 100 [.cp [.i .i64,.i .i64,.s .u64]]]
def Bc.of.Du.Bk:=B9 Bc.of.Du.ts Bc.of.Du.pre Bc.of.Du.out
def Bc.of.Part.pre:PB
 | [.i a,.i b,.i r,.i c,.l l,.i x,.i y]=>(Ce a&&Ce b)&&B5 r c l&&GI r c x y a b
 | _=>wy
def Bc.of.Part.out:PD
 | [.i a,.i b,.i _r,.i c,.l l,.i x,.i y]=>.agg [.int .i64 a,.int .i64 b,.Bh .BF .u64 (Cg (wz a) (wz b) (fun j1 j2=>Cc c l (x+j1) (y+j2)))]
 | _=>.undef
abbrev Bc.of.Part.ts:TS:=[.i .i64,.i .i64,.fn 61 [.cp [.i .i64,.i .i64,.s .u64],.cp [.i .i64],.cp [.i .i64]]]
def Bc.of.Part.Bk:=B9 Bc.of.Part.ts Bc.of.Part.pre Bc.of.Part.out
def Bc.of.Sub.pre:PB
 | [.i a,.i b,.i r,.i c,.l l,.i p,.i q,.l m]=>(Ce a&&Ce b)&&((B5 r c l&&B5 p q m)&&(Bg l&&Bg m))&&decide (a=r/\b=c/\p=r/\q=c)
 | _=>wy
def Bc.of.Sub.out:PD
 | [.i a,.i b,.i _r,.i c,.l l,.i _p,.i q,.l m]=>.agg [.int .i64 a,.int .i64 b,.Bh .BF .u64 (Cg (wz a) (wz b) (fun j1 j2=>CA (Cc c l j1 j2) (Cc q m j1 j2)))]
 | _=>.undef
abbrev Bc.of.Sub.ts:TS:=[.i .i64,.i .i64,.fn 63 [.cp [.i .i64,.i .i64,.s .u64],.cp [.i .i64,.i .i64,.s .u64]]]
def Bc.of.Sub.Bk:=B9 Bc.of.Sub.ts Bc.of.Sub.pre Bc.of.Sub.out
def Bc.of.Stack.pre:PB
 | [.i a,.i b,.i r,.i c,.l l,.i p,.i q,.l m]=>(Ce a&&Ce b)&&(B5 r c l&&B5 p q m)&&decide (a=r+p/\b=c/\q=c)
 | _=>wy
def Bc.of.Stack.out:PD
 | [.i a,.i b,.i r,.i c,.l l,.i _p,.i q,.l m]=>.agg [.int .i64 a,.int .i64 b,.Bh .BF .u64 (Cg (wz a) (wz b) (fun j1 j2=>HT r c l q m j1 j2))]
 | _=>.undef
abbrev Bc.of.Stack.ts:TS:=[.i .i64,.i .i64,.fn 68 [.cp [.i .i64,.i .i64,.s .u64],.cp [.i .i64,.i .i64,.s .u64]]]
def Bc.of.Stack.Bk:=B9 Bc.of.Stack.ts Bc.of.Stack.pre Bc.of.Stack.out
def Bc.of.Mul.pre:PB
 | [.i a,.i b,.i r,.i c,.l l,.i p,.i q,.l m]=>(Ce a&&Ce b)&&((B5 r c l&&B5 p q m)&&(Bg l&&Bg m))&&decide (a=r/\b=q/\c=p)
 | _=>wy
def Bc.of.Mul.out:PD
 | [.i a,.i b,.i _r,.i c,.l l,.i p,.i q,.l m]=>.agg [.int .i64 a,.int .i64 b,.Bh .BF .u64 (Cg (wz a) (wz b) (fun j1 j2=>Fu (Ee c l j1) (Hw p q m j2)))]
 | _=>.undef
abbrev Bc.of.Mul.ts:TS:=[.i .i64,.i .i64,.fn 56 [.cp [.i .i64,.i .i64,.s .u64],.cp [.i .i64,.i .i64,.s .u64]]]
def Bc.of.Mul.Bk:=B9 Bc.of.Mul.ts Bc.of.Mul.pre Bc.of.Mul.out
def Bc.FE.pre:PB
 | [.i _n]=>wg
 | _=>wy
def Bc.FE.out:PD
 | [.i n]=>.Cw [.agg [.int .i64 ((Ng n).1),.int .i64 ((Ng n).2.1),.Bh .BF .u64 ((Ng n).2.2.1)],.int .i64 ((Ng n).2.2.2)]
 | _=>.undef
abbrev Bc.FE.ts:TS:=[.i .i64]
def Bc.FE.Bk:=B9 Bc.FE.ts Bc.FE.pre Bc.FE.out
def Bc.Du.pre:PB
 | [.i _r,.i _c,.l _l]=>wg
 | _=>wy
def Bc.Du.out:PD
 | [.i r,.i c,.l l]=>.Cw [.agg [.int .i64 ((CG r c l).1),.int .i64 ((CG r c l).2.1),.Bh .BF .u64 ((CG r c l).2.2.1)],.int .i64 ((CG r c l).2.2.2)]
 | _=>.undef
abbrev Bc.Du.ts:TS:=[.st [.i .i64,.i .i64,.s .u64]]
def Bc.Du.Bk:=B9 Bc.Du.ts Bc.Du.pre Bc.Du.out
def Bc.Part.pre:PB
 | [.i _r,.i _c,.l _l,.i _x,.i _y,.i _a,.i _b]=>wg
 | _=>wy
def Bc.Part.out:PD
 | [.i r,.i c,.l l,.i x,.i y,.i a,.i b]=>.Cw [.agg [.int .i64 ((EW r c l x y a b).1),.int .i64 ((EW r c l x y a b).2.1),.Bh .BF .u64 ((EW r c l x y a b).2.2.1)],.int .i64 ((EW r c l x y a b).2.2.2)]
 | _=>.undef
abbrev Bc.Part.ts:TS:=[.st [.i .i64,.i .i64,.s .u64],.i .i64,.i .i64,.i .i64,.i .i64]
def Bc.Part.Bk:=B9 Bc.Part.ts Bc.Part.pre Bc.Part.out
def Bc.Sub.pre:PB
 | [.i _r,.i _c,.l l,.i _p,.i _q,.l m]=>Bg l&&Bg m
 | _=>wy
def Bc.Sub.out:PD
 | [.i r,.i c,.l l,.i p,.i q,.l m]=>.Cw [.agg [.int .i64 ((IV r c l p q m).1),.int .i64 ((IV r c l p q m).2.1),.Bh .BF .u64 ((IV r c l p q m).2.2.1)],.int .i64 ((IV r c l p q m).2.2.2)]
 | _=>.undef
abbrev Bc.Sub.ts:TS:=[.st [.i .i64,.i .i64,.s .u64],.st [.i .i64,.i .i64,.s .u64]]
def Bc.Sub.Bk:=B9 Bc.Sub.ts Bc.Sub.pre Bc.Sub.out
def Bc.Stack.pre:PB
 | [.i _r,.i _c,.l _l,.i _p,.i _q,.l _m]=>wg
 | _=>wy
def Bc.Stack.out:PD
 | [.i r,.i c,.l l,.i p,.i q,.l m]=>.Cw [.agg [.int .i64 ((C6 r c l p q m).1),.int .i64 ((C6 r c l p q m).2.1),.Bh .BF .u64 ((C6 r c l p q m).2.2.1)],.int .i64 ((C6 r c l p q m).2.2.2)]
 | _=>.undef
abbrev Bc.Stack.ts:TS:=[.st [.i .i64,.i .i64,.s .u64],.st [.i .i64,.i .i64,.s .u64]]
def Bc.Stack.Bk:=B9 Bc.Stack.ts Bc.Stack.pre Bc.Stack.out
def Bc.Mul.pre:PB
 | [.i _r,.i _c,.l l,.i _p,.i _q,.l m]=>Bg l&&Bg m
 | _=>wy
def Bc.Mul.out:PD
 | [.i r,.i c,.l l,.i p,.i q,.l m]=>.Cw [.agg [.int .i64 ((E6 r c l p q m).1),.int .i64 ((E6 r c l p q m).2.1),.Bh .BF .u64 ((E6 r c l p q m).2.2.1)],.int .i64 ((E6 r c l p q m).2.2.2)]
 | _=>.undef
abbrev Bc.Mul.ts:TS:=[.st [.i .i64,.i .i64,.s .u64],.st [.i .i64,.i .i64,.s .u64]]
def Bc.Mul.Bk:=B9 Bc.Mul.ts Bc.Mul.pre Bc.Mul.out
def B3.Js.pre:PB
 | [.i _r,.i _c,.l _l]=>wg
 | _=>wy
def B3.Js.out:PD
 | [.i r,.i c,.l l]=>.bool (B5 r c l)
 | _=>.undef
abbrev B3.Js.ts:TS:=[.st [.i .i64,.i .i64,.s .u64]]
def B3.Js.Bk:=B9 B3.Js.ts B3.Js.pre B3.Js.out
def B3.At.pre:PB
 | [.i r,.i c,.l l,.i i,.i k]=>Db r c l i k
 | _=>wy
def B3.At.out:PD
 | [.i _r,.i c,.l l,.i i,.i k]=>.int .u64 (Cc c l i k)
 | _=>.undef
abbrev B3.At.ts:TS:=[.st [.i .i64,.i .i64,.s .u64],.i .i64,.i .i64]
def B3.At.Bk:=B9 B3.At.ts B3.At.pre B3.At.out
def B3.CF.pre:PB
 | [.i a,.i b]=>Ce a&&Ce b
 | _=>wy
def B3.CF.out:PD
 | [.i a,.i b]=>.agg [.int .i64 a,.int .i64 b,.Bh .BF .u64 (Cg (wz a) (wz b) (fun _ _=>0))]
 | _=>.undef
abbrev B3.CF.ts:TS:=[.i .i64,.i .i64]
def B3.CF.Bk:=B9 B3.CF.ts B3.CF.pre B3.CF.out
def B3.Gy.pre:PB
 | [.i r,.i c,.l l,.i i,.i k,.i _b]=>Db r c l i k
 | _=>wy
def B3.Gy.out:PD
 | [.i r,.i c,.l l,.i i,.i k,.i b]=>.agg [.int .i64 r,.int .i64 c,.Bh .BF .u64 (zw l (wz (i*c+k)) b)]
 | _=>.undef
abbrev B3.Gy.ts:TS:=[.st [.i .i64,.i .i64,.s .u64],.i .i64,.i .i64,.i .u64]
def B3.Gy.Bk:=B9 B3.Gy.ts B3.Gy.pre B3.Gy.out
def B3.FE.pre:PB
 | [.i n]=>Ce n
 | _=>wy
def B3.FE.out:PD
 | [.i n]=>.agg [.int .i64 n,.int .i64 n,.Bh .BF .u64 (Cg (wz n) (wz n) (fun j1 j2=>Hc j1 j2))]
 | _=>.undef
abbrev B3.FE.ts:TS:=[.i .i64]
def B3.FE.Bk:=B9 B3.FE.ts B3.FE.pre B3.FE.out
def B3.Row.pre:PB
 | [.i r,.i c,.l l,.i i]=>KY r c l i
 | _=>wy
def B3.Row.out:PD
 | [.i _r,.i c,.l l,.i i]=>.Bh .arg .u64 (Ee c l i)
 | _=>.undef
abbrev B3.Row.ts:TS:=[.st [.i .i64,.i .i64,.s .u64],.i .i64]
def B3.Row.Bk:=B9 B3.Row.ts B3.Row.pre B3.Row.out
def B3.P7.pre:PB
 | [.i r,.i c,.l l,.i k,.i f]=>EM r c l k&&CE (0<=f/\f<=r)
 | _=>wy
def B3.P7.out:PD
 | [.i r,.i c,.l l,.i k,.i f]=>.Bh .BF .u64 (Cb c l k f (wz (r-f)))
 | _=>.undef
abbrev B3.P7.ts:TS:=[.st [.i .i64,.i .i64,.s .u64],.i .i64,.i .i64]
def B3.P7.Bk:=B9 B3.P7.ts B3.P7.pre B3.P7.out
def B3.Mul.pre:PB
 | [.i r,.i c,.l l,.i p,.i q,.l m]=>(B5 r c l&&B5 p q m)&&((Bg l&&Bg m)&&decide (c=p))
 | _=>wy
def B3.Mul.out:PD
 | [.i r,.i c,.l l,.i p,.i q,.l m]=>.agg [.int .i64 r,.int .i64 q,.Bh .BF .u64 (Cg (wz r) (wz q) (fun j1 j2=>Fu (Ee c l j1) (Hw p q m j2)))]
 | _=>.undef
abbrev B3.Mul.ts:TS:=[.st [.i .i64,.i .i64,.s .u64],.st [.i .i64,.i .i64,.s .u64]]
def B3.Mul.Bk:=B9 B3.Mul.ts B3.Mul.pre B3.Mul.out
def B3.Du.pre:PB
 | [.i r,.i c,.l l]=>B5 r c l
 | _=>wy
def B3.Du.out:PD
 | [.i r,.i c,.l l]=>.agg [.int .i64 c,.int .i64 r,.Bh .BF .u64 (Cg (wz c) (wz r) (fun j1 j2=>Cc c l j2 j1))]
 | _=>.undef
abbrev B3.Du.ts:TS:=[.st [.i .i64,.i .i64,.s .u64]]
def B3.Du.Bk:=B9 B3.Du.ts B3.Du.pre B3.Du.out
def B3.Part.pre:PB
 | [.i r,.i c,.l l,.i x,.i y,.i a,.i b]=>B5 r c l&&GI r c x y a b
 | _=>wy
def B3.Part.out:PD
 | [.i _r,.i c,.l l,.i x,.i y,.i a,.i b]=>.agg [.int .i64 a,.int .i64 b,.Bh .BF .u64 (Cg (wz a) (wz b) (fun j1 j2=>Cc c l (x+j1) (y+j2)))]
 | _=>.undef
abbrev B3.Part.ts:TS:=[.st [.i .i64,.i .i64,.s .u64],.i .i64,.i .i64,.i .i64,.i .i64]
def B3.Part.Bk:=B9 B3.Part.ts B3.Part.pre B3.Part.out
def Bp.Le.pre:PB
 | [.l l,.i _i]=>Hk l
 | _=>wy
def Bp.Le.out:PD
 | [.l l,.i i]=>.int .u64 (GB l i)
 | _=>.undef
abbrev Bp.Le.ts:TS:=[.s .u32,.i .i64]
def Bp.Le.Bk:=B9 Bp.Le.ts Bp.Le.pre Bp.Le.out
def Bp.Made.pre:PB
 | [.b _n,.l l]=>Hk l
 | _=>wy
def Bp.Made.out:PD
 | [.b n,.l l]=>.agg [.bool (BB (wv n l)),.Bh .arg .u32 (Bn (wv n l))]
 | _=>.undef
abbrev Bp.Made.ts:TS:=[.b,.s .u32]
def Bp.Made.Bk:=B9 Bp.Made.ts Bp.Made.pre Bp.Made.out
def Bp.Of.pre:PB
 | [.i n]=>Wm n
 | _=>wy
def Bp.Of.out:PD
 | [.i n]=>.agg [.bool (BB (n)),.Bh .arg .u32 (Bn (n))]
 | _=>.undef
abbrev Bp.Of.ts:TS:=[.i .i64]
def Bp.Of.Bk:=B9 Bp.Of.ts Bp.Of.pre Bp.Of.out
def Bp.J6.pre:PB
 | [.l a,.l b]=>Hk a&&Hk b
 | _=>wy
def Bp.J6.out:PD
 | [.l a,.l b]=>.int .i64 (RW (Cx a) (Cx b))
 | _=>.undef
abbrev Bp.J6.ts:TS:=[.s .u32,.s .u32]
def Bp.J6.Bk:=B9 Bp.J6.ts Bp.J6.pre Bp.J6.out
def Bp.plus.pre:PB
 | [.l a,.l b]=>Hk a&&Hk b
 | _=>wy
def Bp.plus.out:PD
 | [.l a,.l b]=>.Bh .arg .u32 (IH a b)
 | _=>.undef
abbrev Bp.plus.ts:TS:=[.s .u32,.s .u32]
def Bp.plus.Bk:=B9 Bp.plus.ts Bp.plus.pre Bp.plus.out
def Bp.minus.pre:PB
 | [.l a,.l b]=>(Hk a&&Hk b)&&leL b a
 | _=>wy
def Bp.minus.out:PD
 | [.l a,.l b]=>.Bh .arg .u32 (H3 a b)
 | _=>.undef
abbrev Bp.minus.ts:TS:=[.s .u32,.s .u32]
def Bp.minus.Bk:=B9 Bp.minus.ts Bp.minus.pre Bp.minus.out
def Bp.Add.pre:PB
 | [.b n,.l a,.b m,.l b]=>IS n a&&IS m b
 | _=>wy
def Bp.Add.out:PD
 | [.b n,.l a,.b m,.l b]=>.agg [.bool (BB (wv n a+wv m b)),.Bh .arg .u32 (Bn (wv n a+wv m b))]
 | _=>.undef
abbrev Bp.Add.ts:TS:=[.st [.b,.s .u32],.st [.b,.s .u32]]
def Bp.Add.Bk:=B9 Bp.Add.ts Bp.Add.pre Bp.Add.out
def Bp.Neg.pre:PB
 | [.b n,.l a]=>IS n a
 | _=>wy
def Bp.Neg.out:PD
 | [.b n,.l a]=>.agg [.bool (BB (- wv n a)),.Bh .arg .u32 (Bn (- wv n a))]
 | _=>.undef
abbrev Bp.Neg.ts:TS:=[.st [.b,.s .u32]]
def Bp.Neg.Bk:=B9 Bp.Neg.ts Bp.Neg.pre Bp.Neg.out
def Bp.Ie.pre:PB
 | [.b n,.l a]=>IS n a
 | _=>wy
def Bp.Ie.out:PD
 | [.b n,.l a]=>.agg [.bool (BB (2*wv n a)),.Bh .arg .u32 (Bn (2*wv n a))]
 | _=>.undef
abbrev Bp.Ie.ts:TS:=[.st [.b,.s .u32]]
def Bp.Ie.Bk:=B9 Bp.Ie.ts Bp.Ie.pre Bp.Ie.out
def Bp.Jl.pre:PB
 | [.b n,.l a]=>IS n a
 | _=>wy
def Bp.Jl.out:PD
 | [.b n,.l a]=>.agg [.bool (BB (Jq (wv n a) 1)),.Bh .arg .u32 (Bn (Jq (wv n a) 1))]
 | _=>.undef
abbrev Bp.Jl.ts:TS:=[.st [.b,.s .u32]]
def Bp.Jl.Bk:=B9 Bp.Jl.ts Bp.Jl.pre Bp.Jl.out
def Bp.Ct.pre:PB
 | [.b n,.l a,.i k]=>Rr n a&&AlK k
 | _=>wy
def Bp.Ct.out:PD
 | [.b n,.l a,.i k]=>.agg [.bool (BB (Hv (wv n a) k)),.Bh .arg .u32 (Bn (Hv (wv n a) k))]
 | _=>.undef
abbrev Bp.Ct.ts:TS:=[.st [.b,.s .u32],.i .i64]
def Bp.Ct.Bk:=B9 Bp.Ct.ts Bp.Ct.pre Bp.Ct.out
def Bp.Sk.pre:PB
 | [.b n,.l a]=>IS n a
 | _=>wy
def Bp.Sk.out:PD
 | [.b n,.l a]=>.int .i64 (Ut (wv n a))
 | _=>.undef
abbrev Bp.Sk.ts:TS:=[.st [.b,.s .u32]]
def Bp.Sk.Bk:=B9 Bp.Sk.ts Bp.Sk.pre Bp.Sk.out
def Bp.Odd.pre:PB
 | [.b n,.l a]=>IS n a
 | _=>wy
def Bp.Odd.out:PD
 | [.b n,.l a]=>.bool (Aei (wv n a))
 | _=>.undef
abbrev Bp.Odd.ts:TS:=[.st [.b,.s .u32]]
def Bp.Odd.Bk:=B9 Bp.Odd.ts Bp.Odd.pre Bp.Odd.out
def Bx.Of.pre:PB
 | [.b n,.l a,.i e]=>IS n a&&PJ e
 | _=>wy
def Bx.Of.out:PD
 | [.b n,.l a,.i e]=>.agg [.bool (BB (mD (wv n a))),.Bh .arg .u32 (Bn (mD (wv n a))),.int .i64 (eD (wv n a) e)]
 | _=>.undef
abbrev Bx.Of.ts:TS:=[.st [.b,.s .u32],.i .i64]
def Bx.Of.Bk:=B9 Bx.Of.ts Bx.Of.pre Bx.Of.out
def Bx.Neg.pre:PB
 | [.b n,.l a,.i _e]=>IS n a
 | _=>wy
def Bx.Neg.out:PD
 | [.b n,.l a,.i e]=>.agg [.bool (BB (- wv n a)),.Bh .arg .u32 (Bn (- wv n a)),.int .i64 e]
 | _=>.undef
abbrev Bx.Neg.ts:TS:=[.st [.b,.s .u32,.i .i64]]
def Bx.Neg.Bk:=B9 Bx.Neg.ts Bx.Neg.pre Bx.Neg.out
def Bx.Low.pre:PB
 | [.b n,.l a,.i _e,.b m,.l b,.i _f]=>IS n a&&IS m b
 | _=>wy
def Bx.Low.out:PD
 | [.b n,.l a,.i e,.b m,.l b,.i f]=>.int .i64 (D2 (wv n a) e (wv m b) f)
 | _=>.undef
abbrev Bx.Low.ts:TS:=[.st [.b,.s .u32,.i .i64],.st [.b,.s .u32,.i .i64]]
def Bx.Low.Bk:=B9 Bx.Low.ts Bx.Low.pre Bx.Low.out
def Bx.Level.pre:PB
 | [.b n,.l a,.i e,.i f]=>Rr n a&&Aeh (wv n a) e f
 | _=>wy
def Bx.Level.out:PD
 | [.b n,.l a,.i e,.i f]=>.agg [.bool (BB (Hv (wv n a) (e-f))),.Bh .arg .u32 (Bn (Hv (wv n a) (e-f)))]
 | _=>.undef
abbrev Bx.Level.ts:TS:=[.st [.b,.s .u32,.i .i64],.i .i64]
def Bx.Level.Bk:=B9 Bx.Level.ts Bx.Level.pre Bx.Level.out
def Bx.Add.pre:PB
 | [.b n,.l a,.i e,.b m,.l b,.i f]=>((Rr n a&&Rr m b)&&MU e)&&MU f
 | _=>wy
def Bx.Add.out:PD
 | [.b n,.l a,.i e,.b m,.l b,.i f]=>.agg [.bool (BB (Ly (wv n a) e (wv m b) f)),.Bh .arg .u32 (Bn (Ly (wv n a) e (wv m b) f)),.int .i64 (Aag (wv n a) e (wv m b) f)]
 | _=>.undef
abbrev Bx.Add.ts:TS:=[.st [.b,.s .u32,.i .i64],.st [.b,.s .u32,.i .i64]]
def Bx.Add.Bk:=B9 Bx.Add.ts Bx.Add.pre Bx.Add.out
def Bx.Sub.pre:PB
 | [.b n,.l a,.i e,.b m,.l b,.i f]=>((Rr n a&&Rr m b)&&MU e)&&MU f
 | _=>wy
def Bx.Sub.out:PD
 | [.b n,.l a,.i e,.b m,.l b,.i f]=>.agg [.bool (BB (Ly (wv n a) e (- wv m b) f)),.Bh .arg .u32 (Bn (Ly (wv n a) e (- wv m b) f)),.int .i64 (Aag (wv n a) e (- wv m b) f)]
 | _=>.undef
abbrev Bx.Sub.ts:TS:=[.st [.b,.s .u32,.i .i64],.st [.b,.s .u32,.i .i64]]
def Bx.Sub.Bk:=B9 Bx.Sub.ts Bx.Sub.pre Bx.Sub.out
def Bx.Dx.pre:PB
 | [.b n,.l a,.i e,.i k]=>(IS n a&&MU e)&&MU k
 | _=>wy
def Bx.Dx.out:PD
 | [.b n,.l a,.i e,.i k]=>.agg [.bool (BB (mD (wv n a))),.Bh .arg .u32 (Bn (mD (wv n a))),.int .i64 (eD (wv n a) (e+k))]
 | _=>.undef
abbrev Bx.Dx.ts:TS:=[.st [.b,.s .u32,.i .i64],.i .i64]
def Bx.Dx.Bk:=B9 Bx.Dx.ts Bx.Dx.pre Bx.Dx.out
def Bx.Yu.pre:PB
 | [.b n,.l a,.i e]=>IS n a&&MU e
 | _=>wy
def Bx.Yu.out:PD
 | [.b n,.l a,.i e]=>.int .i64 (Hy (wv n a) e)
 | _=>.undef
abbrev Bx.Yu.ts:TS:=[.st [.b,.s .u32,.i .i64]]
def Bx.Yu.Bk:=B9 Bx.Yu.ts Bx.Yu.pre Bx.Yu.out
def Bx.Sign.pre:PB
 | [.b n,.l a,.i _e]=>IS n a
 | _=>wy
def Bx.Sign.out:PD
 | [.b n,.l a,.i _e]=>.int .i64 (Lv (wv n a))
 | _=>.undef
abbrev Bx.Sign.ts:TS:=[.st [.b,.s .u32,.i .i64]]
def Bx.Sign.Bk:=B9 Bx.Sign.ts Bx.Sign.pre Bx.Sign.out
def Bx.Compare.pre:PB
 | [.b n,.l a,.i e,.b m,.l b,.i f]=>((Rr n a&&Rr m b)&&MU e)&&MU f
 | _=>wy
def Bx.Compare.out:PD
 | [.b n,.l a,.i e,.b m,.l b,.i f]=>.int .i64 (Rb (wv n a) e (wv m b) f)
 | _=>.undef
abbrev Bx.Compare.ts:TS:=[.st [.b,.s .u32,.i .i64],.st [.b,.s .u32,.i .i64]]
def Bx.Compare.Bk:=B9 Bx.Compare.ts Bx.Compare.pre Bx.Compare.out
def BJ.Value.pre:PB
 | [.i x]=>Bo x
 | _=>wy
def BJ.Value.out:PD
 | [.i x]=>.agg [.bool (BB (mD (E8 x))),.Bh .arg .u32 (Bn (mD (E8 x))),.int .i64 (eD (E8 x) (BO x))]
 | _=>.undef
abbrev BJ.Value.ts:TS:=[.i .u64]
def BJ.Value.Bk:=B9 BJ.Value.ts BJ.Value.pre BJ.Value.out
def Bp.single.pre:PB
 | [.l a,.i x]=>Hk a&&Ah6 x
 | _=>wy
def Bp.single.out:PD
 | [.l a,.i x]=>.Bh .arg .u32 (singleL a x)
 | _=>.undef
abbrev Bp.single.ts:TS:=[.s .u32,.i .u32]
def Bp.single.Bk:=B9 Bp.single.ts Bp.single.pre Bp.single.out
def Bp.Mul.pre:PB
 | [.b n,.l a,.b m,.l b]=>okM n a&&okM m b
 | _=>wy
def Bp.Mul.out:PD
 | [.b n,.l a,.b m,.l b]=>.agg [.bool (BB (wv n a*wv m b)),.Bh .arg .u32 (Bn (wv n a*wv m b))]
 | _=>.undef
abbrev Bp.Mul.ts:TS:=[.st [.b,.s .u32],.st [.b,.s .u32]]
def Bp.Mul.Bk:=B9 Bp.Mul.ts Bp.Mul.pre Bp.Mul.out
def Bx.Mul.pre:PB
 | [.b n,.l a,.i e,.b m,.l b,.i f]=>(okM n a&&okM m b)&&(MU e&&MU f)
 | _=>wy
def Bx.Mul.out:PD
 | [.b n,.l a,.i e,.b m,.l b,.i f]=>.agg [.bool (BB (mD (wv n a*wv m b))),.Bh .arg .u32 (Bn (mD (wv n a*wv m b))),.int .i64 (eD (wv n a*wv m b) (e+f))]
 | _=>.undef
abbrev Bx.Mul.ts:TS:=[.st [.b,.s .u32,.i .i64],.st [.b,.s .u32,.i .i64]]
def Bx.Mul.Bk:=B9 Bx.Mul.ts Bx.Mul.pre Bx.Mul.out
def compare.Pj.pre:PB
 | [.i b]=>Bo b
 | _=>wy
def compare.Pj.out:PD
 | [.i b]=>.int .i64 (VN b)
 | _=>.undef
abbrev compare.Pj.ts:TS:=[.i .u64]
def compare.Pj.Bk:=B9 compare.Pj.ts compare.Pj.pre compare.Pj.out
def compare.Order.pre:PB
 | [.i a,.i b]=>Bo a&&Bo b
 | _=>wy
def compare.Order.out:PD
 | [.i a,.i b]=>.Cw [.int .i64 (Ma a b),.bool (VU a b)]
 | _=>.undef
abbrev compare.Order.ts:TS:=[.i .u64,.i .u64]
def compare.Order.Bk:=B9 compare.Order.ts compare.Order.pre compare.Order.out
def compare.Po.pre:PB
 | [.i a,.i b]=>Bo a&&Bo b
 | _=>wy
def compare.Po.out:PD
 | [.i a,.i b]=>.bool (decide (Ma a b<0))
 | _=>.undef
abbrev compare.Po.ts:TS:=[.i .u64,.i .u64]
def compare.Po.Bk:=B9 compare.Po.ts compare.Po.pre compare.Po.out
def compare.J8.pre:PB
 | [.i a]=>Bo a
 | _=>wy
def compare.J8.out:PD
 | [.i a]=>.int .u64 (Gf a)
 | _=>.undef
abbrev compare.J8.ts:TS:=[.i .u64]
def compare.J8.Bk:=B9 compare.J8.ts compare.J8.pre compare.J8.out
def compare.Dx.pre:PB
 | [.i a,.i n]=>D1 a n
 | _=>wy
def compare.Dx.out:PD
 | [.i a,.i n]=>.Cw [.int .u64 (BP a n),.int .u8 (Ajl a n)]
 | _=>.undef
abbrev compare.Dx.ts:TS:=[.i .u64,.i .i64]
def compare.Dx.Bk:=B9 compare.Dx.ts compare.Dx.pre compare.Dx.out
def Bu.Ct.pre:PB
 | [.i a,.i n]=>D1 a n
 | _=>wy
def Bu.Ct.out:PD
 | [.i a,.i n]=>.int .u64 (BP a n)
 | _=>.undef
abbrev Bu.Ct.ts:TS:=[.i .u64,.i .i64]
def Bu.Ct.Bk:=B9 Bu.Ct.ts Bu.Ct.pre Bu.Ct.out
def Bu.Div.pre:PB
 | [.i a,.i b]=>Bo a&&Bo b
 | _=>wy
def Bu.Div.out:PD
 | [.i a,.i b]=>.int .u64 (El a b)
 | _=>.undef
abbrev Bu.Div.ts:TS:=[.i .u64,.i .u64]
def Bu.Div.Bk:=B9 Bu.Div.ts Bu.Div.pre Bu.Div.out
def Bu.Cu.pre:PB
 | [.l x]=>CW x
 | _=>wy
def Bu.Cu.out:PD
 | [.l x]=>.int .u64 (BA x)
 | _=>.undef
abbrev Bu.Cu.ts:TS:=[.s .u64]
def Bu.Cu.Bk:=B9 Bu.Cu.ts Bu.Cu.pre Bu.Cu.out
def Bu.Finite.pre:PB
 | [.l x]=>CW x
 | _=>wy
def Bu.Finite.out:PD
 | [.l x]=>.bool (Dc x)
 | _=>.undef
abbrev Bu.Finite.ts:TS:=[.s .u64]
def Bu.Finite.Bk:=B9 Bu.Finite.ts Bu.Finite.pre Bu.Finite.out
def Dw.Check.pre:PB
 | [.i _r,.i _c,.l l]=>Bg l
 | _=>wy
def Dw.Check.out:PD
 | [.i r,.i c,.l l]=>.int .i64 (Cm r c l)
 | _=>.undef
abbrev Dw.Check.ts:TS:=[.st [.i .i64,.i .i64,.s .u64]]
def Dw.Check.Bk:=B9 Dw.Check.ts Dw.Check.pre Dw.Check.out
def solve.check.pre:PB
 | [.i _r,.i _c,.l l,.i _p,.i _q,.l m]=>Bg l&&Bg m
 | _=>wy
def solve.check.out:PD
 | [.i r,.i c,.l l,.i p,.i q,.l m]=>.int .i64 (Jo r c l p q m)
 | _=>.undef
abbrev solve.check.ts:TS:=[.st [.i .i64,.i .i64,.s .u64],.st [.i .i64,.i .i64,.s .u64]]
def solve.check.Bk:=B9 solve.check.ts solve.check.pre solve.check.out
def EO.EH.up.pre:PB
 | [.i n,.i k]=>CE (0<=k/\k<n/\n<=10)
 | _=>wy
def EO.EH.up.out:PD
 | [.i n,.i k]=>.int .i64 (n-1-k)
 | _=>.undef
abbrev EO.EH.up.ts:TS:=[.i .i64,.i .i64]
def EO.EH.up.Bk:=B9 EO.EH.up.ts EO.EH.up.pre EO.EH.up.out
def solve.G4.pre:PB
 | [.i _i,.i _k]=>wg
 | _=>wy
def solve.G4.out:PD
 | [.i i,.i k]=>.bool (decide (i<k))
 | _=>.undef
abbrev solve.G4.ts:TS:=[.i .i64,.i .i64]
def solve.G4.Bk:=B9 solve.G4.ts solve.G4.pre solve.G4.out
def Bc.of.CF.own.pre:PB
 | [.i a,.i b]=>Ce a&&Ce b
 | _=>wy
def Bc.of.CF.own.out:PD
 | [.i a,.i b]=>.agg [.int .i64 a,.int .i64 b,.Bh (.own 108002 47) .u64 (Cg (wz a) (wz b) (fun _ _=>0))]
 | _=>.undef
abbrev Bc.of.CF.own.ts:TS:=[.i .i64,.i .i64,.fn 165 []]
def Bc.of.CF.own.Bk:=B9 Bc.of.CF.own.ts Bc.of.CF.own.pre Bc.of.CF.own.out
def Bc.CF.own.pre:PB
 | [.i a,.i b]=>Ce a&&Ce b
 | _=>wy
def Bc.CF.own.out:PD
 | [.i a,.i b]=>.Cw [.agg [.int .i64 a,.int .i64 b,.Bh (.own 1136 47) .u64 (Cg (wz a) (wz b) (fun _ _=>0))],.int .i64 (0:Int)]
 | _=>.undef
abbrev Bc.CF.own.ts:TS:=[.i .i64,.i .i64]
def Bc.CF.own.Bk:=B9 Bc.CF.own.ts Bc.CF.own.pre Bc.CF.own.out
def solve.BC.Up.pre:PB
 | [.i r,.i c,.l l,.i p,.i q,.l m,.i n]=>NI r c l p q m&&decide (n=r)
 | _=>wy
def solve.BC.Up.out:PD
 | [.i r,.i c,.l l,.i _p,.i q,.l m,.i _n]=>.Cw [.agg [.int .i64 ((Hb r q (Rt c l q m (wz r) (wz q))).1),.int .i64 ((Hb r q (Rt c l q m (wz r) (wz q))).2.1),.Bh .BF .u64 ((Hb r q (Rt c l q m (wz r) (wz q))).2.2.1)],.int .i64 ((Hb r q (Rt c l q m (wz r) (wz q))).2.2.2)]
 | _=>.undef
abbrev solve.BC.Up.ts:TS:=[.st [.i .i64,.i .i64,.s .u64],.st [.i .i64,.i .i64,.s .u64],.fm 118 [.i .i64],.fn 119 []]
def solve.BC.Up.Bk:=B9 solve.BC.Up.ts solve.BC.Up.pre solve.BC.Up.out
def solve.Dt.pre:PB
 | [.i _r,.i _c,.l l,.i _p,.i _q,.l m]=>Bg l&&Bg m
 | _=>wy
def solve.Dt.out:PD
 | [.i r,.i c,.l l,.i p,.i q,.l m]=>.Cw [.agg [.int .i64 ((Rq r c l p q m).1),.int .i64 ((Rq r c l p q m).2.1),.Bh .BF .u64 ((Rq r c l p q m).2.2.1)],.int .i64 ((Rq r c l p q m).2.2.2)]
 | _=>.undef
abbrev solve.Dt.ts:TS:=[.st [.i .i64,.i .i64,.s .u64],.st [.i .i64,.i .i64,.s .u64]]
def solve.Dt.Bk:=B9 solve.Dt.ts solve.Dt.pre solve.Dt.out
def solve.Flat.pre:PB
 | [.i _r,.i _c,.l l]=>Bg l
 | _=>wy
def solve.Flat.out:PD
 | [.i r,.i c,.l l]=>.Cw [.bool ((Hr r c l).1),.int .i64 ((Hr r c l).2)]
 | _=>.undef
abbrev solve.Flat.ts:TS:=[.st [.i .i64,.i .i64,.s .u64]]
def solve.Flat.Bk:=B9 solve.Flat.ts solve.Flat.pre solve.Flat.out
def qr.HY.pre:PB
 | [.i _r,.i _c,.l l,.i _p,.i _q,.l m]=>Bg l&&Bg m
 | _=>wy
def qr.HY.out:PD
 | [.i r,.i c,.l l,.i p,.i q,.l m]=>.Cw [.agg [.int .i64 ((Dh r c l p q m).1),.int .i64 ((Dh r c l p q m).2.1),.Bh .BF .u64 ((Dh r c l p q m).2.2.1)],.int .i64 ((Dh r c l p q m).2.2.2)]
 | _=>.undef
abbrev qr.HY.ts:TS:=[.st [.i .i64,.i .i64,.s .u64],.st [.i .i64,.i .i64,.s .u64]]
def qr.HY.Bk:=B9 qr.HY.ts qr.HY.pre qr.HY.out
def Bv.Div.pre:PB
 | [.i a,.i b]=>Bo a&&Bo b
 | _=>wy
def Bv.Div.out:PD
 | [.i a,.i b]=>.int .u64 (El a b)
 | _=>.undef
abbrev Bv.Div.ts:TS:=[.i .u64,.i .u64]
def Bv.Div.Bk:=B9 Bv.Div.ts Bv.Div.pre Bv.Div.out
def Bv.Finite.pre:PB
 | [.l x]=>CW x
 | _=>wy
def Bv.Finite.out:PD
 | [.l x]=>.bool (Dc x)
 | _=>.undef
abbrev Bv.Finite.ts:TS:=[.s .u64]
def Bv.Finite.Bk:=B9 Bv.Finite.ts Bv.Finite.pre Bv.Finite.out
def B6.Check.pre:PB
 | [.i _r,.i _c,.l l]=>Bg l
 | _=>wy
def B6.Check.out:PD
 | [.i r,.i c,.l l]=>.int .i64 (Cm r c l)
 | _=>.undef
abbrev B6.Check.ts:TS:=[.st [.i .i64,.i .i64,.s .u64]]
def B6.Check.Bk:=B9 B6.Check.ts B6.Check.pre B6.Check.out
def BS.Check.pre:PB
 | [.i _r,.i _c,.l l,.i _p,.i _q,.l m]=>Bg l&&Bg m
 | _=>wy
def BS.Check.out:PD
 | [.i r,.i c,.l l,.i p,.i q,.l m]=>.int .i64 (Jo r c l p q m)
 | _=>.undef
abbrev BS.Check.ts:TS:=[.st [.i .i64,.i .i64,.s .u64],.st [.i .i64,.i .i64,.s .u64]]
def BS.Check.Bk:=B9 BS.Check.ts BS.Check.pre BS.Check.out
def BS.finite.pre:PB
 | [.i r,.i c,.l l]=>Bg l&&B5 r c l
 | _=>wy
def BS.finite.out:PD
 | [.i r,.i c,.l l]=>.Cw [.agg [.int .i64 ((Hb r c l).1),.int .i64 ((Hb r c l).2.1),.Bh .arg .u64 ((Hb r c l).2.2.1)],.int .i64 ((Hb r c l).2.2.2)]
 | _=>.undef
abbrev BS.finite.ts:TS:=[.st [.i .i64,.i .i64,.s .u64]]
def BS.finite.Bk:=B9 BS.finite.ts BS.finite.pre BS.finite.out
def BS.Dt.pre:PB
 | [.i _r,.i _c,.l l,.i _p,.i _q,.l m]=>Bg l&&Bg m
 | _=>wy
def BS.Dt.out:PD
 | [.i r,.i c,.l l,.i p,.i q,.l m]=>.Cw [.agg [.int .i64 ((Rq r c l p q m).1),.int .i64 ((Rq r c l p q m).2.1),.Bh .arg .u64 ((Rq r c l p q m).2.2.1)],.int .i64 ((Rq r c l p q m).2.2.2)]
 | _=>.undef
abbrev BS.Dt.ts:TS:=[.st [.i .i64,.i .i64,.s .u64],.st [.i .i64,.i .i64,.s .u64]]
def BS.Dt.Bk:=B9 BS.Dt.ts BS.Dt.pre BS.Dt.out
def math.J8.pre:PB
 | [.f _x]=>wg
 | _=>wy
def math.J8.out:PD
 | [.f x]=>.fl (CV x)
 | _=>.undef
abbrev math.J8.ts:TS:=[.fl]
def math.J8.Bk:=B9 math.J8.ts math.J8.pre math.J8.out
def math.Ks.pre:PB
 | [.f x]=>Rj x
 | _=>wy
def math.Ks.out:PD
 | [.f x]=>.bool (decide (Bj x=4))
 | _=>.undef
abbrev math.Ks.ts:TS:=[.fl]
def math.Ks.Bk:=B9 math.Ks.ts math.Ks.pre math.Ks.out
def math.Kt.pre:PB
 | [.f x,.i s]=>Rj x&&decide (s=0)
 | _=>wy
def math.Kt.out:PD
 | [.f x,.i _s]=>.bool (decide (Bj x=3))
 | _=>.undef
abbrev math.Kt.ts:TS:=[.fl,.i .i64]
def math.Kt.Bk:=B9 math.Kt.ts math.Kt.pre math.Kt.out
def math.normalize.pre:PB
 | [.f x]=>ZD x
 | _=>wy
def math.normalize.out:PD
 | [.f x]=>.Cw [.fl (K2 x),.int .i64 (HM x)]
 | _=>.undef
abbrev math.normalize.ts:TS:=[.fl]
def math.normalize.Bk:=B9 math.normalize.ts math.normalize.pre math.normalize.out
def math.DH.pre:PB
 | [.f x,.f y]=>ZD y&&decide (x=0)
 | _=>wy
def math.DH.out:PD
 | [.f _x,.f y]=>.fl (BG (BE y) 0)
 | _=>.undef
abbrev math.DH.ts:TS:=[.fl,.fl]
def math.DH.Bk:=B9 math.DH.ts math.DH.pre math.DH.out
def math.Inf.pre:PB
 | [.i _s]=>wg
 | _=>wy
def math.Inf.out:PD
 | [.i s]=>.fl (BG (decide (s<0)) Dk)
 | _=>.undef
abbrev math.Inf.ts:TS:=[.i .i64]
def math.Inf.Bk:=B9 math.Inf.ts math.Inf.pre math.Inf.out
def math.Gh.pre:PB
 | [.f x,.i k]=>Rj x&&CE (-2300<=k/\k<=2300)
 | _=>wy
def math.Gh.out:PD
 | [.f x,.i k]=>.fl (H6 x k)
 | _=>.undef
abbrev math.Gh.ts:TS:=[.fl,.i .i64]
def math.Gh.Bk:=B9 math.Gh.ts math.Gh.pre math.Gh.out
def math.Lu.pre:PB
 | [.f x,.i k]=>Rj x&&CE (-2300<=k/\k<=2300)
 | _=>wy
def math.Lu.out:PD
 | [.f x,.i k]=>.fl (H6 x k)
 | _=>.undef
abbrev math.Lu.ts:TS:=[.fl,.i .i64]
def math.Lu.Bk:=B9 math.Lu.ts math.Lu.pre math.Lu.out
def Bv.Ct.pre:PB
 | [.i a,.i k]=>D1 a k
 | _=>wy
def Bv.Ct.out:PD
 | [.i a,.i k]=>.int .u64 (BP a k)
 | _=>.undef
abbrev Bv.Ct.ts:TS:=[.i .u64,.i .i64]
def Bv.Ct.Bk:=B9 Bv.Ct.ts Bv.Ct.pre Bv.Ct.out
def C2.ends.pre:PB
 | [.i b]=>Bo b
 | _=>wy
def C2.ends.out:PD
 | [.i b]=>.int .i64 (PV b)
 | _=>.undef
abbrev C2.ends.ts:TS:=[.i .u64]
def C2.ends.Bk:=B9 C2.ends.ts C2.ends.pre C2.ends.out
def C2.Order.pre:PB
 | [.i a,.i b]=>Bo a&&Bo b
 | _=>wy
def C2.Order.out:PD
 | [.i a,.i b]=>.Cw [.int .i64 (Ma a b),.bool (VU a b)]
 | _=>.undef
abbrev C2.Order.ts:TS:=[.i .u64,.i .u64]
def C2.Order.Bk:=B9 C2.Order.ts C2.Order.pre C2.Order.out
def C2.J8.pre:PB
 | [.i a]=>Bo a
 | _=>wy
def C2.J8.out:PD
 | [.i a]=>.int .u64 (Gf a)
 | _=>.undef
abbrev C2.J8.ts:TS:=[.i .u64]
def C2.J8.Bk:=B9 C2.J8.ts C2.J8.pre C2.J8.out
def C2.Max.pre:PB
 | [.i a,.i b]=>Bo a&&Bo b
 | _=>wy
def C2.Max.out:PD
 | [.i a,.i b]=>.int .u64 (M4 a b)
 | _=>.undef
abbrev C2.Max.ts:TS:=[.i .u64,.i .u64]
def C2.Max.Bk:=B9 C2.Max.ts C2.Max.pre C2.Max.out
def EO.EH.down.pre:PB
 | [.i _n,.i _k]=>wg
 | _=>wy
def EO.EH.down.out:PD
 | [.i _n,.i k]=>.int .i64 k
 | _=>.undef
abbrev EO.EH.down.ts:TS:=[.i .i64,.i .i64]
def EO.EH.down.Bk:=B9 EO.EH.down.ts EO.EH.down.pre EO.EH.down.out
def solve.G6.pre:PB
 | [.i _i,.i _k]=>wg
 | _=>wy
def solve.G6.out:PD
 | [.i i,.i k]=>.bool (decide (k<i))
 | _=>.undef
abbrev solve.G6.ts:TS:=[.i .i64,.i .i64]
def solve.G6.Bk:=B9 solve.G6.ts solve.G6.pre solve.G6.out
def solve.BC.Lo.pre:PB
 | [.i r,.i c,.l l,.i p,.i q,.l m,.i n]=>NI r c l p q m&&decide (n=r)
 | _=>wy
def solve.BC.Lo.out:PD
 | [.i r,.i c,.l l,.i _p,.i q,.l m,.i _n]=>.Cw [.agg [.int .i64 ((Hb r q (loG c l q m (wz r) (wz q))).1),.int .i64 ((Hb r q (loG c l q m (wz r) (wz q))).2.1),.Bh .BF .u64 ((Hb r q (loG c l q m (wz r) (wz q))).2.2.1)],.int .i64 ((Hb r q (loG c l q m (wz r) (wz q))).2.2.2)]
 | _=>.undef
abbrev solve.BC.Lo.ts:TS:=[.st [.i .i64,.i .i64,.s .u64],.st [.i .i64,.i .i64,.s .u64],.fm 111 [.i .i64],.fn 112 []]
def solve.BC.Lo.Bk:=B9 solve.BC.Lo.ts solve.BC.Lo.pre solve.BC.Lo.out
def solve.Kp.pre:PB
 | [.i _r,.i _c,.l l,.i _p,.i _q,.l m]=>Bg l&&Bg m
 | _=>wy
def solve.Kp.out:PD
 | [.i r,.i c,.l l,.i p,.i q,.l m]=>.Cw [.agg [.int .i64 ((XF r c l p q m).1),.int .i64 ((XF r c l p q m).2.1),.Bh .BF .u64 ((XF r c l p q m).2.2.1)],.int .i64 ((XF r c l p q m).2.2.2)]
 | _=>.undef
abbrev solve.Kp.ts:TS:=[.st [.i .i64,.i .i64,.s .u64],.st [.i .i64,.i .i64,.s .u64]]
def solve.Kp.Bk:=B9 solve.Kp.ts solve.Kp.pre solve.Kp.out
def BS.Flat.pre:PB
 | [.i r,.i c,.l l]=>(B5 r c l&&Bg l)&&Dc l
 | _=>wy
def BS.Flat.out:PD
 | [.i r,.i c,.l l]=>.bool (Li r c l)
 | _=>.undef
abbrev BS.Flat.ts:TS:=[.st [.i .i64,.i .i64,.s .u64]]
def BS.Flat.Bk:=B9 BS.Flat.ts BS.Flat.pre BS.Flat.out
def root.HN.pre:PB
 | [.i m]=>CE (0<=m/\m<9223372036854775808)
 | _=>wy
def root.HN.out:PD
 | [.i m]=>.Cw [.int .u64 (QH m),.bool (QI m)]
 | _=>.undef
abbrev root.HN.ts:TS:=[.i .u64]
def root.HN.Bk:=B9 root.HN.ts root.HN.pre root.HN.out
def root.Sqrt.pre:PB
 | [.i a]=>Bo a
 | _=>wy
def root.Sqrt.out:PD
 | [.i a]=>.Cw [.int .u64 (ET a),.int .u8 (NL a)]
 | _=>.undef
abbrev root.Sqrt.ts:TS:=[.i .u64]
def root.Sqrt.Bk:=B9 root.Sqrt.ts root.Sqrt.pre root.Sqrt.out
def Bu.Sqrt.pre:PB
 | [.i a]=>Bo a
 | _=>wy
def Bu.Sqrt.out:PD
 | [.i a]=>.int .u64 (ET a)
 | _=>.undef
abbrev Bu.Sqrt.ts:TS:=[.i .u64]
def Bu.Sqrt.Bk:=B9 Bu.Sqrt.ts Bu.Sqrt.pre Bu.Sqrt.out
def compare.N8.pre:PB
 | [.i a]=>Bo a
 | _=>wy
def compare.N8.out:PD
 | [.i a]=>.int .i64 (BK a)
 | _=>.undef
abbrev compare.N8.ts:TS:=[.i .u64]
def compare.N8.Bk:=B9 compare.N8.ts compare.N8.pre compare.N8.out
def Bu.Norm.pre:PB
 | [.l x]=>CW x&&CE (vA x<=64)
 | _=>wy
def Bu.Norm.out:PD
 | [.l x]=>.Cw [.int .u64 (CB x),.int .i64 (0:Int)]
 | _=>.undef
abbrev Bu.Norm.ts:TS:=[.s .u64]
def Bu.Norm.Bk:=B9 Bu.Norm.ts Bu.Norm.pre Bu.Norm.out
def B7.Cy.pre:PB
 | [.l x]=>CW x
 | _=>wy
def B7.Cy.out:PD
 | [.l x]=>.bool (CX x)
 | _=>.undef
abbrev B7.Cy.ts:TS:=[.s .u64]
def B7.Cy.Bk:=B9 B7.Cy.ts B7.Cy.pre B7.Cy.out
def B7.lead.pre:PB
 | [.l x]=>CW x
 | _=>wy
def B7.lead.out:PD
 | [.l x]=>.int .u64 (IK x)
 | _=>.undef
abbrev B7.lead.ts:TS:=[.s .u64]
def B7.lead.Bk:=B9 B7.lead.ts B7.lead.pre B7.lead.out
def B7.Eo.pre:PB
 | [.l x,.i k]=>CW x&&CE (vA x<=1000/\-2300<=k/\k<=2300)
 | _=>wy
def B7.Eo.out:PD
 | [.l x,.i k]=>.Bh .BF .u64 (BM x k)
 | _=>.undef
abbrev B7.Eo.ts:TS:=[.s .u64,.i .i64]
def B7.Eo.Bk:=B9 B7.Eo.ts B7.Eo.pre B7.Eo.out
def B7.Ic.pre:PB
 | [.i _i]=>wg
 | _=>wy
def B7.Ic.out:PD
 | [.i _i]=>.int .u64 (0:Int)
 | _=>.undef
abbrev B7.Ic.ts:TS:=[.i .i64]
def B7.Ic.Bk:=B9 B7.Ic.ts B7.Ic.pre B7.Ic.out
def B7.Ib.pre:PB
 | [.i i,.l y,.i d]=>(CE (0<=i/\i<vA y)&&Bg y)&&Bo d
 | _=>wy
def B7.Ib.out:PD
 | [.i i,.l y,.i d]=>.int .u64 (El (vB y (wz i) 0) d)
 | _=>.undef
abbrev B7.Ib.ts:TS:=[.i .i64,.cp [.s .u64],.cp [.i .u64]]
def B7.Ib.Bk:=B9 B7.Ib.ts B7.Ib.pre B7.Ib.out
def B7.row.Zero.pre:PB
 | [.i n]=>CE (1<=n/\n<=64)
 | _=>wy
def B7.row.Zero.out:PD
 | [.i n]=>.Bh .BF .u64 (Gc (wz n) (fun _=>0))
 | _=>.undef
abbrev B7.row.Zero.ts:TS:=[.i .i64,.fn 155 []]
def B7.row.Zero.Bk:=B9 B7.row.Zero.ts B7.row.Zero.pre B7.row.Zero.out
def B7.row.Div.pre:PB
 | [.i n,.l y,.i d]=>(CE (1<=n/\n<=64/\n=vA y)&&Bg y)&&Bo d
 | _=>wy
def B7.row.Div.out:PD
 | [.i n,.l y,.i d]=>.Bh .BF .u64 (Gc (wz n) (fun j=>El (vB y j 0) d))
 | _=>.undef
abbrev B7.row.Div.ts:TS:=[.i .i64,.fn 161 [.cp [.s .u64],.cp [.i .u64]]]
def B7.row.Div.Bk:=B9 B7.row.Div.ts B7.row.Div.pre B7.row.Div.out
def B7.En.pre:PB
 | [.l x]=>CW x
 | _=>wy
def B7.En.out:PD
 | [.l x]=>.Cw [.Bh .BF .u64 ((BV x).1),.int .u64 ((BV x).2.1),.int .u64 ((BV x).2.2.1),.int .i64 ((BV x).2.2.2)]
 | _=>.undef
abbrev B7.En.ts:TS:=[.s .u64]
def B7.En.Bk:=B9 B7.En.ts B7.En.pre B7.En.out
def B7.Apply.pre:PB
 | [.i r,.i c,.l l,.i i,.i k,.l v,.i t]=>((B5 r c l&&HW r c i k v)&&(Bg l&&Bg v))&&Bo t
 | _=>wy
def B7.Apply.out:PD
 | [.i r,.i c,.l l,.i i,.i k,.l v,.i t]=>.Cw [.agg [.int .i64 r,.int .i64 c,.Bh (.own 114002 47) .u64 (Eh (wz r) (wz c) l i k v t)],.int .i64 (0:Int)]
 | _=>.undef
abbrev B7.Apply.ts:TS:=[.st [.i .i64,.i .i64,.s .u64],.i .i64,.i .i64,.s .u64,.i .u64]
def B7.Apply.Bk:=B9 B7.Apply.ts B7.Apply.pre B7.Apply.out
def qr.down.pre:PB
 | [.i r,.i c,.l l]=>(B5 r c l&&Dc l)&&Bg l
 | _=>wy
def qr.down.out:PD
 | [.i r,.i c,.l l]=>.Cw [.agg [.int .i64 ((Ga r c l).1),.int .i64 ((Ga r c l).2.1),.Bh .arg .u64 ((Ga r c l).2.2.1)],.C3 .BF 2 (M3 r c l),.int .i64 ((Ga r c l).2.2.2)]
 | _=>.undef
abbrev qr.down.ts:TS:=[.st [.i .i64,.i .i64,.s .u64]]
def qr.down.Bk:=B9 qr.down.ts qr.down.pre qr.down.out
def qr.Ch.pre:PB
 | [.i _r,.i _c,.l l]=>Bg l
 | _=>wy
def qr.Ch.out:PD
 | [.i r,.i c,.l l]=>.Cw [.agg [.int .i64 ((qX r c l).1),.int .i64 ((qX r c l).2.1),.Bh .arg .u64 ((qX r c l).2.2.1)],.agg [.int .i64 ((rX r c l).1),.int .i64 ((rX r c l).2.1),.Bh .arg .u64 ((rX r c l).2.2.1)],.int .i64 (DZ r c l)]
 | _=>.undef
abbrev qr.Ch.ts:TS:=[.st [.i .i64,.i .i64,.s .u64]]
def qr.Ch.Bk:=B9 qr.Ch.ts qr.Ch.pre qr.Ch.out
def qr.Iu.pre:PB
 | [.i _r,.i _c,.l l]=>Bg l
 | _=>wy
def qr.Iu.out:PD
 | [.i r,.i c,.l l]=>.Cw [.agg [.int .i64 ((E3 r c l).1),.int .i64 ((E3 r c l).2.1),.Bh .BF .u64 ((E3 r c l).2.2.1)],.agg [.int .i64 ((GH r c l).1),.int .i64 ((GH r c l).2.1),.Bh .BF .u64 ((GH r c l).2.2.1)],.int .i64 (DZ r c l)]
 | _=>.undef
abbrev qr.Iu.ts:TS:=[.st [.i .i64,.i .i64,.s .u64]]
def qr.Iu.Bk:=B9 qr.Iu.ts qr.Iu.pre qr.Iu.out
def solve.F3.pre:PB
 | [.i _r,.i _c,.l l,.i _p,.i _q,.l m]=>Bg l&&Bg m
 | _=>wy
def solve.F3.out:PD
 | [.i r,.i c,.l l,.i p,.i q,.l m]=>.Cw [.agg [.int .i64 ((Dz r c l p q m).1),.int .i64 ((Dz r c l p q m).2.1),.Bh .BF .u64 ((Dz r c l p q m).2.2.1)],.int .i64 ((Dz r c l p q m).2.2.2)]
 | _=>.undef
abbrev solve.F3.ts:TS:=[.st [.i .i64,.i .i64,.s .u64],.st [.i .i64,.i .i64,.s .u64]]
def solve.F3.Bk:=B9 solve.F3.ts solve.F3.pre solve.F3.out
def C2.N8.pre:PB
 | [.i a]=>Bo a
 | _=>wy
def C2.N8.out:PD
 | [.i a]=>.int .i64 (BK a)
 | _=>.undef
abbrev C2.N8.ts:TS:=[.i .u64]
def C2.N8.Bk:=B9 C2.N8.ts C2.N8.pre C2.N8.out
def Bv.Cu.pre:PB
 | [.l x]=>CW x
 | _=>wy
def Bv.Cu.out:PD
 | [.l x]=>.int .u64 (BA x)
 | _=>.undef
abbrev Bv.Cu.ts:TS:=[.s .u64]
def Bv.Cu.Bk:=B9 Bv.Cu.ts Bv.Cu.pre Bv.Cu.out
def math.Sqrt.pre:PB
 | [.f _x]=>wg
 | _=>wy
def math.Sqrt.out:PD
 | [.f x]=>.fl (((Ieee.double.sqrt x).getD nanBits))
 | _=>.undef
abbrev math.Sqrt.ts:TS:=[.fl]
def math.Sqrt.Bk:=B9 math.Sqrt.ts math.Sqrt.pre math.Sqrt.out
def Bv.Sqrt.pre:PB
 | [.i a]=>Bo a
 | _=>wy
def Bv.Sqrt.out:PD
 | [.i a]=>.int .u64 (ET a)
 | _=>.undef
abbrev Bv.Sqrt.ts:TS:=[.i .u64]
def Bv.Sqrt.Bk:=B9 Bv.Sqrt.ts Bv.Sqrt.pre Bv.Sqrt.out
def Bv.Norm.pre:PB
 | [.l x]=>CW x
 | _=>wy
def Bv.Norm.out:PD
 | [.l x]=>.int .u64 (CB x)
 | _=>.undef
abbrev Bv.Norm.ts:TS:=[.s .u64]
def Bv.Norm.Bk:=B9 Bv.Norm.ts Bv.Norm.pre Bv.Norm.out
def BT.Cy.pre:PB
 | [.l x]=>CW x
 | _=>wy
def BT.Cy.out:PD
 | [.l x]=>.bool (CX (List.drop 1 x))
 | _=>.undef
abbrev BT.Cy.ts:TS:=[.s .u64]
def BT.Cy.Bk:=B9 BT.Cy.ts BT.Cy.pre BT.Cy.out
def BT.lead.pre:PB
 | [.l x]=>CW x
 | _=>wy
def BT.lead.out:PD
 | [.l x]=>.int .i64 (N4 x 0)
 | _=>.undef
abbrev BT.lead.ts:TS:=[.s .u64]
def BT.lead.Bk:=B9 BT.lead.ts BT.lead.pre BT.lead.out
def BT.En.pre:PB
 | [.l x]=>CW x&&CE (1<=vA x/\vA x<=64)
 | _=>wy
def BT.En.out:PD
 | [.l x]=>.Cw [.agg [.Bh .BF .u64 ((I2 x).1),.int .u64 ((I2 x).2.1),.int .u64 ((I2 x).2.2.1)],.bool (decide ((I2 x).2.2.2=0))]
 | _=>.undef
abbrev BT.En.ts:TS:=[.s .u64]
def BT.En.Bk:=B9 BT.En.ts BT.En.pre BT.En.out
def BT.Apply.pre:PB
 | [.i r,.i c,.l l,.i i,.i k,.l v,.i t]=>((B5 r c l&&HW r c i k v)&&(Bg l&&Bg v))&&Bo t
 | _=>wy
def BT.Apply.out:PD
 | [.i r,.i c,.l l,.i i,.i k,.l v,.i t]=>.agg [.int .i64 r,.int .i64 c,.Bh .arg .u64 (Eh (wz r) (wz c) l i k v t)]
 | _=>.undef
abbrev BT.Apply.ts:TS:=[.st [.i .i64,.i .i64,.s .u64],.i .i64,.i .i64,.s .u64,.i .u64]
def BT.Apply.Bk:=B9 BT.Apply.ts BT.Apply.pre BT.Apply.out
def Cz.Es.pre:PB
 | [.i r,.i c,.l l,.i j,.i _b]=>B5 r c l&&CE (0<=j/\j<r/\j<c)
 | _=>wy
def Cz.Es.out:PD
 | [.i r,.i c,.l l,.i j,.i b]=>.agg [.int .i64 r,.int .i64 c,.Bh .arg .u64 (H9 (wz r) (wz c) l (wz j) b)]
 | _=>.undef
abbrev Cz.Es.ts:TS:=[.st [.i .i64,.i .i64,.s .u64],.i .i64,.i .u64]
def Cz.Es.Bk:=B9 Cz.Es.ts Cz.Es.pre Cz.Es.out
def Cz.Ch.pre:PB
 | [.i r,.i c,.l l]=>(B5 r c l&&Dc l)&&Bg l
 | _=>wy
def Cz.Ch.out:PD
 | [.i r,.i c,.l l]=>.agg [.int .i64 ((qX r c l).1),.int .i64 ((qX r c l).2.1),.Bh .arg .u64 ((qX r c l).2.2.1),.int .i64 ((rX r c l).1),.int .i64 ((rX r c l).2.1),.Bh .arg .u64 ((rX r c l).2.2.1),.bool (decide (DZ r c l=0))]
 | _=>.undef
abbrev Cz.Ch.ts:TS:=[.st [.i .i64,.i .i64,.s .u64]]
def Cz.Ch.Bk:=B9 Cz.Ch.ts Cz.Ch.pre Cz.Ch.out
def Cz.Iu.pre:PB
 | [.i r,.i c,.l l]=>(B5 r c l&&Dc l)&&Bg l
 | _=>wy
def Cz.Iu.out:PD
 | [.i r,.i c,.l l]=>.agg [.int .i64 ((E3 r c l).1),.int .i64 ((E3 r c l).2.1),.Bh .arg .u64 ((E3 r c l).2.2.1),.int .i64 ((GH r c l).1),.int .i64 ((GH r c l).2.1),.Bh .arg .u64 ((GH r c l).2.2.1),.bool (decide (DZ r c l=0))]
 | _=>.undef
abbrev Cz.Iu.ts:TS:=[.st [.i .i64,.i .i64,.s .u64]]
def Cz.Iu.Bk:=B9 Cz.Iu.ts Cz.Iu.pre Cz.Iu.out
def BS.F3.pre:PB
 | [.i _r,.i _c,.l l,.i _p,.i _q,.l m]=>Bg l&&Bg m
 | _=>wy
def BS.F3.out:PD
 | [.i r,.i c,.l l,.i p,.i q,.l m]=>.Cw [.agg [.int .i64 ((Dz r c l p q m).1),.int .i64 ((Dz r c l p q m).2.1),.Bh .arg .u64 ((Dz r c l p q m).2.2.1)],.int .i64 ((Dz r c l p q m).2.2.2)]
 | _=>.undef
abbrev BS.F3.ts:TS:=[.st [.i .i64,.i .i64,.s .u64],.st [.i .i64,.i .i64,.s .u64]]
def BS.F3.Bk:=B9 BS.F3.ts BS.F3.pre BS.F3.out
def Ec.Check.pre:PB
 | [.i _r,.i _c,.l l,.i _p,.i _q,.l m,.i _a,.i _b,.l g,.i _u,.i _v,.l h]=>Sh l m g h
 | _=>wy
def Ec.Check.out:PD
 | [.i r,.i c,.l l,.i p,.i q,.l m,.i a,.i b,.l g,.i u,.i v,.l h]=>.int .i64 (IU r c l p q m a b g u v h)
 | _=>.undef
abbrev Ec.Check.ts:TS:=[.st [.i .i64,.i .i64,.s .u64,.i .i64,.i .i64,.s .u64,.i .i64,.i .i64,.s .u64,.i .i64,.i .i64,.s .u64]]
def Ec.Check.Bk:=B9 Ec.Check.ts Ec.Check.pre Ec.Check.out
def Ec.finite.pre:PB
 | [.i _r,.i _c,.l l,.i _e]=>Bg l
 | _=>wy
def Ec.finite.out:PD
 | [.i r,.i c,.l l,.i e]=>.Cw [.agg [.int .i64 ((Lx r c l e).1),.int .i64 ((Lx r c l e).2.1),.Bh .arg .u64 ((Lx r c l e).2.2.1)],.int .i64 ((Lx r c l e).2.2.2)]
 | _=>.undef
abbrev Ec.finite.ts:TS:=[.st [.i .i64,.i .i64,.s .u64],.i .i64]
def Ec.finite.Bk:=B9 Ec.finite.ts Ec.finite.pre Ec.finite.out
def Ec.held.pre:PB
 | [.i r,.i c,.l l,.i p,.i q,.l m,.i a,.i b,.l g,.i u,.i v,.l h]=>Sh l m g h&&decide (IU r c l p q m a b g u v h=0)
 | _=>wy
def Ec.held.out:PD
 | [.i _r,.i _c,.l _l,.i p,.i q,.l m,.i _a,.i _b,.l _g,.i u,.i v,.l h]=>.Cw [.agg [.int .i64 ((hQ p q m).1),.int .i64 ((hQ p q m).2.1),.Bh .arg .u64 ((hQ p q m).2.2.1)],.agg [.int .i64 ((hY p q m u v h).1),.int .i64 ((hY p q m u v h).2.1),.Bh .BF .u64 ((hY p q m u v h).2.2.1)],.int .i64 ((hY p q m u v h).2.2.2)]
 | _=>.undef
abbrev Ec.held.ts:TS:=[.st [.i .i64,.i .i64,.s .u64,.i .i64,.i .i64,.s .u64,.i .i64,.i .i64,.s .u64,.i .i64,.i .i64,.s .u64]]
def Ec.held.Bk:=B9 Ec.held.ts Ec.held.pre Ec.held.out
def Ec.Solve.pre:PB
 | [.i _r,.i _c,.l l,.i _p,.i _q,.l m,.i _a,.i _b,.l g,.i _u,.i _v,.l h]=>Sh l m g h
 | _=>wy
def Ec.Solve.out:PD
 | [.i r,.i c,.l l,.i p,.i q,.l m,.i a,.i b,.l g,.i u,.i v,.l h]=>.Cw [.agg [.int .i64 ((Dy r c l p q m a b g u v h).1),.int .i64 ((Dy r c l p q m a b g u v h).2.1),.Bh .arg .u64 ((Dy r c l p q m a b g u v h).2.2.1)],.int .i64 ((Dy r c l p q m a b g u v h).2.2.2)]
 | _=>.undef
abbrev Ec.Solve.ts:TS:=[.st [.i .i64,.i .i64,.s .u64,.i .i64,.i .i64,.s .u64,.i .i64,.i .i64,.s .u64,.i .i64,.i .i64,.s .u64]]
def Ec.Solve.Bk:=B9 Ec.Solve.ts Ec.Solve.pre Ec.Solve.out
def D9.one.pre:PB
 | [.i _b]=>wg
 | _=>wy
def D9.one.out:PD
 | [.i b]=>.agg [.int .i64 (1:Int),.int .i64 (1:Int),.Bh .BF .u64 ([b])]
 | _=>.undef
abbrev D9.one.ts:TS:=[.i .u64]
def D9.one.Bk:=B9 D9.one.ts D9.one.pre D9.one.out
def D9.GG.pre:PB
 | []=>wg
 | _=>wy
def D9.GG.out:PD
 | []=>.bool wg
 | _=>.undef
abbrev D9.GG.ts:TS:=[]
def D9.GG.Bk:=B9 D9.GG.ts D9.GG.pre D9.GG.out
def Bv.Gz.pre:PB
 | [.l x,.i k]=>CW x&&CE (0<=k/\k<=1000)
 | _=>wy
def Bv.Gz.out:PD
 | [.l x,.i k]=>.bool (JG x k)
 | _=>.undef
abbrev Bv.Gz.ts:TS:=[.s .u64,.i .i64]
def Bv.Gz.Bk:=B9 Bv.Gz.ts Bv.Gz.pre Bv.Gz.out
def B6.Gz.pre:PB
 | [.i _r,.i _c,.l l,.i k]=>Bg l&&CE (0<=k/\k<=1000)
 | _=>wy
def B6.Gz.out:PD
 | [.i r,.i c,.l l,.i k]=>.bool (B5 r c l&&JG l k)
 | _=>.undef
abbrev B6.Gz.ts:TS:=[.st [.i .i64,.i .i64,.s .u64],.i .i64]
def B6.Gz.Bk:=B9 B6.Gz.ts B6.Gz.pre B6.Gz.out
def Bv.D0.q.pre:PB
 | [.l x]=>CW x&&CE (vA x<=64)
 | _=>wy
def Bv.D0.q.out:PD
 | [.l x]=>.agg [.bool (BB (mQ (Im x))),.Bh .arg .u32 (Bn (mQ (Im x))),.int .i64 (eQ (Im x))]
 | _=>.undef
abbrev Bv.D0.q.ts:TS:=[.s .u64]
def Bv.D0.q.Bk:=B9 Bv.D0.q.ts Bv.D0.q.pre Bv.D0.q.out
def B6.I7.pre:PB
 | [.i r,.i c,.l l]=>Bg l&&B5 r c l
 | _=>wy
def B6.I7.out:PD
 | [.i _r,.i _c,.l l]=>.agg [.bool (BB (mQ (Im l))),.Bh .arg .u32 (Bn (mQ (Im l))),.int .i64 (eQ (Im l))]
 | _=>.undef
abbrev B6.I7.ts:TS:=[.st [.i .i64,.i .i64,.s .u64]]
def B6.I7.Bk:=B9 B6.I7.ts B6.I7.pre B6.I7.out
def B6.FL.q.pre:PB
 | [.l x,.l y]=>(Bg x&&Bg y)&&CE (vA x=vA y/\vA x<=64)
 | _=>wy
def B6.FL.q.out:PD
 | [.l x,.l y]=>.agg [.bool (BB (mQ (XT x y))),.Bh .arg .u32 (Bn (mQ (XT x y))),.int .i64 (eQ (XT x y))]
 | _=>.undef
abbrev B6.FL.q.ts:TS:=[.s .u64,.s .u64]
def B6.FL.q.Bk:=B9 B6.FL.q.ts B6.FL.q.pre B6.FL.q.out
def B6.FN.pre:PB
 | [.l x,.r y]=>Bg x&&N2 y (vA x)
 | _=>wy
def B6.FN.out:PD
 | [.l x,.r y]=>.agg [.bool (BB (mQ (M9 x y))),.Bh .arg .u32 (Bn (mQ (M9 x y))),.int .i64 (eQ (M9 x y))]
 | _=>.undef
abbrev B6.FN.ts:TS:=[.s .u64,.rl 3]
def B6.FN.Bk:=B9 B6.FN.ts B6.FN.pre B6.FN.out
def B6.BD.pre:PB
 | [.i r,.i c,.l l,.i p,.i q,.l m,.i u,.i v,.l h]=>((B5 r c l&&B5 p q m)&&(B5 u v h&&(Bg l&&(Bg m&&Bg h))))&&decide (p=c/\u=r/\v=q)
 | _=>wy
def B6.BD.out:PD
 | [.i r,.i c,.l l,.i _p,.i q,.l m,.i _u,.i _v,.l h]=>.agg [.bool (BB (mQ (Jr (wz r) (wz c) (wz q) l m h))),.Bh .arg .u32 (Bn (mQ (Jr (wz r) (wz c) (wz q) l m h))),.int .i64 (eQ (Jr (wz r) (wz c) (wz q) l m h))]
 | _=>.undef
abbrev B6.BD.ts:TS:=[.st [.i .i64,.i .i64,.s .u64],.st [.i .i64,.i .i64,.s .u64],.st [.i .i64,.i .i64,.s .u64]]
def B6.BD.Bk:=B9 B6.BD.ts B6.BD.pre B6.BD.out
def B6.HX.pre:PB
 | [.b n,.l a,.i e,.b m,.l b,.i f,.i k]=>(dsB n a e&&dsB m b f)&&CE (0<=k/\k<=1000)
 | _=>wy
def B6.HX.out:PD
 | [.b n,.l a,.i e,.b m,.l b,.i f,.i k]=>.bool (decide (vQ n a e<=vQ m b f*tw (-2*k)+tw (-4000)))
 | _=>.undef
abbrev B6.HX.ts:TS:=[.st [.b,.s .u32,.i .i64],.st [.b,.s .u32,.i .i64],.i .i64]
def B6.HX.Bk:=B9 B6.HX.ts B6.HX.pre B6.HX.out
def D9.HQ.pre:PB
 | [.i _r,.i _c,.l l,.i _p,.i _q,.l m]=>Bg l&&Bg m
 | _=>wy
def D9.HQ.out:PD
 | [.i _r,.i _c,.l _l,.i _p,.i _q,.l _m]=>.bool wg
 | _=>.undef
abbrev D9.HQ.ts:TS:=[.st [.i .i64,.i .i64,.s .u64],.st [.i .i64,.i .i64,.s .u64]]
def D9.HQ.Bk:=B9 D9.HQ.ts D9.HQ.pre D9.HQ.out
def Bx.Add.q.pre:PB
 | [.b n,.l a,.i e,.b m,.l b,.i f]=>S5 n a e&&S5 m b f
 | _=>wy
def Bx.Add.q.out:PD
 | [.b n,.l a,.i e,.b m,.l b,.i f]=>.agg [.bool (BB (mQ (vQ n a e+vQ m b f))),.Bh .arg .u32 (Bn (mQ (vQ n a e+vQ m b f))),.int .i64 (eQ (vQ n a e+vQ m b f))]
 | _=>.undef
abbrev Bx.Add.q.ts:TS:=[.st [.b,.s .u32,.i .i64],.st [.b,.s .u32,.i .i64]]
def Bx.Add.q.Bk:=B9 Bx.Add.q.ts Bx.Add.q.pre Bx.Add.q.out
def Bx.Sub.q.pre:PB
 | [.b n,.l a,.i e,.b m,.l b,.i f]=>S5 n a e&&S5 m b f
 | _=>wy
def Bx.Sub.q.out:PD
 | [.b n,.l a,.i e,.b m,.l b,.i f]=>.agg [.bool (BB (mQ (vQ n a e-vQ m b f))),.Bh .arg .u32 (Bn (mQ (vQ n a e-vQ m b f))),.int .i64 (eQ (vQ n a e-vQ m b f))]
 | _=>.undef
abbrev Bx.Sub.q.ts:TS:=[.st [.b,.s .u32,.i .i64],.st [.b,.s .u32,.i .i64]]
def Bx.Sub.q.Bk:=B9 Bx.Sub.q.ts Bx.Sub.q.pre Bx.Sub.q.out
def Bx.Mul.q.pre:PB
 | [.b n,.l a,.i e,.b m,.l b,.i f]=>S5 n a e&&S5 m b f
 | _=>wy
def Bx.Mul.q.out:PD
 | [.b n,.l a,.i e,.b m,.l b,.i f]=>.agg [.bool (BB (mQ (vQ n a e*vQ m b f))),.Bh .arg .u32 (Bn (mQ (vQ n a e*vQ m b f))),.int .i64 (eQ (vQ n a e*vQ m b f))]
 | _=>.undef
abbrev Bx.Mul.q.ts:TS:=[.st [.b,.s .u32,.i .i64],.st [.b,.s .u32,.i .i64]]
def Bx.Mul.q.Bk:=B9 Bx.Mul.q.ts Bx.Mul.q.pre Bx.Mul.q.out
def Bx.Dx.q.pre:PB
 | [.b n,.l a,.i e,.i k]=>S5 n a e&&CE (-2000<=k/\k<=2000)
 | _=>wy
def Bx.Dx.q.out:PD
 | [.b n,.l a,.i e,.i k]=>.agg [.bool (BB (mQ (vQ n a e*tw k))),.Bh .arg .u32 (Bn (mQ (vQ n a e*tw k))),.int .i64 (eQ (vQ n a e*tw k))]
 | _=>.undef
abbrev Bx.Dx.q.ts:TS:=[.st [.b,.s .u32,.i .i64],.i .i64]
def Bx.Dx.q.Bk:=B9 Bx.Dx.q.ts Bx.Dx.q.pre Bx.Dx.q.out
def Bx.Compare.q.pre:PB
 | [.b n,.l a,.i e,.b m,.l b,.i f]=>S5 n a e&&S5 m b f
 | _=>wy
def Bx.Compare.q.out:PD
 | [.b n,.l a,.i e,.b m,.l b,.i f]=>.int .i64 (AbE (vQ n a e) (vQ m b f))
 | _=>.undef
abbrev Bx.Compare.q.ts:TS:=[.st [.b,.s .u32,.i .i64],.st [.b,.s .u32,.i .i64]]
def Bx.Compare.q.Bk:=B9 Bx.Compare.q.ts Bx.Compare.q.pre Bx.Compare.q.out
def Bx.Of.q.pre:PB
 | [.b n,.l a,.i e]=>IS n a&&CE (-5000<=e/\e<=5000)
 | _=>wy
def Bx.Of.q.out:PD
 | [.b n,.l a,.i e]=>.agg [.bool (BB (mQ (vQ n a e))),.Bh .arg .u32 (Bn (mQ (vQ n a e))),.int .i64 (eQ (vQ n a e))]
 | _=>.undef
abbrev Bx.Of.q.ts:TS:=[.st [.b,.s .u32],.i .i64]
def Bx.Of.q.Bk:=B9 Bx.Of.q.ts Bx.Of.q.pre Bx.Of.q.out
def BJ.Value.q.pre:PB
 | [.i x]=>Bo x
 | _=>wy
def BJ.Value.q.out:PD
 | [.i x]=>.agg [.bool (BB (mQ (DW x))),.Bh .arg .u32 (Bn (mQ (DW x))),.int .i64 (eQ (DW x))]
 | _=>.undef
abbrev BJ.Value.q.ts:TS:=[.i .u64]
def BJ.Value.q.Bk:=B9 BJ.Value.q.ts BJ.Value.q.pre BJ.Value.q.out
def B3.Gy.arg.pre:PB
 | [.i r,.i c,.l l,.i i,.i k,.i _b]=>Db r c l i k
 | _=>wy
def B3.Gy.arg.out:PD
 | [.i r,.i c,.l l,.i i,.i k,.i b]=>.agg [.int .i64 r,.int .i64 c,.Bh .arg .u64 (zw l (wz (i*c+k)) b)]
 | _=>.undef
abbrev B3.Gy.arg.ts:TS:=[.st [.i .i64,.i .i64,.s .u64],.i .i64,.i .i64,.i .u64]
def B3.Gy.arg.Bk:=B9 B3.Gy.arg.ts B3.Gy.arg.pre B3.Gy.arg.out
def B3.FE.arg.pre:PB
 | [.i n]=>Ce n
 | _=>wy
def B3.FE.arg.out:PD
 | [.i n]=>.agg [.int .i64 n,.int .i64 n,.Bh .arg .u64 (Fe (wz n))]
 | _=>.undef
abbrev B3.FE.arg.ts:TS:=[.i .i64]
def B3.FE.arg.Bk:=B9 B3.FE.arg.ts B3.FE.arg.pre B3.FE.arg.out
def Fz.Canon.nb.pre:PB
 | [.f _x]=>wg
 | _=>wy
def Fz.Canon.nb.out:PD
 | [.f x]=>.int .u64 (FA x)
 | _=>.undef
abbrev Fz.Canon.nb.ts:TS:=[.nb]
def Fz.Canon.nb.Bk:=B9 Fz.Canon.nb.ts Fz.Canon.nb.pre Fz.Canon.nb.out
def DE.Jk.pre:PB
 | [.i x]=>Bo x
 | _=>wy
def DE.Jk.out:PD
 | [.i x]=>.int .i64 (EK x)
 | _=>.undef
abbrev DE.Jk.ts:TS:=[.i .u64]
def DE.Jk.Bk:=B9 DE.Jk.ts DE.Jk.pre DE.Jk.out
def Bp.plus.own.pre:PB
 | [.l a,.l b]=>Hk a&&Hk b
 | _=>wy
def Bp.plus.own.out:PD
 | [.l a,.l b]=>.Bh (.own 100005 97) .u32 (IH a b)
 | _=>.undef
abbrev Bp.plus.own.ts:TS:=[.s .u32,.s .u32]
def Bp.plus.own.Bk:=B9 Bp.plus.own.ts Bp.plus.own.pre Bp.plus.own.out
end Go.Proofs.S1
end
