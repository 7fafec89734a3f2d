/- A verified evaluator of the program's form and its use for this seat: RatQ, VecR, BndM, NorR, NorS, MirR, MirT, MirW, MakV, AppV, AppW, HouV, FacV, QuoL, S1EqRef11Q. -/
import Derived.Test.YtfpbkmeodcgcbaaGreatTM
import Derived.Test.YtfpbkmeodcgcbaaGreatTF
import Derived.Test.YtfpbkmeodcgcbaaGreatTE
import Derived.Test.YtfpbkmeodcgcbaaGreatTG
set_option linter.unusedVariables false
set_option linter.unusedSimpArgs false
open Option renaming some->xM,none->xN
open Bool renaming true->wg,false->wy
open Int renaming toNat->wz
open List renaming length->vA,getD->vB
open Nat renaming mul_mul_mul_comm->xc,mul_add->yc,one_mul->zA,zero_le->zF,add_sub_cancel_left->xL
open Rat renaming mul_le_mul_of_nonneg_left->zl,mul_le_mul_of_nonneg_right->zd,le_trans->zo,natCast_add->yz,mul_pos->yl,le_of_lt->zc,mul_nonneg->ze,le_refl->zY,le_total->yV,mul_eq_zero->xx,add_zero->xh,le_of_mul_le_mul_right->zZ
open List renaming all_eq_true->zE,mem_map->zu,length_cons->zt,getElem_mem->ya,mem_iff_getElem->wt,getElem?_range->yA,getD_cons_zero->xW
open Option renaming map_eq_some_iff->xv
open Classical renaming not_not->wY
open Int renaming natCast_add->yy
noncomputable section
open Go.Proofs.Tryz
namespace Go.CI
open Go.Den
theorem Aaz{n:Nat}(h:2^53<=Jm n):(Eb n*Eb n)*2^52<=4*n*2^52+4*n/\4*n*2^52<=(Eb n*Eb n)*2^52+4*n:=by
 obtain⟨h1,h2⟩:=JR n;unfold Eb;split
 ·rename_i e
  have:(2*Jm n+0)*(2*Jm n+0)=4*n:=by rw[AM,xc,e]
  rw[this]; omega
 ·have e1:(2*Jm n+1)*(2*Jm n+1)=4*(Jm n*Jm n)+4*Jm n+1:=by simp only[AI,yc,zA,AN,xc]; omega
  have e2:(Jm n+1)*(Jm n+1)=Jm n*Jm n+2*Jm n+1:=by simp only[AI,yc,zA,AN]; omega
  rw[e2] at h2;rw[e1];have h3:Jm n*2^53<=Jm n*Jm n:=Nat.mul_le_mul_left _ h;generalize Jm n*Jm n=I at *
  generalize Jm n=i at *
  omega
theorem LA{x y:Rat}(h:0<=x)(g:x<=y):x*x<=y*y:=by have h1:=zl g h;have h2:=zd g (zo h g);grind
theorem AfY{b:Nat}(b3:Bj b≠3)(b4:Bj b≠4)(hn:BE b=wy\/Bj b=0)(hf:Bj (Gu b).1≠3):Nr (vR (Gu b).1*vR (Gu b).1) (vR b) (8*uR*vR b)/\0<=vR (Gu b).1/\0<=vR b:=by
 by_cases k0:Bj b=0
 ·rw[IA b4 (.inl k0),NG k0];unfold Nr; grind
 have hn:BE b=wy:=hn.elim id fun h=>absurd h k0
 have m0:Bs b≠0:=fun e=>k0 ((Dd b3 b4).1 e)
 have hi:b≠Dk:=fun e=>b3 (by rw[e]; exact U4)
 have pe:=C4 b;rw[NK b4 (fun h=>h.elim k0 hi) hn] at hf ⊢;dsimp only at hf ⊢;obtain⟨r1,r2⟩:=NV m0;have hrk:EV b<=129:=by unfold EV; omega
 generalize hr:(By b-(EV b:Int)) / 2-1=r at r2 hf ⊢;have hq:2^53<=Jm (Bs b*2^EV b):=QQ (t:=53) r1;obtain⟨s1,s2⟩:=Aaz hq;have hs:2^54<=Eb (Bs b*2^EV b):=by unfold Eb; omega
 have hf':Bj (BG wy (Cj (Eb (Bs b*2^EV b)) r))≠3:=by rw[Fx]; exact hf
 have h1:=(NR wy (NQ hf')).1;rw[Fx] at h1;have sg:Mj wy=1:=rfl;rw[sg,Rat.one_mul] at h1
 have eb:vR b=((Bs b*2^EV b:Nat):Rat)*(tw 2*(tw r*tw r)):=by
  have e:=NH (Bs b) (EV b) (By b);unfold vR;rw[hn];have e2:tw 2*(tw r*tw r)=tw (By b-(EV b:Int)):=by rw[<- Ex,<- Ex]; congr 1; omega
  rw[e2,e,sg]; grind
 generalize Bs b*2^EV b=n at *
 generalize Eb n=s at *
 have g1:=CR s1;have g2:=CR s2;simp only[yz,Rat.natCast_mul] at g1 g2;have t4:((4:Nat):Rat)=tw 2:=by decide +kernel
 have t52:((2^52:Nat):Rat)=tw 52:=(HS 52).symm;rw[t4,t52] at g1 g2;have hs':=CR hs;have t54:((2^54:Nat):Rat)=tw 54:=(HS 54).symm;rw[t54] at hs';have pr:=DC r;have prr:=yl pr pr;have m1:=zd g1 (zc prr);have m2:=zd g2 (zc prr);have hS1:tw 54*tw r<=(s:Rat)*tw r:=zd hs' (zc pr);generalize hS:(s:Rat)*tw r=S at *
 have q1:S*S*tw 52<=vR b*tw 52+vR b:=by rw[eb,<- hS]; grind
 have q2:vR b*tw 52<=S*S*tw 52+vR b:=by rw[eb,<- hS]; grind
 have hb0:0<=vR b:=by rw[eb];exact ze (Jw n) (zc (yl (DC 2) prr))
 have eta1:Cv<=uR*S:=by
  have z1:tw (-657)<=tw r:=V6 (by omega);have z2:Cv<=uR*(tw 54*tw (-657)):=by decide +kernel
  have z3:tw 54*tw (-657)<=tw 54*tw r:=zl z1 (zc (DC 54));have z4:=Hp (zo z3 hS1);grind
 have hS0:0<=S:=by have:=yl (DC 54) pr;grind
 generalize vR b=B at *
 generalize vR (Cj s r)=R at *
 have h2:Nr R S (2*uR*S):=h1.mono (by grind);have cu:2*uR*tw 52=1:=by decide +kernel
 have u0:=E5;have p1:=zd q1 (show 0<=2*uR by grind);have p2:=zd q2 (show 0<=2*uR by grind);have k1:S*S*tw 52*(2*uR)=S*S:=by grind
 have k2:(B*tw 52+B)*(2*uR)=(1+2*uR)*B:=by grind
 have k3:B*tw 52*(2*uR)=B:=by grind
 have k4:(S*S*tw 52+B)*(2*uR)=S*S+2*uR*B:=by grind
 rw[k1,k2] at p1;rw[k3,k4] at p2;have e1:S*S<=(1+2*uR)*B:=p1;have e2:(1-2*uR)*B<=S*S:=by grind
 have hu1:0<=1-2*uR:=by decide +kernel
 have a1:R<=(1+2*uR)*S:=by have:=h2.1; grind
 have a2:(1-2*uR)*S<=R:=by have:=h2.2; grind
 have a0:=ze hu1 hS0;have hR0:0<=R:=zo a0 a2;have b1:R*R<=(1+2*uR)*S*((1+2*uR)*S):=LA hR0 a1;have b2:(1-2*uR)*S*((1-2*uR)*S)<=R*R:=LA a0 a2;have c1:=zl e1 (show 0<=(1+2*uR)*(1+2*uR) by decide +kernel);have c2:=zl e2 (show 0<=(1-2*uR)*(1-2*uR) by decide +kernel);have d1:(1+2*uR)*(1+2*uR)*(1+2*uR)<=1+8*uR:=by decide +kernel
 have d2:1-8*uR<=(1-2*uR)*(1-2*uR)*(1-2*uR):=by decide +kernel
 have f1:=zd d1 hb0;have f2:=zd d2 hb0;refine⟨?_,hR0,hb0⟩;generalize uR=u at *
 unfold Nr;grind
def sm:Nat->(Nat->Rat)->Rat
 | 0,_=>0
 | n+1,f=>sm n f+f n
theorem BY{f g:Nat->Rat}:∀n,(∀i,i<n->f i=g i)->sm n f=sm n g
 | 0,_=>rfl
 | n+1,h=>by unfold sm;rw[BY n fun i hi=>h i (by omega),h n (by omega)]
theorem Gn(f g:Nat->Rat):∀n,sm n (fun i=>f i+g i)=sm n f+sm n g
 | 0=>by unfold sm; grind
 | n+1=>by unfold sm;rw[Gn f g n]; grind
theorem Fq(c:Rat)(f:Nat->Rat):∀n,sm n (fun i=>c*f i)=c*sm n f
 | 0=>by unfold sm; grind
 | n+1=>by unfold sm;rw[Fq c f n]; grind
theorem NM{f g:Nat->Rat}:∀n,(∀i,i<n->f i<=g i)->sm n f<=sm n g
 | 0,_=>zY
 | n+1,h=>by
   unfold sm;have h1:=NM n fun i hi=>h i (by omega)
   have h2:=h n (by omega);grind
theorem Mn{f:Nat->Rat}:∀n,(∀i,i<n->0<=f i)->0<=sm n f
 | 0,_=>zY
 | n+1,h=>by
   unfold sm;have h1:=Mn n fun i hi=>h i (by omega)
   have h2:=h n (by omega);grind
theorem HC(n:Nat):sm n (fun _=>0)=0:=by
 induction n with
 | zero=>rfl
 | succ n ih=>unfold sm; rw[ih]; grind
theorem Aa3{n:Nat}{f:Nat->Rat}{k:Nat}(hk:k<n)(h:∀i,i<n->i≠k->f i=0):sm n f=f k:=by
 induction n with
 | zero=>omega
 | succ n ih =>
   unfold sm;by_cases e:k=n
   ·subst e;rw[BY k (g:=fun _=>0) fun i hi=>h i (by omega) (by omega),HC]; grind
   ·rw[ih (by omega) fun i hi=>h i (by omega),h n (by omega) (by omega)]; grind
theorem Ck(x:Rat):0<=x*x:=by
 rcases(yV:(0:Rat)<=x\/x<=0) with h | h
 ·exact ze h h
 ·have:=ze (show 0<=-x by grind) (show 0<=-x by grind);grind
theorem Lg{x y:Rat}(hy:0<=y)(h:x*x<=y*y):x<=y:=by
 rcases(yV:x<=y\/y<=x) with g | g
 ·exact g
 ·have h1:=LA hy g;have e:x*x=y*y:=by grind
  have z:(x-y)*(x+y)=0:=by grind
  rcases xx.1 z with k | k
  ·grind
  ·grind
theorem Aah{x y:Rat}(hy:0<=y)(h:x*x<=y*y):Ab x y:=by have h1:=Lg hy h;have h2:=Lg (x:=-x) hy (by grind);unfold Ab; grind
def sq(n:Nat)(f:Nat->Rat):Rat:=sm n fun i=>f i*f i
theorem JI(n:Nat)(f:Nat->Rat):0<=sq n f:=Mn n fun i _=>Ck (f i)
theorem cs(f g:Nat->Rat):∀n,sm n (fun i=>f i*g i)*sm n (fun i=>f i*g i)<=sq n f*sq n g
 | 0=>by unfold sq sm; grind
 | n+1=>by
   have ih:=cs f g n;have hF:=JI n f;have hG:=JI n g;unfold sq sm;dsimp only;unfold sq at ih hF hG;generalize sm n (fun i=>f i*g i)=A at *
   generalize sm n (fun i=>f i*f i)=F at *
   generalize sm n (fun i=>g i*g i)=G at *
   generalize f n=a;generalize g n=b;have hP:=ze hF (Ck b);have hQ:=ze hG (Ck a)
   have hX:A*a*b*(A*a*b)<=F*(b*b)*(G*(a*a)):=by have:=zd ih (ze (Ck a) (Ck b));grind
   have hd:=Ck (F*(b*b)-G*(a*a));have k:2*(A*a*b)<=F*(b*b)+G*(a*a):=Lg (by grind) (by grind);grind
def Ln(n:Nat)(f:Nat->Rat)(s:Rat):Prop:=0<=s/\sq n f<=s*s
theorem Ln.mono{n:Nat}{f:Nat->Rat}{s t:Rat}(h:Ln n f s)(g:s<=t):Ln n f t:=⟨zo h.1 g,zo h.2 (LA h.1 g)⟩
theorem DP{a b c d:Rat}(h1:a<=b)(h2:c<=d)(hb:0<=b)(hc:0<=c):a*c<=b*d:=by have g1:=zd h1 hc;have g2:=zl h2 hb;grind
theorem Ln.dot{n:Nat}{f g:Nat->Rat}{s t:Rat}(h:Ln n f s)(k:Ln n g t):Ab (sm n fun i=>f i*g i) (s*t):=by refine Aah (ze h.1 k.1) ?_;have h1:=cs f g n;have h2:=DP h.2 k.2 (Ck s) (JI n g);grind
theorem Ln.congr{n:Nat}{f g:Nat->Rat}{s:Rat}(h:Ln n f s)(e:∀i,i<n->g i=f i):Ln n g s:=by
 refine⟨h.1,?_⟩;have:sq n g=sq n f:=BY n fun i hi=>by rw[e i hi]
 rw[this]; exact h.2
theorem Ln.add{n:Nat}{f g:Nat->Rat}{s t:Rat}(h:Ln n f s)(k:Ln n g t):Ln n (fun i=>f i+g i) (s+t):=by
 have h0:=h.1;have k0:=k.1;refine⟨by grind,?_⟩
 have e:sq n (fun i=>f i+g i)=sq n f+(2*sm n (fun i=>f i*g i)+sq n g):=by unfold sq;rw[<- Fq,<- Gn,<- Gn];exact BY n fun i _=>by grind
 have d:=(h.dot k).2;have h2:=h.2;have k2:=k.2;rw[e];grind
theorem Ln.scale{n:Nat}{f:Nat->Rat}{s c B:Rat}(h:Ln n f s)(hc:Ab c B):Ln n (fun i=>c*f i) (B*s):=by
 have hB:=hc.nn;refine⟨ze hB h.1,?_⟩
 have e:sq n (fun i=>c*f i)=c*c*sq n f:=by unfold sq;rw[<- Fq];exact BY n fun i _=>by grind
 have c2:c*c<=B*B:=by
  unfold Ab at hc;rcases(yV:(0:Rat)<=c\/c<=0) with g | g
  ·exact LA g hc.2
  ·have:=LA (x:=-c) (y:=B) (by grind) (by grind);grind
 have:=DP c2 h.2 (Ck B) (JI n f);rw[e];grind
theorem Ln.neg{n:Nat}{f:Nat->Rat}{s:Rat}(h:Ln n f s):Ln n (fun i=>-f i) s:=by
 refine⟨h.1,?_⟩;have e:sq n (fun i=>-f i)=sq n f:=BY n fun i _=>by grind
 rw[e]; exact h.2
theorem Ln.sub{n:Nat}{f g:Nat->Rat}{s t:Rat}(h:Ln n f s)(k:Ln n g t):Ln n (fun i=>f i-g i) (s+t) :=(h.add k.neg).congr fun i _=>by grind
theorem SP{n k:Nat}{f:Nat->Rat}(hk:k<n)(h:∀i,i<n->0<=f i):f k<=sm n f:=by
 induction n with
 | zero=>omega
 | succ n ih =>
   unfold sm;by_cases e:k=n
   ·subst e;have:=Mn k fun i hi=>h i (by omega)
    grind
   ·have h1:=ih (by omega) fun i hi=>h i (by omega)
    have h2:=h n (by omega);grind
theorem Ln.at{n k:Nat}{f:Nat->Rat}{s:Rat}(h:Ln n f s)(hk:k<n):Ab (f k) s:=by refine Aah h.1 (zo ?_ h.2);exact SP (f:=fun i=>f i*f i) hk fun i _=>Ck (f i)
theorem Ln.zero(n:Nat):Ln n (fun _=>0) 0:=by
 refine⟨zY,?_⟩
 have:sq n (fun _=>0)=0:=by unfold sq;have:=HC n;rw[<- this];exact BY n fun i _=>by grind
 rw[this]; grind
theorem KU(n:Nat)(c:Rat):sm n (fun _=>c)=(n:Rat)*c:=by
 induction n with
 | zero =>have z:((0:Nat):Rat)=0:=rfl;rw[z]; unfold sm; grind
 | succ n ih =>have e:((n+1:Nat):Rat)=(n:Rat)+1:=yz n 1;unfold sm;rw[ih,e]; grind
theorem Ln.Kd{n:Nat}{f:Nat->Rat}{B:Rat}(hB:0<=B)(h:∀i,i<n->Ab (f i) B)(h9:n<=9):Ln n f (3*B):=by
 refine⟨by grind,?_⟩
 have h1:sq n f<=sm n (fun _=>B*B):=NM n fun i hi=>by
  have:=h i hi;unfold Ab at this;rcases(yV:(0:Rat)<=f i\/f i<=0) with g | g
  ·exact LA g this.2
  ·have:=LA (x:=-f i) (y:=B) (by grind) (by grind);grind
 rw[KU] at h1;have h2:(n:Rat)<=9:=CR h9;have:=zd h2 (Ck B);grind
open Go.Den
theorem Sv:∀{l:Bb},CX l≠wg->∃x∈l,B8 x≠0
 | [],h=>absurd rfl h
 | x::l,h=>by
   by_cases k:B8 x=0
   ·have:CX l≠wg:=fun e=>h (by unfold CX at e ⊢; rw[List.all_cons,e,Ac k]; rfl)
    obtain⟨y,hy,g⟩:=Sv this;exact⟨y,AJ _ hy,g⟩
   ·exact⟨x,AU,k⟩
theorem AhH{b:Nat}(h:b<Dk):Bj b≠3/\Bj b≠4/\b%2^63=b:=by
 have hi:=Eg;have h3:b%2^63=b:=by omega
 have hr:=LC b;have hf:=Ir b;rcases Gr b with ⟨p,_,_⟩ | ⟨p,_,_⟩ | ⟨_,p,q⟩
 ·exfalso; rw[p] at hr; omega
 ·exfalso; rw[p] at hr; omega
 ·exact⟨p,q,h3⟩
theorem Rf:∀(l:Bb) (m:Nat),(∀z∈l,CO z=wg)->m<Dk->It l m<Dk
 | [],_,_,h=>h
 | z::l,m,hl,hm=>by have zk:=F2 (show F9 z.toNat=wg from hl z AU);rw[MC zk.1];refine Rf l _ (fun w hw=>hl w (AJ _ hw)) ?_;have hz:CV z.toNat<Dk:=MW zk.2 zk.1;omega
theorem Jf{l:Bb}(h:Dc l=wg):∀z∈l,CO z=wg:=zE.1 h
theorem Rg{x:Bb}(hf:Dc x=wg):Bj (BA x).toNat≠3/\Bj (BA x).toNat≠4/\CV (BA x).toNat=(BA x).toNat/\∀z∈x,CV z.toNat<=CV (BA x).toNat:=by
 have eb:(BA x).toNat=It x 0:=Ad _;have hl:=Rf x 0 (Jf hf) (by rw[Eg]; omega);obtain⟨h1,h2,h3⟩:=AhH hl;have hN:It x 0≠Jt:=fun e=>by rw[e,Eg,Gq] at hl; omega
 rw[eb];refine⟨h1,h2,h3,fun z hz=>?_⟩;show _<=It x 0%2^63;rw[h3];rcases AbK x 0 with g | ⟨_,g⟩
 ·exact absurd g hN
 ·exact g z hz
theorem Re{x:Bb}(hf:Dc x=wg)(h:∃z∈x,B8 z≠0):∃z∈x,Bj z.toNat≠0/\(BA x).toNat=CV z.toNat:=by
 have eb:(BA x).toNat=It x 0:=Ad _;have hl:=Rf x 0 (Jf hf) (by rw[Eg]; omega);rcases UU h with e | ⟨z,hz,_,k0,e⟩
 ·exfalso; rw[e,Eg,Gq] at hl; omega
 ·exact⟨z,hz,k0,eb.trans e⟩
theorem Bl.Is{k:Nat}{l:Bb}(h:Bl k l):Dc l=wg:=zE.2 fun x hx=>(h x hx).fin
theorem N7{x:Int}(h:CO x=wg):Bj x.toNat≠3/\Bj x.toNat≠4:=⟨(F2 (show F9 x.toNat=wg from h)).2,(F2 (show F9 x.toNat=wg from h)).1⟩
theorem DD(x n:Int):(BP x n).toNat=(Co x.toNat n).1:=Ad _
theorem NO{x:Bb}(hf:Dc x=wg):Bl 1 (BM x (-BK (BA x))):=fun y hy=>by obtain⟨z,hz,rfl⟩:=zu.1 hy;obtain⟨b3,b4,_,hb⟩:=Rg hf;have zk:=N7 (Jf hf z hz);rw[DD];exact Bd.down zk.1 zk.2 b3 b4 (hb z hz)
theorem VF{x:Bb}(hf:Dc x=wg)(h:∃z∈x,B8 z≠0):∃y∈BM x (-BK (BA x)),pw 0<=y.toNat%2^63:=by
 obtain⟨z,hz,k0,e⟩:=Re hf h;have zk:=N7 (Jf hf z hz);refine⟨BP z (-BK (BA x)),zu.2 ⟨z,hz,rfl⟩,?_⟩;have ee:BK (BA x)=Ea z.toNat:=by unfold BK; rw[e,Ni z.toNat]; rfl
 rw[DD,ee];exact KV zk.1 zk.2 k0
theorem Aa2{k:Int}(hk:k<=0):∀(l:Bb) (s t:Nat),Bl 1 l->Bm t 2 s->0<t->t+l.length<=1000->Bm (t+l.length) 2 (JH k (s:Int) l).toNat
 | [],s,t,_,hs,_,_=>by show Bm t 2 (wz (s:Int));rw[Ad]; exact hs
 | x::l,s,t,hl,hs,h0,ht=>by simp only[zt] at ht ⊢;have h1:Bd 1 (Co x.toNat k).1:=Bd.scale (by decide) (hl x AU) (by omega);have h2:Bd 2 (EA (Co x.toNat k).1 (Co x.toNat k).1).1:=Bd.mul (j:=1) (k:=1) (by decide) h1 h1;have h3:=Bm.add (k:=2) (by omega) (by omega) (by decide) hs h2.bm;have:=Aa2 hk l _ (t+1) (fun z hz=>hl z (AJ _ hz)) h3 (by omega) (by omega);rw[show t+(l.length+1)=t+1+l.length by omega];unfold JH EN CN;rw[DD,Ad,Ad];exact this
theorem Ac6{y:Bb}(hy:Bl 1 y)(hl:y.length<=7)(h:∃z∈y,pw 0<=z.toNat%2^63):Bd 4 (CB y).toNat/\Yv (CB y).toNat:=by
 have hf:=hy.Is
 have h0:∃z∈y,B8 z≠0:=by obtain⟨z,hz,g⟩:=h;refine⟨z,hz,fun k=>?_⟩;have:=FJ (b:=z.toNat) (by unfold B8 at k; omega);rw[TM] at g; omega
 obtain⟨b3,b4,ba,hb⟩:=Rg hf
 have hB:pw 0<=CV (BA y).toNat:=by obtain⟨z,hz,g⟩:=h;exact AL g (hb z hz)
 obtain⟨w,hw,w0,we⟩:=Re hf h0;have wk:=N7 (Jf hf w hw);have ee:BK (BA y)=Ea w.toNat:=by unfold BK; rw[we,Ni w.toNat]; rfl
 obtain⟨x1,_⟩:=Nd wk.1 wk.2 w0;have wm:Bs w.toNat≠0:=fun e=>w0 ((Dd wk.1 wk.2).1 e)
 have u1:=(hy w hw).log wm
 have u2:=(Lo.TU (a:=w.toNat) wk.1 wk.2 (by rw[we] at hB;show pw 0<=CV w.toNat;unfold CV at hB ⊢; omega)).log
 have e0:0<=Ea w.toNat/\Ea w.toNat<=1:=by omega
 unfold CB
 rw[Ay (fun k=>by
  rcases k with k | k
  ·rw[k] at hB; rw[TM] at hB; revert hB; decide
  ·unfold CO at k; rw[Hh] at k; simp[b3,b4] at k)]
 rw[ee];obtain⟨t,te,t1,t2⟩:=WW (-Ea w.toNat) y 0 (zF _);have tb:=t2 (.inr ⟨w,hw,by rw[DD]; exact KV wk.1 wk.2 w0⟩);have te:JH (-Ea w.toNat) 0 y=t:=te;have bm:=Aa2 (k:=-Ea w.toNat) (by omega) y 0 1 hy (Bd.zero wy 2).bm (by decide) (by omega);have bm:Bm (1+y.length) 2 (JH (-Ea w.toNat) 0 y).toNat:=bm;rw[te,Ad] at bm;rw[te];have bt:Bd (3+3) t:=(bm.bd (j:=3) (by omega)).mono (by decide);have br:Bd 3 (Gu t).1:=Bd.root (by decide) bt (Jv tb.2);have rb:=YR tb;rw[DD];unfold ET;rw[Ad,Ad];refine⟨Bd.scale (by decide) br (by omega),?_⟩
 have k0:Bj (Gu t).1≠0:=fun e=>by have:=FJ e;have h1:=rb.1; have h2:=rb.2;rw[Gq] at h2; rw[TM] at h1; omega
 rw[He br.2.1 (by have:=br.1; omega),Jv rb.2,Fx];have hm:(Gu t).1%2^63=(Gu t).1:=by have:=rb.2; rw[Gq] at this; omega
 obtain⟨p1,p2⟩:=KP (z:=(Gu t).1) (by rw[hm]; exact rb.1);exact⟨JL (a:=52) p1 (by omega),LH _ _⟩
theorem VZ{x:Bb}(hf:Dc x=wg)(hl:x.length<=7)(h:∃z∈x,B8 z≠0):Bd 4 (Jn x).toNat/\Lo 0 (Jn x).toNat/\pw 0<=CV (Jn x).toNat/\BE (D5 (Jn x).toNat)=DI (IK x):=by
 obtain⟨n1,n2⟩:=Ac6 (NO hf) (by unfold BM; rw[AK]; exact hl) (VF hf h);have nl:(CB (BM x (-BK (BA x)))).toNat<2^63:=by have:=n2.2; rw[Gq] at this; omega
 have na:pw 0<=CV (CB (BM x (-BK (BA x)))).toNat:=by unfold CV; rw[Ao nl]; exact n2.1
 unfold Jn;split
 ·rename_i hn;refine⟨n1,.TU n1.1 n1.2.1 na,na,?_⟩;rw[(H2 (by omega)).1,Jv n2.2,hn]; rfl
 ·rename_i hn;have eq:(CM (CB (BM x (-BK (BA x))))).toNat=D5 (CB (BM x (-BK (BA x)))).toNat:=Ad _;rw[eq];have hb:=Ug (by omega) n1
  have ha:pw 0<=CV (D5 (CB (BM x (-BK (BA x)))).toNat):=by unfold CV at na ⊢; rw[PL nl]; omega
  refine⟨hb,.TU hb.1 hb.2.1 ha,ha,?_⟩;rw[(H2 (Uh (by omega))).1,(H2 (by omega)).1,Jv n2.2];cases hh:DI (IK x)
  ·rfl
  ·exact absurd hh hn
theorem Ak9{a b:Nat}(a3:Bj a≠3)(a4:Bj a≠4)(b3:Bj b≠3)(b4:Bj b≠4)(hs:BE a=BE b\/Bs a=0)(h:pw 0<=CV b):pw 0<=CV (Em a b).1:=by
 have pa:=C4 a;have pb:=C4 b;have ek:=Tj a3 a4 b3 b4 (g:=-1074) (by omega)
 have hS:ES b (-1074)<=(DT a (-1074)+DT b (-1074)).natAbs:=by
  unfold ES DT;rcases hs with hs | hs
  ·rw[hs]; unfold FX; split<;>omega
  ·rw[hs,Nat.zero_mul]; unfold FX; split<;>split<;>omega
 have hr:=Fj (E:=-1074) hS;rw[JN b4 (by omega)] at hr;have hn:(F1 (Em a b).1).natAbs=CV (Em a b).1:=by unfold F1; rw[SS]; rfl
 rw[<- hn,ek];unfold CV at h;unfold Vg;split<;>omega
theorem OC{a:Nat}{n:Int}(k4:Bj a≠4):BE (Co a n).1=BE a:=by
 by_cases k:Bj a=3\/Bj a=0
 ·unfold Co; rw[Ay k4,Az k]
 ·rw[He k4 k];exact sign_neg _ (HD _ _)
theorem Zt{x:Bb}(hf:Dc x=wg)(ax:Bg x=wg)(hl:x.length<=7)(h:∃z∈x,B8 z≠0):Lo 0 (CA (DU x) (Jn x)).toNat/\Bd 5 (CA (Jn x) (DU x)).toNat:=by
 obtain⟨m1,m2,m3,m4⟩:=VZ hf hl h;have lm:=F4 (Zc x);have mb:=Ug lm m1;cases x with
 | nil=>obtain⟨z,hz,_⟩:=h; cases hz
 | cons a x =>
   have ak:=N7 (Jf hf a AU);have b1:Bd 1 (DU (a::x)).toNat:=NO hf _ (zu.2 ⟨a,AU,rfl⟩);have e1:(DU (a::x)).toNat=(Co a.toNat (-BK (BA (a::x)))).1:=DD _ _;have s1:(CA (DU (a::x)) (Jn (a::x))).toNat=(Em (DU (a::x)).toNat (D5 (Jn (a::x)).toNat)).1:=Ad _;have s2:(CA (Jn (a::x)) (DU (a::x))).toNat=(Rx (Jn (a::x)).toNat (DU (a::x)).toNat).1:=Ad _
   have am:pw 0<=CV (D5 (Jn (a::x)).toNat):=by
    have e:CV (D5 (Jn (a::x)).toNat)=CV (Jn (a::x)).toNat:=by unfold CV D5; split<;>omega
    rw[e]; exact m3
   have hsg:BE (DU (a::x)).toNat=BE (D5 (Jn (a::x)).toNat)\/Bs (DU (a::x)).toNat=0:=by
    by_cases k0:B8 a=0
    ·refine .inr ?_;rw[e1];have k0':Bj a.toNat=0:=by unfold B8 at k0; omega
     unfold Co;rw[Ay ak.2,Az (.inr k0')];exact(Dd ak.1 ak.2).2 k0'
    ·refine .inl ?_;rw[m4,e1,OC ak.2];unfold IK;rw[Ay k0];rfl
   have hfar:=Ak9 b1.1 b1.2.1 mb.1 mb.2.1 hsg am;have hbd:=Bd.add (k:=4) (by decide) (b1.mono (by decide)) mb;rw[s1,s2];have f64:(DU (a::x)).toNat<2^64:=F4 (FP (Gk ax 0));exact⟨.TU hbd.1 hbd.2.1 hfar,Bd.sub (k:=4) (by decide) f64 m1 (b1.mono (by decide))⟩
theorem SH(k:Nat):Bd k (wz 0):=Bd.zero wy k
theorem AgA(k:Nat):Bd k AgC.toNat:=by refine .mono (j:=0) ?_ (zF _);refine .LF (by decide) (by decide +kernel) ?_;rw[TM]; decide
theorem Agq{k n:Nat}{f:Nat->Int}(h:∀j,Bd k (f j).toNat):Bl k (Gc n f):=Ak0 (AgA k) (Sc fun j=>h _)
theorem LR(a b:Int):(El a b).toNat=(JW a.toNat b.toNat).1:=Ad _
theorem IZ(a b:Int):(CN a b).toNat=(EA a.toNat b.toNat).1:=Ad _
theorem MI(a b:Int):(CA a b).toNat=(Rx a.toNat b.toNat).1:=Ad _
theorem OX{x:Bb}(h:CX (x.drop 1)≠wg):∃z∈x,B8 z≠0:=by obtain⟨z,hz,g⟩:=Sv h;exact⟨z,List.mem_of_mem_drop hz,g⟩
theorem AhU{k:Nat}{x:Bb}(hx:Bl k x)(h:∃z∈x,B8 z≠0):BK (BA x)<=k:=by
 obtain⟨z,hz,k0,e⟩:=Re hx.Is h;have ee:BK (BA x)=Ea z.toNat:=by unfold BK; rw[e,Ni z.toNat]; rfl
 have b:=hx z hz;rw[ee,(Nd b.1 b.2.1 k0).1];exact b.log fun e=>k0 ((Dd b.1 b.2.1).1 e)
theorem AcC{k:Nat}{x:Bb}(hk:k+4<=1000)(hx:Bl k x)(ax:Bg x=wg)(hl:x.length<=7)(he:(BV x).2.2.2=0):Bl 1 (BV x).1/\Bd 5 (BV x).2.1.toNat/\Bd (k+4) (BV x).2.2.1.toNat:=by
 unfold BV at he ⊢;by_cases h1:x.length=0\/64<x.length
 ·rw[Az h1] at he; exact absurd he (by decide)
 rw[Ay h1] at he ⊢;have hf:=hx.Is;rw[Az hf] at he ⊢;unfold I2 at he ⊢;by_cases h3:CX (x.drop 1)=wg
 ·rw[Az h3];dsimp only;exact⟨Agq fun _=>SH 1,SH 5,(No hx 0).mono (by omega)⟩
 ·rw[Ay h3] at he ⊢;by_cases h4:CO (DK x)=wg
  ·rw[Az h4];dsimp only;have hs:=OX h3;obtain⟨m1,m2,m3,m4⟩:=VZ hf hl hs;obtain⟨f1,f2⟩:=Zt hf ax hl hs;have sb:=NO hf;refine⟨Agq fun j=>?_,?_,?_⟩
   ·rw[LR];refine Bd.div (j:=1) (t:=0) (by decide) ?_ f1;by_cases hj:j<x.length
    ·refine sb _ (zu.2 ⟨x.getD j 0,?_,rfl⟩);rw[Al,As hj]; exact ya hj
    ·rw[Al,AY (by omega)];rw[DD]
     have e:∀n:Int,(Co (wz 0) n).1=0:=fun n=>by unfold Co;rw[Ay (by decide),Az (.inr (by decide))]; rfl
     show Bd 1 (Co (wz 0) _).1;rw[e]; exact Bd.zero wy 1
   ·unfold Lw;rw[LR];exact Bd.div (j:=5) (t:=0) (by decide) f2 m2
   ·unfold DK;rw[DD];exact Bd.scale (by omega) m1 (by have:=AhU hx hs; omega)
  ·rw[Ay h4] at he; exact absurd he (by decide)
theorem JX{k:Nat}{c i j:Int}{l:Bb}(h:Bl k l):Bd k (Cc c l i j).toNat:=No h _
theorem T6{k:Nat}{c b i:Int}{n:Nat}{l:Bb}(h:Bl k l):Bl k (Cb c l b i n):=Sc fun _=>JX h
theorem Afm{k:Nat}{c i j t a b:Int}{l v:Bb}(hk:k+11<=1000)(h:Bl k l)(hv:Bl 1 v)(hl:v.length<=7)(ht:Bd 5 t.toNat):Bd (k+11) (FB c l i j v t a b).toNat:=by
 unfold FB;split
 ·rw[MI];refine Bd.sub (k:=k+10) (by omega) (F4 (Ft _ _)) ((JX h).mono (by omega)) ?_;rw[IZ]
  have h1:Bd (k+9) (HB c l i v t b).toNat:=by unfold HB;rw[IZ];have:=XZ (j:=1) (k:=k) (by omega) hv (T6 (c:=c) (b:=b) (i:=i) (n:=v.length) h) hl;exact(Bd.mul (by omega) ht this).mono (by omega)
  exact Bd.mul (j:=k+9) (k:=1) (by omega) h1 (No hv _)
 ·exact(JX h).mono (by omega)
theorem W8{k:Nat}{r c:Nat}{i j t:Int}{l v:Bb}(hk:k+11<=1000)(h:Bl k l)(hv:Bl 1 v)(hl:v.length<=7)(ht:Bd 5 t.toNat):Bl (k+11) (Eh r c l i j v t):=Yf fun _ _=>Afm hk h hv hl ht
theorem XC{k:Nat}{r c j:Nat}{l:Bb}(hk:k+11<=1000)(h:Bl k l)(al:Bg l=wg)(hr:r<=7)(he:(BV (CT r c l j)).2.2.2=0):Bl (k+11) (Kg r c l j)/\Bl 1 (BV (CT r c l j)).1/\Bd 5 (BV (CT r c l j)).2.1.toNat/\(BV (CT r c l j)).1.length<=7:=by
 have hlen:(CT r c l j).length<=7:=by unfold CT; rw[FF]; omega
 obtain⟨m1,m2,m3⟩:=AcC (by omega) (show Bl k (CT r c l j) from T6 h) (HU al) hlen he;have ml:=Ld he;refine⟨?_,m1,m2,by omega⟩;unfold Kg H9;refine Yf fun a b=>?_
 split
 ·split
  ·exact m3.mono (by omega)
  ·exact SH _
 ·exact JX (W8 hk h m1 (by omega) m2)
def MB(ms:List (Bb × Int)):Prop:=∀m∈ms,Bl 1 m.1/\Bd 5 m.2.toNat/\m.1.length<=7
theorem UL{r c:Nat}(hr:r<=7):∀(n j k:Nat) (l:Bb) (x:Bb × List (Bb × Int)),Bl k l->Bg l=wg->k+11*n<=1000->FZ r c n j l=xM x->Bl (k+11*n) x.1/\MB x.2/\x.2.length=n
 | 0,j,k,l,x,hl,_,_,h=>by cases h;exact⟨hl,(fun m hm=>by cases hm),rfl⟩
 | n+1,j,k,l,x,hl,al,hk,h=>by
   unfold FZ at h;by_cases h1:(BV (CT r c l j)).2.2.2=0
   ·rw[Az h1,xv] at h;obtain⟨y,hy,rfl⟩:=h;obtain⟨b1,b2,b3,b4⟩:=XC (by omega) hl al hr h1;obtain⟨a1,a2,a3⟩:=UL hr n (j+1) (k+11) _ y b1 (LL al j) (by omega) hy;refine⟨a1.mono (by omega),fun m hm=>?_,by rw[zt,a3]⟩;rcases List.mem_cons.1 hm with rfl | hm
    ·exact⟨b2,b3,b4⟩
    ·exact a2 m hm
   ·rw[Ay h1] at h; cases h
theorem UZ{n:Nat}:∀(ms:List (Bb × Int)) (j k:Nat) (q:Bb),MB ms->Bl k q->k+11*ms.length<=1000->Bl (k+11*ms.length) (Fo n j ms q)
 | [],_,_,_,_,h,_=>h
 | m::ms,j,k,q,hm,h,hk=>by simp only[zt] at hk ⊢;obtain⟨m1,m2,m3⟩:=hm m AU;have ih:=UZ (n:=n) ms (j+1) k q (fun w hw=>hm w (AJ _ hw)) h (by omega);unfold Fo;exact(W8 (by omega) ih m1 m3 m2).mono (by omega)
theorem AcV(n:Nat):Bl 0 (Fe n):=Yf fun i k=>by
 unfold Hc;split
 ·exact AgA 0
 ·exact SH 0
theorem Lo.OH{t V a:Nat}{E:Int}(s:Bool)(ht:t<=1000)(h:2^a<=V)(g:-(t:Int)<=a+E)(k3:Bj (BG s (Cj V E))≠3):Lo t (BG s (Cj V E)):=by
 have e1:=(CZ 1 (1074-t) (-(t:Int))).1;rw[zA,show -(t:Int)-((1074-t:Nat):Int)=-1074 by omega] at e1;have h1:=XK (b:=1074-t) (E:=E) h (by omega);rw[e1] at h1;have hu:Cj 1 (-(t:Int))<=pw 0:=SU (u:=0) (by decide) (by decide) (by omega);have hi:Cj 1 (-(t:Int))<Dk:=AG hu (Mp (by decide)).2.2.2.2;obtain⟨_,d,p1,p2⟩:=PU wy (V:=1) (E:=-(t:Int)) (by decide) (Oc (by decide) (by omega)) hi;rw[Fx] at p1 p2;obtain⟨q3,q4,_⟩:=AhH hi;have lo:Lo t (Cj 1 (-(t:Int))):=⟨q3,q4,by rw[p1,zA]; exact Nat.ne_of_gt (Cs d),by rw[p1,p2,zA,Nat.log2_two_pow]; omega⟩
 refine lo.AaR k3 (M5 s V E) ?_;have l1:=HD 1 (-(t:Int));have l2:=HD V E;unfold CV BG;split<;>omega
theorem Lo.scale{t a:Nat}{n:Int}{u:Nat}(hu:u<=1000)(h:Lo t a)(g:(t:Int)-n<=u)(k3:Bj (Co a n).1≠3):Lo u (Co a n).1:=by have:=h.k0; have:=h.k3;rw[He h.k4 (by omega)] at k3 ⊢;exact .OH _ hu (Nat.log2_self_le h.m0) (by have:=h.log; omega) k3
def TL(t:Nat)(l:Bb):Prop:=∀x∈l,B8 x≠0->Lo t x.toNat
theorem AjD{t:Nat}{x:Bb}(ht:t<=1000)(hx:TL t x)(hl:x.length<=7)(he:(BV x).2.2.2=0)(h0:B8 (BV x).2.2.1≠0):Lo t (BV x).2.2.1.toNat:=by
 unfold BV at he h0 ⊢;by_cases h1:x.length=0\/64<x.length
 ·rw[Az h1] at he; exact absurd he (by decide)
 rw[Ay h1] at he h0 ⊢;by_cases hf':¬(Dc x=wg)
 ·rw[Ay hf'] at he; exact absurd he (by decide)
 have hf:=wY.1 hf';rw[Az hf] at he h0 ⊢;unfold I2 at he h0 ⊢;by_cases h3:CX (x.drop 1)=wg
 ·rw[Az h3] at h0 ⊢;dsimp only at h0 ⊢;refine hx _ ?_ h0;rw[Al,As (by omega)]; exact ya (by omega)
 ·rw[Ay h3] at he h0 ⊢;by_cases h4:CO (DK x)=wg
  ·rw[Az h4] at h0 ⊢;dsimp only at h0 ⊢;have hs:=OX h3;obtain⟨m1,m2,m3,m4⟩:=VZ hf hl hs;obtain⟨z,hz,k0,e⟩:=Re hf hs;have ee:BK (BA x)=Ea z.toNat:=by unfold BK; rw[e,Ni z.toNat]; rfl
   have lz:=hx z hz (fun k=>k0 (by unfold B8 at k; omega));have x1:=(Nd lz.k3 lz.k4 k0).1;have x2:=lz.log;have b3:=(N7 h4).1;unfold DK at b3 ⊢;rw[DD] at b3 ⊢;exact m2.scale ht (by omega) b3
  ·rw[Ay h4] at he; exact absurd he (by decide)
theorem Ze{r c j:Nat}{l:Bb}(hj:0<j)(hr:0<r)(hc:0<c):Cc (c:Int) (Kg r c l j) 0 0=Cc (c:Int) l 0 0:=by unfold Kg H9;have e:=G2 (r:=r) (c:=c) (i:=0) (k:=0) (f:=fun a b=>if b=j/\j<=a then (if a=j then (BV (CT r c l j)).2.2.1 else 0) else Cc (c:Int) (Eh r c l (j:Int) (j:Int) (BV (CT r c l j)).1 (BV (CT r c l j)).2.1) (a:Int) (b:Int)) hr hc;refine Eq.trans e ?_;rw[Ay (by omega)];unfold Eh;refine(G2 (r:=r) (c:=c) (i:=0) (k:=0) hr hc).trans ?_;unfold FB;rw[Ay (by omega)];rfl
theorem QY{r c:Nat}(hr:0<r)(hc:0<c):∀(n j:Nat) (l:Bb) (x:Bb × List (Bb × Int)),0<j->FZ r c n j l=xM x->Cc (c:Int) x.1 0 0=Cc (c:Int) l 0 0
 | 0,_,_,_,_,h=>by cases h; rfl
 | n+1,j,l,x,hj,h=>by
   unfold FZ at h;by_cases h1:(BV (CT r c l j)).2.2.2=0
   ·rw[Az h1,xv] at h;obtain⟨y,hy,rfl⟩:=h;exact(QY hr hc n (j+1) _ y (by omega) hy).trans (Ze hj hr hc)
   ·rw[Ay h1] at h; cases h
theorem at_mem{c:Int}{i j:Int}{l:Bb}(h:B8 (Cc c l i j)≠0):Cc c l i j∈l:=by
 unfold Cc at h ⊢;by_cases hj:(i*c+j).toNat<l.length
 ·rw[Al,As hj]; exact ya hj
 ·exfalso;rw[Al,AY (by omega)] at h;exact h (by decide)
theorem AlA{t:Nat}{c b i:Int}{n:Nat}{l:Bb}(h:TL t l):TL t (Cb c l b i n):=fun x hx k=>by obtain⟨j,_,rfl⟩:=zu.1 hx;exact h _ (at_mem k) k
theorem Ab3{r c t:Nat}{l:Bb}(ht:t<=1000)(hr:0<r)(hc:0<c)(r7:r<=7)(h:TL t l)(h0:B8 (Cc (c:Int) (Fc r c l) 0 0)≠0):Lo t (Cc (c:Int) (Fc r c l) 0 0).toNat:=by
 unfold Fc at h0 ⊢;cases hd:Gw r c l with
 | none=>rw[hd] at h0; exact absurd (at_mem h0) (fun h=>by cases h)
 | some x =>
   rw[hd] at h0;dsimp only at h0 ⊢;unfold Gw at hd;cases hn:Er r c with
   | zero =>rw[hn] at hd;cases hd;exact h _ (at_mem h0) h0
   | succ n =>
     rw[hn] at hd;unfold FZ at hd;by_cases h1:(BV (CT r c l 0)).2.2.2=0
     ·rw[Az h1,xv] at hd;obtain⟨y,hy,rfl⟩:=hd;have e1:=QY hr hc n 1 _ y (by decide) hy
      have e2:Cc (c:Int) (Kg r c l 0) 0 0=(BV (CT r c l 0)).2.2.1:=by unfold Kg H9;refine(G2 (r:=r) (c:=c) (i:=0) (k:=0) hr hc).trans ?_;rw[Az ⟨rfl,A7 _⟩,Az rfl]
      have e3:Cc (c:Int) y.1 0 0=(BV (CT r c l 0)).2.2.1:=e1.trans e2;dsimp only at h0 ⊢;rw[e3] at h0 ⊢;refine AjD ht (AlA h) ?_ h1 h0;unfold CT; rw[FF]; omega
     ·rw[Ay h1] at hd; cases hd
theorem Akr{c n:Nat}{l:Bb}{t:Nat}(ht:t<=900)(fl:Dc l=wg)(hn:0<n)(h0:Lo t (Cc (c:Int) l 0 0).toNat)(hd:P2 (DA (c:Int) l n)=wy):∀i,i<n->Lo (t+40) (Cc (c:Int) l (i:Int) (i:Int)).toNat:=by
 intro i hi
 have fin_a:∀i:Nat,Bj (Cc (c:Int) l (i:Int) (i:Int)).toNat≠3/\Bj (Cc (c:Int) l (i:Int) (i:Int)).toNat≠4:=fun i=>by
  by_cases k:B8 (Cc (c:Int) l (i:Int) (i:Int))=0
  ·unfold B8 at k; omega
  ·exact N7 (Jf fl _ (at_mem k))
 have hdf:Dc (DA (c:Int) l n)=wg:=zE.2 fun x hx=>by obtain⟨j,_,rfl⟩:=zu.1 hx;have k:=fin_a j;show F9 (wz ((CV _:Nat):Int))=wg;rw[Ad,Hh,KM];simp[k.1,k.2]
 obtain⟨b3,b4,ba,hb⟩:=Rg hdf;have hmem:∀i:Nat,i<n->Gf (Cc (c:Int) l (i:Int) (i:Int))∈DA (c:Int) l n:=fun i hi=>zu.2 ⟨i,List.mem_range.2 hi,rfl⟩
 have em:∀x:Int,CV (Gf x).toNat=CV x.toNat:=fun x=>by show CV (wz ((CV _:Nat):Int))=_;rw[Ad]; unfold CV; omega
 have lB:Lo t (BA (DA (c:Int) l n)).toNat:=by refine h0.AaR b3 b4 ?_;have:=hb _ (hmem 0 hn);rw[em] at this;exact this
 have hs:=List.any_eq_false.1 hd _ (hmem i hi);simp only[Bool.not_eq_true',Bool.not_eq_false,Ai,Bool.not_eq_true,Av] at hs
 have hs:Ma (BP (BA (DA (c:Int) l n)) (-40)) (Gf (Cc (c:Int) l (i:Int) (i:Int)))<0:=by
  rcases Int.lt_or_le (Ma (BP (BA (DA (c:Int) l n)) (-40)) (Gf (Cc (c:Int) l (i:Int) (i:Int)))) 0 with h | h
  ·exact h
  ·exact absurd h (by simpa using hs)
 have kb:Bd 1023 (BA (DA (c:Int) l n)).toNat\/True:=.inr trivial;have hsc:=DD (BA (DA (c:Int) l n)) (-40)
 have nB:BE (BA (DA (c:Int) l n)).toNat=wy:=by unfold BE;refine Ag ?_;unfold CV at ba; omega
 have lS:Lo (t+40) (BP (BA (DA (c:Int) l n)) (-40)).toNat:=by rw[hsc];refine lB.scale (by omega) (by omega) ?_;rw[He b4 (by have:=lB.k0; omega)];intro k;have k2:=LN k;have l2:=HD (Bs (BA (DA (c:Int) l n)).toNat) (By (BA (DA (c:Int) l n)).toNat+-40);rw[nB,Fx,Ao l2] at k2;have r1:=KG (b:=(BA (DA (c:Int) l n)).toNat) b4;have r2:=(CZ (Bs (BA (DA (c:Int) l n)).toNat) 40 (By (BA (DA (c:Int) l n)).toNat)).1;have r3:=Fj (V:=Bs (BA (DA (c:Int) l n)).toNat) (W:=Bs (BA (DA (c:Int) l n)).toNat*2^40) (E:=By (BA (DA (c:Int) l n)).toNat-(40:Nat)) (Nat.le_mul_of_pos_right _ (by decide));rw[r2,r1] at r3;have k3:=MW b3 b4;have:Cj (Bs (BA (DA (c:Int) l n)).toNat) (By (BA (DA (c:Int) l n)).toNat-(40:Nat))=Dk:=k2;omega
 have ki:=fin_a i;refine lS.AaR ki.1 ki.2 ?_;unfold Ma Vo at hs;split at hs
 ·omega
 ·rename_i hk;split at hs
  ·rename_i hlt;have e2:(Gf (Cc (c:Int) l (i:Int) (i:Int))).toNat=CV (Cc (c:Int) l (i:Int) (i:Int)).toNat:=Ad _;rw[e2] at hlt;have n2:BE (CV (Cc (c:Int) l (i:Int) (i:Int)).toNat)=wy:=Ag (by unfold CV; omega);have n1:BE (BP (BA (DA (c:Int) l n)) (-40)).toNat=wy:=by rw[hsc,OC b4,nB]
   unfold F1 at hlt;rw[n1,n2] at hlt;have hlt:(((BP (BA (DA (c:Int) l n)) (-40)).toNat%2^63:Nat):Int)<((CV (Cc (c:Int) l (i:Int) (i:Int)).toNat%2^63:Nat):Int):=hlt;unfold CV at hlt ⊢;omega
  ·split at hs<;>omega
theorem AiX{k:Nat}{l:Bb}(h:JG l (k:Int)=wg):TL k l:=fun x hx k0=>by
 have hx:=(zE.1 h) x hx;unfold VC at hx;rw[Am,Bool.or_eq_true,Am,Ai,Ai,Ai] at hx;obtain⟨hf,hx⟩:=hx;have kk:=N7 hf;have kn:Bj x.toNat≠0:=fun e=>k0 (by unfold B8; omega)
 rcases hx with hx | ⟨hx,_⟩
 ·exact absurd hx k0
 ·unfold BK Ea at hx;rw[Az ⟨hf,kn⟩] at hx;exact⟨kk.1,kk.2,fun e=>kn ((Dd kk.1 kk.2).1 e),hx⟩
theorem Io(f:Nat->Rat):∀n,sm (n+1) f=f 0+sm n (fun i=>f (i+1))
 | 0=>by show(0:Rat)+f 0=f 0+0;grind
 | n+1=>by
   show sm (n+1) f+f (n+1)=f 0+(sm n (fun i=>f (i+1))+f (n+1))
   rw[Io f n]; grind
theorem Gb:uR<=1 / 1000000:=by decide +kernel
theorem AfV{c t q T z t' u e:Rat}(hc:0<=c)(hc2:c<=20)(hT:0<=T)(hz:0<=z)(hu:0<u)(hu2:u<=1 / 1000000)(he:0<e)
 (h1:Nr t T (3*c*u*T+2*c*e)) (h2:Nr q z (u*z+e)) (h3:Nr t' (t+q) (u*(T+3*c*u*T+2*c*e+(z+(u*z+e))))):
 Nr t' (T+z) (3*(c+1)*u*(T+z)+2*(c+1)*e):=by
 have a0:=ze (zc hu) hT;have b0:=ze (zc hu) hz
 have c1:3*c*u<=1:=by have:=zd hc2 (zc hu);grind
 have k1:=zd c1 a0;have k2:=zd (show u<=1 by grind) b0
 have c3:(2*c+1)*u<=1:=by have:=zd hc2 (zc hu);grind
 have k3:=zd c3 (zc he);have k4:=ze hc b0;unfold Nr at *
 grind
def zR(k x:Int):Rat:=vR (Co x.toNat k).1
theorem Ack{k:Int}(hk:k<=0):∀(l:Bb) (s t:Nat) (T c:Rat),Bl 1 l->Bm t 2 s->0<t->t+l.length<=100->0<=T->0<=c->c+(l.length:Rat)<=20->Nr (vR s) T (3*c*uR*T+2*c*Cv) ->
 Nr (vR (JH k (s:Int) l).toNat) (T+sm l.length (fun j=>zR k (l.getD j 0)*zR k (l.getD j 0))) (3*(c+(l.length:Rat))*uR*(T+sm l.length (fun j=>zR k (l.getD j 0)*zR k (l.getD j 0)))+2*(c+(l.length:Rat))*Cv)
 | [],s,t,T,c,_,_,_,_,_,_,_,h=>by have z:((([]:Bb).length:Nat):Rat)=0:=rfl;have e:sm ([]:Bb).length (fun j=>zR k (([]:Bb).getD j 0)*zR k (([]:Bb).getD j 0))=0:=rfl;rw[z,e,xh,xh];show Nr (vR (wz (s:Int))) T _;rw[Ad];exact h
 | x::l,s,t,T,c,hl,hs,h0,ht,hT,hc,hc2,h=>by
   have el:(((x::l).length:Nat):Rat)=(l.length:Rat)+1:=by rw[zt]; exact yz _ 1
   simp only[zt] at ht;rw[el] at hc2 ⊢;have hln:=Jw l.length;have b1:Bd 1 (Co x.toNat k).1:=Bd.scale (by decide) (hl x AU) (by omega);have b2:Bd 2 (EA (Co x.toNat k).1 (Co x.toNat k).1).1:=Bd.mul (j:=1) (k:=1) (by decide) b1 b1;have b3:=Bm.add (k:=2) (by omega) (by omega) (by decide) hs b2.bm;have zz:=Ck (vR (Co x.toNat k).1);have m1:=OJ b1.1 b1.2.1 b1.1 b1.2.1 b2.1 (B:=vR (Co x.toNat k).1*vR (Co x.toNat k).1) (by unfold Ab; grind);have u0:=E5;have e0:=Ek
   have m2:=Tk hs.1 hs.2.1 b2.1 b2.2.1 b3.1 (B:=T+3*c*uR*T+2*c*Cv+(vR (Co x.toNat k).1*vR (Co x.toNat k).1+(uR*(vR (Co x.toNat k).1*vR (Co x.toNat k).1)+Cv))) (by have n1:=h.1;have n2:=h.2;have n3:=m1.1;have n4:=m1.2;have n5:=ze (zc u0) zz;have n6:=ze hc (ze (zc u0) hT);have n7:=ze hc (zc e0);unfold Ab;grind)
   have st:=AfV hc (by grind) hT zz u0 Gb e0 h m1 m2;have ih:=Ack hk l _ (t+1) (T+vR (Co x.toNat k).1*vR (Co x.toNat k).1) (c+1) (fun z hz=>hl z (AJ _ hz)) b3 (by omega) (by omega) (by grind) (by grind) (by grind) st
   have es:sm (x::l).length (fun j=>zR k ((x::l).getD j 0)*zR k ((x::l).getD j 0))=vR (Co x.toNat k).1*vR (Co x.toNat k).1+sm l.length (fun j=>zR k (l.getD j 0)*zR k (l.getD j 0)):=by rw[zt,Io];rfl
   have eq:(JH k (s:Int) (x::l)).toNat=(JH k ((Em s (EA (Co x.toNat k).1 (Co x.toNat k).1).1).1:Nat) l).toNat:=by rw[JH];unfold EN CN;rw[DD,Ad,Ad]
   rw[es,eq];rw[show T+(vR (Co x.toNat k).1*vR (Co x.toNat k).1+sm l.length (fun j=>zR k (l.getD j 0)*zR k (l.getD j 0)))=T+vR (Co x.toNat k).1*vR (Co x.toNat k).1+sm l.length (fun j=>zR k (l.getD j 0)*zR k (l.getD j 0)) by grind,show c+((l.length:Rat)+1)=c+1+(l.length:Rat) by grind];exact ih
theorem SJ(a:Nat):vR a=Mj (BE a)*((Ip a:Rat)*tw (-1074)):=by
 have pa:=C4 a
 have e:(Ip a:Rat)*tw (-1074)=((Bs a:Nat):Rat)*tw (By a):=by have:=NH (Bs a) (By a-(-1074)).toNat (By a);rw[show By a-((By a-(-1074)).toNat:Int)=-1074 by omega] at this;exact this
 rw[e];unfold vR;grind
theorem UY{k a:Nat}(h:Bd k a):Ab (vR a) (tw k):=by
 rw[SJ,Xh (Mc _ _)];have h1:=CR h.2.2;rw[<- HS] at h1;have h2:=zd h1 (zc (DC (-1074)));rw[<- Ex] at h2;have e:((k+1074:Nat):Int)+-1074=k:=by omega
 rw[e] at h2;exact h2
def av(x:Rat):Rat:=if 0<=x then x else -x
theorem Ef(x:Rat):0<=av x:=by unfold av; split<;>grind
theorem GM(x:Rat):Ab x (av x):=by unfold av Ab; split<;>grind
theorem IQ{x B:Rat}(h:Ab x B):av x<=B:=by unfold Ab at h; unfold av; split<;>grind
theorem DN(x y:Rat):av (x*y)=av x*av y:=by
 unfold av;by_cases hx:0<=x
 ·by_cases hy:0<=y
  ·have:=ze hx hy;rw[Az hx,Az hy,Az this]
  ·have:=ze hx (show 0<=-y by grind);rw[Az hx,Ay hy];split<;>grind
 ·by_cases hy:0<=y
  ·have:=ze (show 0<=-x by grind) hy;rw[Ay hx,Az hy];split<;>grind
  ·have:=ze (show 0<=-x by grind) (show 0<=-y by grind);rw[Ay hx,Ay hy];split<;>grind
theorem IP(x:Rat):av x*av x=x*x:=by unfold av; split<;>grind
theorem Hl(x y:Rat):av (x+y)<=av x+av y:=by have h1:=GM x;have h2:=GM y;refine IQ ?_;unfold Ab at *; grind
theorem GZ{x y d:Rat}:Nr x y d↔av (x-y)<=d:=by unfold Nr av;split<;>constructor<;>intro h<;>grind
theorem PI{a:Nat}(h:pw 0<=a%2^63):1<=av (vR a):=by
 obtain⟨h1,h2⟩:=KP h;have m1:=CR h1;have t:((2^52:Nat):Rat)=tw 52:=(HS 52).symm;rw[t] at m1;have m2:tw (-52)<=tw (By a):=V6 h2;have m3:=DP m1 m2 (Jw _) (zc (DC _));have e:tw 52*tw (-52)=1:=by rw[<- Ex]; exact Oz
 rw[e] at m3
 have e2:av (vR a)=((Bs a:Nat):Rat)*tw (By a):=by
  have hn:=Mc (Bs a) (By a);unfold vR Mj;cases BE a
  ·have e:(if wy=wg then (-1:Rat) else 1)=1:=rfl;rw[e,Rat.one_mul]; unfold av; rw[Az hn]
  ·have e:(if wg=wg then (-1:Rat) else 1)=-1:=rfl;rw[e];unfold av;split<;>grind
 rw[e2];exact m3
theorem AiE{a:Nat}(h:BE a=wy):0<=vR a:=by unfold vR;rw[h];have hn:=Mc (Bs a) (By a);have e:Mj wy=1:=rfl;rw[e]; grind
theorem Acn{f g:Nat->Rat}{d:Rat}:∀n,(∀i,i<n->Nr (f i) (g i) d)->Nr (sm n f) (sm n g) ((n:Rat)*d)
 | 0,_=>by have z:((0:Nat):Rat)=0:=rfl;show Nr 0 0 _;rw[z]; unfold Nr; grind
 | n+1,h=>by
   have ih:=Acn n fun i hi=>h i (by omega)
   have h1:=h n (by omega);have e:((n+1:Nat):Rat)=(n:Rat)+1:=yz n 1;show Nr (sm n f+f n) (sm n g+g n) _;rw[e];unfold Nr at *; grind
theorem Acl{x y d B:Rat}(h:Nr x y d)(hB:Ab y B)(hd:0<=d):Nr (x*x) (y*y) (d*(2*B+d)):=by
 have e:x*x-y*y=(x-y)*(x+y):=by grind
 rw[GZ,e,DN];have h1:=GZ.1 h
 have h2:av (x+y)<=2*B+d:=by
  refine IQ ?_;unfold Nr at h;unfold Ab at *
  grind
 exact DP h1 h2 hd (Ef _)
def rv(l:Bb)(i:Nat):Rat:=vR (l.getD i 0).toNat
theorem Ans{k:Nat}{l:Bb}(h:Bl k l)(i:Nat):Ab (rv l i) (tw k):=UY (No h i)
theorem tw1:tw 1=2:=by decide +kernel
theorem Aoh:tw (-1)=1 / 2:=by decide +kernel
theorem AgI{y:Bb}(hy:Bl 1 y)(hl:y.length<=7)(h:∃z∈y,pw 0<=z.toNat%2^63):
 Nr (vR (CB y).toNat*vR (CB y).toNat) (sq y.length (rv y)) (40*uR*sq y.length (rv y))/\1<=vR (CB y).toNat/\1<=sq y.length (rv y):=by
 obtain⟨n1,n2⟩:=Ac6 hy hl h
 have hm1:1<=sq y.length (rv y):=by
  obtain⟨z,hz,g⟩:=h;obtain⟨j,hj,rfl⟩:=wt.1 hz;have e:rv y j=vR (y[j]).toNat:=by unfold rv; rw[Al,As hj]; rfl
  have h1:=PI g;rw[<- e] at h1;have h2:=SP (f:=fun i=>rv y i*rv y i) hj fun i _=>Ck _
  have h3:=LA (x:=1) (y:=av (rv y j)) (by decide) h1;rw[IP] at h3;unfold sq;grind
 have nn:BE (CB y).toNat=wy:=Jv n2.2;have hv0:=AiE nn
 have hv1:1<=vR (CB y).toNat:=by
  have nl:(CB y).toNat<2^63:=by have:=n2.2; rw[Gq] at this; omega
  have:=PI (a:=(CB y).toNat) (by rw[Ao nl]; exact n2.1);unfold av at this;rw[Az hv0] at this;exact this
 refine⟨?_,hv1,hm1⟩;have hf:=hy.Is
 have h0:∃z∈y,B8 z≠0:=by obtain⟨z,hz,g⟩:=h;refine⟨z,hz,fun k=>?_⟩;have:=FJ (b:=z.toNat) (by unfold B8 at k; omega);rw[TM] at g; omega
 obtain⟨b3,b4,ba,hb⟩:=Rg hf
 have hB:pw 0<=CV (BA y).toNat:=by obtain⟨z,hz,g⟩:=h;exact AL g (hb z hz)
 obtain⟨w,hw,w0,we⟩:=Re hf h0;have wk:=N7 (Jf hf w hw);have ee:BK (BA y)=Ea w.toNat:=by unfold BK; rw[we,Ni w.toNat]; rfl
 obtain⟨x1,_⟩:=Nd wk.1 wk.2 w0;have wm:Bs w.toNat≠0:=fun e=>w0 ((Dd wk.1 wk.2).1 e)
 have u1:=(hy w hw).log wm
 have u2:=(Lo.TU (a:=w.toNat) wk.1 wk.2 (by rw[we] at hB;show pw 0<=CV w.toNat;unfold CV at hB ⊢; omega)).log
 have e01:Ea w.toNat=0\/Ea w.toNat=1:=by omega
 have en:CB y=BP (ET (JH (-Ea w.toNat) 0 y)) (Ea w.toNat):=by
  unfold CB
  rw[Ay (fun k=>by
   rcases k with k | k
   ·rw[k] at hB; rw[TM] at hB; revert hB; decide
   ·unfold CO at k; rw[Hh] at k; simp[b3,b4] at k),ee]
 obtain⟨t,te,t1,t2⟩:=WW (-Ea w.toNat) y 0 (zF _);have tb:=t2 (.inr ⟨w,hw,by rw[DD]; exact KV wk.1 wk.2 w0⟩);have te:JH (-Ea w.toNat) 0 y=t:=te;have z0:vR 0=0:=Ho wy;have hlen:(y.length:Rat)<=7:=CR hl;have se:=Ack (k:=-Ea w.toNat) (by omega) y 0 1 0 0 hy (Bd.zero wy 2).bm (by decide) (by omega) (zY) (zY) (by grind) (by rw[z0]; unfold Nr; grind);have se:Nr (vR (JH (-Ea w.toNat) 0 y).toNat) _ _:=se;have bm:=Aa2 (k:=-Ea w.toNat) (by omega) y 0 1 hy (Bd.zero wy 2).bm (by decide) (by omega);have bm:Bm (1+y.length) 2 (JH (-Ea w.toNat) 0 y).toNat:=bm;rw[te,Ad] at bm se;rw[te] at en;have bt:Bd (3+3) t:=(bm.bd (j:=3) (by omega)).mono (by decide);have br:Bd 3 (Gu t).1:=Bd.root (by decide) bt (Jv tb.2);have hr:=AfY bt.1 bt.2.1 (.inl (Jv tb.2)) br.1
 have en2:(CB y).toNat=(Co (Gu t).1 (Ea w.toNat)).1:=by rw[en,DD];unfold ET;rw[Ad,Ad]
 have hsc:=OD (a:=(Gu t).1) (n:=Ea w.toNat) br.1 br.2.1 (by rw[<- en2]; exact n1.1);rw[<- en2] at hsc;have r8:=UY br;generalize vR (Gu t).1=r at *
 generalize vR (CB y).toNat=v at *
 have hz:Nr (sm y.length (fun j=>zR (-Ea w.toNat) (y.getD j 0)*zR (-Ea w.toNat) (y.getD j 0))) (sm y.length (fun j=>rv y j*tw (-Ea w.toNat)*(rv y j*tw (-Ea w.toNat)))) ((y.length:Rat)*(Cv*(2*2+Cv))):=Acn _ fun i hi=>by
  have hb1:=hy (y.getD i 0) (by rw[Al,As hi]; exact ya hi);have bs:Bd 1 (Co (y.getD i 0).toNat (-Ea w.toNat)).1:=Bd.scale (by decide) hb1 (by omega);have s1:=OD (n:=-Ea w.toNat) hb1.1 hb1.2.1 bs.1;refine Acl (B:=2) s1 ?_ (zc Ek);have a1:=UY hb1;have t1':tw ((1:Nat):Int)=2:=tw1;rw[t1'] at a1;show Ab (vR (y.getD i 0).toNat*tw (-Ea w.toNat)) 2;rcases e01 with e | e
  ·rw[e];have:tw (-0)=1:=Oz;rw[this,Rat.mul_one]; exact a1
  ·rw[e,Aoh];unfold Ab at *; grind
 have hs2:sm y.length (fun j=>rv y j*tw (-Ea w.toNat)*(rv y j*tw (-Ea w.toNat)))=tw (-Ea w.toNat)*tw (-Ea w.toNat)*sq y.length (rv y):=by unfold sq;rw[<- Fq];exact BY _ fun i _=>by grind
 rw[hs2] at hz;generalize sq y.length (rv y)=m at *
 generalize sm y.length (fun j=>zR (-Ea w.toNat) (y.getD j 0)*zR (-Ea w.toNat) (y.getD j 0))=Z at *
 generalize vR t=T at *
 have hn0:=Jw y.length;generalize (y.length:Rat)=n at *
 have u0:=E5;have e0:=Ek;have es:Cv<=uR / 1000000:=by decide +kernel
 have es2:Cv<=1 / 1000000:=by decide +kernel
 have hK:tw (Ea w.toNat)*tw (-Ea w.toNat)=1:=by rw[<- Ex,show Ea w.toNat+-Ea w.toNat=0 by omega]; exact Oz
 have hk2:0<tw (Ea w.toNat)/\tw (Ea w.toNat)<=2:=by
  refine⟨DC _,?_⟩;rcases e01 with e | e
  ·rw[e,Oz]; decide
  ·rw[e,tw1]; exact zY
 have t3:tw ((3:Nat):Int)=8:=by decide +kernel
 rw[t3] at r8;generalize tw (Ea w.toNat)=K at *
 generalize tw (-Ea w.toNat)=J at *
 have hr1:Ab (r*K) 16:=by have h1:=DP r8.2 hk2.2 (by decide) (zc hk2.1);have h2:=ze hr.2.1 (zc hk2.1);unfold Ab; grind
 have s1:=Acl hsc hr1 (zc e0);have hKK:=ze (zc hk2.1) (zc hk2.1);have hK4:=DP hk2.2 hk2.2 (by decide) (zc hk2.1);have s2:=hr.1.scale hKK;have s3:=se.scale hKK;have s4:=hz.scale hKK
 have c4:J*J*m*(K*K)=m:=by
  have:J*J*m*(K*K)=(K*J)*(K*J)*m:=by grind
  rw[this,hK]; grind
 rw[c4] at s4
 have d1:n*(Cv*(2*2+Cv))*(K*K)<=150*Cv:=by have a1:=DP hlen (show Cv*(2*2+Cv)<=Cv*(501 / 100) from zl (by grind) (zc e0)) (by decide) (ze (zc e0) (by grind));have a2:=DP a1 hK4 (by grind) hKK;grind
 have s4:=s4.mono d1;have hZ0:0<=Z*(K*K):=by have:=s4.2; grind
 have g1:(3*(0+n)*uR*(0+Z)+2*(0+n)*Cv)*(K*K)<=21*(uR*(Z*(K*K)))+56*Cv:=by have a1:=zd hlen (ze (zc u0) hZ0);have a2:=DP (DP hlen (zY:Cv<=Cv) (by decide) (zc e0)) hK4 (by grind) hKK;grind
 have s3:=s3.mono g1;rw[Rat.zero_add] at s3;generalize hZ':Z*(K*K)=Z' at *
 generalize hT':T*(K*K)=T' at *
 have s2':Nr (r*r*(K*K)) T' (8*(uR*T')):=s2.mono (by rw[<- hT']; grind);have eR:r*K*(r*K)=r*r*(K*K):=by grind
 rw[eR] at s1;have f1:Z'<=m+m / 1000:=by have:=s4.1; grind
 have f2:=Hp f1
 have f3:uR*(m+m / 1000)<=m / 100000:=by have:=zd Gb (show 0<=m+m / 1000 by grind);grind
 have f4:T'<=m+m / 100:=by have:=s3.1; grind
 have f5:=Hp f4;have f6:uR*(m+m / 1000)=uR*m+uR*m / 1000:=by grind
 have f7:uR*(m+m / 100)=uR*m+uR*m / 100:=by grind
 have f8:uR<=uR*m:=by have:=zl hm1 (zc u0);grind
 have s1':Nr (v*v) (r*r*(K*K)) (33*Cv):=s1.mono (by have:=zl (show 2*16+Cv<=33 by grind) (zc e0);grind)
 refine((s1'.trans s2').trans (s3.trans s4)).mono ?_;grind
theorem HP{x y z d:Rat}(h:Nr x y d):av x<=av y+d:=by have h1:=GM y;refine IQ ?_;unfold Nr at h; unfold Ab at *; grind
theorem Mf(x:Rat):av (-x)=av x:=by unfold av; split<;>split<;>grind
theorem MD{x:Rat}(h:0<=x):av x=x:=by unfold av; rw[Az h]
theorem An5(x:Rat):x<=av x:=(GM x).2
theorem JV{a b:Rat}(h:b≠0):a / b*b=a:=by grind
theorem Agw{w D d q:Rat}(hD:0<av D)(hd:Nr d D (uR*av D))(hq:q*d=w*D):av (q-w)<=11 / 10*uR*av w:=by
 have u0:=E5;have us:=Gb;have h1:=GZ.1 hd;have aw:=Ef w
 have h2:(1-uR)*av D<=av d:=by have:=HP (z:=0) hd.symm;grind
 have e:(q-w)*d=w*(D-d):=by grind
 have h3:av (q-w)*av d=av w*av (D-d):=by rw[<- DN,<- DN,e]
 have h4:av (D-d)<=uR*av D:=GZ.1 hd.symm;have h5:=zl h4 aw;have h6:=zl h2 (Ef (q-w));have h7:av (q-w)*(1-uR)*av D<=av w*uR*av D:=by grind
 have h8:=zZ h7 hD;refine zZ (c:=1-uR) ?_ (by grind);have h9:(1:Rat)<=11 / 10*(1-uR):=by grind
 have h10:=zd h9 (ze (zc u0) aw);grind
section
variable{k:Nat}{y v:Nat->Rat}{μ τ d p:Rat}
structure Hm(k:Nat)(y v:Nat->Rat)(μ τ d p:Rat):Prop where
 k6:k<=6
 v0:v 0=1
 one:1<=av μ
 FX:y 0*μ<=0
 len:Nr (μ*μ) (sq (k+1) y) (40*uR*sq (k+1) y)
 two:∀i,i<=k->Ab (y i) 2
 hd:Nr d (y 0-μ) (uR*av (y 0-μ))
 hp:Nr p (μ-y 0) (uR*av (y 0-μ))
 hv:∀i,i<k->∀q,q*d=y (i+1)->Nr (v (i+1)) q (2*uR*av q+Cv)
 ht:∀q,q*μ=p->Nr τ q (2*uR*av q+Cv)
theorem KT(n:Nat)(f:Nat->Rat):sq (n+1) f=f 0*f 0+sq n (fun i=>f (i+1)):=Io (fun i=>f i*f i) n
theorem Hm.D(h:Hm k y v μ τ d p):av (y 0-μ)=av (y 0)+av μ:=by
 have h1:=h.one;have h2:=h.FX;unfold av at *
 by_cases a:0<=μ
 ·rw[Az a] at h1 ⊢
  have:y 0<=0:=by
   rcases(yV:y 0<=0\/0<=y 0) with g | g
   ·exact g
   ·have:=zl h1 g;grind
  split<;>(try split)<;>grind
 ·rw[Ay a] at h1 ⊢
  have:0<=y 0:=by
   rcases(yV:0<=y 0\/y 0<=0) with g | g
   ·exact g
   ·have:=zl h1 (show 0<=-(y 0) by grind);grind
  split<;>(try split)<;>grind
theorem Hm.Ys(h:Hm k y v μ τ d p):0<av (y 0-μ)/\av μ<=av (y 0-μ)/\y 0-μ≠0/\μ≠0:=by
 have h1:=h.one;have h2:=h.D;have h3:=Ef (y 0);refine⟨by grind,by grind,fun e=>?_,fun e=>?_⟩
 ·rw[e] at h2;have:av 0=0:=by decide
  grind
 ·rw[e] at h1;have:av 0=0:=by decide
  grind
def wR(y:Nat->Rat)(μ:Rat)(i:Nat):Rat:=y i / (y 0-μ)
theorem Hm.w(h:Hm k y v μ τ d p)(i:Nat):wR y μ i*(y 0-μ)=y i:=JV h.Ys.2.2.1
theorem Hm.vw(h:Hm k y v μ τ d p){i:Nat}(hi:i<k):av (v (i+1)-wR y μ (i+1))<=4*uR*av (wR y μ (i+1))+Cv:=by
 have u0:=E5;have us:=Gb;have hD:=h.Ys.1
 have d0:d≠0:=fun e=>by
  have:=HP (z:=0) h.hd.symm;rw[e] at this;have z:av 0=0:=by decide
  have:uR*av (y 0-μ)<=1 / 1000000*av (y 0-μ):=zd us (zc hD);grind
 have hq:=JV (a:=y (i+1)) d0;have h1:=GZ.1 (h.hv i hi _ hq);have h2:=Agw (w:=wR y μ (i+1)) hD h.hd (by rw[h.w]; exact hq);have aw:=Ef (wR y μ (i+1));generalize y (i+1) / d=q at *
 generalize wR y μ (i+1)=w at *
 have h3:av q<=11 / 10*av w:=by have:=Hl w (q-w);rw[show w+(q-w)=q by grind] at this;have:11 / 10*uR*av w<=1 / 10*av w:=zd (by grind) aw;grind
 have h4:=Hl (v (i+1)-q) (q-w);rw[show v (i+1)-q+(q-w)=v (i+1)-w by grind] at h4;have h5:=Hp h3;have h6:=ze (zc u0) aw;grind
theorem Qq{f g d:Nat->Rat}:∀n,(∀i,i<n->Nr (f i) (g i) (d i))->Nr (sm n f) (sm n g) (sm n d)
 | 0,_=>by show Nr 0 0 0;unfold Nr; grind
 | n+1,h=>by
   have ih:=Qq n fun i hi=>h i (by omega)
   have h1:=h n (by omega);show Nr (sm n f+f n) (sm n g+g n) (sm n d+d n);unfold Nr at *; grind
def W2(k:Nat)(y:Nat->Rat)(μ:Rat):Rat:=sm k fun i=>wR y μ (i+1)*wR y μ (i+1)
def V2(k:Nat)(v:Nat->Rat):Rat:=sm k fun i=>v (i+1)*v (i+1)
theorem Hm.W(h:Hm k y v μ τ d p):W2 k y μ*((y 0-μ)*(y 0-μ))=sq (k+1) y-y 0*y 0/\0<=W2 k y μ:=by
 refine⟨?_,Mn k fun i _=>Ck _⟩;have e:sq (k+1) y-y 0*y 0=sq k (fun i=>y (i+1)):=by rw[KT]; grind
 rw[e];unfold W2 sq;rw[Rat.mul_comm,<- Fq];refine BY k fun i _=>?_
 have:=h.w (i+1);generalize wR y μ (i+1)=w at *
 show(y 0-μ)*(y 0-μ)*(w*w)=y (i+1)*y (i+1);rw[<- this];grind
theorem Hm.m2(h:Hm k y v μ τ d p):sq (k+1) y<=(1+41*uR)*(μ*μ)/\0<=sq (k+1) y:=by
 have h0:=JI (k+1) y;refine⟨?_,h0⟩;have h1:=h.len.2;have c:1<=(1+41*uR)*(1-40*uR):=by decide +kernel
 have h2:=zd c h0;have h3:=zl (show(1-40*uR)*sq (k+1) y<=μ*μ by grind) (show 0<=1+41*uR by decide +kernel);grind
theorem Hm.f0(h:Hm k y v μ τ d p):av (y 0)<=101 / 100*av μ/\av (y 0-μ)<=201 / 100*av μ:=by
 have h1:=h.m2.1
 have h2:y 0*y 0<=sq (k+1) y:=by
  rw[KT];have:=JI k fun i=>y (i+1)
  grind
 have a0:=Ef μ
 have h3:av (y 0)<=101 / 100*av μ:=by
  refine Lg (by grind) ?_;rw[IP];have e:101 / 100*av μ*(101 / 100*av μ)=101 / 100*(101 / 100)*(μ*μ):=by rw[<- IP μ]; grind
  rw[e];have c:1+41*uR<=101 / 100*(101 / 100):=by decide +kernel
  have:=zd c (Ck μ);grind
 refine⟨h3,?_⟩;rw[h.D]; grind
theorem Hm.Wle(h:Hm k y v μ τ d p):W2 k y μ<=1+41*uR:=by
 obtain⟨h1,h2⟩:=h.W;obtain⟨d1,d2,d3,d4⟩:=h.Ys;have hDD:=LA (Ef μ) d2;rw[IP,IP] at hDD;have hm:=h.m2.1;have y0:=Ck (y 0);have h3:=zl hDD (show 0<=1+41*uR by decide +kernel)
 have hp:0<(y 0-μ)*(y 0-μ):=by have:=yl d1 d1;rw[IP] at this;exact this
 refine zZ (c:=(y 0-μ)*(y 0-μ)) ?_ hp;grind
theorem Hm.wle(h:Hm k y v μ τ d p){i:Nat}(hi:i<=k):av (wR y μ i)<=2:=by
 obtain⟨d1,d2,d3,d4⟩:=h.Ys;have h1:=IQ (h.two i hi);have h2:=h.w i;have h3:av (wR y μ i)*av (y 0-μ)=av (y i):=by rw[<- DN,h2]
 refine zZ (c:=av (y 0-μ)) ?_ d1;have:=h.one;grind
theorem Ajf{a b e:Rat}(h:av (a-b)<=4*uR*av b+e)(he:0<=e)(he2:e<=1 / 1000000)(hb:av b<=2):Nr (a*a) (b*b) (9*uR*(b*b)+5*e):=by
 have u0:=E5;have b0:=Ef b;have ub:=ze (zc u0) b0;have e1:a*a-b*b=(a-b)*(a+b):=by grind
 have h2:av (a+b)<=2*av b+(4*uR*av b+e):=by
  have:=Hl (a-b) (2*b);rw[show a-b+2*b=a+b by grind,DN] at this;have t:av 2=2:=by decide
  rw[t] at this;grind
 rw[GZ,e1,DN];have h3:=DP h h2 (by grind) (Ef _);have k1:uR*av b<=1 / 1000000*av b:=zd Gb b0;have k2:=zl k1 ub;have k3:=zl (show 2*av b+(4*uR*av b+e)+4*uR*av b<=5 by grind) he;rw[<- IP b];have k4:=ze ub b0;grind
theorem Hm.VW(h:Hm k y v μ τ d p):Nr (V2 k v) (W2 k y μ) (9*uR*W2 k y μ+30*Cv):=by
 have e0:=Ek;have e2:Cv<=1 / 1000000:=by decide +kernel
 have h1:=Qq k fun i hi=>Ajf (h.vw hi) (zc e0) e2 (h.wle (i:=i+1) (by omega))
 refine h1.mono ?_
 have e:sm k (fun i=>9*uR*(wR y μ (i+1)*wR y μ (i+1))+5*Cv)=9*uR*W2 k y μ+(k:Rat)*(5*Cv):=by rw[Gn (fun i=>9*uR*(wR y μ (i+1)*wR y μ (i+1))) (fun _=>5*Cv),Fq,KU];rfl
 rw[e];have hk:(k:Rat)<=6:=CR h.k6;have:=zd hk (show 0<=5*Cv by grind);grind
def tR(y:Nat->Rat)(μ:Rat):Rat:=-(y 0-μ) / μ
theorem Hm.t(h:Hm k y v μ τ d p):tR y μ*μ=-(y 0-μ):=JV h.Ys.2.2.2
theorem Hm.tle(h:Hm k y v μ τ d p):av (tR y μ)<=201 / 100/\av (τ-tR y μ)<=7*uR/\av (tR y μ)*av μ=av (y 0-μ):=by
 have u0:=E5;have ht:=h.t;have one:=h.one;have hm:0<av μ:=by grind
 have h1:av (tR y μ)*av μ=av (y 0-μ):=by rw[<- DN,ht,Mf]
 have h2:av (tR y μ)<=201 / 100:=by refine zZ (c:=av μ) ?_ hm;rw[h1]; exact h.f0.2
 refine⟨h2,?_,h1⟩;have hq:=JV (a:=p) h.Ys.2.2.2;have h3:=GZ.1 (h.ht _ hq);generalize p / μ=q at *
 generalize tR y μ=t at *
 have h4:av (q-t)<=uR*av t:=by
  refine zZ (c:=av μ) ?_ hm;have e:(q-t)*μ=p-(μ-y 0):=by grind
  have e2:av (q-t)*av μ=av (p-(μ-y 0)):=by rw[<- DN,e]
  have:=GZ.1 h.hp;rw[e2];have e3:uR*av t*av μ=uR*av (y 0-μ):=by rw[<- h1]; grind
  rw[e3]; exact this
 have h5:av q<=av t+uR*av t:=by have:=Hl t (q-t);rw[show t+(q-t)=q by grind] at this;grind
 have h6:=Hl (τ-q) (q-t);rw[show τ-q+(q-t)=τ-t by grind] at h6;have t0:=Ef t;have k1:=Hp h2;have k2:=Hp h5;have k3:uR*(uR*av t)<=1 / 1000000*(uR*av t):=zd Gb (ze (zc u0) t0);have e1:Cv<=uR / 1000000:=by decide +kernel
 grind
theorem Hm.tt(h:Hm k y v μ τ d p):av (tR y μ*(1+W2 k y μ)-2)<=41*uR:=by
 obtain⟨hW,_⟩:=h.W;have ht:=h.t;obtain⟨d1,d2,d3,d4⟩:=h.Ys;have one:=h.one;have hm:0<av μ:=by grind
 generalize W2 k y μ=W at *
 generalize tR y μ=t at *
 have e:(t*(1+W)-2)*(μ*(y 0-μ))=-(sq (k+1) y-μ*μ):=by
  have e0:(t*(1+W)-2)*(μ*(y 0-μ))*(y 0-μ)=-(sq (k+1) y-μ*μ)*(y 0-μ):=by grind
  have e1:((t*(1+W)-2)*(μ*(y 0-μ)) - -(sq (k+1) y-μ*μ))*(y 0-μ)=0:=by grind
  rcases xx.1 e1 with g | g
  ·grind
  ·exact absurd g d3
 have e2:av (t*(1+W)-2)*(av μ*av (y 0-μ))=av (sq (k+1) y-μ*μ):=by rw[<- DN,<- DN,e,Mf]
 have hl:=GZ.1 h.len.symm;have hm2:=h.m2.1;have k1:=zl hm2 (show 0<=40*uR by decide +kernel);have c:40*uR*(1+41*uR)<=41*uR:=by decide +kernel
 have k2:=zd c (Ck μ);have k3:=zl d2 (Ef μ);rw[IP] at k3;have k4:=zl k3 (show 0<=41*uR by decide +kernel);refine zZ (c:=av μ*av (y 0-μ)) ?_ (yl hm d1);grind
theorem Hm.sqv(h:Hm k y v μ τ d p):sq (k+1) v=1+V2 k v:=by rw[KT,h.v0];unfold V2 sq;grind
theorem Hm.AgP(h:Hm k y v μ τ d p):Nr (τ*sq (k+1) v) 2 (100*uR)/\Ab τ (21 / 10)/\sq (k+1) v<=201 / 100:=by
 have u0:=E5;have us:=Gb;have e1:Cv<=uR / 1000000:=by decide +kernel
 obtain⟨t1,t2,_⟩:=h.tle;have hVW:=h.VW;have hW:=h.Wle;have hW0:=h.W.2;have htt:=h.tt;rw[h.sqv];have hV:=hVW.1;have k0:uR*W2 k y μ<=2*uR:=zo (Hp hW) (by decide +kernel);have hV2:V2 k v<=101 / 100:=by grind
 refine⟨?_,?_,by grind⟩
 ·rw[GZ];have hV0:0<=V2 k v:=Mn k fun i _=>Ck _
  generalize W2 k y μ=W at *
  generalize V2 k v=V at *
  generalize tR y μ=t at *
  have a1:av ((τ-t)*(1+V))<=7*uR*(201 / 100):=by
   rw[DN];have:av (1+V)<=201 / 100:=by rw[MD (by grind)]; grind
   exact DP t2 this (by grind) (Ef _)
  have a2:av (t*(V-W))<=201 / 100*(20*uR):=by rw[DN];have:=GZ.1 hVW;exact DP t1 (show av (V-W)<=20*uR by grind) (by grind) (Ef _)
  have a3:=Hl ((τ-t)*(1+V)+t*(V-W)) (t*(1+W)-2);have a4:=Hl ((τ-t)*(1+V)) (t*(V-W));rw[show(τ-t)*(1+V)+t*(V-W)+(t*(1+W)-2)=τ*(1+V)-2 by grind] at a3;grind
 ·have:=Hl (tR y μ) (τ-tR y μ);rw[show tR y μ+(τ-tR y μ)=τ by grind] at this;have h2:=GM τ;unfold Ab at *
  grind
end
theorem Ln.Ac4{n:Nat}{f g:Nat->Rat}{s:Rat}(h:∀i,i<n->av (f i)<=g i)(k:Ln n g s):Ln n f s:=by refine⟨k.1,zo (NM n fun i hi=>?_) k.2⟩;have:=LA (Ef (f i)) (h i hi);rw[IP] at this;exact this
section
variable{k:Nat}{y v:Nat->Rat}{μ τ d p:Rat}
def gR(k:Nat)(y v:Nat->Rat):Rat:=sm (k+1) fun j=>v j*y j
theorem Hm.g(h:Hm k y v μ τ d p):av (gR k y v+μ)<=46*uR*av μ:=by
 have u0:=E5;have us:=Gb;have e1:Cv<=uR / 1000000:=by decide +kernel
 have e0:=Ek;obtain⟨d1,d2,d3,d4⟩:=h.Ys;have one:=h.one;have a0:=Ef μ;have hm2:=h.m2.1
 have hX:sm k (fun i=>av (wR y μ (i+1))*av (y (i+1)))*av (y 0-μ)=sq (k+1) y-y 0*y 0:=by
  have e:sq (k+1) y-y 0*y 0=sq k (fun i=>y (i+1)):=by rw[KT]; grind
  rw[e];unfold sq;rw[Rat.mul_comm,<- Fq];refine BY k fun i _=>?_
  show av (y 0-μ)*(av (wR y μ (i+1))*av (y (i+1)))=y (i+1)*y (i+1);have h2:av (wR y μ (i+1))*av (y 0-μ)=av (y (i+1)):=by rw[<- DN,h.w]
  rw[<- IP (y (i+1))];generalize av (wR y μ (i+1))=w at *
  rw[<- h2]; grind
 have hX2:sm k (fun i=>av (wR y μ (i+1))*av (y (i+1)))<=101 / 100*av μ:=by
  refine zZ (c:=av (y 0-μ)) ?_ d1;rw[hX];have y0:=Ck (y 0);have c:1+41*uR<=101 / 100:=by decide +kernel
  have k1:=zd c (Ck μ);have k2:=zl d2 a0;rw[IP] at k2;grind
 have hX0:0<=sm k (fun i=>av (wR y μ (i+1))*av (y (i+1))):=Mn k fun i _=>ze (Ef _) (Ef _)
 have hG:Nr (sm k fun i=>v (i+1)*y (i+1)) (sm k fun i=>wR y μ (i+1)*y (i+1)) (4*uR*sm k (fun i=>av (wR y μ (i+1))*av (y (i+1)))+12*Cv):=by
  have h1:=Qq (f:=fun i=>v (i+1)*y (i+1)) (g:=fun i=>wR y μ (i+1)*y (i+1)) (d:=fun i=>4*uR*(av (wR y μ (i+1))*av (y (i+1)))+2*Cv) k fun i hi=>by have hv:=h.vw hi;have hy:=IQ (h.two (i+1) (by omega));have y0:=Ef (y (i+1));rw[GZ];show av (v (i+1)*y (i+1)-wR y μ (i+1)*y (i+1))<=4*uR*(av (wR y μ (i+1))*av (y (i+1)))+2*Cv;rw[show v (i+1)*y (i+1)-wR y μ (i+1)*y (i+1)=(v (i+1)-wR y μ (i+1))*y (i+1) by grind,DN];have h3:=zd hv y0;have h4:=zl hy (zc e0);grind
  refine h1.mono ?_;rw[Gn (fun i=>4*uR*(av (wR y μ (i+1))*av (y (i+1)))) (fun _=>2*Cv),Fq,KU];have hk:(k:Rat)<=6:=CR h.k6;have:=zd hk (show 0<=2*Cv by grind);grind
 have hGe:(sm k fun i=>wR y μ (i+1)*y (i+1))*(y 0-μ)=sq (k+1) y-y 0*y 0:=by
  have e:sq (k+1) y-y 0*y 0=sq k (fun i=>y (i+1)):=by rw[KT]; grind
  rw[e];unfold sq;rw[Rat.mul_comm,<- Fq];refine BY k fun i _=>?_
  show(y 0-μ)*(wR y μ (i+1)*y (i+1))=y (i+1)*y (i+1);have h2:=h.w (i+1);generalize wR y μ (i+1)=w at *
  rw[<- h2]; grind
 have eg:gR k y v=y 0+sm k fun i=>v (i+1)*y (i+1):=by unfold gR;rw[Io,h.v0]; grind
 rw[eg];generalize (sm k fun i=>v (i+1)*y (i+1))=G at *
 generalize (sm k fun i=>wR y μ (i+1)*y (i+1))=Ge at *
 generalize sm k (fun i=>av (wR y μ (i+1))*av (y (i+1)))=X at *
 have h5:av (y 0+Ge+μ)<=41*uR*av μ:=by
  have e:(y 0+Ge+μ)*(y 0-μ)=sq (k+1) y-μ*μ:=by grind
  have e2:av (y 0+Ge+μ)*av (y 0-μ)=av (sq (k+1) y-μ*μ):=by rw[<- DN,e]
  have hl:=GZ.1 h.len.symm;have hl:av (sq (k+1) y-μ*μ)<=40*uR*sq (k+1) y:=GZ.1 h.len.symm;have k1:=zl hm2 (show 0<=40*uR by decide +kernel);have c:40*uR*(1+41*uR)<=41*uR:=by decide +kernel
  have k2:=zd c (Ck μ);have k3:=zl d2 a0;rw[IP] at k3;have k4:=zl k3 (show 0<=41*uR by decide +kernel);refine zZ (c:=av (y 0-μ)) ?_ d1;grind
 have h6:=GZ.1 hG;have h7:=Hl (G-Ge) (y 0+Ge+μ);rw[show G-Ge+(y 0+Ge+μ)=y 0+G+μ by grind] at h7;have k5:=Hp hX2
 have k6:uR<=uR*av μ:=by have:=zl one (zc u0);grind
 grind
theorem Hm.e(h:Hm k y v μ τ d p):av (y 0-μ-τ*gR k y v)<=104*uR*av μ:=by
 have u0:=E5;have hg:=h.g;obtain⟨t1,t2,t3⟩:=h.tle;have ht:=h.t;have h2:=IQ h.AgP.2.1;generalize gR k y v=g at *
 have e:y 0-μ-τ*g=(τ-tR y μ)*μ-τ*(g+μ):=by grind
 have h3:=Hl ((τ-tR y μ)*μ) (-(τ*(g+μ)));rw[show(τ-tR y μ)*μ+-(τ*(g+μ))=(τ-tR y μ)*μ-τ*(g+μ) by grind,Mf,DN,DN] at h3;rw[e];have a0:=Ef μ;have k1:=zd t2 a0;have k2:=DP h2 hg (by grind) (Ef _);have k3:=ze (zc u0) a0;grind
theorem Hm.AlQ(h:Hm k y v μ τ d p):Ln (k+1) (fun i=>y i-τ*gR k y v*v i-if i=0 then μ else 0) (200*uR*av μ):=by
 have u0:=E5;have e1:Cv<=uR / 1000000:=by decide +kernel
 have e0:=Ek;have one:=h.one;have a0:=Ef μ;have hE:=h.e;obtain⟨d1,d2,d3,d4⟩:=h.Ys;have lv:Ln (k+1) v (3 / 2):=⟨by decide +kernel,zo h.AgP.2.2 (by decide +kernel)⟩
 have ly:Ln (k+1) y (101 / 100*av μ):=by
  refine⟨by grind,?_⟩;have c:1+41*uR<=101 / 100*(101 / 100):=by decide +kernel
  have k1:=zd c (Ck μ);have k2:=h.m2.1;have:=IP μ;grind
 have hA:=lv.scale (c:=y 0-μ-τ*gR k y v) (B:=104*uR*av μ) (by have:=GM (y 0-μ-τ*gR k y v);unfold Ab at *; grind)
 have c1:Ln (k+1) (fun i=>4*uR*av (y i)) (4*uR*(101 / 100*av μ)):=by
  have lav:Ln (k+1) (fun i=>av (y i)) (101 / 100*av μ):=by
   refine⟨ly.1,?_⟩;have e:sq (k+1) (fun i=>av (y i))=sq (k+1) y:=BY _ fun i _=>IP _
   rw[e]; exact ly.2
  exact lav.scale (c:=4*uR) (B:=4*uR) (by unfold Ab; grind)
 have c2:Ln (k+1) (fun _=>Cv*av (y 0-μ)) (3*(Cv*av (y 0-μ))):=by have:=ze (zc e0) (Ef (y 0-μ));exact Ln.Kd this (fun i _=>by unfold Ab; grind) (by have:=h.k6; omega)
 have hB:Ln (k+1) (fun i=>if i=0 then 0 else (y 0-μ)*(wR y μ i-v i)) (4*uR*(101 / 100*av μ)+3*(Cv*av (y 0-μ))):=by
  refine Ln.Ac4 (g:=fun i=>4*uR*av (y i)+Cv*av (y 0-μ)) (fun i hi=>?_) (c1.add c2);cases i with
  | zero =>
    have k1:=ze (zc u0) (Ef (y 0));have k2:=ze (zc e0) (Ef (y 0-μ));have z:av 0=0:=by decide
    rw[Az rfl,z]; grind
  | succ i =>
    rw[Ay (by omega),DN];have hv:=h.vw (i:=i) (by omega);have h2:av (wR y μ (i+1))*av (y 0-μ)=av (y (i+1)):=by rw[<- DN,h.w]
    have h3:av (wR y μ (i+1)-v (i+1))=av (v (i+1)-wR y μ (i+1)):=by rw[<- Mf]; congr 1; grind
    have h4:=zl hv (zc d1);rw[h3,<- h2];clear hA c1 c2 lv ly;grind
 have hs:=(hA.add hB).congr (g:=fun i=>y i-τ*gR k y v*v i-if i=0 then μ else 0) fun i hi=>by
  cases i with
  | zero =>rw[Az rfl,Az rfl,h.v0]; grind
  | succ i =>
    rw[Ay (by omega),Ay (by omega)];have:=h.w (i+1);generalize wR y μ (i+1)=w at *
    rw[<- this]; grind
 refine hs.mono ?_;have k1:=zl h.f0.2 (zc e0);have k2:=zd e1 a0;have k3:=ze (zc u0) a0;grind
end
theorem Aji{a b:Nat}(h:BE a=!BE b):vR a*vR b<=0:=by
 have ha:=Mc (Bs a) (By a);have hb:=Mc (Bs b) (By b);have hp:=ze ha hb;unfold vR;rw[h];unfold Mj;cases BE b
 ·have e1:(if (!wy)=wg then (-1:Rat) else 1)=-1:=rfl;have e2:(if wy=wg then (-1:Rat) else 1)=1:=rfl;rw[e1,e2]; grind
 ·have e1:(if (!wg)=wg then (-1:Rat) else 1)=1:=rfl;have e2:(if wg=wg then (-1:Rat) else 1)=-1:=rfl;rw[e1,e2]; grind
theorem Aaq:vR AgC.toNat=1:=by decide +kernel
theorem Agk{n:Nat}{f:Nat->Int}{i:Nat}(hi:i+1<n):rv (Gc n f) (i+1)=vR (f (i+1)).toNat:=by unfold rv Gc;rw[List.getD_cons_succ,Al,AW,yA (by omega)];rfl
theorem T7{x:Bb}{e:Int}{i:Nat}(hi:i<x.length):rv (BM x e) i=vR (Co (x.getD i 0).toNat e).1:=by unfold rv BM;rw[Al,AW,Al,As hi];show vR (BP x[i] e).toNat=_;rw[DD];rfl
theorem Aey{x:Bb}{k:Nat}(hk:x.length=k+1)(h6:k<=6)(hf:Dc x=wg)(ax:Bg x=wg)(h:∃z∈x,B8 z≠0):
 Hm k (rv (BM x (-BK (BA x)))) (rv (K6 x)) (vR (Jn x).toNat) (vR (Lw x).toNat) (vR (CA (DU x) (Jn x)).toNat) (vR (CA (Jn x) (DU x)).toNat):=by
 obtain⟨m1,m2,m3,m4⟩:=VZ hf (by omega) h;obtain⟨f1,f2⟩:=Zt hf ax (by omega) h;have sb:=NO hf;have s1:=VF hf h;have sl:(BM x (-BK (BA x))).length=k+1:=by unfold BM; rw[AK,hk]
 have nv:=AgI sb (by omega) s1;rw[sl] at nv;have lm:=F4 (Zc x)
 have ef:rv (BM x (-BK (BA x))) 0=vR (DU x).toNat:=by rw[T7 (by omega)];unfold DU;rw[DD]
 have fb:Bd 1 (DU x).toNat:=by
  have:=No sb 0
  have e:(BM x (-BK (BA x))).getD 0 0=DU x:=by
   unfold BM DU;cases x with
   | nil=>simp at hk
   | cons a t=>rfl
  rw[e] at this;exact this
 have f64:(DU x).toNat<2^64:=F4 (FP (Gk ax 0));have e1:(CA (DU x) (Jn x)).toNat=(Rx (DU x).toNat (Jn x).toNat).1:=MI _ _;have e2:(CA (Jn x) (DU x)).toNat=(Rx (Jn x).toNat (DU x).toNat).1:=MI _ _;refine⟨h6,?_,PI m3,?_,?_,fun i _=>Ans sb i,?_,?_,fun i hi q hq=>?_,fun q hq=>?_⟩
 ·unfold K6 Gc rv;rw[xW];exact Aaq
 ·rw[ef];cases x with
  | nil=>simp at hk
  | cons a t =>
    have ak:=N7 (Jf hf a AU);by_cases k0:B8 a=0
    ·have z:vR (DU (a::t)).toNat=0:=by
      refine NG ?_;unfold DU;rw[DD];have k0':Bj a.toNat=0:=by unfold B8 at k0; omega
      show Bj (Co a.toNat _).1=0;unfold Co;rw[Ay ak.2,Az (.inr k0')];exact k0'
     rw[z]; grind
    ·refine Aji ?_
     have hn:BE (DU (a::t)).toNat=BE (D5 (Jn (a::t)).toNat):=by rw[m4];unfold DU;rw[DD];show BE (Co a.toNat _).1=_;rw[OC ak.2];unfold IK;rw[Ay k0];rfl
     rw[hn,(H2 lm).1]
 ·have em:vR (Jn x).toNat*vR (Jn x).toNat=vR (CB (BM x (-BK (BA x)))).toNat*vR (CB (BM x (-BK (BA x)))).toNat:=by
   unfold Jn;split
   ·rfl
   ·have e:(CM (CB (BM x (-BK (BA x))))).toNat=D5 (CB (BM x (-BK (BA x)))).toNat:=Ad _;rw[e,Yy (F4 (Q7 _))];grind
  rw[em];exact nv.1
 ·rw[ef,e1];refine Qk lm fb.1 fb.2.1 m1.1 m1.2.1 ?_ (GM _);rw[<- e1]; exact f1.k3
 ·rw[ef,e2];refine Qk (B:=av (vR (DU x).toNat-vR (Jn x).toNat)) f64 m1.1 m1.2.1 fb.1 fb.2.1 ?_ ?_
  ·rw[<- e2]; exact f2.1
  ·have:=GM (vR (DU x).toNat-vR (Jn x).toNat);unfold Ab at *; grind
 ·have er:rv (K6 x) (i+1)=vR (JW (Co (x.getD (i+1) 0).toNat (-BK (BA x))).1 (CA (DU x) (Jn x)).toNat).1:=by unfold K6;rw[Agk (by omega),LR,DD]
  rw[T7 (by omega)] at hq
  have yb:Bd 1 (Co (x.getD (i+1) 0).toNat (-BK (BA x))).1:=by
   have hm:x.getD (i+1) 0∈x:=by rw[Al,As (show i+1<x.length by omega)];exact ya _
   have hb:=sb _ (zu.2 ⟨x.getD (i+1) 0,hm,rfl⟩);rw[DD] at hb;exact hb
  have vb:=Bd.div (j:=1) (t:=0) (by decide) yb f1;rw[er];exact Th yb.1 yb.2.1 f1.k3 f1.k4 f1.k0 vb.1 hq (GM q)
 ·unfold Lw;rw[LR];have tb:=Bd.div (j:=5) (t:=0) (by decide) f2 m2;exact Th f2.1 f2.2.1 m2.k3 m2.k4 m2.k0 tb.1 hq (GM q)
def vH(n:Nat)(v:Nat->Rat)(t:Rat)(a:Nat->Rat)(i:Nat):Rat:=a i-t*(sm n fun j=>v j*a j)*v i
theorem Af5{n:Nat}{v:Nat->Rat}{t c:Rat}{a b:Nat->Rat}(i:Nat):vH n v t (fun j=>c*a j+b j) i=c*vH n v t a i+vH n v t b i:=by
 unfold vH
 have e:sm n (fun j=>v j*(c*a j+b j))=c*sm n (fun j=>v j*a j)+sm n (fun j=>v j*b j):=by rw[<- Fq,<- Gn];exact BY n fun j _=>by grind
 rw[e]; grind
theorem Qf{n:Nat}{v:Nat->Rat}{t:Rat}{a b:Nat->Rat}(h:∀j,j<n->a j=b j){i:Nat}(hi:i<n):vH n v t a i=vH n v t b i:=by unfold vH;rw[BY n (f:=fun j=>v j*a j) (g:=fun j=>v j*b j) fun j hj=>by rw[h j hj],h i hi]
theorem Am6{n:Nat}{v a:Nat->Rat}{t s:Rat}(ht:Ab t (21 / 10))(hv:sq n v<=201 / 100)(ha:Ln n a s):Ln n (vH n v t a) (6*s):=by
 have lv:Ln n v (3 / 2):=⟨by decide +kernel,zo hv (by decide +kernel)⟩
 have hd:=lv.dot ha
 have hc:Ab (t*sm n fun j=>v j*a j) (21 / 10*(3 / 2*s)):=by have h1:=DP (IQ ht) (IQ hd) (by decide +kernel) (Ef _);rw[<- DN] at h1;have:=GM (t*sm n fun j=>v j*a j);unfold Ab at *; grind
 have h2:=lv.scale hc;have h3:=ha.sub h2;have s0:=ha.1;exact(h3.congr fun i _=>rfl).mono (by grind)
structure Amu(n:Nat)(x v:Nat->Rat)(t b s:Rat):Prop where
 tt:av (t*(t*sq n v-2))<=220*uR
 tb:Ab t (21 / 10)
 vv:sq n v<=201 / 100
 mir:Ln n (fun i=>vH n v t x i-if i=0 then b else 0) (205*uR*s+Cv)
theorem YN{n:Nat}(hn:n≠0)(i:Nat):rv (Gc n fun _=>0) i=if i=0 then 1 else 0:=by
 cases i with
 | zero =>rw[Az rfl];unfold rv Gc;rw[xW];exact Aaq
 | succ i =>
   rw[Ay (by omega)];have z:vR (wz 0)=0:=Ho wy;by_cases hi:i+1<n
   ·rw[Agk hi]; exact z
   ·unfold rv;rw[Al,AY (by rw[HF hn]; omega)];exact z
theorem AaS{x:Bb}{i:Nat}(h:CX (x.drop 1)=wg)(hi:0<i):rv x i=0:=by
 unfold rv;by_cases hl:i<x.length
 ·have hm:x.getD i 0∈x.drop 1:=by rw[Al,As hl];refine wt.2 ⟨i-1,by rw[List.length_drop]; omega,?_⟩;rw[List.getElem_drop];show x[1+(i-1)]=x[i];congr 1; omega
  have:=A3 (zE.1 h _ hm);refine NG ?_;unfold B8 at this;omega
 ·rw[Al,AY (by omega)];exact Ho wy
theorem Ui{x:Bb}{k:Nat}{s:Rat}(hk:x.length=k+1)(h6:k<=6)(ax:Bg x=wg)(he:(BV x).2.2.2=0)(hs:Ln (k+1) (rv x) s):
 Amu (k+1) (rv x) (rv (BV x).1) (vR (BV x).2.1.toNat) (vR (BV x).2.2.1.toNat) s:=by
 have u0:=E5;have e0:=Ek;have s0:=hs.1;have us:=ze (zc u0) s0;unfold BV at he ⊢;by_cases h1:x.length=0\/64<x.length
 ·rw[Az h1] at he; exact absurd he (by decide)
 rw[Ay h1] at he ⊢;by_cases hf':¬Dc x=wg
 ·rw[Ay hf'] at he; exact absurd he (by decide)
 have hf:=wY.1 hf';rw[Az hf] at he ⊢;unfold I2 at he ⊢;by_cases h3:CX (x.drop 1)=wg
 ·rw[Az h3];dsimp only;have hv:∀i,rv (Gc x.length fun _=>0) i=if i=0 then 1 else 0:=YN (by omega)
  have z:vR (wz 0)=0:=Ho wy;rw[z]
  have sv:sq (k+1) (rv (Gc x.length fun _=>0))=1:=by
   rw[KT,hv 0,Az rfl]
   have:sq k (fun i=>rv (Gc x.length fun _=>0) (i+1))=0:=by
    unfold sq
    rw[BY k (g:=fun _=>0) fun i _=>by dsimp only;rw[hv (i+1),Ay (by omega)]; grind]
    exact HC k
   rw[this]; grind
  refine⟨?_,by unfold Ab; grind,by rw[sv]; decide +kernel,?_⟩
  ·have:av (0*(0*sq (k+1) (rv (Gc x.length fun _=>0))-2))=0:=by rw[Rat.zero_mul]; decide
   rw[this]; grind
  ·refine((Ln.zero (k+1)).congr fun i hi=>?_).mono (by grind);unfold vH;cases i with
   | zero =>rw[Az rfl];show rv x 0-0*_*_-vR (x.getD 0 0).toNat=0;have:rv x 0=vR (x.getD 0 0).toNat:=rfl;rw[this]; grind
   | succ i =>rw[Ay (by omega),AaS h3 (by omega)]; grind
 ·rw[Ay h3] at he ⊢;by_cases h4':¬CO (DK x)=wg
  ·rw[Ay h4'] at he; exact absurd he (by decide)
  have h4:=wY.1 h4';rw[Az h4];dsimp only;have hsome:=OX h3;have M:=Aey hk h6 hf ax hsome;have hM:=M.AlQ;obtain⟨n2,tb,vv⟩:=M.AgP;have one:=M.one;have hlen:=M.len;obtain⟨m1,m2,m3,m4⟩:=VZ hf (by omega) hsome
  have hb:Nr (vR (DK x).toNat) (vR (Jn x).toNat*tw (BK (BA x))) Cv:=by have eb:(DK x).toNat=(Co (Jn x).toNat (BK (BA x))).1:=DD _ _;rw[eb];refine OD m1.1 m1.2.1 ?_;rw[<- eb];exact(N7 h4).1
  have hK:tw (BK (BA x))*tw (-BK (BA x))=1:=by rw[<- Ex,show BK (BA x)+-BK (BA x)=0 by omega]; exact Oz
  have hK0:=DC (BK (BA x));have hsb:=NO hf
  have hd:∀i,i<k+1->av (rv x i-tw (BK (BA x))*rv (BM x (-BK (BA x))) i)<=Cv*tw (BK (BA x)):=fun i hi=>by
   have hm:x.getD i 0∈x:=by rw[Al,As (show i<x.length by omega)];exact ya _
   have xk:=N7 (Jf hf _ hm);have yb:=hsb _ (zu.2 ⟨x.getD i 0,hm,rfl⟩);rw[DD] at yb;have h5:=GZ.1 (OD (n:=-BK (BA x)) xk.1 xk.2 yb.1);have ex:rv x i=vR (x.getD i 0).toNat:=rfl;rw[T7 (by omega),ex];generalize vR (Co (x.getD i 0).toNat (-BK (BA x))).1=Y at *
   generalize vR (x.getD i 0).toNat=X at *
   have e:X-tw (BK (BA x))*Y=-(Y-X*tw (-BK (BA x)))*tw (BK (BA x)):=by
    have:X=X*(tw (BK (BA x))*tw (-BK (BA x))):=by rw[hK]; grind
    grind
   rw[e,DN,Mf,MD (zc hK0)];exact zd h5 (zc hK0)
  generalize rv (BM x (-BK (BA x)))=y at *
  generalize vR (Jn x).toNat=μ at *
  generalize rv (K6 x)=v at *
  generalize vR (Lw x).toNat=t at *
  generalize vR (DK x).toNat=b at *
  generalize tw (BK (BA x))=K at *
  generalize rv x=X at *
  have eK:=ze (zc e0) (zc hK0)
  have lD:Ln (k+1) (fun i=>X i-K*y i) (3*(Cv*K)):=Ln.Kd eK (fun i hi=>by have:=hd i hi;have h2:=GM (X i-K*y i);unfold Ab at *; grind) (by omega)
  have hKm:K*av μ<=1001 / 1000*s:=by
   have a1:Ln (k+1) (fun i=>K*y i) (s+3*(Cv*K)):=(hs.sub lD).congr fun i _=>by grind
   have a2:sq (k+1) (fun i=>K*y i)=K*K*sq (k+1) y:=by unfold sq;rw[<- Fq];exact BY _ fun i _=>by grind
   have a3:=a1.2;rw[a2] at a3;have a4:=hlen.1;have c1:1+40*uR<=10001 / 10000*(10001 / 10000):=by decide +kernel
   have a5:=zd c1 (JI (k+1) y);have a6:=zl (show μ*μ<=10001 / 10000*(10001 / 10000)*sq (k+1) y by grind) (ze (zc hK0) (zc hK0))
   have a7:K*av μ<=10001 / 10000*(s+3*(Cv*K)):=by
    refine Lg (by grind) ?_;have e1:K*av μ*(K*av μ)=K*K*(μ*μ):=by rw[<- IP μ]; grind
    rw[e1];have a8:=zl a3 (show(0:Rat)<=10001 / 10000*(10001 / 10000) by decide +kernel);grind
   have a9:Cv*K<=1 / 1000000*(K*av μ):=by
    have b1:=zl one (zc hK0);have b2:Cv<=1 / 1000000:=by decide +kernel
    have b3:=DP b2 b1 (by decide +kernel) (by grind);grind
   grind
  have hM2:=hM.scale (c:=K) (B:=K) (by unfold Ab; grind);have hD2:=Am6 tb vv lD
  have hbe:Ln (k+1) (fun i=>if i=0 then μ*K-b else 0) Cv:=by
   refine⟨zc e0,?_⟩
   have e:sq (k+1) (fun i=>if i=0 then μ*K-b else 0)=(μ*K-b)*(μ*K-b):=by
    rw[KT]
    have:sq k (fun i=>if i+1=0 then μ*K-b else 0)=0:=by
     unfold sq
     rw[BY k (g:=fun _=>0) fun i _=>by dsimp only;rw[Ay (by omega)]; grind]
     exact HC k
    rw[this,Az rfl]; grind
   rw[e,<- IP];have:=GZ.1 hb.symm;exact LA (Ef _) this
  have hsum:=((hM2.add hD2).add hbe).congr (g:=fun i=>vH (k+1) v t X i-if i=0 then b else 0) fun i hi=>by
   have e1:vH (k+1) v t X i=K*vH (k+1) v t y i+vH (k+1) v t (fun i=>X i-K*y i) i:=by rw[<- Af5];exact Qf (fun j _=>by grind) hi
   have e2:vH (k+1) v t y i=y i-t*gR k y v*v i:=rfl;rw[e1,e2];by_cases h:i=0
   ·rw[Az h,Az h,Az h]; grind
   ·rw[Ay h,Ay h,Ay h]; grind
  refine⟨?_,tb,vv,hsum.mono ?_⟩
  ·rw[DN];have h1:=DP (IQ tb) (GZ.1 n2) (by decide +kernel) (Ef _);grind
  ·have k1:=Hp hKm
   have k2:Cv*K<=uR / 1000000*(K*av μ):=by
    have b1:=zl one (zc hK0);have b2:Cv<=uR / 1000000:=by decide +kernel
    have b3:=DP b2 b1 (by grind) (by grind);grind
   grind
theorem Ln.avs{n:Nat}{f:Nat->Rat}{s:Rat}(h:Ln n f s):Ln n (fun i=>av (f i)) s:=by
 refine⟨h.1,?_⟩;have e:sq n (fun i=>av (f i))=sq n f:=BY n fun i _=>IP (f i)
 rw[e]; exact h.2
theorem Ok{c t q T A z t' u e:Rat}(hc:0<=c)(hc2:c<=20)(hT:av T<=A)(hu:0<u)(hu2:u<=1 / 1000000)(he:0<e)
 (h1:Nr t T (3*c*u*A+2*c*e)) (h2:Nr q z (u*av z+e)) (h3:Nr t' (t+q) (u*(A+(3*c*u*A+2*c*e)+(av z+(u*av z+e))))):
 Nr t' (T+z) (3*(c+1)*u*(A+av z)+2*(c+1)*e)/\av (T+z)<=A+av z:=by
 have hA:0<=A:=zo (Ef T) hT;have hz:=Ef z;have a0:=ze (zc hu) hA;have b0:=ze (zc hu) hz
 have c1:3*c*u<=1:=by have:=zd hc2 (zc hu);grind
 have k1:=zd c1 a0;have k2:=zd (show u<=1 by grind) b0
 have c3:(2*c+1)*u<=1:=by have:=zd hc2 (zc hu);grind
 have k3:=zd c3 (zc he);have k4:=ze hc b0;have:=Hl T z;refine⟨?_,by grind⟩;unfold Nr at *
 grind
theorem ZO{j k:Nat}(hjk:j+k<=1000):∀(x y:Bb) (s t:Nat) (T A c:Rat),x.length=y.length->Bl j x->Bl k y->Bm t (j+k) s->0<t->t+x.length<=1000->av T<=A->0<=c->c+(x.length:Rat)<=20->Nr (vR s) T (3*c*uR*A+2*c*Cv) ->
 Nr (vR (J4 s x y)) (T+sm x.length fun i=>rv x i*rv y i) (3*(c+(x.length:Rat))*uR*(A+sm x.length fun i=>av (rv x i)*av (rv y i))+2*(c+(x.length:Rat))*Cv)
 | [],[],s,t,T,A,c,_,_,_,_,_,_,_,_,_,h=>by have z:((([]:Bb).length:Nat):Rat)=0:=rfl;have e:(sm ([]:Bb).length fun i=>rv [] i*rv [] i)=0:=rfl;have e':(sm ([]:Bb).length fun i=>av (rv [] i)*av (rv [] i))=0:=rfl;rw[z,e,e',xh,xh,xh];exact h
 | [],_::_,_,_,_,_,_,hl,_,_,_,_,_,_,_,_,_=>by simp at hl
 | _::_,[],_,_,_,_,_,hl,_,_,_,_,_,_,_,_,_=>by simp at hl
 | a::x,b::y,s,t,T,A,c,hl,hx,hy,hs,h0,ht,hT,hc,hc2,h=>by
   have el:(((a::x).length:Nat):Rat)=(x.length:Rat)+1:=by rw[zt]; exact yz _ 1
   simp only[zt] at ht hl;rw[el] at hc2 ⊢;have hln:=Jw x.length;have ba:=hx a AU;have bb:=hy b AU;have b2:=Bd.mul (show j+k<=1023 by omega) ba bb;have b3:=Bm.add (k:=j+k) (by omega) (by omega) hjk hs b2.bm;have m1:=OJ ba.1 ba.2.1 bb.1 bb.2.1 b2.1 (B:=av (vR a.toNat*vR b.toNat)) (GM _);have u0:=E5;have e0:=Ek
   have m2:=Tk hs.1 hs.2.1 b2.1 b2.2.1 b3.1 (B:=A+(3*c*uR*A+2*c*Cv)+(av (vR a.toNat*vR b.toNat)+(uR*av (vR a.toNat*vR b.toNat)+Cv))) (by
    have n1:=HP (z:=0) h;have n3:=HP (z:=0) m1;have n4:=Hl (vR s) (vR (EA a.toNat b.toNat).1);have n5:=GM (vR s+vR (EA a.toNat b.toNat).1);unfold Ab at *
    grind)
   obtain⟨st,sT⟩:=Ok hc (by grind) hT u0 Gb e0 h m1 m2;have ih:=ZO hjk x y _ (t+1) (T+vR a.toNat*vR b.toNat) (A+av (vR a.toNat*vR b.toNat)) (c+1) (by omega) (fun z hz=>hx z (AJ _ hz)) (fun z hz=>hy z (AJ _ hz)) b3 (by omega) (by omega) sT (by grind) (by grind) st
   have es:(sm (a::x).length fun i=>rv (a::x) i*rv (b::y) i)=vR a.toNat*vR b.toNat+sm x.length fun i=>rv x i*rv y i:=by rw[zt,Io];rfl
   have es':(sm (a::x).length fun i=>av (rv (a::x) i)*av (rv (b::y) i))=av (vR a.toNat*vR b.toNat)+sm x.length fun i=>av (rv x i)*av (rv y i):=by rw[zt,Io,DN];rfl
   have eq:J4 s (a::x) (b::y)=J4 (Em s (EA a.toNat b.toNat).1).1 x y:=rfl;rw[es,es',eq];rw[show T+(vR a.toNat*vR b.toNat+sm x.length fun i=>rv x i*rv y i)=T+vR a.toNat*vR b.toNat+sm x.length fun i=>rv x i*rv y i by grind,show A+(av (vR a.toNat*vR b.toNat)+sm x.length fun i=>av (rv x i)*av (rv y i))=A+av (vR a.toNat*vR b.toNat)+sm x.length fun i=>av (rv x i)*av (rv y i) by grind,show c+((x.length:Rat)+1)=c+1+(x.length:Rat) by grind];exact ih
theorem Adc{j k:Nat}(hjk:j+k<=1000){x y:Bb}{s t:Rat}(hl:x.length=y.length)(h7:x.length<=7)(hx:Bl j x)(hy:Bl k y)(lx:Ln x.length (rv x) s)(ly:Ln x.length (rv y) t):
 Nr (vR (Fu x y).toNat) (sm x.length fun i=>rv x i*rv y i) (21*uR*(s*t)+14*Cv):=by
 have u0:=E5;have e0:=Ek;have z0:vR 0=0:=Ho wy;have a0:av 0=0:=by decide
 have hlen:(x.length:Rat)<=7:=CR h7;have hln:=Jw x.length;have h:=ZO hjk x y 0 1 0 0 0 hl hx hy (Bd.zero wy (j+k)).bm (by decide) (by omega) (by rw[a0]; exact zY) zY (by grind) (by rw[z0]; unfold Nr; grind);have hd:=(lx.avs.dot ly.avs).2;have hd0:0<=sm x.length fun i=>av (rv x i)*av (rv y i):=Mn _ fun i _=>ze (Ef _) (Ef _)
 have e:(Fu x y).toNat=J4 0 x y:=Ad _;rw[e];rw[Rat.zero_add] at h;refine h.mono ?_;have k1:=Hp hd;have k2:=ze (zc u0) hd0;have k3:=zd hlen k2;have k4:=zd hlen (zc e0);grind
theorem Agj{c b i:Int}{n m:Nat}{l:Bb}(hm:m<n):rv (Cb c l b i n) m=vR (Cc c l (i+(m:Int)) b).toNat:=by unfold rv Cb;rw[Al,AW,yA hm];rfl
theorem W6{c i t b:Int}{l v:Bb}{n j:Nat}{s:Rat}(hn:v.length=n)(h7:n<=7)(hj:j<=900)(al:Bg l=wg)(hl:Bl j l)(hv:Bl 1 v)(ht:Bd 5 t.toNat)
 (vv:sq n (rv v)<=201 / 100) (tb:Ab (vR t.toNat) (21 / 10)) (ha:Ln n (rv (Cb c l b i n)) s):
 Ln n (fun m=>vR (CA (Cc c l (i+(m:Int)) b) (CN (HB c l i v t b) (v.getD m 0))).toNat-vH n (rv v) (vR t.toNat) (rv (Cb c l b i n)) m) (120*uR*s+100*Cv):=by
 have u0:=E5;have us:=Gb;have e0:=Ek;have e1:Cv<=1 / 1000000:=by decide +kernel
 have s0:=ha.1;have us0:=ze (zc u0) s0;have ue0:=ze (zc u0) (zc e0);have uus:uR*(uR*s)<=1 / 1000000*(uR*s):=zd us us0;have ue1:uR*Cv<=1 / 1000000*Cv:=zd us (zc e0);have us1:uR*s<=1 / 1000000*s:=zd us s0;have lv:Ln n (rv v) (3 / 2):=⟨by decide +kernel,zo vv (by decide +kernel)⟩
 have sl:(Cb c l b i n).length=n:=FF _ _ _ _ _;have hsg:Bl j (Cb c l b i n):=T6 hl;have hd:=Adc (j:=1) (k:=j) (x:=v) (y:=Cb c l b i n) (s:=3 / 2) (t:=s) (by omega) (by rw[hn,sl]) (by omega) hv hsg (by rw[hn]; exact lv) (by rw[hn]; exact ha);rw[hn] at hd;have db:=XZ (j:=1) (k:=j) (by omega) hv hsg (by omega);have dd:=(lv.dot ha)
 have wb:Bd (j+9) (HB c l i v t b).toNat:=by unfold HB;rw[IZ,hn];exact(Bd.mul (by omega) ht db).mono (by omega)
 have hw:Nr (vR (HB c l i v t b).toNat) (vR t.toNat*vR (Fu v (Cb c l b i n)).toNat) (uR*av (vR t.toNat*vR (Fu v (Cb c l b i n)).toNat)+Cv):=by
  have e:(HB c l i v t b).toNat=(EA t.toNat (Fu v (Cb c l b i n)).toNat).1:=by unfold HB;rw[IZ,hn]
  rw[e] at wb ⊢;exact OJ ht.1 ht.2.1 db.1 db.2.1 wb.1 (GM _)
 generalize HB c l i v t b=w at *
 have vHe:∀m,vH n (rv v) (vR t.toNat) (rv (Cb c l b i n)) m=rv (Cb c l b i n) m-vR t.toNat*(sm n fun i_1=>rv v i_1*rv (Cb c l b i n) i_1)*rv v m:=fun m=>rfl
 generalize (sm n fun i_1=>rv v i_1*rv (Cb c l b i n) i_1)=D at *
 generalize vR (Fu v (Cb c l b i n)).toNat=D' at *
 have d1:=IQ dd;have d2:=HP (z:=0) hd;have t1:=IQ tb;have d3:av D'<=16 / 10*s+15*Cv:=by grind
 have w1:av (vR t.toNat*D')<=34 / 10*s+32*Cv:=by rw[DN];have:=DP t1 d3 (by decide +kernel) (Ef _);grind
 have w2:=HP (z:=0) hw;have w3:=Hp w1;have wW:av (vR w.toNat)<=35 / 10*s+34*Cv:=by grind
 have wD:av (vR w.toNat-vR t.toNat*D)<=71*uR*s+32*Cv:=by have h1:=GZ.1 hw;have h2:=GZ.1 hd;have h3:=Hl (vR w.toNat-vR t.toNat*D') (vR t.toNat*(D' - D));rw[show vR w.toNat-vR t.toNat*D'+vR t.toNat*(D' - D)=vR w.toNat-vR t.toNat*D by grind,DN] at h3;have h4:=DP t1 h2 (by decide +kernel) (Ef _);grind
 have q1:∀m,av (vR (CN w (v.getD m 0)).toNat-vR w.toNat*rv v m)<=uR*(35 / 10*s+34*Cv)*av (rv v m)+Cv:=fun m=>by have bv:=No hv m;have bq:=Bd.mul (j:=j+9) (k:=1) (by omega) wb bv;have h1:=GZ.1 (OJ wb.1 wb.2.1 bv.1 bv.2.1 bq.1 (GM _));rw[IZ];have e:vR (v.getD m 0).toNat=rv v m:=rfl;rw[e,DN] at h1;have h2:=zd wW (Ef (rv v m));have h3:=Hp h2;grind
 have o1:∀m,m<n->av (vR (CA (Cc c l (i+(m:Int)) b) (CN w (v.getD m 0))).toNat-(rv (Cb c l b i n) m-vR (CN w (v.getD m 0)).toNat))<=uR*av (rv (Cb c l b i n) m-vR (CN w (v.getD m 0)).toNat):=fun m hm=>by
  have ba:=JX (c:=c) (i:=i+(m:Int)) (j:=b) hl
  have bq:Bd (j+10) (CN w (v.getD m 0)).toNat:=by rw[IZ];exact Bd.mul (j:=j+9) (k:=1) (by omega) wb (No hv m)
  have bo:=Bd.sub (k:=j+10) (by omega) (F4 (Ft _ _)) (ba.mono (by omega)) bq;rw[Agj hm,MI];exact GZ.1 (Qk (F4 (Ft _ _)) ba.1 ba.2.1 bq.1 bq.2.1 bo.1 (GM _))
 have L1:=lv.scale (c:=vR t.toNat*D-vR w.toNat) (B:=71*uR*s+32*Cv) (by have:=GM (vR w.toNat-vR t.toNat*D);unfold Ab at *; grind)
 have Lq:Ln n (fun m=>vR (CN w (v.getD m 0)).toNat-vR w.toNat*rv v m) (uR*(35 / 10*s+34*Cv)*(3 / 2)+3*Cv):=by
  have k1:=lv.avs.scale (c:=uR*(35 / 10*s+34*Cv)) (B:=uR*(35 / 10*s+34*Cv)) (by have:=ze (zc u0) (show 0<=35 / 10*s+34*Cv by grind);unfold Ab; grind)
  have k2:Ln n (fun _=>Cv) (3*Cv):=Ln.Kd (zc e0) (fun _ _=>by unfold Ab; grind) (by omega);exact Ln.Ac4 (fun m _=>q1 m) (k1.add k2)
 have La:Ln n (fun m=>rv (Cb c l b i n) m-vR (CN w (v.getD m 0)).toNat) (s+((35 / 10*s+34*Cv)*(3 / 2)+(uR*(35 / 10*s+34*Cv)*(3 / 2)+3*Cv))):=by
  have k1:=lv.scale (c:=vR w.toNat) (B:=35 / 10*s+34*Cv) (by have:=GM (vR w.toNat);unfold Ab at *; grind)
  exact(ha.sub (k1.add Lq)).congr fun m _=>by grind
 have Lo:Ln n (fun m=>vR (CA (Cc c l (i+(m:Int)) b) (CN w (v.getD m 0))).toNat-(rv (Cb c l b i n) m-vR (CN w (v.getD m 0)).toNat)) (uR*(s+((35 / 10*s+34*Cv)*(3 / 2)+(uR*(35 / 10*s+34*Cv)*(3 / 2)+3*Cv)))) :=Ln.Ac4 o1 (La.avs.scale (c:=uR) (B:=uR) (by unfold Ab; grind))
 have hs:=((Lo.sub Lq).add L1).congr (g:=fun m=>vR (CA (Cc c l (i+(m:Int)) b) (CN w (v.getD m 0))).toNat-vH n (rv v) (vR t.toNat) (rv (Cb c l b i n)) m) fun m _=>by rw[vHe]; grind
 refine hs.mono ?_;clear hs Lo La Lq L1 o1 q1 wD wW w3 w2 w1 d3 d2 d1 vHe hw wb dd db hd hsg lv ha hv hl al;have hA:uR*(35 / 10*s+34*Cv)<=35 / 10*(uR*s)+Cv:=by grind
 have hA1:uR*(35 / 10*s+34*Cv)<=s / 1000+Cv:=by grind
 generalize hAA:uR*(35 / 10*s+34*Cv)=A at *
 have hX:s+((35 / 10*s+34*Cv)*(3 / 2)+(A*(3 / 2)+3*Cv))<=7*s+60*Cv:=by grind
 have hX2:=Hp hX;have hX3:uR*(7*s+60*Cv)<=7*(uR*s)+Cv:=by grind
 have h1:(71*uR*s+32*Cv)*(3 / 2)=213 / 2*(uR*s)+48*Cv:=by grind
 rw[h1];have h2:120*uR*s+100*Cv=120*(uR*s)+100*Cv:=by grind
 rw[h2];generalize uR*(s+((35 / 10*s+34*Cv)*(3 / 2)+(A*(3 / 2)+3*Cv)))=X at *
 generalize uR*(7*s+60*Cv)=Y at *
 generalize uR*s=us' at *
 grind
def vx(j:Nat)(v:Nat->Rat)(i:Nat):Rat:=if i<j then 0 else v (i-j)
theorem Qp{j:Nat}{f:Nat->Rat}(h:∀i,i<j->f i=0):∀n,sm (j+n) f=sm n fun m=>f (j+m)
 | 0=>by rw[AM,BY j (g:=fun _=>0) h,HC];rfl
 | n+1=>by show sm (j+n) f+f (j+n)=sm n (fun m=>f (j+m))+f (j+n);rw[Qp h n]
theorem Afx(j n:Nat)(v a:Nat->Rat):(sm (j+n) fun i=>vx j v i*a i)=sm n fun m=>v m*a (j+m):=by
 rw[Qp (fun i hi=>by unfold vx; rw[Az hi]; grind)];refine BY n fun m _=>?_
 unfold vx;rw[Ay (by omega),xL]
theorem Afw(j n:Nat)(v:Nat->Rat):sq (j+n) (vx j v)=sq n v:=by
 unfold sq;rw[Afx j n v (vx j v)];refine BY n fun m _=>?_
 unfold vx;rw[Ay (by omega),xL]
theorem Ln.tail{j n:Nat}{f:Nat->Rat}{s:Rat}(h:∀i,i<j->f i=0)(k:Ln n (fun m=>f (j+m)) s):Ln (j+n) f s:=by
 refine⟨k.1,?_⟩;have e:sq (j+n) f=sq n fun m=>f (j+m):=Qp (f:=fun i=>f i*f i) (fun i hi=>by rw[h i hi]; grind) n
 rw[e]; exact k.2
theorem Mm(j:Nat)(f:Nat->Rat):∀n,sm (j+n) f=sm j f+sm n fun m=>f (j+m)
 | 0=>by show sm j f=sm j f+0;grind
 | n+1=>by
   show sm (j+n) f+f (j+n)=sm j f+(sm n (fun m=>f (j+m))+f (j+n))
   rw[Mm j f n]; grind
theorem Ln.behind{j n:Nat}{f:Nat->Rat}{s:Rat}(h:Ln (j+n) f s):Ln n (fun m=>f (j+m)) s:=by
 refine⟨h.1,zo ?_ h.2⟩;unfold sq;rw[Mm j (fun i=>f i*f i) n];have:=Mn (f:=fun i=>f i*f i) j fun i _=>Ck _
 grind
theorem V1{j n i:Nat}{v a:Nat->Rat}{t:Rat}:vH (j+n) (vx j v) t a i=if i<j then a i else vH n v t (fun m=>a (j+m)) (i-j):=by
 unfold vH;rw[Afx];by_cases h:i<j
 ·rw[Az h];unfold vx;rw[Az h]; grind
 ·rw[Ay h];unfold vx;rw[Ay h];dsimp only;rw[show j+(i-j)=i by omega]
structure Mi(r:Nat)(v:Nat->Rat)(t:Rat):Prop where
 tt:av (t*(t*sq r v-2))<=220*uR
 tb:Ab t (21 / 10)
 vv:sq r v<=201 / 100
section
variable{r:Nat}{v a:Nat->Rat}{t s:Rat}
theorem Mi.lv(h:Mi r v t):Ln r v (3 / 2):=⟨by decide +kernel,zo h.vv (by decide +kernel)⟩
theorem Af6(b:Nat->Rat):(sm r fun i=>vH r v t a i*vH r v t b i)=(sm r fun i=>a i*b i)+t*(t*sq r v-2)*((sm r fun i=>v i*a i)*sm r fun i=>v i*b i):=by
 unfold vH;generalize hg:(sm r fun j=>v j*a j)=g;generalize hh:(sm r fun j=>v j*b j)=k
 have e:(sm r fun i=>(a i-t*g*v i)*(b i-t*k*v i))=(sm r fun i=>a i*b i)+(-(t*k)*(sm r fun i=>v i*a i)+(-(t*g)*(sm r fun i=>v i*b i)+t*g*(t*k)*sq r v)):=by unfold sq;rw[<- Fq,<- Fq,<- Fq,<- Gn,<- Gn,<- Gn];exact BY r fun i _=>by grind
 rw[e,hg,hh];grind
theorem WJ(h:Mi r v t)(ha:Ln r a s):Ln r (vH r v t a) ((1+250*uR)*s):=by
 have u0:=E5;have s0:=ha.1;refine⟨ze (by grind) s0,?_⟩;have e:=Af6 (r:=r) (v:=v) (t:=t) (a:=a) a;have hd:=h.lv.dot ha
 have h1:av (t*(t*sq r v-2)*((sm r fun i=>v i*a i)*sm r fun i=>v i*a i))<=220*uR*(9 / 4*(s*s)):=by
  have h2:=IQ hd;have h3:=DP h2 h2 (by grind) (Ef _);have h4:=DP h.tt h3 (by grind) (by rw[IP]; exact Ck _);generalize (sm r fun i=>v i*a i)=g at *
  generalize t*(t*sq r v-2)=κ at *
  rw[DN,DN];grind
 have h4:=An5 (t*(t*sq r v-2)*((sm r fun i=>v i*a i)*sm r fun i=>v i*a i));have h5:=ha.2;have uss:=ze (zc u0) (Ck s);have u2:=ze (zc u0) uss;unfold sq at *
 rw[e];grind
theorem Af2(i:Nat):vH r v t (vH r v t a) i=a i+t*(t*sq r v-2)*(sm r fun j=>v j*a j)*v i:=by
 have e:(sm r fun j=>v j*vH r v t a j)=(sm r fun j=>v j*a j)+-(t*(sm r fun j=>v j*a j))*sq r v:=by
  unfold vH sq;generalize hg:(sm r fun j=>v j*a j)=g;rw[<- hg,hg,<- Fq]
  conv=>rhs; rw[<- hg]
  rw[<- Gn];exact BY r fun j _=>by grind
 have e2:vH r v t (vH r v t a) i=vH r v t a i-t*(sm r fun j=>v j*vH r v t a j)*v i:=rfl;have e3:vH r v t a i=a i-t*(sm r fun j=>v j*a j)*v i:=rfl;rw[e2,e,e3];grind
theorem AiF(h:Mi r v t)(ha:Ln r a s):Ln r (fun i=>a i-vH r v t (vH r v t a) i) (500*uR*s):=by
 have u0:=E5;have s0:=ha.1;have us:=ze (zc u0) s0;have hd:=h.lv.dot ha
 have h1:=h.lv.scale (c:=-(t*(t*sq r v-2)*(sm r fun j=>v j*a j))) (B:=220*uR*(3 / 2*s)) (by have h2:=DP h.tt (IQ hd) (by grind) (Ef _);rw[<- DN] at h2;have:=GM (t*(t*sq r v-2)*sm r fun j=>v j*a j);unfold Ab at *; grind)
 refine(h1.congr fun i _=>?_).mono (by grind);rw[Af2]; grind
theorem Af4(b:Nat->Rat)(i:Nat):vH r v t (fun j=>a j-b j) i=vH r v t a i-vH r v t b i:=by
 unfold vH
 have e:(sm r fun j=>v j*(a j-b j))=(sm r fun j=>v j*a j)+(-1)*sm r fun j=>v j*b j:=by rw[<- Fq,<- Gn];exact BY r fun j _=>by grind
 rw[e]; grind
theorem Af3(q:Nat->Nat->Rat)(R:Nat->Rat)(i:Nat):∀k,(sm k fun m=>vH r v t (q m) i*R m)=vH r v t (fun i=>sm k fun m=>q m i*R m) i
 | 0=>by
   show(0:Rat)=vH r v t (fun _=>0) i;unfold vH
   have:(sm r fun j=>v j*0)=0:=by rw[BY r (g:=fun _=>0) fun j _=>by grind];exact HC r
   rw[this]; grind
 | k+1=>by have ih:=Af3 q R i k;show(sm k fun m=>vH r v t (q m) i*R m)+vH r v t (q k) i*R k=vH r v t (fun i=>(sm k fun m=>q m i*R m)+q k i*R k) i;rw[ih];have:=Af5 (n:=r) (v:=v) (t:=t) (c:=R k) (a:=q k) (b:=fun i=>sm k fun m=>q m i*R m) i;rw[show(fun i=>(sm k fun m=>q m i*R m)+q k i*R k)=fun j=>R k*q k j+sm k fun m=>q m j*R m from funext fun j=>by grind,this];grind
end
theorem AlR{r:Nat}{e:Nat->Nat->Rat}{R:Nat->Rat}{x s:Rat}(hx:0<=x){k:Nat}(k9:k<=9)(h:∀m,m<k->Ln r (e m) x)(hR:Ln k R s):Ln r (fun i=>sm k fun m=>e m i*R m) (3*x*s):=by
 have h1:∀j,j<=k->Ln r (fun i=>sm j fun m=>e m i*R m) (x*sm j fun m=>av (R m)):=fun j=>by
  induction j with
  | zero =>
    intro _
    have z:x*(sm 0 fun m=>av (R m))=0:=by show x*0=0;grind
    rw[z];exact Ln.zero r
  | succ j ih =>
    intro hj;have h2:=(h j (by omega)).scale (c:=R j) (B:=av (R j)) (GM _);have h3:=(ih (by omega)).add h2
    have e1:x*(sm (j+1) fun m=>av (R m))=x*(sm j fun m=>av (R m))+av (R j)*x:=by show x*((sm j fun m=>av (R m))+av (R j))=_;grind
    rw[e1]
    exact h3.congr fun i _=>by show(sm j fun m=>e m i*R m)+e j i*R j=(sm j fun m=>e m i*R m)+R j*e j i;grind
 have h2:(sm k fun m=>av (R m))<=3*s:=by have o:Ln k (fun _=>(1:Rat)) (3*1):=Ln.Kd (by decide) (fun _ _=>by unfold Ab; grind) k9;have:=(o.dot hR.avs).2;rw[BY k (g:=fun m=>av (R m)) fun m _=>by grind] at this;grind
 refine(h1 k (A7 k)).mono ?_;have:=zl h2 hx;grind
def cl(c:Nat)(l:Bb)(b i:Nat):Rat:=vR (Cc (c:Int) l (i:Int) (b:Int)).toNat
theorem T5{c b j n m:Nat}{l:Bb}(hm:m<n):rv (Cb (c:Int) l (b:Int) (j:Int) n) m=cl c l b (j+m):=by rw[Agj hm];unfold cl;rw[yy]
theorem Sf{r c:Nat}{l v:Bb}{i k t:Int}{a b:Nat}(ha:a<r)(hb:b<c):Cc (c:Int) (Eh r c l i k v t) (a:Int) (b:Int)=FB (c:Int) l i k v t (a:Int) (b:Int):=G2 ha hb
theorem OK{r c j a b:Nat}{l:Bb}(ha:a<r)(hb:b<c):Cc (c:Int) (Kg r c l j) (a:Int) (b:Int)=if b=j/\j<=a then (if a=j then (BV (CT r c l j)).2.2.1 else 0) else FB (c:Int) l (j:Int) (j:Int) (BV (CT r c l j)).1 (BV (CT r c l j)).2.1 (a:Int) (b:Int):=by
 unfold Kg H9;refine(G2 ha hb).trans ?_;split
 ·rfl
 ·exact Sf ha hb
theorem Aex{n:Nat}{j:Nat}{x v:Nat->Rat}{t b s:Rat}(h:Amu n x v t b s):Mi (j+n) (vx j v) t :=⟨by rw[Afw]; exact h.tt,h.tb,by rw[Afw]; exact h.vv⟩
section
variable{r c j k b K:Nat}{l:Bb}{s:Rat}
theorem AfT(hn:j+(k+1)=r)(hr:r<=6)(hj:j<c)(hb:b<c)(al:Bg l=wg)(hK:Bl K l)(hK9:K<=900)(he:(BV (CT r c l j)).2.2.2=0)(hz:∀b i:Nat,b<j->b<i->i<r->cl c l b i=0)(hs:Ln r (cl c l b) s):
 Ln r (fun i=>cl c (Kg r c l j) b i-vH r (vx j (rv (BV (CT r c l j)).1)) (vR (BV (CT r c l j)).2.1.toNat) (cl c l b) i) (205*uR*s+100*Cv):=by
 have u0:=E5;have e0:=Ek;have s0:=hs.1;have us:=ze (zc u0) s0;have lc:(CT r c l j).length=k+1:=by unfold CT; rw[FF]; omega
 have ac:Bg (CT r c l j)=wg:=HU al;have ml:=Ld he;have bc:Bl K (CT r c l j):=T6 hK;obtain⟨mb1,mb2,mb3⟩:=AcC (by omega) bc ac (by omega) he
 have rc:∀m,m<k+1->rv (CT r c l j) m=cl c l j (j+m):=fun m hm=>by unfold CT;rw[show r-j=k+1 by omega];exact T5 hm
 have base:Amu (k+1) (rv (CT r c l j)) (rv (BV (CT r c l j)).1) (vR (BV (CT r c l j)).2.1.toNat) (vR (BV (CT r c l j)).2.2.1.toNat) (sq (k+1) (rv (CT r c l j))+1):=by
  refine Ui lc (by omega) ac he ⟨?_,?_⟩
  ·have:=JI (k+1) (rv (CT r c l j)); grind
  ·have h0:=JI (k+1) (rv (CT r c l j));generalize sq (k+1) (rv (CT r c l j))=q at *
   have:=Ck q;grind
 generalize hv:(BV (CT r c l j)).1=v at *
 generalize ht:(BV (CT r c l j)).2.1=t at *
 have vl:v.length=k+1:=by omega
 subst hn;by_cases h1:b<j
 ·refine((Ln.zero (j+(k+1))).congr fun i hi=>?_).mono (by grind)
  have e1:cl c (Kg (j+(k+1)) c l j) b i=cl c l b i:=by unfold cl;rw[OK hi hb,Ay (by omega)];unfold FB;rw[Ay (by omega)]
  rw[e1];unfold vH
  have z:(sm (j+(k+1)) fun m=>vx j (rv v) m*cl c l b m)=0:=by
   rw[Afx]
   rw[BY (k+1) (g:=fun _=>0) fun m hm=>by rw[hz b (j+m) h1 (by omega) (by omega)]; grind]
   exact HC _
  rw[z]; grind
 by_cases h2:b=j
 ·subst h2;have hsb:=hs.behind;have M:=Ui (s:=s) lc (by omega) ac he (hsb.congr fun m hm=>rc m hm);rw[hv,ht] at M;refine(Ln.tail (s:=205*uR*s+Cv) (fun i hi=>?_) ?_).mono (by grind)
  ·rw[V1,Az hi];unfold cl;rw[OK (by omega) hb,Ay (by omega)];unfold FB;rw[Ay (by omega)]; grind
  ·refine M.mir.neg.congr fun m hm=>?_
   rw[V1,Ay (by omega),xL];have e:vH (k+1) (rv v) (vR t.toNat) (fun m=>cl c l b (b+m)) m=vH (k+1) (rv v) (vR t.toNat) (rv (CT (b+(k+1)) c l b)) m:=Qf (fun m hm=>(rc m hm).symm) hm;rw[e];unfold cl;rw[OK (by omega) hb,Az ⟨rfl,by omega⟩];by_cases h0:m=0
   ·subst h0;rw[AM,Az rfl,Az rfl]; grind
   ·rw[Ay (by omega),Ay h0];have z:vR (wz 0)=0:=Ho wy;rw[z]; grind
 ·have hsb:=hs.behind;have A:=W6 (c:=(c:Int)) (i:=(j:Int)) (b:=(b:Int)) (t:=t) (s:=s) vl (by omega) hK9 al hK mb1 mb2 base.vv base.tb (hsb.congr fun m hm=>T5 hm);refine(Ln.tail (s:=120*uR*s+100*Cv) (fun i hi=>?_) ?_).mono (by grind)
  ·rw[V1,Az hi];unfold cl;rw[OK (by omega) hb,Ay (by omega)];unfold FB;rw[Ay (by omega)]; grind
  ·refine A.congr fun m hm=>?_
   rw[V1,Ay (by omega),xL];have e:vH (k+1) (rv v) (vR t.toNat) (fun m=>cl c l b (j+m)) m=vH (k+1) (rv v) (vR t.toNat) (rv (Cb (c:Int) l (b:Int) (j:Int) (k+1))) m:=Qf (fun m hm=>(T5 hm).symm) hm;rw[e];unfold cl;rw[OK (by omega) hb,Ay (by omega),hv,ht];unfold FB;rw[Az (by omega),show(((j+m:Nat):Int)-(j:Int)).toNat=m by omega,yy]
theorem AdJ(hj:j<c)(hz:∀b i:Nat,b<j->b<i->i<r->cl c l b i=0):∀b i:Nat,b<j+1->b<i->i<r->cl c (Kg r c l j) b i=0:=by
 intro b i hb hbi hi;unfold cl;rw[OK hi (by omega)];by_cases h:b=j
 ·rw[Az ⟨h,by omega⟩,Ay (by omega)];exact Ho wy
 ·rw[Ay (by omega)];unfold FB;rw[Ay (by omega)];exact hz b i (by omega) hbi hi
end
theorem WZ(n:Nat)(f:Nat->Rat):F6 n f=sm n f:=by
 induction n with
 | zero=>rfl
 | succ n ih=>unfold F6 sm; rw[ih]
theorem IC{f g:Nat->Rat}(n:Nat)(h:∀i,i<n->f i=g i):F6 n f=F6 n g:=by rw[WZ,WZ]; exact BY n h
theorem Dg.sum{g t m:Nat}{f:Nat->Rat}:∀n,(∀i,i<n->Dg g t m (f i))->Dg g t (n*m) (F6 n f)
 | 0,_=>Dg.zero g t _
 | n+1,h=>by unfold F6;rw[Nat.succ_mul];exact(Dg.sum n fun i hi=>h i (by omega)).add (h n (by omega))
theorem Dg.LZ{g t m n k:Nat}{f:Nat->Rat}(hn:n<=k)(h:∀i,i<n->Dg g t m (f i)):Dg g t (k*m) (F6 n f):=(Dg.sum n h).mono (An _ hn)
theorem Ds.dq{x:Rat}(h:Ds x):Dq x:=by obtain⟨g,t,n,h1,h2,h3,h⟩:=h;exact h.dq (by omega) (by omega) (by omega)
theorem Dg.ds{g t n:Nat}{x:Rat}(h:Dg g t n x)(hg:g<=15000)(ht:t<=15000)(hn:n<=536870912):Ds x:=⟨g,t,n,hg,ht,hn,h⟩
theorem Amj{x:Rat}(h:Ds x):dsB (BB (mQ x)) (Bn (mQ x)) (eQ x)=wg:=Bt.2 ⟨x,h,rfl,rfl,rfl⟩
theorem AcY{n:Bool}{a:Bb}{e:Int}(h:dsB n a e=wg):∃x,Ds x/\n=BB (mQ x)/\a=Bn (mQ x)/\e=eQ x:=Bt.1 h
theorem E7{x:Rat}(h:Dq x):DY x=x:=L7 h
theorem EL{x:Rat}(h:Dq x):Nk x=wg:=XW h
theorem AhV{x:Rat}(h:Ds x):dSo x=wg:=Amj h
theorem Dg.wv(x:Int):Dg 1074 2100 1 (DW x):=Dg.word _ (by decide)
theorem Dg.wv2(x y:Int):Dg 2148 4200 1 (DW x*DW y):=(Dg.wv x).mul (Dg.wv y)
theorem Dg.dot{n:Nat}{f g:Nat->Int}(h:n<=64):Dg 2148 4200 64 (F6 n fun i=>DW (f i)*DW (g i)):=Dg.LZ (m:=1) h fun i _=>Dg.wv2 _ _
theorem Dg.lk{c q i k:Nat}{l m h:Bb}(hc:c<=6):Dg 2148 4200 7 (Px c l m h q i k):=by unfold Px;have h2:Dg (1074+1074) (2100+1074) 1 (DW (Cc (q:Int) h (i:Int) (k:Int))):=(Dg.wv _).up 1074;exact Dg.sub (n:=6) (m:=1) (Dg.LZ (m:=1) hc fun i _=>Dg.wv2 _ _) (h2.wide (s:=4200) (by decide))
theorem Dg.grow{r c q j k:Nat}{l m h:Bb}(hr:r<=6)(hc:c<=6):Dg 3222 6300 42 (F6 r fun i=>DW (Cc (c:Int) l (i:Int) (j:Int))*Px c l m h q i k) :=Dg.LZ (m:=7) hr fun i _=>(Dg.wv (Cc (c:Int) l (i:Int) (j:Int))).mul (Dg.lk (c:=c) (q:=q) (i:=i) (k:=k) (l:=l) (m:=m) (h:=h) hc)
theorem Dg.AoO{r c q:Nat}{l m h:Bb}(hr:r<=6)(hc:c<=6)(hq:q<=6):Dg 6444 12600 63504 (Jr r c q l m h) :=Dg.LZ (m:=10584) hq fun k _=>Dg.LZ (m:=1764) hc fun j _=>(Dg.grow (j:=j) (k:=k) (l:=l) (m:=m) (h:=h) hr hc).mul (Dg.grow (j:=j) (k:=k) hr hc)
theorem Dg.sq{x:Bb}(h:x.length<=64):Dg 2148 4200 64 (Im x):=Dg.dot h
theorem SV{x:Rat}(h:Dq x):Ph (dyR x)=x:=L7 h
end Go.CI
namespace Go.Proofs.S1
open Go Go.Den Go.CI Go.Proofs
set_option maxRecDepth 100000
def Bv.D0.q.hint:Nat->Option BH
 | 0=>xM { CH:=[0,2,3,4],BW:=[],Cf:=[2,3] }
 | _=>xN
def Bv.D0.q.E:=CP (CC [(10,Bx.Add.q.Bk),(9,Bx.Mul.q.Bk),(43,BJ.Value.q.Bk)]) (fun _=>wy) Bv.D0.q.hint (fun _=>xN)
section
variable(N M:Nat)(x:Bb)(p4:Int)(p3:Bool)(p3_1:Bb)(p3_2:Int)
def Bv.D0.q.L0:Option DV:=BU Bv.D0.q.E N f30 (Br f30) [1,1,0,1,0] [] M ⟨EP 24 [(0,.Bh .arg .u64 x),(2,.ptr 2 0 0),(3,.ptr 3 0 0),(4,.int .i64 0)],[(2,wy,.box [.bool wy,.nil,.int .i64 0]),(3,wy,.box [.bool wy,.nil,.int .i64 0])]⟩
def Bv.D0.q.L1:Option DV:=BU Bv.D0.q.E N f30 (Br f30) [1,1,0,1,0] [] M ⟨EP 24 [(0,.Bh .arg .u64 x),(2,.ptr 2 0 0),(3,.ptr 3 0 0),(4,.int .i64 p4)],[(2,wy,.box [.bool wy,.nil,.int .i64 0]),(3,wy,.box [.bool p3,.Bh .arg .u32 p3_1,.int .i64 p3_2])]⟩
theorem Bv.D0.q.B1:Bv.D0.q.L0 N (M+1) x=cond (BI 0 (vA x:Int)) (bif (decide ((0:Int)<(vA x:Int))) then cond (Bo (vB x 0 0)) (bif (Nk (DW (vB x 0 0))&&Nk (DW (vB x 0 0))) then cond (S5 wy [] 0&&Nk (DY (DW (vB x 0 0))*DY (DW (vB x 0 0)))) (Bv.D0.q.L1 N M x 1 (BB (mQ (vQ wy [] 0+DY (DY (DW (vB x 0 0))*DY (DW (vB x 0 0)))))) (Bn (mQ (vQ wy [] 0+DY (DY (DW (vB x 0 0))*DY (DW (vB x 0 0)))))) (eQ (vQ wy [] 0+DY (DY (DW (vB x 0 0))*DY (DW (vB x 0 0)))))) xN else xN) xN else xN) (xM (.agg [.bool wy,.nil,.int .i64 0])) :=Et (DJ (DJ (DJ (C0 (Cp _) (C0 (Cp _) rfl rfl) rfl) rfl) rfl) rfl)
theorem Bv.D0.q.BZ:Bv.D0.q.L1 N (M+1) x p4 p3 p3_1 p3_2=cond (BI p4 (vA x:Int)) (bif ((decide (0<=p4))&&(decide (p4<(vA x:Int)))) then cond (Bo (vB x (wz p4) 0)) (bif (Nk (DW (vB x (wz p4) 0))&&Nk (DW (vB x (wz p4) 0))) then cond (S5 p3 p3_1 p3_2&&Nk (DY (DW (vB x (wz p4) 0))*DY (DW (vB x (wz p4) 0)))) (Bv.D0.q.L1 N M x (Be (p4+1)) (BB (mQ (vQ p3 p3_1 p3_2+DY (DY (DW (vB x (wz p4) 0))*DY (DW (vB x (wz p4) 0)))))) (Bn (mQ (vQ p3 p3_1 p3_2+DY (DY (DW (vB x (wz p4) 0))*DY (DW (vB x (wz p4) 0)))))) (eQ (vQ p3 p3_1 p3_2+DY (DY (DW (vB x (wz p4) 0))*DY (DW (vB x (wz p4) 0)))))) xN else xN) xN else xN) (xM (.agg [.bool p3,.Bh .arg .u32 p3_1,.int .i64 p3_2])) :=Et (DJ (DJ (DJ (C0 (Cp _) (C0 (Cp _) rfl rfl) rfl) rfl) rfl) rfl)
theorem Bv.D0.q.ev:BX Bv.D0.q.E N f30 (Br f30) [.Bh .arg .u64 x]=
 Bv.D0.q.L0 N N x:=by kernel_rfl
end
def B6.I7.E:=E0 [(30,Bv.D0.q.Bk)]
theorem B6.I7.ev(N:Nat)(r c:Int)(l:Bb):BX B6.I7.E N f8 (Br f8) [.agg [.int .i64 r,.int .i64 c,.Bh .arg .u64 l]]=cond (CW l&&CE (vA l<=64)) (xM (.agg [.bool (BB (mQ (Im l))),.Bh .arg .u32 (Bn (mQ (Im l))),.int .i64 (eQ (Im l))])) xN:=by kernel_rfl
def B6.FL.q.hint:Nat->Option BH
 | 0=>xM { CH:=[0,1,4,5,6],BW:=[],Cf:=[4,5] }
 | _=>xN
def B6.FL.q.E:=CP (CC [(10,Bx.Add.q.Bk),(9,Bx.Mul.q.Bk),(43,BJ.Value.q.Bk)]) (fun _=>wy) B6.FL.q.hint (fun _=>xN)
section
variable(N M:Nat)(x y:Bb)(p6:Int)(p5:Bool)(p5_1:Bb)(p5_2:Int)
def B6.FL.q.L0:Option DV:=BU B6.FL.q.E N f40 (Br f40) [1,1,0,1,0] [] M ⟨EP 28 [(0,.Bh .arg .u64 x),(1,.Bh .arg .u64 y),(4,.ptr 4 0 0),(5,.ptr 5 0 0),(6,.int .i64 0)],[(4,wy,.box [.bool wy,.nil,.int .i64 0]),(5,wy,.box [.bool wy,.nil,.int .i64 0])]⟩
def B6.FL.q.L1:Option DV:=BU B6.FL.q.E N f40 (Br f40) [1,1,0,1,0] [] M ⟨EP 28 [(0,.Bh .arg .u64 x),(1,.Bh .arg .u64 y),(4,.ptr 4 0 0),(5,.ptr 5 0 0),(6,.int .i64 p6)],[(4,wy,.box [.bool wy,.nil,.int .i64 0]),(5,wy,.box [.bool p5,.Bh .arg .u32 p5_1,.int .i64 p5_2])]⟩
theorem B6.FL.q.B1:B6.FL.q.L0 N (M+1) x y=cond (BI 0 (vA x:Int)) (bif (decide ((0:Int)<(vA x:Int))) then cond (Bo (vB x 0 0)) (bif (decide ((0:Int)<(vA y:Int))) then cond (Bo (vB y 0 0)) (bif (Nk (DW (vB x 0 0))&&Nk (DW (vB y 0 0))) then cond (S5 wy [] 0&&Nk (DY (DW (vB x 0 0))*DY (DW (vB y 0 0)))) (B6.FL.q.L1 N M x y 1 (BB (mQ (vQ wy [] 0+DY (DY (DW (vB x 0 0))*DY (DW (vB y 0 0)))))) (Bn (mQ (vQ wy [] 0+DY (DY (DW (vB x 0 0))*DY (DW (vB y 0 0)))))) (eQ (vQ wy [] 0+DY (DY (DW (vB x 0 0))*DY (DW (vB y 0 0)))))) xN else xN) xN else xN) xN else xN) (xM (.agg [.bool wy,.nil,.int .i64 0])) :=Et (DJ (C0 (Cp _) (C0 (Cp _) (C0 (Cp _) (C0 (Cp _) (C0 (Cp _) (C0 (Cp _) rfl rfl) rfl) rfl) rfl) rfl) rfl) rfl)
theorem B6.FL.q.BZ:B6.FL.q.L1 N (M+1) x y p6 p5 p5_1 p5_2=cond (BI p6 (vA x:Int)) (bif ((decide (0<=p6))&&(decide (p6<(vA x:Int)))) then cond (Bo (vB x (wz p6) 0)) (bif ((decide (0<=p6))&&(decide (p6<(vA y:Int)))) then cond (Bo (vB y (wz p6) 0)) (bif (Nk (DW (vB x (wz p6) 0))&&Nk (DW (vB y (wz p6) 0))) then cond (S5 p5 p5_1 p5_2&&Nk (DY (DW (vB x (wz p6) 0))*DY (DW (vB y (wz p6) 0)))) (B6.FL.q.L1 N M x y (Be (p6+1)) (BB (mQ (vQ p5 p5_1 p5_2+DY (DY (DW (vB x (wz p6) 0))*DY (DW (vB y (wz p6) 0)))))) (Bn (mQ (vQ p5 p5_1 p5_2+DY (DY (DW (vB x (wz p6) 0))*DY (DW (vB y (wz p6) 0)))))) (eQ (vQ p5 p5_1 p5_2+DY (DY (DW (vB x (wz p6) 0))*DY (DW (vB y (wz p6) 0)))))) xN else xN) xN else xN) xN else xN) (xM (.agg [.bool p5,.Bh .arg .u32 p5_1,.int .i64 p5_2])) :=Et (DJ (C0 (I1 _ _) (C0 (Cp _) (C0 (I1 _ _) (C0 (Cp _) (C0 (Cp _) (C0 (Cp _) rfl rfl) rfl) rfl) rfl) rfl) rfl) rfl)
theorem B6.FL.q.ev:BX B6.FL.q.E N f40 (Br f40) [.Bh .arg .u64 x,.Bh .arg .u64 y]=
 B6.FL.q.L0 N N x y:=by kernel_rfl
end
def B6.FN.hint:Nat->Option BH
 | 0=>xM { CH:=[0,1,4,5,6],BW:=[],Cf:=[4,5] }
 | _=>xN
def B6.FN.Il:List (Nat × EC):=[(10,Bx.Add.q.Bk),(9,Bx.Mul.q.Bk),(43,BJ.Value.q.Bk)]
def B6.FN.E:Env:=Oj (CC B6.FN.Il) (fun _=>wy) B6.FN.hint (fun _=>xN) (Vc [(35,[.b,.s .u32]),(37,[.b,.s .u32,.i .i64])])
section
variable(N M:Nat)(x:Bb)(y:List (List DV))(p6:Int)(p5:Bool)(p5_1:Bb)(p5_2:Int)
def B6.FN.L0:Option DV:=BU B6.FN.E N f45 (Br f45) [1,1,0,1,0] [] M ⟨EP 27 [(0,.Bh .arg .u64 x),(1,.C3 .arg 3 y),(4,.ptr 4 0 0),(5,.ptr 5 0 0),(6,.int .i64 0)],[(4,wy,.box [.bool wy,.nil,.int .i64 0]),(5,wy,.box [.bool wy,.nil,.int .i64 0])]⟩
def B6.FN.L1:Option DV:=BU B6.FN.E N f45 (Br f45) [1,1,0,1,0] [] M ⟨EP 27 [(0,.Bh .arg .u64 x),(1,.C3 .arg 3 y),(4,.ptr 4 0 0),(5,.ptr 5 0 0),(6,.int .i64 p6)],[(4,wy,.box [.bool wy,.nil,.int .i64 0]),(5,wy,.box [.bool p5,.Bh .arg .u32 p5_1,.int .i64 p5_2])]⟩
theorem B6.FN.B1:B6.FN.L0 N (M+1) x y=cond (BI 0 (vA x:Int)) (bif (decide ((0:Int)<(vA x:Int))) then cond (Bo (vB x 0 0)) (bif (decide ((0:Int)<(vA y:Int))) then cond ((Wl .b (vB (vB y 0 []) 0 .undef))&&((Wl (.s .u32) (vB (vB y 0 []) 1 .undef))&&(Wl (.i .i64) (vB (vB y 0 []) 2 .undef)))) (bif (Nk (DW (vB x 0 0))&&S5 (J3 (vB (vB y 0 []) 0 .undef)) (GC (vB (vB y 0 []) 1 .undef)) (JT (vB (vB y 0 []) 2 .undef))) then cond (S5 wy [] 0&&Nk (DY (DW (vB x 0 0))*vQ (J3 (vB (vB y 0 []) 0 .undef)) (GC (vB (vB y 0 []) 1 .undef)) (JT (vB (vB y 0 []) 2 .undef)))) (B6.FN.L1 N M x y 1 (BB (mQ (vQ wy [] 0+DY (DY (DW (vB x 0 0))*vQ (J3 (vB (vB y 0 []) 0 .undef)) (GC (vB (vB y 0 []) 1 .undef)) (JT (vB (vB y 0 []) 2 .undef)))))) (Bn (mQ (vQ wy [] 0+DY (DY (DW (vB x 0 0))*vQ (J3 (vB (vB y 0 []) 0 .undef)) (GC (vB (vB y 0 []) 1 .undef)) (JT (vB (vB y 0 []) 2 .undef)))))) (eQ (vQ wy [] 0+DY (DY (DW (vB x 0 0))*vQ (J3 (vB (vB y 0 []) 0 .undef)) (GC (vB (vB y 0 []) 1 .undef)) (JT (vB (vB y 0 []) 2 .undef)))))) xN else xN) xN else xN) xN else xN) (xM (.agg [.bool wy,.nil,.int .i64 0])) :=Et (DJ (C0 (Cp _) (C0 (Cp _) (C0 (Cp _) (C0 (AmI _ _ _) (C0 (Cp _) (C0 (Cp _) rfl rfl) rfl) rfl) rfl) rfl) rfl) rfl)
theorem B6.FN.BZ:B6.FN.L1 N (M+1) x y p6 p5 p5_1 p5_2=cond (BI p6 (vA x:Int)) (bif ((decide (0<=p6))&&(decide (p6<(vA x:Int)))) then cond (Bo (vB x (wz p6) 0)) (bif ((decide (0<=p6))&&(decide (p6<(vA y:Int)))) then cond ((Wl .b (vB (vB y (wz p6) []) 0 .undef))&&((Wl (.s .u32) (vB (vB y (wz p6) []) 1 .undef))&&(Wl (.i .i64) (vB (vB y (wz p6) []) 2 .undef)))) (bif (Nk (DW (vB x (wz p6) 0))&&S5 (J3 (vB (vB y (wz p6) []) 0 .undef)) (GC (vB (vB y (wz p6) []) 1 .undef)) (JT (vB (vB y (wz p6) []) 2 .undef))) then cond (S5 p5 p5_1 p5_2&&Nk (DY (DW (vB x (wz p6) 0))*vQ (J3 (vB (vB y (wz p6) []) 0 .undef)) (GC (vB (vB y (wz p6) []) 1 .undef)) (JT (vB (vB y (wz p6) []) 2 .undef)))) (B6.FN.L1 N M x y (Be (p6+1)) (BB (mQ (vQ p5 p5_1 p5_2+DY (DY (DW (vB x (wz p6) 0))*vQ (J3 (vB (vB y (wz p6) []) 0 .undef)) (GC (vB (vB y (wz p6) []) 1 .undef)) (JT (vB (vB y (wz p6) []) 2 .undef)))))) (Bn (mQ (vQ p5 p5_1 p5_2+DY (DY (DW (vB x (wz p6) 0))*vQ (J3 (vB (vB y (wz p6) []) 0 .undef)) (GC (vB (vB y (wz p6) []) 1 .undef)) (JT (vB (vB y (wz p6) []) 2 .undef)))))) (eQ (vQ p5 p5_1 p5_2+DY (DY (DW (vB x (wz p6) 0))*vQ (J3 (vB (vB y (wz p6) []) 0 .undef)) (GC (vB (vB y (wz p6) []) 1 .undef)) (JT (vB (vB y (wz p6) []) 2 .undef)))))) xN else xN) xN else xN) xN else xN) (xM (.agg [.bool p5,.Bh .arg .u32 p5_1,.int .i64 p5_2])) :=Et (DJ (C0 (I1 _ _) (C0 (Cp _) (C0 (I1 _ _) (C0 (AmI _ _ _) (C0 (Cp _) (C0 (Cp _) rfl rfl) rfl) rfl) rfl) rfl) rfl) rfl)
theorem B6.FN.ev:BX B6.FN.E N f45 (Br f45) [.Bh .arg .u64 x,.C3 .arg 3 y]=
 B6.FN.L0 N N x y:=by kernel_rfl
end
abbrev B6.FN.Kn:=DR prog 45 B6.FN.Bk
theorem B6.FN.DF(hk:FD prog B6.FN.Il)(h:Hyp B6.FN.E f45 B6.FN.ts B6.FN.pre B6.FN.out):B6.FN.Kn :=Fk (OW hk _ _ _ _) func45 (by kernel_rfl) (by kernel_rfl) h
def B6.BD.hint:Nat->Option BH
 | 0=>xM { CH:=[3,4,5,6,7,8],BW:=[],Cf:=[3,4,5,6,7] }
 | 2=>xM { CH:=[3,4,5,6,7,8,9,10],BW:=[(0,9,100009,.C3 37 3 [])],Cf:=[3,4,5,6,7] }
 | 4=>xM { CH:=[3,4,5,6,7,8,9,11],BW:=[(0,9,100009,.C3 37 3 [])],Cf:=[3,4,5,6,7] }
 | _=>xN
def B6.BD.Il:List (Nat × EC):=[(10,Bx.Add.q.Bk),(9,Bx.Mul.q.Bk),(39,Bx.Sub.q.Bk),(43,BJ.Value.q.Bk),(44,B3.At.Bk),(42,B3.P7.Bk),(41,B3.Row.Bk),(40,B6.FL.q.Bk),(45,B6.FN.Bk)]
def B6.BD.E:Env:=Oj (CC B6.BD.Il) (fun _=>wy) B6.BD.hint (fun _=>xN) (Vc [(35,[.b,.s .u32]),(37,[.b,.s .u32,.i .i64])])
section
variable(N M0 M:Nat)(r c:Int)(l:Bb)(p q:Int)(m:Bb)(u v:Int)(h:Bb)(p8_2:Int)(p7_3:Bool)(p7_4:Bb)(p7_5 p8_6:Int)(p7_9:Bool)(p7_10:Bb)(p7_11:Int)(p9_4:List (List DV))(p11:Int)(p7:Bool)(p7_1:Bb)(p7_2 p8_1:Int)(p9_3:List (List DV))(p8_4:Int)(p9_2:List (List DV))(p10_1:Int)(p9_1:List (List DV))(p8_5:Int)(p7_6:Bool)(p7_7:Bb)(p7_8 p10:Int)(p9:List (List DV))(p8_3 p8:Int)
def B6.BD.L0:Option DV:=BU B6.BD.E N f12 (Br f12) [1,1,0,1,0] [] M ⟨EP 60 [(3,.ptr 3 0 0),(4,.ptr 4 0 0),(5,.ptr 5 0 0),(6,.ptr 6 0 0),(7,.ptr 7 0 0),(8,.int .i64 p8)],[(3,wy,.box [.int .i64 r,.int .i64 c,.Bh .arg .u64 l]),(4,wy,.box [.int .i64 p,.int .i64 q,.Bh .arg .u64 m]),(5,wy,.box [.int .i64 u,.int .i64 v,.Bh .arg .u64 h]),(6,wy,.box [.bool wy,.nil,.int .i64 0]),(7,wy,.box [.bool wy,.nil,.int .i64 0])]⟩
def B6.BD.L1:Option DV:=BU B6.BD.E N f12 (Br f12) [1,1,0,1,0,0,1,0,0,1,0,1,0] [M0] M ⟨EP 60 [(3,.ptr 3 0 0),(4,.ptr 4 0 0),(5,.ptr 5 0 0),(6,.ptr 6 0 0),(7,.ptr 7 0 0),(8,.int .i64 p8_3),(9,.De 100009),(10,.int .i64 p10)],[(3,wy,.box [.int .i64 r,.int .i64 c,.Bh .arg .u64 l]),(4,wy,.box [.int .i64 p,.int .i64 q,.Bh .arg .u64 m]),(5,wy,.box [.int .i64 u,.int .i64 v,.Bh .arg .u64 h]),(6,wy,.box [.bool wy,.nil,.int .i64 0]),(7,wy,.box [.bool wy,.nil,.int .i64 0]),(100009,wy,.C3 37 3 p9)]⟩
def B6.BD.L2:Option DV:=BU B6.BD.E N f12 (Br f12) [1,1,0,1,0,0,1,0,0,1,0,1,0] [M0] M ⟨EP 60 [(3,.ptr 3 0 0),(4,.ptr 4 0 0),(5,.ptr 5 0 0),(6,.ptr 6 0 0),(7,.ptr 7 0 0),(8,.int .i64 p8_5),(9,.De 100009),(10,.int .i64 p10_1)],[(3,wy,.box [.int .i64 r,.int .i64 c,.Bh .arg .u64 l]),(4,wy,.box [.int .i64 p,.int .i64 q,.Bh .arg .u64 m]),(5,wy,.box [.int .i64 u,.int .i64 v,.Bh .arg .u64 h]),(6,wy,.box [.bool wy,.nil,.int .i64 0]),(7,wy,.box [.bool p7_6,.Bh .arg .u32 p7_7,.int .i64 p7_8]),(100009,wy,.C3 37 3 p9_1)]⟩
def B6.BD.L3:Option DV:=BU B6.BD.E N f12 (Br f12) [1,1,0,1,0,0,1,0,0,1,1,1,0] [M0] M ⟨EP 60 [(3,.ptr 3 0 0),(4,.ptr 4 0 0),(5,.ptr 5 0 0),(6,.ptr 6 0 0),(7,.ptr 7 0 0),(8,.int .i64 p8_4),(9,.De 100009),(11,.int .i64 0)],[(3,wy,.box [.int .i64 r,.int .i64 c,.Bh .arg .u64 l]),(4,wy,.box [.int .i64 p,.int .i64 q,.Bh .arg .u64 m]),(5,wy,.box [.int .i64 u,.int .i64 v,.Bh .arg .u64 h]),(6,wy,.box [.bool wy,.nil,.int .i64 0]),(7,wy,.box [.bool wy,.nil,.int .i64 0]),(100009,wy,.C3 37 3 p9_2)]⟩
def B6.BD.L4:Option DV:=BU B6.BD.E N f12 (Br f12) [1,1,0,1,0,0,1,0,0,1,1,1,0] [M0] M ⟨EP 60 [(3,.ptr 3 0 0),(4,.ptr 4 0 0),(5,.ptr 5 0 0),(6,.ptr 6 0 0),(7,.ptr 7 0 0),(8,.int .i64 p8_1),(9,.C3 .BF 3 p9_3),(11,.int .i64 p11)],[(3,wy,.box [.int .i64 r,.int .i64 c,.Bh .arg .u64 l]),(4,wy,.box [.int .i64 p,.int .i64 q,.Bh .arg .u64 m]),(5,wy,.box [.int .i64 u,.int .i64 v,.Bh .arg .u64 h]),(6,wy,.box [.bool wy,.nil,.int .i64 0]),(7,wy,.box [.bool p7,.Bh .arg .u32 p7_1,.int .i64 p7_2])]⟩
def B6.BD.L5:Option DV:=BU B6.BD.E N f12 (Br f12) [1,1,0,1,0,0,1,0,0,1,1,1,0] [M0] M ⟨EP 60 [(3,.ptr 3 0 0),(4,.ptr 4 0 0),(5,.ptr 5 0 0),(6,.ptr 6 0 0),(7,.ptr 7 0 0),(8,.int .i64 p8_6),(9,.De 100009),(11,.int .i64 0)],[(3,wy,.box [.int .i64 r,.int .i64 c,.Bh .arg .u64 l]),(4,wy,.box [.int .i64 p,.int .i64 q,.Bh .arg .u64 m]),(5,wy,.box [.int .i64 u,.int .i64 v,.Bh .arg .u64 h]),(6,wy,.box [.bool wy,.nil,.int .i64 0]),(7,wy,.box [.bool p7_9,.Bh .arg .u32 p7_10,.int .i64 p7_11]),(100009,wy,.C3 37 3 p9_4)]⟩
def B6.BD.L6:Option DV:=BU B6.BD.E N f12 (Br f12) [1,1,0,1,0] [] M ⟨EP 60 [(3,.ptr 3 0 0),(4,.ptr 4 0 0),(5,.ptr 5 0 0),(6,.ptr 6 0 0),(7,.ptr 7 0 0),(8,.int .i64 p8_2)],[(3,wy,.box [.int .i64 r,.int .i64 c,.Bh .arg .u64 l]),(4,wy,.box [.int .i64 p,.int .i64 q,.Bh .arg .u64 m]),(5,wy,.box [.int .i64 u,.int .i64 v,.Bh .arg .u64 h]),(6,wy,.box [.bool wy,.nil,.int .i64 0]),(7,wy,.box [.bool p7_3,.Bh .arg .u32 p7_4,.int .i64 p7_5])]⟩
theorem B6.BD.B1:B6.BD.L0 N (M+1) r c l p q m u v h p8=cond (BI p8 q) (B6.BD.L1 N M N r c l p q m u v h 0 [] p8) (xM (.agg [.bool wy,.nil,.int .i64 0])):=by kernel_rfl
theorem B6.BD.BZ:B6.BD.L1 N M0 (M+1) r c l p q m u v h p10 p9 p8_3=cond (BI p10 r) (bif (KY r c l p10) then cond (EM p q m p8_3&&CE (0<=(0:Int)/\(0:Int)<=p)) (bif ((Bg (Ee c l p10)&&Bg (Cb q m p8_3 0 (wz (p-0))))&&CE (vA (Ee c l p10)=vA (Cb q m p8_3 0 (wz (p-0)))/\vA (Ee c l p10)<=64)) then cond (Db u v h p10 p8_3) (bif (Bo (Cc v h p10 p8_3)) then cond (Nk (XT (Ee c l p10) (Cb q m p8_3 0 (wz (p-0))))&&Nk (DW (Cc v h p10 p8_3))) (bif (decide ((vA p9)+1<=QL)) then B6.BD.L1 N M0 M r c l p q m u v h (Be (p10+1)) (p9++[[.bool (BB (mQ (DY (XT (Ee c l p10) (Cb q m p8_3 0 (wz (p-0))))-DY (DW (Cc v h p10 p8_3))))),.Bh .arg .u32 (Bn (mQ (DY (XT (Ee c l p10) (Cb q m p8_3 0 (wz (p-0))))-DY (DW (Cc v h p10 p8_3))))),.int .i64 (eQ (DY (XT (Ee c l p10) (Cb q m p8_3 0 (wz (p-0))))-DY (DW (Cc v h p10 p8_3))))]]) p8_3 else xN) xN else xN) xN else xN) xN else xN) (B6.BD.L3 N M0 N r c l p q m u v h p8_3 p9) :=Et (DJ (C0 (Cp _) (C0 (Cp _) (C0 (Cp _) (C0 (Cp _) (C0 (Cp _) (C0 (Cp _) (C0 (Cp _) rfl rfl) rfl) rfl) rfl) rfl) rfl) rfl) rfl)
theorem B6.BD.EU:B6.BD.L2 N M0 (M+1) r c l p q m u v h p10_1 p9_1 p8_5 p7_6 p7_7 p7_8=cond (BI p10_1 r) (bif (KY r c l p10_1) then cond (EM p q m p8_5&&CE (0<=(0:Int)/\(0:Int)<=p)) (bif ((Bg (Ee c l p10_1)&&Bg (Cb q m p8_5 0 (wz (p-0))))&&CE (vA (Ee c l p10_1)=vA (Cb q m p8_5 0 (wz (p-0)))/\vA (Ee c l p10_1)<=64)) then cond (Db u v h p10_1 p8_5) (bif (Bo (Cc v h p10_1 p8_5)) then cond (Nk (XT (Ee c l p10_1) (Cb q m p8_5 0 (wz (p-0))))&&Nk (DW (Cc v h p10_1 p8_5))) (bif (decide ((vA p9_1)+1<=QL)) then B6.BD.L2 N M0 M r c l p q m u v h (Be (p10_1+1)) (p9_1++[[.bool (BB (mQ (DY (XT (Ee c l p10_1) (Cb q m p8_5 0 (wz (p-0))))-DY (DW (Cc v h p10_1 p8_5))))),.Bh .arg .u32 (Bn (mQ (DY (XT (Ee c l p10_1) (Cb q m p8_5 0 (wz (p-0))))-DY (DW (Cc v h p10_1 p8_5))))),.int .i64 (eQ (DY (XT (Ee c l p10_1) (Cb q m p8_5 0 (wz (p-0))))-DY (DW (Cc v h p10_1 p8_5))))]]) p8_5 p7_6 p7_7 p7_8 else xN) xN else xN) xN else xN) xN else xN) (B6.BD.L5 N M0 N r c l p q m u v h p8_5 p7_6 p7_7 p7_8 p9_1) :=Et (DJ (C0 (Cp _) (C0 (Cp _) (C0 (Cp _) (C0 (Cp _) (C0 (Cp _) (C0 (Cp _) (C0 (Cp _) rfl rfl) rfl) rfl) rfl) rfl) rfl) rfl) rfl)
theorem B6.BD.Ro:B6.BD.L3 N M0 (M+1) r c l p q m u v h p8_4 p9_2=cond (BI 0 c) (bif (EM r c l 0&&CE (0<=(0:Int)/\(0:Int)<=r)) then cond (Bg (Cb c l 0 0 (wz (r-0)))&&N2 p9_2 (vA (Cb c l 0 0 (wz (r-0))))) (bif (Nk (M9 (Cb c l 0 0 (wz (r-0))) p9_2)&&Nk (M9 (Cb c l 0 0 (wz (r-0))) p9_2)) then cond (S5 wy [] 0&&Nk (DY (M9 (Cb c l 0 0 (wz (r-0))) p9_2)*DY (M9 (Cb c l 0 0 (wz (r-0))) p9_2))) (B6.BD.L4 N M0 M r c l p q m u v h 1 (BB (mQ (vQ wy [] 0+DY (DY (M9 (Cb c l 0 0 (wz (r-0))) p9_2)*DY (M9 (Cb c l 0 0 (wz (r-0))) p9_2))))) (Bn (mQ (vQ wy [] 0+DY (DY (M9 (Cb c l 0 0 (wz (r-0))) p9_2)*DY (M9 (Cb c l 0 0 (wz (r-0))) p9_2))))) (eQ (vQ wy [] 0+DY (DY (M9 (Cb c l 0 0 (wz (r-0))) p9_2)*DY (M9 (Cb c l 0 0 (wz (r-0))) p9_2)))) p8_4 p9_2) xN else xN) xN else xN) (B6.BD.L0 N M0 r c l p q m u v h (Be (p8_4+1))) :=Et (DJ (DJ (DJ (C0 (Cp _) (C0 (Cp _) rfl rfl) rfl) rfl) rfl) rfl)
theorem B6.BD.Ad0:B6.BD.L4 N M0 (M+1) r c l p q m u v h p11 p7 p7_1 p7_2 p8_1 p9_3=cond (BI p11 c) (bif (EM r c l p11&&CE (0<=(0:Int)/\(0:Int)<=r)) then cond (Bg (Cb c l p11 0 (wz (r-0)))&&N2 p9_3 (vA (Cb c l p11 0 (wz (r-0))))) (bif (Nk (M9 (Cb c l p11 0 (wz (r-0))) p9_3)&&Nk (M9 (Cb c l p11 0 (wz (r-0))) p9_3)) then cond (S5 p7 p7_1 p7_2&&Nk (DY (M9 (Cb c l p11 0 (wz (r-0))) p9_3)*DY (M9 (Cb c l p11 0 (wz (r-0))) p9_3))) (B6.BD.L4 N M0 M r c l p q m u v h (Be (p11+1)) (BB (mQ (vQ p7 p7_1 p7_2+DY (DY (M9 (Cb c l p11 0 (wz (r-0))) p9_3)*DY (M9 (Cb c l p11 0 (wz (r-0))) p9_3))))) (Bn (mQ (vQ p7 p7_1 p7_2+DY (DY (M9 (Cb c l p11 0 (wz (r-0))) p9_3)*DY (M9 (Cb c l p11 0 (wz (r-0))) p9_3))))) (eQ (vQ p7 p7_1 p7_2+DY (DY (M9 (Cb c l p11 0 (wz (r-0))) p9_3)*DY (M9 (Cb c l p11 0 (wz (r-0))) p9_3)))) p8_1 p9_3) xN else xN) xN else xN) (B6.BD.L6 N M0 r c l p q m u v h (Be (p8_1+1)) p7 p7_1 p7_2) :=Et (DJ (DJ (DJ (C0 (Cp _) (C0 (Cp _) rfl rfl) rfl) rfl) rfl) rfl)
theorem B6.BD.Adz:B6.BD.L5 N M0 (M+1) r c l p q m u v h p8_6 p7_9 p7_10 p7_11 p9_4=cond (BI 0 c) (bif (EM r c l 0&&CE (0<=(0:Int)/\(0:Int)<=r)) then cond (Bg (Cb c l 0 0 (wz (r-0)))&&N2 p9_4 (vA (Cb c l 0 0 (wz (r-0))))) (bif (Nk (M9 (Cb c l 0 0 (wz (r-0))) p9_4)&&Nk (M9 (Cb c l 0 0 (wz (r-0))) p9_4)) then cond (S5 p7_9 p7_10 p7_11&&Nk (DY (M9 (Cb c l 0 0 (wz (r-0))) p9_4)*DY (M9 (Cb c l 0 0 (wz (r-0))) p9_4))) (B6.BD.L4 N M0 M r c l p q m u v h 1 (BB (mQ (vQ p7_9 p7_10 p7_11+DY (DY (M9 (Cb c l 0 0 (wz (r-0))) p9_4)*DY (M9 (Cb c l 0 0 (wz (r-0))) p9_4))))) (Bn (mQ (vQ p7_9 p7_10 p7_11+DY (DY (M9 (Cb c l 0 0 (wz (r-0))) p9_4)*DY (M9 (Cb c l 0 0 (wz (r-0))) p9_4))))) (eQ (vQ p7_9 p7_10 p7_11+DY (DY (M9 (Cb c l 0 0 (wz (r-0))) p9_4)*DY (M9 (Cb c l 0 0 (wz (r-0))) p9_4)))) p8_6 p9_4) xN else xN) xN else xN) (B6.BD.L6 N M0 r c l p q m u v h (Be (p8_6+1)) p7_9 p7_10 p7_11) :=Et (DJ (DJ (DJ (C0 (Cp _) (C0 (Cp _) rfl rfl) rfl) rfl) rfl) rfl)
theorem B6.BD.Ady:B6.BD.L6 N (M+1) r c l p q m u v h p8_2 p7_3 p7_4 p7_5=cond (BI p8_2 q) (B6.BD.L2 N M N r c l p q m u v h 0 [] p8_2 p7_3 p7_4 p7_5) (xM (.agg [.bool p7_3,.Bh .arg .u32 p7_4,.int .i64 p7_5])):=by kernel_rfl
theorem B6.BD.ev:BX B6.BD.E N f12 (Br f12) [.agg [.int .i64 r,.int .i64 c,.Bh .arg .u64 l],.agg [.int .i64 p,.int .i64 q,.Bh .arg .u64 m],.agg [.int .i64 u,.int .i64 v,.Bh .arg .u64 h]]=
 B6.BD.L0 N N r c l p q m u v h 0:=by kernel_rfl
end
abbrev B6.BD.Kn:=DR prog 12 B6.BD.Bk
theorem B6.BD.DF(hk:FD prog B6.BD.Il)(h:Hyp B6.BD.E f12 B6.BD.ts B6.BD.pre B6.BD.out):B6.BD.Kn :=Fk (OW hk _ _ _ _) func12 (by kernel_rfl) (by kernel_rfl) h
def B6.HX.E:=E0 [(37,Bp.Of.Bk),(10,Bx.Add.q.Bk),(38,Bx.Compare.q.Bk),(31,Bx.Of.q.Bk),(36,Bx.Dx.q.Bk)]
theorem B6.HX.ev(N:Nat)(n:Bool)(a:Bb)(e:Int)(m:Bool)(b:Bb)(f k:Int):BX B6.HX.E N f11 (Br f11) [.agg [.bool n,.Bh .arg .u32 a,.int .i64 e],.agg [.bool m,.Bh .arg .u32 b,.int .i64 f],.int .i64 k]=cond (S5 m b f&&CE (-2000<=(Be ((0:Int)-(Be ((2:Int)*k))))/\(Be ((0:Int)-(Be ((2:Int)*k))))<=2000)) (bif (Wm 1) then cond (IS (BB ((1:Int))) (Bn ((1:Int)))&&CE (-5000<=(-4000:Int)/\(-4000:Int)<=5000)) (bif (Nk (vQ m b f*tw (Be ((0:Int)-(Be ((2:Int)*k)))))&&Nk (vQ (BB ((1:Int))) (Bn ((1:Int))) (-4000:Int))) then cond (S5 n a e&&Nk (DY (vQ m b f*tw (Be ((0:Int)-(Be ((2:Int)*k)))))+DY (vQ (BB ((1:Int))) (Bn ((1:Int))) (-4000:Int)))) (xM (.bool (Eu (AbE (vQ n a e) (DY (DY (vQ m b f*tw (Be ((0:Int)-(Be ((2:Int)*k)))))+DY (vQ (BB ((1:Int))) (Bn ((1:Int))) (-4000:Int))))) 0))) xN else xN) xN else xN) xN:=by kernel_rfl
end Go.Proofs.S1
end
