/- A verified evaluator of the program's form and its use for this seat: MatL, MatW, PowL, RootL, ScaleL, SolW, TriL, HouW, LseW, SvdW, HouL, SvdL, DiffL, MagL, RootM, NorL, BndL, TileL, GgW, RidW, BndM, SvdN, RatV, RatO, RatP, RatQ, VecR, NorR, NorS, MirR, MirT, MirW, SvdT. -/
import Derived.Test.YthajngaadbanfaaGreatTD
set_option linter.unusedVariables false
set_option linter.unusedSimpArgs false
open List renaming range->zh,length_set->yR,map_append->yq,mem_range->yg,getElem_mem->yz,mem_map->zw,length_cons->zo,mem_cons->zu,mem_singleton->zf,all_eq_true->zJ,foldl_cons->yn,cons_append->xF,set_cons_succ->wO,mem_reverse->wx,pairwise_cons->wA,reverse_cons->wB
open Nat renaming one_mul->zC,div_eq_of_lt->yc,eq_zero_or_pos->y6,mod_lt->zv,div_add_mod->zG,zero_mul->zN,shiftLeft_eq->yS,pow_succ->zD,add_assoc->yk,mul_pos->wh,mul_add->yh,le_log2->zM,le_total->wi,log2_self_le->zS,lt_trans->xf,lt_succ_self->xO,zero_le->zA,mul_mul_mul_comm->xh,lt_log2_self->yr,le_of_lt->xQ,mul_le_mul_left->yQ,zero_div->xe
open Int renaming toNat_of_nonneg->xL
open Option renaming map_some->zU
open Rat renaming natCast_mul->zT,natCast_le_natCast->xj,mul_le_mul_of_nonneg_left->zl,le_of_lt->zc,natCast_add->yK,mul_le_mul_of_nonneg_right->ze,mul_assoc->xA,mul_nonneg->zd,le_refl->zY,natCast_lt_natCast->ui,mul_pos->yD,le_of_mul_le_mul_right->xk,mul_eq_zero->wD,le_trans->zZ,le_total->xB
noncomputable section
open Int (toNat)
open List (length getD)
namespace Go.Ct
open Go.Den
def B0(r c:Nat)(f:Nat->Nat->Int):List Int:=(zh (r*c)).map fun j=>f (j / c) (j%c)
theorem B5(r c:Nat)(f:Nat->Nat->Int):(B0 r c f).length=r*c:=by unfold B0; rw[Bfv,Bfs]
theorem Hk{r c i k:Nat}(hi:i<r)(hk:k<c):i*c+k<r*c:=by have:(i+1)*c<=r*c:=Be1 c hi;rw[Bft,zC] at this;omega
theorem Abb{c i k:Nat}(hk:k<c):(i*c+k) / c=i/\(i*c+k)%c=k:=by
 constructor
 ·rw[Bfd,Nat.mul_add_div (by omega),yc hk,Bfx]
 ·rw[Bfd,Nat.mul_add_mod,Be2 hk]
theorem J6{r c:Nat}{f:Nat->Nat->Int}{j:Nat}(h:j<r*c):(B0 r c f)[j]?=some (f (j / c) (j%c)):=by unfold B0;rw[Bf6,List.getElem?_range h];rfl
theorem Afq{r c i k:Nat}{f:Nat->Nat->Int}(hi:i<r)(hk:k<c):(B0 r c f).getD (i*c+k) 0=f i k:=by obtain⟨d1,d2⟩:=Abb (i:=i) hk;rw[Bez,J6 (Hk hi hk),d1,d2];rfl
theorem Vj{l m:List Int}(h:l.length=m.length)(he:∀j,j<l.length->l[j]?=m[j]?):l=m:=by
 refine List.ext_getElem? fun j=>?_
 by_cases hj:j<l.length
 ·exact he j hj
 ·rw[Bf7 (by omega),Bf7 (by omega)]
theorem Ef{r c:Nat}{f g:Nat->Nat->Int}(h:∀i k,i<r->k<c->f i k=g i k):B0 r c f=B0 r c g:=by
 refine Vj (by rw[B5,B5]) fun j hj=>?_
 rw[B5] at hj
 have hc:0<c:=by
  rcases y6 c with h0 | h0
  ·subst h0; rw[Nat.mul_zero] at hj; omega
  ·exact h0
 rw[J6 hj,J6 hj,h (j / c) (j%c) ((Nat.div_lt_iff_lt_mul hc).2 hj) (zv _ hc)]
theorem Awu{r c:Nat}{l:List Int}(h:l.length=r*c):l=B0 r c fun i k=>l.getD (i*c+k) 0:=by
 refine Vj (by rw[B5,h]) fun j hj=>?_
 rw[J6 (by omega)];have e:j / c*c+j%c=j:=by rw[Bfd]; exact zG j c
 rw[e,Bez,Be6 hj];rfl
theorem S4{r c i k:Nat}{f:Nat->Nat->Int}(hk:k<c)(x:Int) :
 (B0 r c f).set (i*c+k) x=B0 r c fun a b=>if a=i/\b=k then x else f a b:=by
 refine Vj (by rw[yR,B5,B5]) fun j hj=>?_
 rw[yR,B5] at hj;obtain⟨d1,d2⟩:=Abb (i:=i) hk;rw[J6 hj,List.getElem?_set];by_cases h:i*c+k=j
 ·subst h;rw[Bfc rfl,Bfc (by rw[B5]; exact hj),d1,d2,Bfc ⟨rfl,rfl⟩]
 ·rw[Bfb h,J6 hj,Bfb]
  rintro ⟨h1,h2⟩
  exact h (by rw[<- h1,<- h2,Bfd]; exact zG j c)
theorem Og(r c:Nat)(f:Nat->Nat->Int):B0 (r+1) c f=B0 r c f++(zh c).map (f r):=by
 unfold B0;rw[Bft,zC,List.range_add,yq,List.map_map];congr 1;refine List.map_congr_left fun k hk=>?_
 have hk:=yg.1 hk;obtain⟨d1,d2⟩:=Abb (i:=r) hk;show f ((r*c+k) / c) ((r*c+k)%c)=f r k;rw[d1,d2]
theorem M4(c:Nat)(f:Nat->Nat->Int):B0 0 c f=[]:=by unfold B0; rw[zN]; rfl
theorem Kl(k:Nat)(g:Nat->Int):(zh (k+1)).map g=(zh k).map g++[g k]:=by rw[List.range_succ,yq]; rfl
theorem Afr(r c:Nat):B0 r c (fun _ _=>0)=List.replicate (r*c) 0:=by unfold B0;rw[List.map_const',Bfs]
def Af8:Nat->List Int->List Int->Nat
 | s,x::xs,y::ys=>Af8 (Fh s (E7 x.toNat y.toNat).1).1 xs ys
 | s,_,_=>s
def Hi(x y:List Int):Int:=Af8 0 x y
theorem Qg{a b:Nat}:(E7 a b).1<2^64:=by
 unfold E7;split
 ·decide
 ·split
  ·split
   ·decide
   ·unfold Bf; split<;>decide
  ·exact U2 _ _ _
theorem Adt:∀(x y:List Int) (s:Nat),s<2^64->Af8 s x y<2^64
 | x::xs,y::ys,s,h=>Adt xs ys _ (W2 h Qg).1
 | [],_,_,h=>by unfold Af8; exact h
 | _::_,[],_,h=>by unfold Af8; exact h
open Go.Den
def Bp(n:Int):Bool:=decide (0<=n)&&decide (n<=6)
def Az(r c:Int)(l:List Int):Bool:=(Bp r&&Bp c)&&decide ((l.length:Int)=r*c)
def Ny(r c:Int)(l:List Int):Int:=if Az r c l=true then 0 else 1
def Aas(r c:Int)(l:List Int)(p q:Int)(m:List Int):Int:=if (Az r c l&&Az p q m)=true then 0 else 1
def E6(_r c:Int)(l:List Int)(i k:Int):Bool:=Bq (0<=i/\i<10/\0<=k/\k<10/\0<=c/\c<10/\i*c+k<l.length/\l.length<1000)
def C1(c:Int)(l:List Int)(i k:Int):Int:=l.getD (i*c+k).toNat 0
def Pc(i k:Int):Int:=if i=k then 4607182418800017408 else 0
def Aec(x y i k:Int):Bool:=Bq (0<=x/\x<10/\0<=y/\y<10/\0<=i/\i<10/\0<=k/\k<10)
def Ug(r c x y a b:Int):Bool:=decide (0<=x/\0<=y/\0<=a/\0<=b/\x<=r/\y<=c/\a<=r-x/\b<=c-y)
def Sm(r c:Int)(l:List Int)(p q:Int)(m:List Int)(i k:Int):Bool:=Bq (0<=r/\r<10/\0<=i/\i<20/\(if i<r then E6 r c l i k=true else E6 p q m (i-r) k=true))
def Kj(r c:Int)(l:List Int)(q:Int)(m:List Int)(i k:Int):Int:=if i<r then C1 c l i k else C1 q m (i-r) k
def Qu(r c:Int)(l:List Int)(p q:Int)(m:List Int)(i k:Int):Bool:=Bq (0<=c/\c<10/\0<=k/\k<20/\(if k<c then E6 r c l i k=true else E6 p q m i (k-c)=true))
def C9(c:Int)(l:List Int)(q:Int)(m:List Int)(i k:Int):Int:=if k<c then C1 c l i k else C1 q m i (k-c)
def Tj(r c:Int)(l:List Int)(i:Int):Bool:=Az r c l&&Bq (0<=i/\i<r)
def Gu(r c:Int)(l:List Int)(k:Int):Bool:=Az r c l&&Bq (0<=k/\k<c)
def Abj(r c:Int)(l:List Int)(p q:Int)(m:List Int)(i k:Int):Bool:=(Tj r c l i&&Gu p q m k)&&((Ah l&&Ah m)&&Bq (c=p))
def F6(c:Int)(l:List Int)(i:Int):List Int:=List.drop (i*c).toNat (List.take ((i+1)*c).toNat l)
def Yk(r c:Int)(l:List Int)(k:Int):List Int:=(zh r.toNat).map fun j:Nat=>C1 c l (j:Int) k
abbrev MX:=Int × Int × List Int × Int
def N6(e:Int):MX:=(0,0,[],e)
def Dw(a b:Int):MX:=if (Bp a&&Bp b)=true then (a,b,B0 a.toNat b.toNat fun _ _=>0,0) else N6 3
def Rn(n:Int):MX:=if Bp n=true then (n,n,B0 n.toNat n.toNat fun i k=>Pc i k,0) else N6 3
def Dy(r c:Int)(l:List Int):MX:=if Az r c l=true then (c,r,B0 c.toNat r.toNat fun i k=>C1 c l k i,0) else N6 1
def L5(r c:Int)(l:List Int)(x y a b:Int):MX :=if Az r c l=true then (if Ug r c x y a b=true then (a,b,B0 a.toNat b.toNat fun i k=>C1 c l (x+i) (y+k),0) else N6 3) else N6 1
def Zs(r c:Int)(l:List Int)(p q:Int)(m:List Int):MX :=if (Az r c l&&Az p q m)=true then (if c=p then (r,q,B0 r.toNat q.toNat fun i k=>Hi (F6 c l i) (Yk p q m k),0) else N6 3) else N6 1
def Bdn(r c:Int)(l:List Int)(p q:Int)(m:List Int):MX :=if (Az r c l&&Az p q m)=true then (if r=p/\c=q then (r,c,B0 r.toNat c.toNat fun i k=>Gg (C1 c l i k) (C1 q m i k),0) else N6 3) else N6 1
def Fg(r c:Int)(l:List Int)(p q:Int)(m:List Int):MX :=if (Az r c l&&Az p q m)=true then (if c=q/\r+p<=6 then (r+p,c,B0 (r+p).toNat c.toNat fun i k=>Kj r c l q m i k,0) else N6 3) else N6 1
def Kb(r c:Int)(l:List Int)(p q:Int)(m:List Int):MX :=if (Az r c l&&Az p q m)=true then (if r=p/\c+q<=6 then (r,c+q,B0 r.toNat (c+q).toNat fun i k=>C9 c l q m i k,0) else N6 3) else N6 1
def Re(x y:List Int):Bool:=decide (x.length=y.length)&&decide (x.length<=64)
def Bd5(l:List Int):Bool:=Bq (l.length<=17592186044416)
theorem J0{n:Int}:Bp n=true↔0<=n/\n<=6:=by unfold Bp; simp
theorem Hj{r c:Int}{l:List Int}:Az r c l=true↔(0<=r/\r<=6)/\(0<=c/\c<=6)/\(l.length:Int)=r*c:=by unfold Az;rw[Be0,Be0,J0,J0,Bew,and_assoc]
theorem Cp{r c:Int}{l:List Int}(h:Az r c l=true):∃R C:Nat,r=R/\c=C/\R<=6/\C<=6/\l.length=R*C:=by
 obtain⟨h1,h2,h3⟩:=Hj.1 h;refine⟨r.toNat,c.toNat,by omega,by omega,by omega,by omega,?_⟩;have:(((r.toNat*c.toNat:Nat)):Int)=r*c:=by rw[Bfa,xL h1.1,xL h2.1]
 omega
theorem F5{n:Int}(h:Bp n=true):∃R:Nat,n=R/\R<=6:=by have:=J0.1 h;exact⟨n.toNat,by omega,by omega⟩
theorem Rq{n:Nat}(h:n<=6):Bp (n:Int)=true:=J0.2 ⟨by omega,by omega⟩
theorem Ep{r c:Nat}{l:List Int}(hr:r<=6)(hc:c<=6)(hl:l.length=r*c):Az (r:Int) (c:Int) l=true :=Hj.2 ⟨⟨by omega,by omega⟩,⟨by omega,by omega⟩,by rw[hl,Bfa]⟩
theorem T6(c:Nat)(l:List Int)(i k:Nat):C1 (c:Int) l (i:Int) (k:Int)=l.getD (i*c+k) 0:=by
 unfold C1
 have:((i:Int)*(c:Int)+(k:Int)).toNat=i*c+k:=by rw[<- Bfa,<- Int.natCast_add,Ber]
 rw[this]
theorem Gi{r c i k:Nat}{R:Int}{l:List Int}(hr:r<=6)(hc:c<=6)(hl:l.length=r*c)(hi:i<r)(hk:k<c):E6 R (c:Int) l (i:Int) (k:Int)=true:=by have:=Hk hi hk;have h36:=Bfl hr hc;refine Ak.2 ⟨by omega,by omega,by omega,by omega,by omega,by omega,?_,by omega⟩;rw[<- Bfa];omega
theorem Ju{r c i k:Nat}{f:Nat->Nat->Int}(hi:i<r)(hk:k<c):C1 (c:Int) (B0 r c f) (i:Int) (k:Int)=f i k:=by rw[T6,Afq hi hk]
theorem Oh{r c:Nat}(f:Nat->Nat->Int)(hr:r<=6)(hc:c<=6):Az (r:Int) (c:Int) (B0 r c f)=true:=Ep hr hc (B5 r c f)
theorem Wv{r c:Nat}{l:List Int}(h:l.length=r*c):(B0 r c fun i k=>C1 (c:Int) l (i:Int) (k:Int))=l:=by
 conv=>rhs; rw[Awu h]
 exact Ef fun i k _ _=>T6 c l i k
theorem Lj{l:List Int}(h:Ah l=true){j:Nat}(hj:j<l.length):Af (l.getD j 0)=true:=by have h:=Ak.1 h;rw[Bez,Be6 hj];exact h _ (yz hj)
theorem Qm{b:Nat}(h:b<2^64):Bf (Be b) (b%2^63)=b:=by
 unfold Bf Be;by_cases hb:2^63<=b
 ·simp only[hb,decide_true,if_true]; omega
 ·simp only[hb,decide_false,Bool.false_eq_true,if_false]; omega
theorem Afv{b:Nat}(h:b<2^64)(h4:Ag b≠4):Bf (Be b) (B9 (Ap b) (Aw b))=b:=by rw[Wg h4,Qm h]
theorem Aw1{b:Nat}(h3:Ag b≠3)(h4:Ag b≠4):flagsOf (Ap b) (Aw b)=0:=by
 by_cases h0:Ap b=0
 ·rw[h0]; exact Tx _
 ·have h1:=F8 b;have h2:=Da b;have h5:=Wt h3 h4;exact(Af0 false h0 (Aci (by omega) h2.1) (by rw[Wg h4]; exact h5)).1
theorem mul_pow{a p:Nat}(a3:Ag a≠3)(a4:Ag a≠4)(p3:Ag p≠3)(p4:Ag p≠4)(hp:Ap p=2^52)(hn:Be p=false) :
 E7 a p=(Bf (Be a) (B9 (Ap a) (Aw a+Aw p+52)),flagsOf (Ap a) (Aw a+Aw p+52)):=by
 obtain⟨s1,s2⟩:=D1 (Ap a) 52 (Aw a+Aw p+52);have e:Aw a+Aw p+52-((52:Nat):Int)=Aw a+Aw p:=by omega
 rw[e] at s1 s2;have e2:(Be a !=false)=Be a:=by cases Be a<;>rfl
 unfold E7;rw[Bfb (by omega),Bfb (by omega),hp,hn,s1,s2,e2]
theorem Zk:Ap 4607182418800017408=2^52/\Aw 4607182418800017408=-52/\Ag 4607182418800017408=2/\Be 4607182418800017408=false:=by decide +kernel
theorem mul_one{a:Nat}(h:a<2^64)(a3:Ag a≠3)(a4:Ag a≠4):E7 a 4607182418800017408=(a,0):=by
 obtain⟨o1,o2,o3,o4⟩:=Zk;have e:Aw a+-52+52=Aw a:=by omega
 rw[mul_pow a3 a4 (by omega) (by omega) o1 o4,o2,e,Afv h a4,Aw1 a3 a4]
def N5(n:Nat):Nat:=Ieee.Datum.rootFrom n (n.log2 / 2+1) 0
theorem A30(k:Nat):1 <<< k=2^k:=by rw[yS,zC]
theorem Aa5{n:Nat}:∀(todo root:Nat),root*root<=n->n<(root+2^todo)*(root+2^todo) ->
 Ieee.Datum.rootFrom n todo root*Ieee.Datum.rootFrom n todo root<=n/\n<(Ieee.Datum.rootFrom n todo root+1)*(Ieee.Datum.rootFrom n todo root+1)
 | 0,root,h1,h2=>⟨h1,h2⟩
 | todo+1,root,h1,h2=>by
   unfold Ieee.Datum.rootFrom;simp only[A30];have hp:2^(todo+1)=2^todo+2^todo:=by rw[zD]; omega
   rw[hp] at h2;by_cases h:(root+2^todo)*(root+2^todo)<=n
   ·rw[Bfc h];exact Aa5 todo _ h (by rw[yk]; exact h2)
   ·rw[Bfb h];exact Aa5 todo _ h1 (by omega)
theorem Pa(n:Nat):N5 n*N5 n<=n/\n<(N5 n+1)*(N5 n+1):=by
 refine Aa5 _ _ (by simp) ?_;rw[Bfz,<- Bfe];rcases y6 n with rfl | hn
 ·decide
 ·refine(Bf5 (by omega)).1 ?_;omega
theorem Amc{a b:Nat}(h:a*a<b*b):a<b:=by
 rcases Bfm a b with h1 | h1
 ·exact h1
 ·have:=Bfl h1 h1; omega
theorem Afk{n w:Nat}(h1:w*w<=n)(h2:n<(w+1)*(w+1)):w=N5 n:=by obtain⟨a,b⟩:=Pa n;have c1:=Amc (Bfr h1 b);have c2:=Amc (Bfr a h2);omega
theorem Akr{n w:Nat}(h:w*w<=n):w<=N5 n:=by have:=Amc (Bfr h (Pa n).2);omega
def Ff(n:Nat):Nat:=2*N5 n+(if N5 n*N5 n=n then 0 else 1)
theorem Aay(a c:Nat):a*c*(a*c)=a*a*(c*c):=by rw[Bfg,Nat.mul_left_comm c,<- Bfg a a]
theorem Ah0{n:Nat}(d:Nat)(E:Int)(h:2^53<=N5 n) :
 B9 (Ff (n*(2^d*2^d))) (E-d)=B9 (Ff n) E/\flagsOf (Ff (n*(2^d*2^d))) (E-d)=flagsOf (Ff n) E:=by
 have hA:=Cm d;obtain⟨h1,h2⟩:=Pa n;unfold Ff;generalize hw:N5 n=w at *
 generalize hc:2^d=c at *
 have hcc:0<c*c:=wh hA hA;by_cases h0:w*w=n
 ·have e1:N5 (n*(c*c))=w*c:=by
   refine(Afk ?_ ?_).symm
   ·rw[Aay,h0]; exact Bfj _
   ·have:=Aay w c;rw[h0] at this;rw[Bft,yh,this]; omega
  rw[e1,Aay,h0,Bfc rfl,Bfc rfl];have:=D1 (2*w+0) d E;rw[hc,show(2*w+0)*c=2*(w*c)+0 by rw[Bfx,Bfx,Bfg]] at this;exact this
 ·rw[Bfb h0];obtain⟨g1,g2⟩:=Pa (n*(c*c));have q1:w*c<=N5 (n*(c*c)):=Akr (by rw[Aay]; exact Be1 _ h1)
  have q2:N5 (n*(c*c))<(w+1)*c:=by refine Amc (Bfr g1 ?_);rw[Aay];exact(Nat.mul_lt_mul_right hcc).2 h2
  have q3:N5 (n*(c*c))=w*c->N5 (n*(c*c))*N5 (n*(c*c))≠n*(c*c):=fun h5 h6=>by rw[h5,Aay] at h6;exact h0 (Nat.eq_of_mul_eq_mul_right hcc h6)
  generalize hQ:N5 (n*(c*c))=Q at *
  have p1:(2*w+1-1)*c=2*(w*c):=by rw[Nat.add_sub_cancel,Bfg]
  have p2:(2*w+1+1)*c=2*((w+1)*c):=by rw[show 2*w+1+1=2*(w+1) by omega,Bfg]
  have od:(2*w+1)%2=1:=by omega
  generalize hV:2*Q+(if Q*Q=n*(c*c) then 0 else 1)=V
  have v1:(2*w+1-1)*2^d<V:=by
   rw[hc,p1,<- hV];by_cases h5:Q=w*c
   ·rw[Bfb (q3 h5)]; omega
   ·split<;>omega
  have v2:V<(2*w+1+1)*2^d:=by rw[hc,p2,<- hV];split<;>omega
  have lV:=Vi od (by omega) v1 v2;have hs:54<=(2*w+1).log2:=by rw[zM (by omega)]; omega
  have ee:E-(d:Int)+d=E:=by omega
  have:=U3 (E:=E-d) od v1 v2 (by unfold Ca; rw[lV]; omega) (by unfold Ca; omega);rw[ee] at this;exact this
theorem Z5{n t:Nat}(h:2^(t+t)<=n):2^t<=N5 n:=Akr (by rw[<- Bfe]; exact h)
theorem pow_two(k d:Nat):2^(k+2*d)=2^k*(2^d*2^d):=by rw[Bfe,Nat.two_mul,Bfe]
theorem Ah1{m k l:Nat}{E F:Int}(h1:2^106<=m*2^k)(h2:2^106<=m*2^l)(he:2*E+k=2*F+l) :
 B9 (Ff (m*2^k)) E=B9 (Ff (m*2^l)) F/\flagsOf (Ff (m*2^k)) E=flagsOf (Ff (m*2^l)) F:=by
 rcases wi k l with h | h
 ·obtain⟨d,rfl⟩:∃d,l=k+2*d:=⟨(l-k) / 2,by omega⟩
  have:=Ah0 (n:=m*2^k) d E (Z5 (t:=53) h1);rw[Bfg,<- pow_two,show E-(d:Int)=F by omega] at this;exact⟨this.1.symm,this.2.symm⟩
 ·obtain⟨d,rfl⟩:∃d,k=l+2*d:=⟨(k-l) / 2,by omega⟩
  have:=Ah0 (n:=m*2^l) d F (Z5 (t:=53) h2);rw[Bfg,<- pow_two,show F-(d:Int)=E by omega] at this;exact this
def Gn(b:Nat):Nat:=128+(Aw b%2).toNat
def Hc(b:Nat):Nat × Nat :=
 if Ag b=4 then (P1,0)
 else if Ag b=0\/b=Ea then (b,0)
 else if Be b=true then (P1,16)
 else (B9 (Ff (Ap b*2^Gn b)) ((Aw b-Gn b) / 2-1),flagsOf (Ff (Ap b*2^Gn b)) ((Aw b-Gn b) / 2-1))
theorem Du{b:Nat}(h3:Ag b≠3)(h4:Ag b≠4):Ap b=0↔Ag b=0:=by
 have:=L8 b;have:=K9 b;unfold Ap;unfold Ag at *
 split at h3<;>split<;>(try split)<;>(try split)<;>simp_all<;>omega
theorem Y1{b:Nat}(h:Ag b=4):Hc b=(P1,0):=Bfc h
theorem K0{b:Nat}(h4:Ag b≠4)(h:Ag b=0\/b=Ea):Hc b=(b,0):=by unfold Hc; rw[Bfb h4,Bfc h]
theorem Y0{b:Nat}(h4:Ag b≠4)(h:¬(Ag b=0\/b=Ea))(hn:Be b=true):Hc b=(P1,16):=by unfold Hc; rw[Bfb h4,Bfb h,Bfc hn]
theorem Sn{b:Nat}(h4:Ag b≠4)(h:¬(Ag b=0\/b=Ea))(hn:Be b=false) :
 Hc b=(B9 (Ff (Ap b*2^Gn b)) ((Aw b-Gn b) / 2-1),flagsOf (Ff (Ap b*2^Gn b)) ((Aw b-Gn b) / 2-1)):=by
 unfold Hc; rw[Bfb h4,Bfb h,Bfb (by rw[hn]; decide)]
theorem A5c:Be Ea=false:=by decide
theorem Afp:Ag Ea=3:=by decide
theorem Om:E5 Ea=Ea:=by decide
theorem Axg{d:Nat}(h:Ag d=4):E5 d=P1:=Bfc h
theorem Amb(b d:Nat)(x:Ieee.Datum)(h:Ieee.double.read b=x):(Ieee.double.sqrt b).getD d=((x.root 54).map Ieee.double.write).getD d:=by rw[<- h]; rfl
theorem G0(r:Nat):Bf false r=r:=rfl
def Sx(m:Nat)(i:Int):Nat:=2*54-m.log2+((i-((2*54-m.log2:Nat):Int))%2).toNat
theorem Azn{m:Nat}{i:Int}(h:m≠0):(Ieee.Datum.number false m i).root 54=some (.number false (2*Ieee.Datum.rootFrom (m <<< Sx m i) ((m <<< Sx m i).log2 / 2+1) 0+(Ieee.Datum.rootFrom (m <<< Sx m i) ((m <<< Sx m i).log2 / 2+1) 0*Ieee.Datum.rootFrom (m <<< Sx m i) ((m <<< Sx m i).log2 / 2+1) 0 !=m <<< Sx m i).toNat) ((i-Sx m i) / 2-1)):=by unfold Ieee.Datum.root Sx;dsimp only;rw[Bfb h,Bfb (by decide)]
theorem A7t{m:Nat}{i:Int}{d:Nat}(h:m≠0)(hlog:m.log2<=52)(r:Int)(k:Nat)(hk:2^106<=m*2^k)(hr:2*r+k=i-2) :
 E5 ((((Ieee.Datum.number false m i).root 54).map Ieee.double.write).getD d)=B9 (Ff (m*2^k)) r:=by
 have hpow:2^m.log2<=m:=zS h;have hmo:108<=m.log2+Sx m i/\(i-Sx m i)%2=0:=by unfold Sx; omega
 rw[Azn h,zU,Bf9,Qj,Iv _ (K5 _ _),G0];generalize Sx m i=Ia at *
 have g1:2^106<=m*2^Ia:=by have:2^108<=2^(m.log2+Ia):=Be4 (by decide) hmo.1;rw[Bfe] at this;have h5:=Be1 (2^Ia) hpow;omega
 have pe2:2*((i-(Ia:Int)) / 2-1)+Ia=i-2:=by omega
 rw[<- (Ah1 g1 hk (E:=(i-(Ia:Int)) / 2-1) (F:=r) (by omega)).1,yS]
 have e:∀w:Nat,2*w+(w*w !=m*2^Ia).toNat=2*w+(if w*w=m*2^Ia then 0 else 1):=fun w=>by
  by_cases hww:w*w=m*2^Ia
  ·rw[Bfc hww,hww]; simp
  ·rw[Bfb hww];have:(w*w !=m*2^Ia)=true:=by simpa using hww
   rw[this]; rfl
 rw[e];unfold Ff N5;rfl
theorem U8{b:Nat}(hm:Ap b≠0):2^106<=Ap b*2^Gn b/\2*((Aw b-(Gn b:Int)) / 2-1)+Gn b=Aw b-2:=by refine⟨?_,by unfold Gn; omega⟩;have:2^128<=2^Gn b:=Be4 (by decide) (by unfold Gn; omega);have h5:=Bfl (show 1<=Ap b by omega) this;omega
theorem Afb{b:Nat}(hm:Ap b≠0):(Ap b).log2<=52:=by have:=(Bf5 hm).2 (show Ap b<2^53 from F8 b);omega
theorem Azo(s:Bool)(f:Nat):(Ieee.Datum.nan s f).root 54=none:=rfl
theorem Avj:(Ieee.Datum.infinity true).root 54=none:=rfl
theorem Avk:(Ieee.Datum.infinity false).root 54=some (.infinity false):=rfl
theorem Avh(s:Bool)(i:Int):(Ieee.Datum.number s 0 i).root 54=some (.number s 0 i):=rfl
theorem Aqd{m:Nat}(i:Int)(h:m≠0):(Ieee.Datum.number true m i).root 54=none:=by unfold Ieee.Datum.root;dsimp only;rw[Bfb h,Bfc rfl]
theorem Yn{d:Nat}(hd:Ag d=4):E5 ((Option.map Ieee.double.write none).getD d)=P1:=Axg hd
theorem Avl{b:Nat}(hb:b<2^64){d:Nat}(hd:Ag d=4):E5 ((Ieee.double.sqrt b).getD d)=(Hc b).1:=by
 rw[Amb b d _ (K7 hb)];by_cases h4:Ag b=4
 ·rw[Y1 h4,Jc h4,Azo,Yn hd]
 by_cases h3:Ag b=3
 ·rw[F2 h3];have hw:=Ox hb h3;cases hn:Be b with
  | true =>
    have hne:¬(Ag b=0\/b=Ea):=by
     intro h;rcases h with h | h
     ·omega
     ·rw[h,A5c] at hn; cases hn
    rw[Y0 h4 hne hn,Avj,Yn hd]
  | false =>rw[hn,G0] at hw;rw[K0 h4 (.inr hw.symm),Avk,zU,Bf9,Aud,G0,Om];exact hw
 rw[F1 h3 h4];have hz:=Du h3 h4;by_cases h0:Ag b=0
 ·have hm:=hz.2 h0;have:=Afv hb h4;rw[hm] at this;rw[K0 h4 (.inl h0),hm,Avh,zU,Bf9,Qj,Iv _ (K5 _ _),this]
 have hi:¬(Ag b=0\/b=Ea):=by
  intro h;rcases h with h | h
  ·exact h0 h
  ·rw[h,Afp] at h3; exact h3 rfl
 have hm:Ap b≠0:=fun h=>h0 (hz.1 h)
 cases hn:Be b with
 | true=>rw[Y0 h4 hi hn,Aqd _ hm,Yn hd]
 | false =>obtain⟨k1,k2⟩:=U8 hm;rw[Sn h4 hi hn,A7t hm (Afb hm) _ _ k1 k2]
def Cq(b:Nat)(n:Int):Nat × Nat :=
 if Ag b=4 then (P1,0)
 else if Ag b=3\/Ag b=0 then (b,0)
 else (Bf (Be b) (B9 (Ap b) (Aw b+n)),flagsOf (Ap b) (Aw b+n))
theorem Aur{V:Nat}{E:Int}(h0:V≠0)(h:E+V.log2+1<=-1075):B9 V E=0/\flagsOf V E=3:=by
 have hl:Ca V E=-1074:=by unfold Ca; omega
 obtain⟨k,hk⟩:∃k:Nat,(-1074:Int)-E=((k:Nat):Int):=⟨(-1074-E).toNat,by omega⟩
 have hV:V<2^(V.log2+1):=(Bf5 h0).1 (by omega);have hp:2^(V.log2+1)*2<=2^k:=by rw[<- zD]; exact Be4 (by decide) (by omega)
 have e1:V*2^(-((-1074:Int)-E)).toNat=V:=by rw[hk]; simp
 have e2:((-1074:Int)-E).toNat=k:=by rw[hk]; rfl
 have hk2:kept V E=0:=by unfold kept Lk;rw[hl,e1,e2];unfold K8;rw[yc (by omega),Be2 (by omega),Bfb (by omega)]
 have hx:exact V E=false:=by unfold exact Qw;rw[hl,e1,e2,Be2 (by omega)];exact Beu h0
 have hr:B9 V E=0:=by unfold B9;rw[Bfb h0,hl,hk2];rfl
 refine⟨hr,?_⟩;unfold flagsOf;rw[Bfb h0,hr,hx];rfl
theorem Awj{m:Nat}(h:m<2^53):m.log2<=52:=by
 rcases y6 m with rfl | h0
 ·decide
 ·have:=(Bf5 (by omega)).2 h; omega
theorem Av5(n:Bool){m:Nat}{e:Int}{Ia:Bool}(hm:m<2^53)(h0:m≠0\/Ia=true)(he:e<=-1130) :
 Ie n m e Ia=(Bf n 0,3):=by
 have h1:Ia.toNat<=1:=by cases Ia<;>decide
 have hV:4*m+Ia.toNat≠0:=by
  rcases h0 with h | h
  ·omega
  ·rw[h]; simp
 have hl:(4*m+Ia.toNat).log2<=54:=by have:=(Bf5 hV).2 (show 4*m+Ia.toNat<2^55 by omega); omega
 have:=Aur hV (E:=e-2) (by omega);unfold Ie;rw[this.1,this.2]
theorem A0e(n:Bool):Ie n 0 (-1074) true=(Bf n 0,3):=by cases n<;>decide +kernel
theorem Ap7{b:Nat}{n:Int}(h4:Ag b≠4)(h:¬(Ag b=3\/Ag b=0))(hn:Aw b+n<=-1130):Cq b n=(Bf (Be b) 0,3):=by
 have hm:Ap b≠0:=fun h5=>h (.inr ((Du (by omega) h4).1 h5))
 have:=Aur hm (E:=Aw b+n) (by have:=Afb hm; omega);unfold Cq;rw[Bfb h4,Bfb h,this.1,this.2]
theorem Ms{b:Nat}{n:Int}(h4:Ag b≠4)(h:¬(Ag b=3\/Ag b=0)):Cq b n=(Bf (Be b) (B9 (Ap b) (Aw b+n)),flagsOf (Ap b) (Aw b+n)):=by unfold Cq; rw[Bfb h4,Bfb h]
def Pp(b:Nat):Int:=if Iy b=true/\Ag b≠0 then ((Ap b).log2:Int)+Aw b else 0
def E9(b:Nat):Nat:=b%2^63
def Abf(a b:Nat):Int:=if Ag a=4\/Ag b=4 then 0 else if G5 a<G5 b then -1 else if G5 b<G5 a then 1 else 0
def Aev(a b:Nat):Bool:=!(decide (Ag a=4\/Ag b=4))
def Aq7(a b:Nat):Nat:=if Aev a b=true then (if Abf a b<0 then b else a) else P1
def Ah2(b:Int):Int:=G5 b.toNat
def Hp(a b:Int):Int:=Abf a.toNat b.toNat
def Su(a b:Int):Bool:=Aev a.toNat b.toNat
def Hq(x:Int):Int:=E9 x.toNat
def Ya(a b:Int):Int:=Aq7 a.toNat b.toNat
def A7(x n:Int):Int:=(Cq x.toNat n).1
def A34(x n:Int):Int:=(Cq x.toNat n).2
def Dk(x n:Int):Bool:=Af x&&Bq (-2300<=n/\n<=2300)
def Bs(x:Int):Int:=Pp x.toNat
def Nb:List Int->Nat->Nat
 | [],m=>m
 | x::l,m=>if Ag x.toNat=4 then P1 else Nb l (max m (E9 x.toNat))
def Bi(l:List Int):Int:=Nb l 0
def Ds(l:List Int):Bool:=l.all Dl
def Ci(r c:Int)(l:List Int):Int:=if Az r c l=true then (if Ds l=true then 0 else 4) else 1
def A4o(c:Int)(l:List Int)(n:Nat):Bool:=(zh n).any fun i:Nat=>decide (Bb (C1 c l (i:Int) (i:Int))=0)
def Ac1(r c:Int)(l:List Int)(p q:Int)(m:List Int):Int :=
 if Ci r c l≠0 then Ci r c l else if Ci p q m≠0 then Ci p q m
 else if r≠c\/r≠p then 3 else if A4o c l r.toNat=true then 5 else 0
def Z1(c:Int)(l:List Int)(i:Int):Int->Int->List Int->Int
 | s,_,[]=>s
 | s,j,x::xs=>Z1 c l i (Gg s (Bz (C1 c l i j) x)) (j+1) xs
def upL(c:Int)(l:List Int)(b:Nat->Int)(n:Nat):Nat->List Int
 | 0=>[]
 | k+1=>E2 (Z1 c l ((n-1-k:Nat):Int) (b (n-1-k)) ((n-k:Nat):Int) (upL c l b n k)) (C1 c l ((n-1-k:Nat):Int) ((n-1-k:Nat):Int))::upL c l b n k
def loL(c:Int)(l:List Int)(b:Nat->Int):Nat->List Int
 | 0=>[]
 | k+1=>loL c l b k++[E2 (Z1 c l (k:Int) (b k) 0 (loL c l b k)) (C1 c l (k:Int) (k:Int))]
def upG(c:Int)(l:List Int)(q:Int)(m:List Int)(n w:Nat):List Int:=B0 n w fun i j=>(upL c l (fun i=>C1 q m (i:Int) (j:Int)) n n).getD i 0
def loG(c:Int)(l:List Int)(q:Int)(m:List Int)(n w:Nat):List Int:=B0 n w fun i j=>(loL c l (fun i=>C1 q m (i:Int) (j:Int)) n).getD i 0
def W9(r c:Int)(l:List Int):MX:=if Ds l=true then (r,c,l,0) else N6 2
def upX(r c:Int)(l:List Int)(p q:Int)(m:List Int):MX :=if Ac1 r c l p q m≠0 then N6 (Ac1 r c l p q m) else W9 r q (upG c l q m r.toNat q.toNat)
def loX(r c:Int)(l:List Int)(p q:Int)(m:List Int):MX :=if Ac1 r c l p q m≠0 then N6 (Ac1 r c l p q m) else W9 r q (loG c l q m r.toNat q.toNat)
def Acq(c:Int)(l:List Int)(n:Nat):List Int:=(zh n).map fun i:Nat=>Hq (C1 c l (i:Int) (i:Int))
def A6v(d:List Int):Bool:=d.any fun x=>!(decide (Hp (A7 (Bi d) (-40)) x<0))
def A1f(r c:Int)(l:List Int):Bool:=A6v (Acq c l (min r.toNat c.toNat))
def Vp(r c:Int)(l:List Int):Bool × Int:=if Ci r c l≠0 then (false,Ci r c l) else (A1f r c l,0)
def Ajn(r c:Int)(l:List Int)(p q:Int)(m:List Int):Bool:=(Az r c l&&Az p q m)&&((Ah l&&Ah m)&&Bq (r=c/\r=p))
def Iz(n:Nat):List Int:=B0 n n fun i k=>Pc (i:Int) (k:Int)
def Fe(r c:Int)(l:List Int)(p q:Int)(m:List Int):MX :=if (Dy r c l).2.2.2≠0 then N6 (Dy r c l).2.2.2 else Zs (Dy r c l).1 (Dy r c l).2.1 (Dy r c l).2.2.1 p q m
theorem Ak4{a b:Nat}:(Ok a b).1<2^64:=by
 have h1:Ea<2^63:=by decide
 have hs:∀(s:Bool) {r:Nat},r<2^63->Bf s r<2^64:=by
  intro s r h;unfold Bf;cases s
  ·rw[Bfb (by decide)]; omega
  ·rw[Bfc rfl]; omega
 have hN:P1<2^64:=by decide
 unfold Ok;by_cases c1:Ag a=4\/Ag b=4
 ·rw[Bfc c1]; exact hN
 rw[Bfb c1];by_cases c2:Ag a=Ag b/\(Ag a=3\/Ag a=0)
 ·rw[Bfc c2]; exact hN
 rw[Bfb c2];by_cases c3:Ag a=3
 ·rw[Bfc c3]; exact hs _ h1
 rw[Bfb c3];by_cases c4:Ag b=3\/Ag a=0
 ·rw[Bfc c4]; exact hs _ (by decide)
 rw[Bfb c4];by_cases c5:Ag b=0
 ·rw[Bfc c5]; exact hs _ h1
 rw[Bfb c5];exact hs _ (Qa _ _)
theorem J9(a b:Int):Af (E2 a b)=true:=Cr Ak4
theorem Tg{a b:Int}(ha:Af a=true)(hb:Af b=true):Af (Gg a b)=true:=by obtain⟨x,rfl,hx⟩:=Bu ha;obtain⟨y,rfl,hy⟩:=Bu hb;exact Cr (W2 (by rw[Ber]; exact hx) (Abk (by rw[Ber]; exact hy))).1
theorem I3{r c:Nat}{f:Nat->Nat->Int}(h:∀i k,Af (f i k)=true):Ah (B0 r c f)=true:=Ak.2 fun x hx=>by obtain⟨j,_,rfl⟩:=zw.1 hx;exact h _ _
theorem Fc(a b:Int):Af (Bz a b)=true:=Cr Qg
theorem Xv(c:Int)(l:List Int)(b:Nat->Int)(n:Nat):∀k,(upL c l b n k).length=k
 | 0=>rfl
 | k+1=>by rw[upL,zo,Xv c l b n k]
theorem Ax8(c:Int)(l:List Int)(b:Nat->Int)(n:Nat):∀k,∀x∈upL c l b n k,Af x=true
 | 0,x,h=>by cases h
 | k+1,x,h=>by
   rw[upL] at h;rcases zu.1 h with rfl | h
   ·exact J9 _ _
   ·exact Ax8 c l b n k x h
theorem Alu(c:Int)(l:List Int)(b:Nat->Int)(n k:Nat):∀d,(upL c l b n (k+d)).drop d=upL c l b n k
 | 0=>rfl
 | d+1=>by rw[<- yk,upL,List.drop_succ_cons];exact Alu c l b n k d
theorem Als{c:Int}{l:List Int}{b:Nat->Int}{n k:Nat}(h:k<=n):(upL c l b n n).drop (n-k)=upL c l b n k:=by have:=Alu c l b n k (n-k);rw[Nat.add_sub_cancel' h] at this;exact this
theorem A3g{c:Int}{l:List Int}{b:Nat->Int}{n i:Nat}(h:i<n) :
 (upL c l b n n).getD i 0=E2 (Z1 c l (i:Int) (b i) ((i+1:Nat):Int) ((upL c l b n n).drop (i+1))) (C1 c l (i:Int) (i:Int)):=by
 have e1:=Als (c:=c) (l:=l) (b:=b) (n:=n) (k:=n-i) (by omega);have e2:=Als (c:=c) (l:=l) (b:=b) (n:=n) (k:=n-i-1) (by omega);rw[show n-(n-i)=i by omega] at e1;rw[show n-(n-i-1)=i+1 by omega] at e2;rw[e2]
 have e3:(upL c l b n n).getD i 0=((upL c l b n n).drop i).getD 0 0:=by rw[Bez,Bez,List.getElem?_drop,Bfx]
 rw[e3,e1,show n-i=(n-i-1)+1 by omega,upL];have e4:n-1-(n-i-1)=i:=by omega
 have e5:n-(n-i-1)=i+1:=by omega
 rw[e4,e5];rfl
theorem Att{l:List Int}(h:∀x∈l,Af x=true)(i:Nat):Af (l.getD i 0)=true:=by
 rw[Bez];cases hi:l[i]? with
 | none=>exact Cr (n:=0) (by decide)
 | some x=>exact h x (List.mem_of_getElem? hi)
theorem Awl{c:Int}{l:List Int}{i s j:Int}{xs:List Int}{t:Nat}(h:t<xs.length):Z1 c l i s j (xs.drop t)=Z1 c l i (Gg s (Bz (C1 c l i j) (xs.getD t 0))) (j+1) (xs.drop (t+1)):=by rw[List.drop_eq_getElem_cons h,Z1,Bez,Be6 h]; rfl
def Va:Int:=4607182418800017408
def Dt(x:Int):Int:=(Hc x.toNat).1
def Uz(x:Int):Int:=(Hc x.toNat).2
def Jz(k:Int):Int->List Int->Int
 | s,[]=>s
 | s,x::l=>Jz k (De s (Bz (A7 x k) (A7 x k))) l
def Bk(x:List Int):Int :=if Bi x=0\/Dl (Bi x)=false then Bi x else A7 (Dt (Jz (-Bs (Bi x)) 0 x)) (Bs (Bi x))
def O5(l:List Int):Bool:=l.all fun x=>decide (Bb x=0)
def Xj:List Int->Int
 | []=>0
 | x::l=>if Bb x=0 then Xj l else x
def A4(l:List Int)(k:Int):List Int:=l.map fun x=>A7 x k
def Ob(n:Nat)(f:Nat->Int):List Int:=Va::(zh (n-1)).map fun j=>f (j+1)
def muI(x:List Int):Int:=if En (Xj x)=true then Bk (A4 x (-Bs (Bi x))) else B7 (Bk (A4 x (-Bs (Bi x))))
def Ma(x:List Int):Int:=A7 (muI x) (Bs (Bi x))
def A1h(x:List Int):Int:=A7 (x.getD 0 0) (-Bs (Bi x))
def Anb(x:List Int):List Int:=Ob x.length fun j=>E2 (A7 (x.getD j 0) (-Bs (Bi x))) (Gg (A1h x) (muI x))
def Aq1(x:List Int):Int:=E2 (Gg (muI x) (A1h x)) (muI x)
def A4u(x:List Int):List Int × Int × Int × Int :=
 if O5 (x.drop 1)=true then (Ob x.length fun _=>0,0,x.getD 0 0,0)
 else if Dl (Ma x)=true then (Anb x,Aq1 x,Ma x,0) else ([],0,0,2)
def Dm(x:List Int):List Int × Int × Int × Int :=if x.length=0\/64<x.length then ([],0,0,3) else if Ds x=true then A4u x else ([],0,0,4)
def B3(c:Int)(l:List Int)(b i:Int)(n:Nat):List Int:=(zh n).map fun j:Nat=>C1 c l (i+(j:Int)) b
def Alf(c:Int)(l:List Int)(i:Int)(v:List Int)(t b:Int):Int:=Bz t (Hi v (B3 c l b i v.length))
def Vw(c:Int)(l:List Int)(i k:Int)(v:List Int)(t a b:Int):Int :=if k<=b/\i<=a/\a<i+v.length then Gg (C1 c l a b) (Bz (Alf c l i v t b) (v.getD (a-i).toNat 0)) else C1 c l a b
def Jj(r c:Nat)(l:List Int)(i k:Int)(v:List Int)(t:Int):List Int:=B0 r c fun a b=>Vw (c:Int) l i k v t (a:Int) (b:Int)
def T7(r c i k:Int)(v:List Int):Bool:=decide (0<=i/\(v.length:Int)<=r/\i<=r-v.length/\0<=k/\k<=c)
def Abx(r c:Nat)(l:List Int)(j:Nat)(x:Int):List Int:=B0 r c fun a b=>if b=j/\j<=a then (if a=j then x else 0) else C1 (c:Int) l (a:Int) (b:Int)
def Jl(r c:Nat)(l:List Int)(j:Nat):List Int:=B3 (c:Int) l (j:Int) (j:Int) (r-j)
def Ag4(r c:Nat)(l:List Int)(j:Nat):List Int:=Abx r c (Jj r c l (j:Int) (j:Int) (Dm (Jl r c l j)).1 (Dm (Jl r c l j)).2.1) j (Dm (Jl r c l j)).2.2.1
def Uk(r c:Nat):Nat->Nat->List Int->Option (List Int × List (List Int × Int))
 | 0,_,l=>some (l,[])
 | n+1,j,l=>if (Dm (Jl r c l j)).2.2.2=0 then
  (Uk r c n (j+1) (Ag4 r c l j)).map fun x=>(x.1,((Dm (Jl r c l j)).1,(Dm (Jl r c l j)).2.1)::x.2) else none
def N9(r c:Nat):Nat:=min c (r-1)
def Pw(n:Nat):Nat->List (List Int × Int)->List Int->List Int
 | _,[],q=>q
 | j,m::ms,q=>Jj n n (Pw n (j+1) ms q) (j:Int) 0 m.1 m.2
def N8(r c:Nat)(l:List Int):Option (List Int × List (List Int × Int)):=Uk r c (N9 r c) 0 l
def Yf(r c:Nat)(l:List Int):List Int:=match N8 r c l with
 | some x=>Pw r 0 x.2 (Iz r)
 | none=>[]
def Tz(r c:Nat)(l:List Int):List Int:=match N8 r c l with
 | some x=>x.1
 | none=>[]
def Ig(r c:Int)(l:List Int):MX:=if (N8 r.toNat c.toNat l).isSome=true then (r,c,Tz r.toNat c.toNat l,0) else N6 2
def Ae5(ms:List (List Int × Int)):List (List DV):=ms.map fun m=>[.ints .arg .u64 m.1,.int .u64 m.2]
def Sy(r c:Int)(l:List Int):List (List DV):=match N8 r.toNat c.toNat l with
 | some x=>Ae5 x.2
 | none=>[]
def Zy(m:Int):Int:=N5 (m.toNat*2^64)
def Zz(m:Int):Bool:=decide (N5 (m.toNat*2^64)*N5 (m.toNat*2^64)=m.toNat*2^64)
def Xp(r c:Nat)(l:List Int):Bool:=(N8 r c l).isSome&&(Ds (Yf r c l)&&Ds (Tz r c l))
def Jg(r c:Int)(l:List Int):Int:=if Ci r c l≠0 then Ci r c l else if Xp r.toNat c.toNat l=true then 0 else 2
def qX(r c:Int)(l:List Int):MX:=if Jg r c l≠0 then N6 (Jg r c l) else (r,r,Yf r.toNat c.toNat l,0)
def rX(r c:Int)(l:List Int):MX:=if Jg r c l≠0 then N6 (Jg r c l) else (r,c,Tz r.toNat c.toNat l,0)
def Me(r c:Int)(l:List Int):MX:=if Jg r c l≠0 then N6 (Jg r c l) else (r,min r c,(L5 r r (Yf r.toNat c.toNat l) 0 0 r (min r c)).2.2.1,0)
def Sl(r c:Int)(l:List Int):MX:=if Jg r c l≠0 then N6 (Jg r c l) else (min r c,c,(L5 r c (Tz r.toNat c.toNat l) 0 0 (min r c) c).2.2.1,0)
def A9l(a b:MX)(p q:Int)(m:List Int):MX :=
 if (Fe a.1 a.2.1 a.2.2.1 p q m).2.2.2≠0 then N6 (Fe a.1 a.2.1 a.2.2.1 p q m).2.2.2
 else upX b.1 b.2.1 b.2.2.1 (Fe a.1 a.2.1 a.2.2.1 p q m).1 (Fe a.1 a.2.1 a.2.2.1 p q m).2.1 (Fe a.1 a.2.1 a.2.2.1 p q m).2.2.1
def Ra(r c:Int)(l:List Int)(p q:Int)(m:List Int):MX :=
 if Ci r c l≠0 then N6 (Ci r c l) else if Ci p q m≠0 then N6 (Ci p q m) else if r<c\/r≠p then N6 3
 else if Jg r c l≠0 then N6 (Jg r c l)
 else if (Vp (Sl r c l).1 (Sl r c l).2.1 (Sl r c l).2.2.1).1=true then N6 5
 else A9l (Me r c l) (Sl r c l) p q m
def Aaj(x:Nat):Bool:=Bq (x<2^64)
def An9(x:Nat):Bool:=Bq (x<2^64/\Ag x≠3/\Ag x≠4)
def Kt(x:Nat)(k:Int):Nat:=if Ag x=4 then x else (Cq x k).1
def Qc(x:Nat):Nat:=if E9 x<4503599627370496 then (E7 x 4841369599423283200).1 else x
def Ld(x:Nat):Int:=if E9 x<4503599627370496 then -52 else 0
def Yi(b:Int):Int:=if Dl b=true then 0 else if En b=true then -1 else 1
def mulM(x y:MX):MX:=Zs x.1 x.2.1 x.2.2.1 y.1 y.2.1 y.2.2.1
def A94(x:MX):MX:=Dy x.1 x.2.1 x.2.2.1
def Azz(x:MX)(i k a b:Int):MX:=L5 x.1 x.2.1 x.2.2.1 i k a b
def eqT(p q:Int)(m:List Int):List Int:=(Dy p q m).2.2.1
def eqR(p q:Int)(m:List Int):MX:=rX q p (eqT p q m)
def eqS(p q:Int)(m:List Int):MX:=A94 (Azz (eqR p q m) 0 0 p p)
def hY(p q:Int)(m:List Int)(u v:Int)(h:List Int):MX :=
 if Jg q p (eqT p q m)≠0 then N6 (Jg q p (eqT p q m)) else if (Vp (eqS p q m).1 (eqS p q m).2.1 (eqS p q m).2.2.1).1=true then N6 5
 else loX (eqS p q m).1 (eqS p q m).2.1 (eqS p q m).2.2.1 u v h
def hQ(p q:Int)(m:List Int):MX :=
 if Jg q p (eqT p q m)≠0 then N6 (Jg q p (eqT p q m)) else if (Vp (eqS p q m).1 (eqS p q m).2.1 (eqS p q m).2.2.1).1=true then N6 5
 else qX q p (eqT p q m)
def A00(x y:MX):MX:=Ra x.1 x.2.1 x.2.2.1 y.1 y.2.1 y.2.2.1
def Sz(a b:Int):Bool:=decide (Hp a b<0)
def Dz(R n:Nat)(l:List Int)(p:Nat):List Int:=B3 (n:Int) l (p:Int) 0 R
def Wz(x y:List Int)(low:Int):Bool:=(!(Sz low (Bk x))||!(Sz low (Bk y)))||!(Sz (A7 (Bz (Bk x) (Bk y)) (-44)) (Hq (Hi x y)))
def Gs(a b:Int):Bool:=Su a b&&decide (0<Hp a b)
def beR(x y:List Int)(low:Int):Bool:=(!(Gs (Bk x) low)||!(Gs (Bk y) low))||!(Gs (Hq (Hi x y)) (A7 (Bz (Bk x) (Bk y)) (-44)))
def Ix(x y:List Int):Int:=E2 (Gg (Hi y y) (Hi x x)) (De (Hi x y) (Hi x y))
def Aat(z:Int):Int:=E2 Va (De (Hq z) (Dt (De Va (Bz z z))))
def G9(z:Int):Int:=if En z=true then B7 (Aat z) else Aat z
def Fj(t:Int):Int:=E2 Va (Dt (De Va (Bz t t)))
def El(t:Int):Int:=Bz (Fj t) t
def trC(x y:List Int)(low:Int):Int:=if Wz x y low=true then 0 else Fj (G9 (Ix x y))
def trS(x y:List Int)(low:Int):Int:=if Wz x y low=true then 0 else El (G9 (Ix x y))
def Ni(R n:Nat)(l:List Int)(i k:Nat)(c s:Int):List Int:=B0 R n fun a b =>
 if a=i then De (Bz c (C1 (n:Int) l (i:Int) (b:Int))) (Bz s (C1 (n:Int) l (k:Int) (b:Int)))
 else if a=k then Gg (Bz c (C1 (n:Int) l (k:Int) (b:Int))) (Bz s (C1 (n:Int) l (i:Int) (b:Int))) else C1 (n:Int) l (a:Int) (b:Int)
def Jh(R n:Nat)(l:List Int)(i k:Nat)(c s:Int):List Int:=B0 R n fun a b =>
 if b=i then De (Bz c (C1 (n:Int) l (a:Int) (i:Int))) (Bz s (C1 (n:Int) l (a:Int) (k:Int)))
 else if b=k then Gg (Bz c (C1 (n:Int) l (a:Int) (k:Int))) (Bz s (C1 (n:Int) l (a:Int) (i:Int))) else C1 (n:Int) l (a:Int) (b:Int)
def Ng(be:List Int->List Int->Int->Bool)(R n:Nat)(low:Int)(p q:Nat)(s:List Int × List Int × Bool):List Int × List Int × Bool :=
 if be (Dz R n s.1 p) (Dz R n s.1 q) low=true then s
 else (Jh R n s.1 p q (Fj (G9 (Ix (Dz R n s.1 p) (Dz R n s.1 q)))) (B7 (El (G9 (Ix (Dz R n s.1 p) (Dz R n s.1 q))))),
  Jh n n s.2.1 p q (Fj (G9 (Ix (Dz R n s.1 p) (Dz R n s.1 q)))) (B7 (El (G9 (Ix (Dz R n s.1 p) (Dz R n s.1 q))))),false)
def O3(be:List Int->List Int->Int->Bool)(R n:Nat)(low:Int)(p:Nat):Nat->Nat->List Int × List Int × Bool->List Int × List Int × Bool
 | 0,_,s=>s
 | d+1,q,s=>O3 be R n low p d (q+1) (Ng be R n low p q s)
def L6(be:List Int->List Int->Int->Bool)(R n:Nat)(low:Int):Nat->Nat->List Int × List Int × Bool->List Int × List Int × Bool
 | 0,_,s=>s
 | d+1,p,s=>L6 be R n low d (p+1) (O3 be R n low p (n-(p+1)) (p+1) s)
def Jb(R n:Nat)(low:Int)(w v:List Int):List Int × List Int × Bool:=L6 Wz R n low n 0 (w,v,true)
def U7(R n:Nat)(low:Int)(w v:List Int):List Int × List Int × Bool:=L6 beR R n low n 0 (w,v,true)
def Ec(R n:Nat)(low:Int):Nat->List Int->List Int->List Int × List Int × Int
 | 0,w,v=>(w,v,6)
 | m+1,w,v=>if (Jb R n low w v).2.2=true then ((Jb R n low w v).1,(Jb R n low w v).2.1,0) else Ec R n low m (Jb R n low w v).1 (Jb R n low w v).2.1
def Ch(R n:Nat)(l:List Int):List Int:=(zh n).map fun c=>Bk (Dz R n l c)
def Sb(key:Int->Int)(x:Int):List Int->List Int
 | []=>[x]
 | y::t=>if Hp (key y) (key x)<0 then y::Sb key x t else x::y::t
def U0(key:Int->Int)(l:List Int):List Int:=l.foldl (fun acc x=>Sb key x acc) []
def Nv(l:List Int)(i:Int):Int:=l.getD i.toNat 0
def Na(n:Nat):List Int:=(zh n).map fun i:Nat=>(i:Int)
def Fv(l x:List Int):List Int:=(U0 (Nv l) x).reverse
def A6p(l:List Int)(n:Nat):List Int:=Fv l (Na n)
def Rm(key:Int->Int)(x:Int):List Int->List Int
 | []=>[x]
 | y::t=>if Gs (key x) (key y)=true then x::y::t else y::Rm key x t
def Ge(l:List Int):List Int:=(Na l.length).foldl (fun acc x=>Rm (Nv l) x acc) []
def J1(n:Nat)(x:List Int):Bool:=x.all fun i=>decide (0<=i/\i<(n:Int))
def Cu(R n:Nat)(l ps:List Int):List Int:=B0 R n fun i k=>C1 (n:Int) l (i:Int) (ps.getD k 0)
def Dp(l:List Int):Int:=Bs (Bi l)
def Dj(R n:Nat)(l:List Int):List Int × List Int × Int:=Ec R n (A7 (Bk (A4 l (-(Dp l)))) (-44)) 60 (A4 l (-(Dp l))) (Iz n)
def Yu(R n:Nat)(l:List Int):List Int:=A6p (Ch R n (Dj R n l).1) n
def Gv(R n:Nat)(l:List Int):List Int:=A4 (Cu R n (Dj R n l).1 (Yu R n l)) (Dp l)
def Gw(R n:Nat)(l:List Int):List Int:=Cu n n (Dj R n l).2.1 (Yu R n l)
def Jy(r c:Int)(l:List Int):Int :=if Ci r c l≠0 then Ci r c l else if (Dj r.toNat c.toNat l).2.2≠0 then 6 else if (Ds (Gv r.toNat c.toNat l)&&Ds (Gw r.toNat c.toNat l))=true then 0 else 2
def Iw(r c:Int)(l:List Int):MX:=if Jy r c l≠0 then N6 (Jy r c l) else (r,c,Gv r.toNat c.toNat l,0)
def I8(r c:Int)(l:List Int):MX:=if Jy r c l≠0 then N6 (Jy r c l) else (c,c,Gw r.toNat c.toNat l,0)
def M9(r c:Int)(l:List Int):List Int:=if Jy r c l≠0 then [] else Ch r.toNat c.toNat (Gv r.toNat c.toNat l)
theorem Md:Af (0:Int)=true:=Cr (n:=0) (by decide)
theorem Ake:Af Va=true:=Cr (n:=4607182418800017408) (by decide)
theorem Au9{b:Nat}{n:Int}(h:b<2^64):(Cq b n).1<2^64:=by
 unfold Cq;by_cases h4:Ag b=4
 ·rw[Bfc h4]; exact(by decide:P1<2^64)
 rw[Bfb h4];by_cases h3:Ag b=3\/Ag b=0
 ·rw[Bfc h3]; exact h
 rw[Bfb h3];exact U2 _ _ _
theorem Hs{b n:Int}(h:Af b=true):Af (A7 b n)=true:=by obtain⟨x,rfl,hx⟩:=Bu h;exact Cr (Au9 (by rw[Ber]; exact hx))
theorem Ub(b:Nat):E9 b<2^63:=zv _ (by decide)
theorem Agg:∀(l:List Int) (m:Nat),m<2^64->Nb l m<2^64
 | [],m,h=>h
 | x::l,m,h=>by
   unfold Nb;split
   ·exact(by decide:P1<2^64)
   ·have h2:=Ub x.toNat;exact Agg l _ (by omega)
theorem Sd(l:List Int):Af (Bi l)=true:=Cr (Agg l 0 (by decide))
theorem Q7(x:Int):Af (Hq x)=true:=Cr (xf (Ub x.toNat) (by decide))
theorem Pr{a b:Int}(ha:Af a=true)(hb:Af b=true):Af (De a b)=true:=by obtain⟨x,rfl,hx⟩:=Bu ha;obtain⟨y,rfl,hy⟩:=Bu hb;exact Cr (W2 (by rw[Ber]; exact hx) (by rw[Ber]; exact hy)).1
theorem O6{a:Int}(ha:Af a=true):Af (B7 a)=true:=by obtain⟨x,rfl,hx⟩:=Bu ha;exact Cr (Abk (by rw[Ber]; exact hx))
theorem Ayz{b:Nat}(h:b<2^64):(Hc b).1<2^64:=by
 by_cases h4:Ag b=4
 ·rw[Y1 h4]; exact(by decide:P1<2^64)
 by_cases h0:Ag b=0\/b=Ea
 ·rw[K0 h4 h0]; exact h
 cases hn:Be b with
 | true=>rw[Y0 h4 h0 hn]; exact(by decide:P1<2^64)
 | false =>unfold Hc;rw[Bfb h4,Bfb h0,hn,Bfb (by decide)];exact xf (Qa _ _) (by decide)
theorem Th{a:Int}(ha:Af a=true):Af (Dt a)=true:=by obtain⟨x,rfl,hx⟩:=Bu ha;exact Cr (Ayz (by rw[Ber]; exact hx))
theorem Ayy(k:Int):∀(l:List Int) {s:Int},Af s=true->Af (Jz k s l)=true
 | [],_,h=>h
 | _::l,_,h=>Ayy k l (Pr h (Fc _ _))
theorem Le(x:List Int):Af (Bk x)=true:=by
 unfold Bk;split
 ·exact Sd x
 ·exact Hs (Th (Ayy _ _ Md))
theorem Bbm(x:List Int):Af (muI x)=true:=by
 unfold muI;split
 ·exact Le _
 ·exact O6 (Le _)
theorem A55(x:List Int):Af (Ma x)=true:=Hs (Bbm x)
theorem Aw4(b:Nat):-1100<=Pp b/\Pp b<=1100:=by
 unfold Pp;split
 ·have h1:=Da b;have h2:=F8 b;rename_i h
  have h3:(Ap b).log2<53:=by
   by_cases h0:Ap b=0
   ·rw[h0]; decide
   ·exact(Bf5 h0).2 h2
  omega
 ·omega
theorem Yh(x:Int):-1100<=Bs x/\Bs x<=1100:=Aw4 x.toNat
theorem S7{l:List Int}(h:Ah l=true)(j:Nat):Af (l.getD j 0)=true:=Att (Ak.1 h) j
theorem W1{l:List Int}(h:∀x∈l,Af x=true):Ah l=true:=Ak.2 h
theorem Vy:Ah []=true:=W1 fun _ h=>by cases h
theorem Vz{α:Type}{l:List α}{f:α->Int}(h:∀j,Af (f j)=true):Ah (l.map f)=true:=W1 fun x hx=>by obtain⟨j,_,rfl⟩:=zw.1 hx;exact h j
theorem Axm{x:Int}{l:List Int}(h1:Af x=true)(h2:Ah l=true):Ah (x::l)=true:=W1 fun y hy=>by
 rcases zu.1 hy with rfl | hy
 ·exact h1
 ·exact Ak.1 h2 y hy
theorem Hn{c i k:Int}{l:List Int}(h:Ah l=true):Af (C1 c l i k)=true:=S7 h _
theorem E1(c b i:Int)(n:Nat)(l:List Int):(B3 c l b i n).length=n:=by unfold B3; rw[Bfv,Bfs]
theorem Pj{c b i:Int}{n:Nat}{l:List Int}(h:Ah l=true):Ah (B3 c l b i n)=true:=Vz fun _=>Hn h
theorem Azg(n:Nat){f:Nat->Int}(h:∀j,Af (f j)=true):Ah (Ob n f)=true:=Axm Ake (Vz fun _=>h _)
theorem Oq{n:Nat}(h:n≠0)(f:Nat->Int):(Ob n f).length=n:=by unfold Ob;rw[zo,Bfv,Bfs];omega
theorem Adm{x:List Int}(h:Ah x=true):Ah (Dm x).1=true/\Af (Dm x).2.1=true/\Af (Dm x).2.2.1=true:=by
 have hz:Ah []=true/\Af (0:Int)=true/\Af (0:Int)=true:=⟨Vy,Md,Md⟩
 unfold Dm;split
 ·exact hz
 split
 ·unfold A4u;split
  ·dsimp only;exact⟨Azg _ fun _=>Md,Md,S7 h 0⟩
  ·split
   ·dsimp only;exact⟨Azg _ fun _=>J9 _ _,J9 _ _,A55 x⟩
   ·exact hz
 ·exact hz
theorem Ae7{x:List Int}(h:(Dm x).2.2.2=0):(Dm x).1.length=x.length:=by
 unfold Dm at h ⊢;by_cases h1:x.length=0\/64<x.length
 ·rw[Bfc h1] at h; exact absurd h (by decide)
 rw[Bfb h1] at h ⊢;by_cases h2:Ds x=true
 ·rw[Bfc h2] at h ⊢;unfold A4u at h ⊢;by_cases h3:O5 (x.drop 1)=true
  ·rw[Bfc h3]; dsimp only; exact Oq (n:=x.length) (by omega) _
  ·rw[Bfb h3] at h ⊢;by_cases h4:Dl (Ma x)=true
   ·rw[Bfc h4]; dsimp only[Anb]; exact Oq (n:=x.length) (by omega) _
   ·rw[Bfb h4] at h; exact absurd h (by decide)
 ·rw[Bfb h2] at h; exact absurd h (by decide)
theorem Hz(x y:List Int):Af (Hi x y)=true:=Cr (Adt x y 0 (by decide))
theorem Axl{c i k t a b:Int}{l v:List Int}(h:Ah l=true):Af (Vw c l i k v t a b)=true:=by
 unfold Vw;split
 ·exact Tg (Hn h) (Fc _ _)
 ·exact Hn h
theorem Ai5{r c:Nat}{l:List Int}(h:Ah l=true)(i k:Int)(v:List Int)(t:Int):Ah (Jj r c l i k v t)=true:=I3 fun _ _=>Axl h
theorem Se(r c:Nat)(l:List Int)(i k:Int)(v:List Int)(t:Int):(Jj r c l i k v t).length=r*c:=B5 _ _ _
theorem Axb{r c:Nat}{l:List Int}(h:Ah l=true)(j:Nat){x:Int}(hx:Af x=true):Ah (Abx r c l j x)=true:=I3 fun a b=>by
 split
 ·split
  ·exact hx
  ·exact Md
 ·exact Hn h
theorem Vd(r c:Nat)(l:List Int)(j:Nat):(Ag4 r c l j).length=r*c:=by unfold Ag4 Abx; exact B5 _ _ _
theorem Akl{r c:Nat}{l:List Int}(h:Ah l=true)(j:Nat):Ah (Ag4 r c l j)=true:=Axb (Ai5 h _ _ _ _) _ (Adm (Pj h)).2.2
def Ane(r:Nat):Nat->List (List Int × Int)->Prop
 | _,[]=>True
 | j,m::ms=>(Ah m.1=true/\Af m.2=true/\m.1.length+j=r)/\Ane r (j+1) ms
theorem Af6(r c:Nat):∀(n j:Nat) (l:List Int) (x:List Int × List (List Int × Int)),Ah l=true->l.length=r*c->j+n<=r->Uk r c n j l=some x->Ah x.1=true/\x.1.length=r*c/\x.2.length=n/\Ane r j x.2
 | 0,j,l,x,ha,hl,_,h=>by cases h;exact⟨ha,hl,rfl,trivial⟩
 | n+1,j,l,x,ha,hl,hj,h=>by
   unfold Uk at h;by_cases h1:(Dm (Jl r c l j)).2.2.2=0
   ·rw[Bfc h1,Option.map_eq_some_iff] at h;obtain⟨y,hy,rfl⟩:=h;obtain⟨a1,a2,a3,a4⟩:=Af6 r c n (j+1) _ y (Akl ha j) (Vd r c l j) (by omega) hy;have hm:=Adm (x:=Jl r c l j) (Pj ha);have hlen:=Ae7 h1;refine⟨a1,a2,by rw[zo,a3],⟨hm.1,hm.2.1,?_⟩,a4⟩;show(Dm (Jl r c l j)).1.length+j=r;rw[hlen];unfold Jl;rw[E1];omega
   ·rw[Bfb h1] at h; cases h
theorem Akx(n:Nat):Ah (Iz n)=true:=I3 fun i k=>by
 unfold Pc;split
 ·exact Ake
 ·exact Md
theorem Adx(n:Nat):∀(ms:List (List Int × Int)) (j:Nat) (q:List Int),Ah q=true->q.length=n*n->Ah (Pw n j ms q)=true/\(Pw n j ms q).length=n*n
 | [],_,_,h1,h2=>⟨h1,h2⟩
 | m::ms,j,q,h1,h2=>by unfold Pw;exact⟨Ai5 (Adx n ms (j+1) q h1 h2).1 _ _ _ _,Se _ _ _ _ _ _ _⟩
theorem A5i{r c:Nat}{l:List Int}(h:(N8 r c l).isSome=true):Ah (Yf r c l)=true/\(Yf r c l).length=r*r:=by
 unfold Yf;cases hd:N8 r c l with
 | none=>rw[hd] at h; cases h
 | some x=>exact Adx r x.2 0 _ (Akx r) (by unfold Iz; exact B5 _ _ _)
theorem A5h{r c:Nat}{l:List Int}(ha:Ah l=true)(hl:l.length=r*c)(h:(N8 r c l).isSome=true):Ah (Tz r c l)=true/\(Tz r c l).length=r*c:=by
 unfold Tz;cases hd:N8 r c l with
 | none=>rw[hd] at h; cases h
 | some x =>
   have hn:N9 r c<=r:=by unfold N9; omega
   have:=Af6 r c (N9 r c) 0 l x ha hl (by omega) hd;exact⟨this.1,this.2.1⟩
theorem Anw(key:Int->Int)(x:Int)(l:List Int):(Sb key x l).length=l.length+1:=by
 induction l with
 | nil=>rfl
 | cons y t ih =>
   unfold Sb;split
   ·rw[zo,ih,zo]
   ·rfl
theorem Anv{key:Int->Int}{x z:Int}{l:List Int}(h:z∈Sb key x l):z=x\/z∈l:=by
 induction l with
 | nil=>exact .inl (zf.1 h)
 | cons y t ih =>
   unfold Sb at h;split at h
   ·rcases zu.1 h with h | h
    ·exact .inr (h ▸ Bf4)
    ·rcases ih h with h | h
     ·exact .inl h
     ·exact .inr (Bfu _ h)
   ·rcases zu.1 h with h | h
    ·exact .inl h
    ·exact .inr h
theorem S2{n:Nat}{x:List Int}(h:J1 n x=true){j:Nat}(hj:j<x.length):0<=x.getD j 0/\x.getD j 0<(n:Int):=by have:=zJ.1 h (x.getD j 0) (by rw[Bez,Be6 hj]; exact yz hj);exact Bff this
theorem Kv{n:Nat}{x:List Int}:J1 n x=true↔∀z∈x,0<=z/\z<(n:Int):=by unfold J1;rw[zJ];exact forall_congr' fun z=>forall_congr' fun _=>decide_eq_true_iff
theorem Apw(key:Int->Int)(l:List Int)(x:Int):U0 key (l++[x])=Sb key x (U0 key l):=by unfold U0; rw[List.foldl_append]; rfl
theorem Y2(key:Int->Int)(l:List Int):(U0 key l).length=l.length:=by
 suffices h:∀acc:List Int,(l.foldl (fun acc x=>Sb key x acc) acc).length=acc.length+l.length by have:=h []; rw[List.length_nil,Bfz] at this; exact this
 induction l with
 | nil=>intro acc; rfl
 | cons y t ih=>intro acc; rw[yn,ih,Anw,zo]; omega
theorem Ahu{key:Int->Int}{l:List Int}{z:Int}(h:z∈U0 key l):z∈l:=by
 suffices g:∀acc:List Int,z∈l.foldl (fun acc x=>Sb key x acc) acc->z∈acc\/z∈l by
  rcases g [] h with h | h
  ·cases h
  ·exact h
 clear h
 induction l with
 | nil=>intro acc h; exact .inl h
 | cons y t ih =>
   intro acc h;rcases ih _ h with h | h
   ·rcases Anv h with h | h
    ·exact .inr (h ▸ Bf4)
    ·exact .inl h
   ·exact .inr (Bfu _ h)
theorem Auu(A B:List Int)(y v:Int):((A++y::v::B).set (A.length+1) y).set A.length v=A++v::y::B:=by
 induction A with
 | nil=>rfl
 | cons a A ih =>rw[zo,xF,wO,wO,ih];rfl
theorem An2(A B:List Int)(v:Int):(A++v::B).getD A.length 0=v:=by rw[Bez,Bf3 (Bfj _),Nat.sub_self]; rfl
def rgF(n:Nat)(l:List Int)(i k:Nat)(c s:Int)(a b:Nat):Int :=
 if a=i then De (Bz c (C1 (n:Int) l (i:Int) (b:Int))) (Bz s (C1 (n:Int) l (k:Int) (b:Int)))
 else if a=k then Gg (Bz c (C1 (n:Int) l (k:Int) (b:Int))) (Bz s (C1 (n:Int) l (i:Int) (b:Int))) else C1 (n:Int) l (a:Int) (b:Int)
def rgS(R n:Nat)(l:List Int)(i k:Nat)(c s:Int)(j:Nat):List Int:=B0 R n fun a b=>if b<j then rgF n l i k c s a b else C1 (n:Int) l (a:Int) (b:Int)
theorem Amx{R n:Nat}{l:List Int}(h:l.length=R*n)(i k:Nat)(c s:Int):rgS R n l i k c s 0=l:=by
 unfold rgS
 conv=>rhs; rw[<- Wv h]
 exact Ef fun a b _ _=>Bfb (by omega)
theorem As7(R n:Nat)(l:List Int)(i k:Nat)(c s:Int):rgS R n l i k c s n=Ni R n l i k c s:=by unfold rgS Ni;exact Ef fun a b _ hb=>Bfc hb
theorem Aj8(R n:Nat)(l:List Int)(i k:Nat)(c s:Int)(j:Nat):(rgS R n l i k c s j).length=R*n:=B5 _ _ _
theorem Amy{R n:Nat}{l:List Int}{i k:Nat}{c s:Int}{j:Nat}(hj:j<n)(hik:i≠k) :
 ((rgS R n l i k c s j).set (i*n+j) (De (Bz c (C1 (n:Int) l (i:Int) (j:Int))) (Bz s (C1 (n:Int) l (k:Int) (j:Int))))).set (k*n+j)
   (Gg (Bz c (C1 (n:Int) l (k:Int) (j:Int))) (Bz s (C1 (n:Int) l (i:Int) (j:Int))))=rgS R n l i k c s (j+1):=by
 unfold rgS;rw[S4 hj,S4 hj];refine Ef fun a b _ _=>?_
 by_cases hb:b=j
 ·subst hb;by_cases h1:a=k
  ·subst h1;rw[Bfc ⟨rfl,rfl⟩,Bfc (xO _)];unfold rgF;rw[Bfb (Ne.symm hik),Bfc rfl]
  ·rw[Bfb (fun h=>h1 h.1),Bfc (xO _)];by_cases h2:a=i
   ·subst h2;rw[Bfc ⟨rfl,rfl⟩];unfold rgF;rw[Bfc rfl]
   ·rw[Bfb (fun h=>h2 h.1),Bfb (Nat.lt_irrefl _)];unfold rgF;rw[Bfb h2,Bfb h1]
 ·rw[Bfb (fun h=>hb h.2),Bfb (fun h=>hb h.2)];by_cases h:b<j
  ·rw[Bfc h,Bfc (by omega)]
  ·rw[Bfb h,Bfb (by omega)]
theorem Agb{R n:Nat}{l:List Int}(hl:Ah l=true)(i k:Nat)(c s:Int):Ah (Jh R n l i k c s)=true:=I3 fun a b=>by
 split
 ·exact Pr (Fc _ _) (Fc _ _)
 ·split
  ·exact Tg (Fc _ _) (Fc _ _)
  ·exact Hn hl
theorem Aix{R n:Nat}{l:List Int}{i k:Nat}(hi:i<n)(hk:k<n)(c s:Int) :
 (B0 R n fun a b=>C1 (R:Int) (Ni n R (B0 n R fun a b=>C1 (n:Int) l (b:Int) (a:Int)) i k c s) (b:Int) (a:Int))=Jh R n l i k c s:=by
 unfold Jh;refine Ef fun a b ha hb=>?_
 unfold Ni;rw[Ju hb ha];by_cases h1:b=i
 ·rw[Bfc h1,Bfc h1,Ju hi ha,Ju hk ha]
 ·rw[Bfb h1,Bfb h1];by_cases h2:b=k
  ·rw[Bfc h2,Bfc h2,Ju hi ha,Ju hk ha]
  ·rw[Bfb h2,Bfb h2,Ju hb ha]
theorem Aw8{l x:List Int}(h:l.length=x.length):Ul l x=x:=by unfold Ul;rw[h,List.take_length,Be3 (by omega),List.append_nil]
def Jk(R n:Nat)(s:List Int × List Int × Bool):Prop:=(s.1.length=R*n/\Ah s.1=true)/\s.2.1.length=n*n/\Ah s.2.1=true
theorem Aiy(R n:Nat)(l:List Int)(i k:Nat)(c s:Int):(Jh R n l i k c s).length=R*n:=B5 _ _ _
theorem Jk.Ng{be:List Int->List Int->Int->Bool}{R n:Nat}{low:Int}{p q:Nat}{s:List Int × List Int × Bool}(h:Jk R n s):Jk R n (Ng be R n low p q s):=by
 unfold Go.Ct.Ng;split
 ·exact h
 ·exact⟨⟨Aiy ..,Agb h.1.2 ..⟩,Aiy ..,Agb h.2.2 ..⟩
theorem Jk.O3{be:List Int->List Int->Int->Bool}{R n:Nat}{low:Int}{p:Nat}:∀(d q:Nat) {s:List Int × List Int × Bool},Jk R n s->Jk R n (O3 be R n low p d q s)
 | 0,_,_,h=>h
 | d+1,q,_,h=>Jk.O3 d (q+1) h.Ng
theorem Jk.L6{be:List Int->List Int->Int->Bool}{R n:Nat}{low:Int}:∀(d p:Nat) {s:List Int × List Int × Bool},Jk R n s->Jk R n (L6 be R n low d p s)
 | 0,_,_,h=>h
 | d+1,p,_,h=>Jk.L6 d (p+1) (Jk.O3 _ _ h)
theorem Jk.Ec{R n:Nat}{low:Int}:∀(m:Nat) {w v:List Int},Jk R n (w,v,true)->Jk R n ((Ec R n low m w v).1,(Ec R n low m w v).2.1,true)
 | 0,_,_,h=>h
 | m+1,w,v,h=>by
   have g:Jk R n (Jb R n low w v):=Jk.L6 n 0 h;unfold Go.Ct.Ec;split
   ·exact⟨g.1,g.2⟩
   ·exact Jk.Ec m ⟨g.1,g.2⟩
theorem Aa4{R n:Nat}{low:Int}:∀(m:Nat) (w v:List Int),(Ec R n low m w v).2.2=0\/(Ec R n low m w v).2.2=6
 | 0,_,_=>.inr rfl
 | m+1,w,v=>by
   unfold Go.Ct.Ec;split
   ·exact .inl rfl
   ·exact Aa4 m _ _
theorem Hd(R n:Nat)(l ps:List Int):(Cu R n l ps).length=R*n:=B5 _ _ _
theorem Oi{R n:Nat}{l ps:List Int}(h:Ah l=true):Ah (Cu R n l ps)=true:=I3 fun _ _=>Hn h
theorem Tt(R n:Nat)(l:List Int):(Ch R n l).length=n:=by unfold Ch; rw[Bfv,Bfs]
theorem Ah8(R n:Nat)(l:List Int):Ah (Ch R n l)=true:=Vz fun _=>Le _
theorem Mh(l:List Int)(k:Int):(A4 l k).length=l.length:=by unfold A4; rw[Bfv]
theorem Aa1{l:List Int}{k:Int}(h:Ah l=true):Ah (A4 l k)=true:=Ak.2 fun x hx=>by obtain⟨y,hy,rfl⟩:=zw.1 hx;exact Hs (Ak.1 h y hy)
theorem Q2(n:Nat):(Na n).length=n:=by unfold Na; rw[Bfv,Bfs]
theorem Zd(n:Nat):J1 n (Na n)=true:=Kv.2 fun z hz=>by obtain⟨i,hi,rfl⟩:=zw.1 hz;have:=yg.1 hi;omega
theorem Aaz(l x:List Int):(Fv l x).length=x.length:=by unfold Fv; rw[List.length_reverse,Y2]
theorem Amd{n:Nat}{l x:List Int}(h:J1 n x=true):J1 n (Fv l x)=true:=Kv.2 fun z hz=>Kv.1 h z (Ahu (wx.1 hz))
theorem Atw(i k:Int):Af (Pc i k)=true:=by
 unfold Pc;split
 ·exact Ake
 ·exact Cr (n:=0) (by decide)
theorem Qs(n:Nat):Iy n=!(decide (Ag n=3)||decide (Ag n=4)):=by
 have:=K9 n;unfold Iy Ag;by_cases h:D7 n=2047
 ·by_cases h2:Dc n=0<;>simp[h,h2]
 ·have h3:D7 n<2047:=by omega
  by_cases h4:0<D7 n
  ·simp[h,h3,h4]
  ·by_cases h5:0<Dc n<;>simp[h,h3,h4,h5]
theorem Aj0(s:Bool)(m:Nat):(Il s m).natAbs=m:=by unfold Il; split<;>omega
theorem Auf{b:Nat}(h:b<2^64)(g:Int):Gc (Fz b) g=-(Gc b g)/\Aw (Fz b)=Aw b/\Iy (Fz b)=Iy b:=by
 obtain⟨h1,h2,h3⟩:=Ve h;have hm:Ap (Fz b)=Ap b:=by unfold Ap; rw[h2,h3]
 have he:Aw (Fz b)=Aw b:=by unfold Aw; rw[h2]
 refine⟨?_,he,by unfold Iy; rw[h2]⟩;unfold Gc;rw[h1,hm,he];unfold Il;cases Be b
 ·rfl
 ·show((_:Nat):Int)=- -((_:Nat):Int);omega
def pw(k:Nat):Nat:=(k+1023)*2^52
theorem U9{k:Nat}(h:k<=1023):Ap (pw k)=2^52/\Aw (pw k)=(k:Int)-52/\Ag (pw k)=2/\pw k%2^63=pw k/\pw k<Ea:=by
 have hp:D7 (pw k)=k+1023:=by unfold D7 pw; omega
 have hf:Dc (pw k)=0:=by unfold Dc pw; omega
 refine⟨?_,?_,?_,?_,?_⟩
 ·unfold Ap; rw[hp,hf,Bfb (by omega)]
 ·unfold Aw; rw[hp,Bfb (by omega)]; omega
 ·unfold Ag; rw[hp,Bfb (by omega),Bfc (by omega)]
 ·unfold pw; omega
 ·rw[Ft]; unfold pw; omega
def Od(a:Nat):Nat:=Hb a (-1074)
theorem Ata{k:Nat}(h:k<=1023):Od (pw k)=2^(k+1074):=by obtain⟨h1,h2,_⟩:=U9 h;unfold Od Hb;rw[h1,h2,<- Bfe];congr 1; omega
theorem Adg{k:Nat}(h:k<=1023):B9 (2^(k+1074)) (-1074)=pw k:=by obtain⟨h1,h2,h3,h4,_⟩:=U9 h;have:=Q6 (b:=pw k) (f:=-1074) (by omega) (by omega);rw[h4] at this;rw[<- this,<- Ata h]; rfl
def Bd(k:Nat)(a:Nat):Prop:=Ag a≠3/\Ag a≠4/\Od a<=2^(k+1074)
theorem Bd.mono{j k a:Nat}(h:Bd j a)(hk:j<=k):Bd k a:=⟨h.1,h.2.1,Bfw h.2.2 (Be4 (by decide) (by omega))⟩
theorem Bd.Rw{k a:Nat}(hk:k<=1023)(h4:Ag a≠4)(h:a%2^63<=pw k):Bd k a:=by
 obtain⟨p1,p2,p3,p4,p5⟩:=U9 hk;have h3:Ag a≠3:=fun e=>by have:=Tu e; omega
 refine⟨h3,h4,?_⟩;have ha:=Da a;rcases Bfm (Od (pw k)) (Od a) with g | g
 ·have:=(Ae8 (f:=-1074) (by omega) h4 (by omega) ha.1).1 g;omega
 ·rw[Ata hk] at g; exact g
theorem Jf(s:Bool)(V:Nat)(E:Int):Ag (Bf s (B9 V E))≠4:=by
 have h:=K5 V E;rw[Ft] at h;have hp:=Aba s (r:=B9 V E) (by omega);have hf:=Yd s (B9 V E);unfold Ag;rw[hp,hf];split
 ·split
  ·omega
  ·omega
 ·split
  ·omega
  ·split<;>omega
theorem Bd.B9{k:Nat}(s:Bool){V:Nat}{E:Int}(hk:k<=1023)(h:B9 V E<=pw k):Bd k (Bf s (B9 V E)):=by
 refine .Rw hk (Jf s V E) ?_;have:=Qa V E;have e:Bf s (Go.Ct.B9 V E)%2^63=Go.Ct.B9 V E:=by unfold Bf; split<;>omega
 rw[e]; exact h
theorem Bd.zero(s:Bool)(k:Nat):Bd k (Bf s 0):=by
 have:Ag (Bf s 0)=0/\Od (Bf s 0)=0:=by cases s<;>decide +kernel
 exact⟨by omega,by omega,by rw[this.2]; exact zA _⟩
theorem Q5(a:Nat):(Gc a (-1074)).natAbs=Od a:=by unfold Gc Od Hb;rw[Aj0]
theorem Bd.add{k a b:Nat}(hk:k+1<=1023)(ha:Bd k a)(hb:Bd k b):Bd (k+1) (Fh a b).1:=by
 obtain⟨a3,a4,am⟩:=ha;obtain⟨b3,b4,bm⟩:=hb;have pa:=Da a;have pb:=Da b;have ek:=Alk a3 a4 b3 b4 (g:=-1074) (by omega)
 have e4:Ag (Fh a b).1≠4:=by
  rw[S9 (by omega) a3 b3];unfold Lp;split
  ·have:Ag (Bf (Be a&&Be b) 0)=0:=by cases (Be a&&Be b)<;>decide
   show Ag (Bf (Be a&&Be b) 0)≠4;omega
  ·exact Jf _ _ _
 refine .Rw hk e4 ?_
 have hs:(Gc a (-1074)+Gc b (-1074)).natAbs<=2^(k+1+1074):=by
  have h1:=Q5 a;have h2:=Q5 b;have:2^(k+1+1074)=2^(k+1074)+2^(k+1074):=by rw[show k+1+1074=k+1074+1 by omega,zD]; omega
  omega
 have hr:=Ii (E:=-1074) hs;rw[Adg hk] at hr;have hn:(G5 (Fh a b).1).natAbs=(Fh a b).1%2^63:=by unfold G5; rw[Aj0]
 rw[<- hn,ek];unfold Aj7;split<;>omega
theorem Bd.mul{j k a b:Nat}(hk:j+k<=1023)(ha:Bd j a)(hb:Bd k b):Bd (j+k) (E7 a b).1:=by
 obtain⟨a3,a4,am⟩:=ha;obtain⟨b3,b4,bm⟩:=hb;have pa:=Da a;have pb:=Da b;unfold E7;rw[Bfb (by omega),Bfb (by omega)];refine .B9 _ hk ?_;obtain⟨u,hu⟩:∃u:Nat,Aw a=(u:Int)-1074:=⟨(Aw a+1074).toNat,by omega⟩
 obtain⟨v,hv⟩:∃v:Nat,Aw b=(v:Int)-1074:=⟨(Aw b+1074).toNat,by omega⟩
 have ea:Od a=Ap a*2^u:=by unfold Od Hb; congr 2; omega
 have eb:Od b=Ap b*2^v:=by unfold Od Hb; congr 2; omega
 have s1:=(D1 (Ap a*Ap b) (u+v) (Aw a+Aw b)).1;obtain⟨t,ht⟩:∃t:Nat,t=1074:=⟨1074,rfl⟩
 rw[<- s1,<- Adg hk,<- (D1 (2^(j+k+1074)) t (-1074)).1];rw[<- ht] at am bm ⊢;have ee:Aw a+Aw b-((u+v:Nat):Int)=-1074-(t:Int):=by omega
 rw[ee];refine Ii ?_
 have:Ap a*Ap b*2^(u+v)=Od a*Od b:=by rw[ea,eb,Bfe,xh]
 rw[this,<- Bfe,show j+k+t+t=(j+t)+(k+t) by omega,Bfe];exact Bfl am bm
theorem Zt{k b:Nat}(hb:b<2^64)(h:Bd k b):Bd k (Fz b):=by
 obtain⟨h3,h4,hm⟩:=h;obtain⟨v1,v2,v3⟩:=Auf hb (-1074);have hf:Iy b=true:=by rw[Qs]; simp[h3,h4]
 have k':=Kw (v3.trans hf);refine⟨k'.2,k'.1,?_⟩;rw[<- Q5,v1,Int.natAbs_neg,Q5]; exact hm
theorem Bd.sub{k a b:Nat}(hk:k+1<=1023)(hb64:b<2^64)(ha:Bd k a)(hb:Bd k b):Bd (k+1) (Agw a b).1:=Bd.add hk ha (Zt hb64 hb)
theorem Bd.fin{k a:Nat}(h:Bd k a):Iy a=true:=by rw[Qs]; simp[h.1,h.2.1]
theorem Bd.A77{k a:Nat}(hf:Iy a=true)(h:Ap a≠0->((Ap a).log2:Int)+Aw a<(k:Int)):Bd k a:=by
 refine⟨(Kw hf).2,(Kw hf).1,?_⟩;have pa:=Da a;unfold Od Hb;by_cases h0:Ap a=0
 ·rw[h0,zN]; exact zA _
 ·have hl:=h h0;have h1:=yr (n:=Ap a);have h2:Ap a*2^(Aw a - -1074).toNat<=2^((Ap a).log2+1)*2^(Aw a - -1074).toNat:=Be1 _ (by omega);rw[<- Bfe] at h2;exact Bfw h2 (Be4 (by decide) (by omega))
theorem Arp{P root rest two:Nat}(h1:P=root*root+rest)(h2:rest<=2*root)(h3:two<4) :
 (4*root+1<=4*rest+two->4*P+two=(2*root+1)*(2*root+1)+(4*rest+two-(4*root+1))/\4*rest+two-(4*root+1)<=2*(2*root+1)) /\
 (4*rest+two<4*root+1->4*P+two=(2*root)*(2*root)+(4*rest+two)/\4*rest+two<=2*(2*root)):=by
 have e1:(2*root+1)*(2*root+1)=4*(root*root)+(4*root+1):=by
  rw[Bft,yh,yh];have:2*root*(2*root)=4*(root*root):=by rw[xh]
  omega
 have e2:(2*root)*(2*root)=4*(root*root):=by rw[xh]
 constructor
 ·intro h; rw[e1]; omega
 ·intro h; rw[e2]; omega
theorem A39{P root rest:Nat}(h1:P=root*root+rest)(h2:rest<=2*root):root=N5 P:=by
 refine Afk (by omega) ?_;have:(root+1)*(root+1)=root*root+2*root+1:=by rw[Bft,yh]; omega
 omega
theorem A47{M a b:Nat}{E:Int}(h:2^a<=M)(g:(b:Int)-1074<=a+E):B9 (2^b) (-1074)<=B9 M E:=by
 by_cases k:-1074<=E
 ·have s:=(D1 M (E+1074).toNat E).1;rw[show E-((E+1074).toNat:Int)=-1074 by omega] at s;rw[<- s];refine Ii (Bfw (m:=2^(a+(E+1074).toNat)) (Be4 (by decide) (by omega)) ?_);rw[Bfe]; exact Be1 _ h
 ·have s:=(D1 (2^b) (-1074-E).toNat (-1074)).1;rw[show(-1074:Int)-((-1074-E).toNat:Int)=E by omega,<- Bfe] at s;rw[<- s];exact Ii (Bfw (Be4 (by decide) (by omega)) h)
theorem Rv{M a:Nat}{E:Int}(h:2^a<=M)(g:0<=a+E):pw 0<=B9 M E:=by
 obtain⟨t,ht⟩:∃t:Nat,t=1074:=⟨1074,rfl⟩
 rw[<- Adg (k:=0) (by decide),Bfz,<- ht];exact A47 h (by omega)
def Nn(a:Nat):Prop:=a<=P1
def Big(a:Nat):Prop:=pw 0<=a/\a<=P1
theorem It:P1=9221120237041090560:=rfl
theorem Avs:pw 0=4607182418800017408:=by unfold pw; omega
theorem Ald:Big P1:=⟨by rw[Avs,It]; omega,Bfj _⟩
theorem Ale:Big Ea:=⟨by rw[Avs,Ft]; omega,by rw[It,Ft]; omega⟩
theorem Qe(V:Nat)(E:Int):Nn (B9 V E):=by have:=K5 V E;rw[Ft] at this;unfold Nn; rw[It]; omega
theorem Aqt:Nn P1:=Bfj _
theorem Aqu:Nn Ea:=Ale.2
theorem Ww{z:Nat}(h:pw 0<=z%2^63):2^52<=Ap z/\-52<=Aw z:=by
 have h1:1023<=D7 z:=by unfold D7; rw[Avs] at h; omega
 unfold Ap Aw;rw[Bfb (by omega),Bfb (by omega)];omega
theorem Jd{a:Nat}(h:Nn a):Be a=false:=by unfold Nn at h; rw[It] at h;exact Beu (by omega)
theorem Ay0{z:Nat}:Nn (E7 z z).1/\(pw 0<=z%2^63->Big (E7 z z).1):=by
 have hp:(Be z !=Be z)=false:=by cases Be z<;>rfl
 unfold E7;by_cases k4:Ag z=4
 ·rw[Bfc (.inl k4)]; exact⟨Aqt,fun _=>Ald⟩
 rw[Bfb (by omega)];by_cases k3:Ag z=3
 ·rw[Bfc (.inl k3),Bfb (by omega),hp,G0]; exact⟨Aqu,fun _=>Ale⟩
 rw[Bfb (by omega),hp,G0];refine⟨Qe _ _,fun h=>⟨?_,Qe _ _⟩⟩;obtain⟨h1,h2⟩:=Ww h;refine Rv (a:=104) ?_ (by omega);rw[show(104:Nat)=52+52 from rfl,Bfe];exact Bfl h1 h1
theorem Afo{a:Nat}(h:Nn a)(k3:Ag a=3):a=Ea:=by have:=Ox (b:=a) (by unfold Nn at h; rw[It] at h; omega) k3;rw[Jd h] at this;exact this.symm
theorem A8j{a:Nat}(h:Nn a):G5 a=a:=by unfold G5;rw[Jd h];unfold Nn at h; rw[It] at h;show((a%2^63:Nat):Int)=a;omega
theorem Aje{a:Nat}(h:Nn a)(g:Int):Gc a g=Hb a g:=by unfold Gc Hb; rw[Jd h]; rfl
theorem Ago{s t:Nat}(hs:Nn s)(ht:Nn t):Nn (Fh s t).1/\(Big s\/Big t->Big (Fh s t).1):=by
 have hN:Nn P1/\(Big s\/Big t->Big P1):=⟨Aqt,fun _=>Ald⟩
 have hI:Nn Ea/\(Big s\/Big t->Big Ea):=⟨Aqu,fun _=>Ale⟩
 by_cases k:Ag s=4\/Ag t=4
 ·have:(Fh s t).1=P1:=by unfold Fh; rw[Bfc k]
  rw[this]; exact hN
 by_cases s3:Ag s=3
 ·rw[Aox k s3];split
  ·exact hN
  ·obtain rfl:=Afo hs s3; exact hI
 by_cases t3:Ag t=3
 ·rw[Ai7 k s3 t3];obtain rfl:=Afo ht t3; exact hI
 have ek:=Alk s3 (by omega) t3 (by omega) (g:=min (Aw s) (Aw t)) (Int.le_refl _);generalize hg:min (Aw s) (Aw t)=g at ek;rw[Aje hs,Aje ht] at ek;have e0:¬((Hb s g:Int)+(Hb t g:Int)<0):=by omega
 unfold Aj7 at ek;rw[Bfb e0] at ek
 have n2:(Fh s t).1=B9 ((Hb s g:Int)+(Hb t g:Int)).natAbs g:=by
  have hn:Be (Fh s t).1=false\/(Fh s t).1%2^63=0:=by
   unfold G5 at ek;cases hh:Be (Fh s t).1
   ·exact .inl rfl
   ·rw[hh] at ek;have ek:-(((Fh s t).1%2^63:Nat):Int)=_:=ek;exact .inr (by omega)
  have hlt:(Fh s t).1<2^64:=(W2 (by unfold Nn at hs; rw[It] at hs; omega) (by unfold Nn at ht; rw[It] at ht; omega)).1
  have hnf:Be (Fh s t).1=false:=by
   rw[S9 k s3 t3];unfold Lp;have hh:(Be s&&Be t)=false:=by rw[Jd hs]; rfl
   split
   ·show Be (Bf (Be s&&Be t) 0)=false;rw[hh]; rfl
   ·rename_i h0;rw[hg,Aje hs,Aje ht];rw[Beu e0,G0];exact Jd (Qe _ _)
  unfold G5 at ek;rw[hnf] at ek;have ek:(((Fh s t).1%2^63:Nat):Int)=_:=ek;unfold Be at hnf;have:=of_decide_eq_false hnf;omega
 rw[n2];refine⟨Qe _ _,fun h=>⟨?_,Qe _ _⟩⟩;have ms:=Q6 (b:=s) (f:=g) (by omega) (by omega);have mt:=Q6 (b:=t) (f:=g) (by omega) (by omega);rcases h with h | h
 ·have:=Ii (V:=Hb s g) (W:=((Hb s g:Int)+(Hb t g:Int)).natAbs) (E:=g) (by omega);have h1:=h.1;unfold Nn at hs; rw[It] at hs;rw[ms] at this; omega
 ·have:=Ii (V:=Hb t g) (W:=((Hb s g:Int)+(Hb t g:Int)).natAbs) (E:=g) (by omega);have h1:=h.1;unfold Nn at ht; rw[It] at ht;rw[mt] at this; omega
theorem Ad9(k:Int):∀(l:List Int) (s:Nat),Nn s->∃t:Nat,Jz k s l=t/\Nn t/\((Big s\/∃x∈l,pw 0<=(A7 x k).toNat%2^63)->Big t)
 | [],s,h=>⟨s,rfl,h,fun g=>by
  rcases g with g | ⟨x,hx,_⟩
  ·exact g
  ·cases hx⟩
 | x::l,s,h=>by
   obtain⟨q1,q2⟩:=Ay0 (z:=(A7 x k).toNat);obtain⟨a1,a2⟩:=Ago h q1;obtain⟨t,e,t1,t2⟩:=Ad9 k l _ a1;refine⟨t,?_,t1,fun g=>t2 ?_⟩
   ·unfold Jz;rw[<- e];unfold De Bz;rw[Ber,Ber]
   ·rcases g with g | ⟨y,hy,g⟩
    ·exact .inl (a2 (.inl g))
    ·rcases zu.1 hy with rfl | hy
     ·exact .inl (a2 (.inr (q2 g)))
     ·exact .inr ⟨y,hy,g⟩
theorem A5b{n:Nat}(h:n≠0):1<=N5 n:=Akr (by omega)
theorem Ams{b:Nat}(h:Big b):Big (Hc b).1:=by
 have hn:=Jd h.2;by_cases k4:Ag b=4
 ·rw[Y1 k4]; exact Ald
 by_cases k0:Ag b=0\/b=Ea
 ·rw[K0 k4 k0]; exact h
 rw[Sn k4 k0 hn];refine⟨?_,Qe _ _⟩;have k3:Ag b≠3:=fun e=>k0 (.inr (Afo h.2 e))
 have hm:b%2^63=b:=by have:=h.2; rw[It] at this; omega
 obtain⟨p1,p2⟩:=Ww (z:=b) (by rw[hm]; exact h.1);have hK:=(U8 (b:=b) (by omega)).2;generalize hr:(Aw b-(Gn b:Int)) / 2-1=r at hK ⊢;have hst:2*N5 (Ap b*2^Gn b)<=Ff (Ap b*2^Gn b):=by unfold Ff; omega
 by_cases hr0:0<=r
 ·have:=A5b (n:=Ap b*2^Gn b) (by have:=wh (show 0<Ap b by omega) (Cm (Gn b)); omega);exact Rv (a:=0) (by omega) (by omega)
 ·have h2:2^((-1-r).toNat+(-1-r).toNat)<=Ap b*2^Gn b:=by refine Bfw (m:=2^(52+Gn b)) (Be4 (by decide) (by omega)) ?_;rw[Bfe];exact Be1 _ p1
  have h3:=Z5 h2;refine Rv (a:=(-1-r).toNat+1) ?_ (by omega);rw[zD]; omega
theorem J5{b:Nat}(h:Ag b=0):b%2^63=0:=by
 unfold Ag D7 Dc at h;split at h
 ·split at h<;>omega
 ·split at h
  ·omega
  ·split at h<;>omega
theorem Z9{b:Nat}(k3:Ag b≠3)(k4:Ag b≠4)(k0:Ag b≠0):Pp b=((Ap b).log2:Int)+Aw b/\-1074<=Pp b:=by
 have:=Da b;have hf:Iy b=true:=by rw[Qs]; simp[k3,k4]
 unfold Pp;rw[Bfc ⟨hf,k0⟩];exact⟨rfl,by omega⟩
theorem Adr(b:Nat):Pp b=Pp (b%2^63):=by
 have h1:D7 (b%2^63)=D7 b:=by unfold D7; omega
 have h2:Dc (b%2^63)=Dc b:=by unfold Dc; omega
 unfold Pp Iy Ag Ap Aw;rw[h1,h2]
theorem Ap6{b:Nat}(k3:Ag b≠3)(k4:Ag b≠4)(k0:Ag b≠0):pw 0<=(Cq b (-Pp b)).1%2^63:=by
 obtain⟨e,_⟩:=Z9 k3 k4 k0;rw[Ms k4 (by omega)];have m0:Ap b≠0:=fun h=>k0 ((Du k3 k4).1 h)
 have:=Rv (M:=Ap b) (a:=(Ap b).log2) (E:=Aw b+-Pp b) (zS m0) (by omega);have hl:=Qa (Ap b) (Aw b+-Pp b);have e2:Bf (Be b) (B9 (Ap b) (Aw b+-Pp b))%2^63=B9 (Ap b) (Aw b+-Pp b):=by unfold Bf; split<;>omega
 show pw 0<=Bf (Be b) (B9 (Ap b) (Aw b+-Pp b))%2^63;rw[e2]; exact this
theorem Aoq{x:Int}{l:List Int}{m:Nat}(k:Ag x.toNat=4):Nb (x::l) m=P1:=Bfc k
theorem Agh{x:Int}{l:List Int}{m:Nat}(k:Ag x.toNat≠4):Nb (x::l) m=Nb l (max m (E9 x.toNat)):=Bfb k
theorem Adv:∀(l:List Int) (m:Nat),Nb l m=P1\/Nb l m=m\/∃x∈l,Ag x.toNat≠4/\Nb l m=E9 x.toNat
 | [],_=>.inr (.inl rfl)
 | x::l,m=>by
   by_cases k4:Ag x.toNat=4
   ·exact .inl (Aoq k4)
   rw[Agh k4];rcases Adv l (max m (E9 x.toNat)) with g | g | ⟨y,hy,g,g'⟩
   ·exact .inl g
   ·rw[g];rcases wi m (E9 x.toNat) with k | k
    ·exact .inr (.inr ⟨x,Bf4,k4,Nat.max_eq_right k⟩)
    ·exact .inr (.inl (Nat.max_eq_left k))
   ·exact .inr (.inr ⟨y,Bfu _ hy,g,g'⟩)
theorem Ar0:∀(l:List Int) (m:Nat),Nb l m=P1\/(m<=Nb l m/\∀x∈l,E9 x.toNat<=Nb l m)
 | [],_=>.inr ⟨Bfj _,fun _ h=>by cases h⟩
 | x::l,m=>by
   by_cases k4:Ag x.toNat=4
   ·exact .inl (Aoq k4)
   rw[Agh k4];rcases Ar0 l (max m (E9 x.toNat)) with g | ⟨g1,g2⟩
   ·exact .inl g
   ·refine .inr ⟨by omega,fun y hy=>?_⟩;rcases zu.1 hy with rfl | hy
    ·omega
    ·exact g2 y hy
theorem Aij(b:Nat):Ag (E9 b)=Ag b:=by
 have h1:D7 (E9 b)=D7 b:=by unfold D7 E9; omega
 have h2:Dc (E9 b)=Dc b:=by unfold Dc E9; omega
 unfold Ag; rw[h1,h2]
theorem abs_zero{b:Nat}(h:E9 b=0):Ag b=0:=by rw[<- Aij,h]; decide
theorem A2b{y:List Int}(h:∃x∈y,Bb x≠0):Nb y 0=P1\/∃z∈y,Ag z.toNat≠4/\Ag z.toNat≠0/\Nb y 0=E9 z.toNat:=by
 obtain⟨x,hx,hk⟩:=h;rcases Ar0 y 0 with g | ⟨_,g⟩
 ·exact .inl g
 have g:=g x hx;have x0:E9 x.toNat≠0:=fun e=>hk (by unfold Bb; rw[abs_zero e]; rfl)
 rcases Adv y 0 with e | e | ⟨z,hz,k,e⟩
 ·exact .inl e
 ·omega
 ·refine .inr ⟨z,hz,k,fun k0=>?_,e⟩;have:=J5 k0;unfold E9 at e g x0; omega
theorem Arf(b:Nat):Ag (Fz b)=Ag b:=by
 have h1:D7 (Fz b)=D7 b:=by unfold D7 Fz; split<;>omega
 have h2:Dc (Fz b)=Dc b:=by unfold Dc Fz; split<;>omega
 unfold Ag; rw[h1,h2]
theorem Aj5{V u k:Nat}{E:Int}(hk:k<=1023)(h:V<=2^u)(g:(u:Int)+E<=k):B9 V E<=pw k:=by
 refine Bfw (Ii h) ?_;obtain⟨t,ht⟩:∃t:Nat,t=1074:=⟨1074,rfl⟩
 rw[<- Adg hk,<- ht];by_cases hE:-1074<=E
 ·have s:=(D1 (2^u) (E+1074).toNat E).1;rw[show E-((E+1074).toNat:Int)=-1074 by omega,<- Bfe] at s;rw[<- s];exact Ii (Be4 (by decide) (by omega))
 ·have s:=(D1 (2^(k+t)) (-1074-E).toNat (-1074)).1;rw[show(-1074:Int)-((-1074-E).toNat:Int)=E by omega,<- Bfe] at s;rw[<- s];exact Ii (Be4 (by decide) (by omega))
theorem Bd.Adk{k V u:Nat}{E:Int}(s:Bool)(hk:k<=1023)(h:V<=2^u)(g:(u:Int)+E<=k):Bd k (Bf s (Go.Ct.B9 V E)):=Bd.B9 s hk (Aj5 hk h g)
theorem Bd.log{k a:Nat}(h:Bd k a)(h0:Ap a≠0):((Ap a).log2:Int)+Aw a<=k:=by
 have pa:=Da a;have hm:=h.2.2;obtain⟨t,ht⟩:∃t:Nat,t=1074:=⟨1074,rfl⟩
 have e:Od a=Ap a*2^(Aw a+1074).toNat:=by unfold Od Hb; congr 2
 rw[e,<- ht] at hm;have h1:=Be1 (2^(Aw a+1074).toNat) (zS h0);rw[<- Bfe] at h1;have:=(Nat.pow_le_pow_iff_right (a:=2) (by decide)).1 (Bfw h1 hm);omega
theorem Bd.part{k a:Nat}(h:Bd k a)(h0:Ap a≠0):Ap a<=2^((k:Int)-Aw a).toNat/\Aw a<=k:=by
 have pa:=Da a;have hm:=h.2.2;have hl:=h.log h0;obtain⟨t,ht⟩:∃t:Nat,t=1074:=⟨1074,rfl⟩
 have e:Od a=Ap a*2^(Aw a+1074).toNat:=by unfold Od Hb; congr 2
 refine⟨?_,by omega⟩;rw[e,<- ht,show k+t=((k:Int)-Aw a).toNat+(Aw a+1074).toNat by omega,Bfe] at hm;exact Nat.le_of_mul_le_mul_right hm (Cm _)
theorem Bd.scale{k j a:Nat}{n:Int}(hj:j<=1023)(h:Bd k a)(g:(k:Int)+n<=j):Bd j (Cq a n).1:=by
 by_cases k0:Ag a=0
 ·unfold Cq;rw[Bfb h.2.1,Bfc (.inr k0)];refine .Rw hj h.2.1 ?_;rw[J5 k0]; exact zA _
 have h0:Ap a≠0:=fun e=>k0 ((Du h.1 h.2.1).1 e)
 rw[Ms h.2.1 (by have:=h.1; omega)];obtain⟨p1,p2⟩:=h.part h0;exact .Adk _ hj p1 (by omega)
theorem Aof{a b:Nat}(a3:Ag a≠3)(a4:Ag a≠4)(b3:Ag b≠3)(b4:Ag b≠4)(h:E9 a<=E9 b)(h0:Ap a≠0):((Ap a).log2:Int)+Aw a<=((Ap b).log2:Int)+Aw b:=by
 have pa:=Da a;have pb:=Da b
 have hm:Hb a (-1074)<=Hb b (-1074):=by
  rcases Bfm (Hb b (-1074)) (Hb a (-1074)) with g | g
  ·have:=(Ae8 (f:=-1074) b4 a4 pb.1 pa.1).1 g;unfold E9 at h; omega
  ·exact g
 unfold Hb at hm
 have hb0:Ap b≠0:=fun e=>by rw[e,zN] at hm;have:=wh (show 0<Ap a by omega) (Cm (Aw a - -1074).toNat);omega
 have h1:=Be1 (2^(Aw a - -1074).toNat) (zS h0);have h2:=Nat.mul_lt_mul_of_pos_right (yr (n:=Ap b)) (Cm (Aw b - -1074).toNat);rw[<- Bfe] at h1 h2;have:=(Nat.pow_lt_pow_iff_right (a:=2) (by decide)).1 (Bfr (Bfw h1 hm) h2);omega
theorem Bd.down{a b:Nat}(a3:Ag a≠3)(a4:Ag a≠4)(b3:Ag b≠3)(b4:Ag b≠4)(h:E9 a<=E9 b):Bd 1 (Cq a (-Pp b)).1:=by
 by_cases k0:Ag a=0
 ·unfold Cq;rw[Bfb a4,Bfc (.inr k0)];refine .Rw (by decide) a4 ?_;rw[J5 k0]; exact zA _
 have h0:Ap a≠0:=fun e=>k0 ((Du a3 a4).1 e)
 have hb0:Ag b≠0:=fun e=>by have:=J5 e;have hh:Ag a=0:=abs_zero (by unfold E9 at h ⊢; omega);exact k0 hh
 have hl:=Aof a3 a4 b3 b4 h h0;obtain⟨ee,_⟩:=Z9 b3 b4 hb0;rw[Ms a4 (by omega)];exact .Adk _ (by decide) (xQ (yr (n:=Ap a))) (by omega)
structure Lo(t:Nat)(a:Nat):Prop where
 k3:Ag a≠3
 k4:Ag a≠4
 m0:Ap a≠0
 log:-(t:Int)<=((Ap a).log2:Int)+Aw a
theorem Lo.k0{t a:Nat}(h:Lo t a):Ag a≠0:=fun e=>h.m0 ((Du h.k3 h.k4).2 e)
theorem Lo.Az8{a:Nat}(k3:Ag a≠3)(k4:Ag a≠4)(h:pw 0<=a%2^63):Lo 0 a:=by
 obtain⟨h1,h2⟩:=Ww h;have h0:Ap a≠0:=by omega
 refine⟨k3,k4,h0,?_⟩;have:=(zM h0).2 h1;omega
theorem Lo.A79{t a b:Nat}(h:Lo t a)(b3:Ag b≠3)(b4:Ag b≠4)(g:E9 a<=E9 b):Lo t b:=by have hl:=Aof h.k3 h.k4 b3 b4 g h.m0;refine⟨b3,b4,fun e=>?_,by have:=h.log; omega⟩;have k0:=J5 ((Du b3 b4).1 e);exact h.k0 (abs_zero (by unfold E9 at g ⊢; omega))
theorem Ayv{X Y K u:Nat}(hY:0<Y)(h:X*2^K<=Y*2^u):F4 X Y K<=2^(u+1):=by
 unfold F4;have hd:=zG (X*2^K) Y;have hq:X*2^K / Y<=2^u:=Nat.div_le_of_le_mul h;rw[zD];split
 ·omega
 ·rename_i hr
  have:X*2^K / Y≠2^u:=fun e=>by rw[e] at hd;omega
  omega
theorem Bd.div{j t a b:Nat}(hk:j+t<=1023)(ha:Bd j a)(hb:Lo t b):Bd (j+t) (Ok a b).1:=by
 have b0:=hb.k0;have a3:=ha.1;have a4:=ha.2.1;have b3:=hb.k3;have b4:=hb.k4;unfold Ok;rw[Bfb (by omega),Bfb (by omega),Bfb a3];by_cases k0:Ag a=0
 ·rw[Bfc (.inr k0)]; exact .zero _ _
 rw[Bfb (by omega),Bfb b0];have m0:Ap a≠0:=fun e=>k0 ((Du a3 a4).1 e)
 obtain⟨p1,p2⟩:=ha.part m0;have hl:=hb.log;have l52:=Afb hb.m0;obtain⟨u,hu⟩:∃u:Nat,(u:Int)=(j:Int)+t-Aw a+Aw b+120:=⟨((j:Int)+t-Aw a+Aw b+120).toNat,by omega⟩
 refine .Adk _ hk (Ayv (u:=u) (by have:=hb.m0; omega) ?_) (by omega);refine Bfw (Be1 _ p1) (Bfw ?_ (Be1 _ (zS hb.m0)));rw[<- Bfe,<- Bfe];exact Be4 (by decide) (by omega)
theorem Auy{n u:Nat}(h:n<=2^(u+u)):Ff n<=2^(u+1):=by
 obtain⟨h1,_⟩:=Pa n;rw[Bfe] at h
 have hq:N5 n<=2^u:=by
  rcases Bfm (2^u) (N5 n) with g | g
  ·have:=Nat.mul_lt_mul'' g g;omega
  ·exact g
 unfold Ff;rw[zD];split
 ·omega
 ·rename_i hr
  have:N5 n≠2^u:=fun e=>by rw[e] at h1 hr;omega
  omega
theorem Bd.root{j b:Nat}(hj:j<=1000)(hb:Bd (j+j) b)(hn:Be b=false):Bd j (Hc b).1:=by
 by_cases k0:Ag b=0
 ·rw[K0 hb.2.1 (.inl k0)];refine .Rw (by omega) hb.2.1 ?_;rw[J5 k0]; exact zA _
 have m0:Ap b≠0:=fun e=>k0 ((Du hb.1 hb.2.1).1 e)
 have hi:b≠Ea:=fun e=>hb.1 (by rw[e]; exact Afp)
 rw[Sn hb.2.1 (fun h=>h.elim k0 hi) hn];obtain⟨p1,p2⟩:=hb.part m0;obtain⟨r1,r2⟩:=U8 m0;generalize hr:(Aw b-(Gn b:Int)) / 2-1=r at r2 ⊢;have hrk:128<=Gn b:=by unfold Gn; omega
 obtain⟨u,hu⟩:∃u:Nat,(u:Int)=(j:Int)-r-1:=⟨((j:Int)-r-1).toNat,by omega⟩
 have h2:Ap b*2^Gn b<=2^(u+u):=by refine Bfw (Be1 _ p1) ?_;rw[<- Bfe];exact Be4 (by decide) (by omega)
 have:=Bd.Adk (k:=j) (E:=r) false (by omega) (Auy h2) (by omega);rw[G0] at this;exact this
def Bm(m k:Nat)(a:Nat):Prop:=Ag a≠3/\Ag a≠4/\Od a<=m*2^(k+1074)
theorem Bd.bm{k a:Nat}(h:Bd k a):Bm 1 k a:=⟨h.1,h.2.1,by rw[zC]; exact h.2.2⟩
theorem Bm.bd{m k a j:Nat}(h:Bm m k a)(hm:m<=2^j):Bd (k+j) a:=by
 refine⟨h.1,h.2.1,Bfw h.2.2 ?_⟩;obtain⟨t,ht⟩:∃t:Nat,t=1074:=⟨1074,rfl⟩
 rw[<- ht,show k+j+t=j+(k+t) by omega,Bfe 2 j];exact Be1 _ hm
theorem A1i{m k:Nat}(h0:m≠0)(hm:m<=1024)(hk:k<=1000):∃z:Nat,z=B9 (m*2^(k+1074)) (-1074)/\z%2^63=z/\Ag z≠4/\Od z=m*2^(k+1074):=by
 obtain⟨t,ht⟩:∃t:Nat,t=1074:=⟨1074,rfl⟩
 have s:=(D1 m (k+t) k).1;rw[show(k:Int)-((k+t:Nat):Int)=-1074 by omega] at s;have hu:B9 m k<=pw (k+10):=Aj5 (by omega) (u:=10) (by omega) (by omega);have hi:B9 m k<Ea:=Bfr hu (U9 (by omega)).2.2.2.2;obtain⟨_,d,e1,e2⟩:=Af0 false h0 (Aci (V:=m) (E:=(k:Int)) (by omega) (by omega)) hi;rw[G0] at e1 e2;have hl:=Qa m k;have pe:=Da (B9 m k);have k4:=Jf false m k;rw[G0] at k4;refine⟨B9 m k,?_,Be2 hl,k4,?_⟩
 ·rw[<- ht]; exact s.symm
 ·unfold Od Hb;rw[e1,e2,Bfg,<- Bfe];congr 2;omega
theorem Bm.Rw{m k a z:Nat}(hz:Od z=m*2^(k+1074))(z4:Ag z≠4)(zi:z%2^63<Ea)(a4:Ag a≠4)(h:a%2^63<=z%2^63):Bm m k a:=by
 have a3:Ag a≠3:=fun e=>by have:=Tu e; omega
 refine⟨a3,a4,?_⟩;rw[<- hz];have pa:=Da a;have pz:=Da z;rcases Bfm (Od z) (Od a) with g | g
 ·have:=(Ae8 (f:=-1074) z4 a4 pz.1 pa.1).1 g;omega
 ·exact g
theorem Bm.add{m n k a b:Nat}(h0:m+n≠0)(hmn:m+n<=1024)(hk:k<=1000)(ha:Bm m k a)(hb:Bm n k b):Bm (m+n) k (Fh a b).1:=by
 obtain⟨a3,a4,am⟩:=ha;obtain⟨b3,b4,bm⟩:=hb;have pa:=Da a;have pb:=Da b;have ek:=Alk a3 a4 b3 b4 (g:=-1074) (by omega)
 have e4:Ag (Fh a b).1≠4:=by
  rw[S9 (by omega) a3 b3];unfold Lp;split
  ·have:Ag (Bf (Be a&&Be b) 0)=0:=by cases (Be a&&Be b)<;>decide
   show Ag (Bf (Be a&&Be b) 0)≠4;omega
  ·exact Jf _ _ _
 obtain⟨z,ez,z63,z4,zm⟩:=A1i h0 hmn hk
 have zi:z%2^63<Ea:=by
  have hu:z<=pw (k+10):=by rw[ez];refine Aj5 (u:=k+1074+10) (by omega) ?_ (by omega);rw[Bfe 2 (k+1074),Bfd];exact yQ _ hmn
  have:=(U9 (k:=k+10) (by omega)).2.2.2.2;omega
 refine .Rw zm z4 zi e4 ?_
 have hs:(Gc a (-1074)+Gc b (-1074)).natAbs<=(m+n)*2^(k+1074):=by have h1:=Q5 a;have h2:=Q5 b;have:(m+n)*2^(k+1074)=m*2^(k+1074)+n*2^(k+1074):=Bft _ _ _;omega
 have hr:=Ii (E:=-1074) hs;rw[<- ez] at hr;have hn:(G5 (Fh a b).1).natAbs=(Fh a b).1%2^63:=by unfold G5; rw[Aj0]
 rw[<- hn,ek,z63];unfold Aj7;split<;>omega
def Bl(k:Nat)(l:List Int):Prop:=∀x∈l,Bd k x.toNat
theorem At0{j k:Nat}(hjk:j+k<=1000):∀(x y:List Int) (s t:Nat),Bl j x->Bl k y->Bm t (j+k) s->0<t->t+x.length<=1024->Bm (t+x.length) (j+k) (Af8 s x y)
 | [],_,s,t,_,_,hs,_,_=>hs
 | a::x,[],s,t,_,_,hs,_,_=>⟨hs.1,hs.2.1,Bfw hs.2.2 (Be1 _ (by omega))⟩
 | a::x,b::y,s,t,hx,hy,hs,h0,ht=>by simp only[zo] at ht ⊢;have h1:Bm (t+1) (j+k) (Fh s (E7 a.toNat b.toNat).1).1:=Bm.add (by omega) (by omega) hjk hs (Bd.mul (by omega) (hx a Bf4) (hy b Bf4)).bm;have:=At0 hjk x y _ (t+1) (fun z hz=>hx z (Bfu _ hz)) (fun z hz=>hy z (Bfu _ hz)) h1 (by omega) (by omega);rw[show t+(x.length+1)=t+1+x.length by omega];exact this
theorem Ak3{j k:Nat}{x y:List Int}(hjk:j+k<=1000)(hx:Bl j x)(hy:Bl k y)(hl:x.length<=7):Bd (j+k+3) (Hi x y).toNat:=by have z:Bm 1 (j+k) 0:=(Bd.zero false (j+k)).bm;have:=At0 hjk x y 0 1 hx hy z (by decide) (by omega);show Bd (j+k+3) (toNat ((Af8 0 x y:Nat):Int));rw[Ber];exact this.bd (by omega)
structure Good(x:Int):Prop where
 word:Af x=true
 k3:Ag x.toNat≠3
 k4:Ag x.toNat≠4
 ne:x.toNat≠2^63
def Bdo(x y:MX):MX:=Bdn x.1 x.2.1 x.2.2.1 y.1 y.2.1 y.2.2.1
def Ar6(l m h:List Int):Bool:=(Ah l&&Ah m)&&Ah h
def Ba9(c:Int)(x:MX):MX:=Azz x 0 0 c x.2.1
def gF(r c:Int)(C E y:MX):MX:=Bdo (Ba9 c C) (mulM (Ba9 c E) y)
def Gk(x:Int)(l:List Int):List Int:=l.map fun y=>Bz x y
def Xb(r c:Int)(l:List Int)(p q:Int)(m:List Int)(u v:Int)(h:List Int):Int :=if Ci r c l≠0 then Ci r c l else if Ci p q m≠0 then Ci p q m else Ci u v h
def Za(r c:Int)(l:List Int)(p q:Int)(m:List Int)(u v:Int)(h:List Int)(x:Int):Int :=
 if Xb r c l p q m u v h≠0 then Xb r c l p q m u v h else if Dl x=false then 4
 else if p≠r\/q≠1\/v≠c\/6<r+u then 3 else if Ds (Gk x h)=false then 2 else 0
def Bb0(r c:Int)(l:List Int)(u v:Int)(h:List Int)(x:Int):MX:=Fg r c l u v (Gk x h)
def A6q(p q:Int)(m:List Int)(u:Int):MX:=Fg p q m (Dw u 1).1 (Dw u 1).2.1 (Dw u 1).2.2.1
def Mk(r c:Int)(l:List Int)(p q:Int)(m:List Int)(u v:Int)(h:List Int)(x:Int):MX :=if Za r c l p q m u v h x≠0 then N6 (Za r c l p q m u v h x) else A00 (Bb0 r c l u v h x) (A6q p q m u)
def Ahq(k b:Int):Bool:=Dl b&&(decide (Bb b=0)||(decide (-k<=Bs b)&&decide (Bs b<k)))
def Mr(x:List Int)(k:Int):Bool:=x.all (Ahq k)
theorem A8m{b:Nat}(h:b<Ea):Ag b≠3/\Ag b≠4/\b%2^63=b:=by
 have hi:=Ft;have h3:b%2^63=b:=by omega
 have hr:=Rt b;have hf:=L8 b;rcases Iu b with ⟨p,_,_⟩ | ⟨p,_,_⟩ | ⟨_,p,q⟩
 ·exfalso; rw[p] at hr; omega
 ·exfalso; rw[p] at hr; omega
 ·exact⟨p,q,h3⟩
theorem Wx:∀(l:List Int) (m:Nat),(∀z∈l,Dl z=true)->m<Ea->Nb l m<Ea
 | [],_,_,h=>h
 | z::l,m,hl,hm=>by have zk:=Kw (show Iy z.toNat=true from hl z Bf4);rw[Agh zk.1];refine Wx l _ (fun w hw=>hl w (Bfu _ hw)) ?_;have hz:E9 z.toNat<Ea:=Wt zk.2 zk.1;omega
theorem Nx{l:List Int}(h:Ds l=true):∀z∈l,Dl z=true:=zJ.1 h
theorem Wy{x:List Int}(hf:Ds x=true):Ag (Bi x).toNat≠3/\Ag (Bi x).toNat≠4/\E9 (Bi x).toNat=(Bi x).toNat/\∀z∈x,E9 z.toNat<=E9 (Bi x).toNat:=by
 have eb:(Bi x).toNat=Nb x 0:=Ber _;have hl:=Wx x 0 (Nx hf) (by rw[Ft]; omega);obtain⟨h1,h2,h3⟩:=A8m hl;have hN:Nb x 0≠P1:=fun e=>by rw[e,Ft,It] at hl; omega
 rw[eb];refine⟨h1,h2,h3,fun z hz=>?_⟩;show _<=Nb x 0%2^63;rw[h3];rcases Ar0 x 0 with g | ⟨_,g⟩
 ·exact absurd g hN
 ·exact g z hz
theorem Adw{x:List Int}(hf:Ds x=true)(h:∃z∈x,Bb z≠0):∃z∈x,Ag z.toNat≠0/\(Bi x).toNat=E9 z.toNat:=by
 have eb:(Bi x).toNat=Nb x 0:=Ber _;have hl:=Wx x 0 (Nx hf) (by rw[Ft]; omega);rcases A2b h with e | ⟨z,hz,_,k0,e⟩
 ·exfalso; rw[e,Ft,It] at hl; omega
 ·exact⟨z,hz,k0,eb.trans e⟩
theorem Bl.Pu{k:Nat}{l:List Int}(h:Bl k l):Ds l=true:=zJ.2 fun x hx=>(h x hx).fin
theorem Acn{x:Int}(h:Dl x=true):Ag x.toNat≠3/\Ag x.toNat≠4:=⟨(Kw (show Iy x.toNat=true from h)).2,(Kw (show Iy x.toNat=true from h)).1⟩
theorem Eh(x n:Int):(A7 x n).toNat=(Cq x.toNat n).1:=Ber _
theorem Y5{x:List Int}(hf:Ds x=true):Bl 1 (A4 x (-Bs (Bi x))):=fun y hy=>by obtain⟨z,hz,rfl⟩:=zw.1 hy;obtain⟨b3,b4,_,hb⟩:=Wy hf;have zk:=Acn (Nx hf z hz);rw[Eh];exact Bd.down zk.1 zk.2 b3 b4 (hb z hz)
theorem Ahw{x:List Int}(hf:Ds x=true)(h:∃z∈x,Bb z≠0):∃y∈A4 x (-Bs (Bi x)),pw 0<=y.toNat%2^63:=by
 obtain⟨z,hz,k0,e⟩:=Adw hf h;have zk:=Acn (Nx hf z hz);refine⟨A7 z (-Bs (Bi x)),zw.2 ⟨z,hz,rfl⟩,?_⟩;have ee:Bs (Bi x)=Pp z.toNat:=by unfold Bs; rw[e,Adr z.toNat]; rfl
 rw[Eh,ee];exact Ap6 zk.1 zk.2 k0
theorem Apv{k:Int}(hk:k<=0):∀(l:List Int) (s t:Nat),Bl 1 l->Bm t 2 s->0<t->t+l.length<=1000->Bm (t+l.length) 2 (Jz k (s:Int) l).toNat
 | [],s,t,_,hs,_,_=>by show Bm t 2 (toNat (s:Int));rw[Ber]; exact hs
 | x::l,s,t,hl,hs,h0,ht=>by simp only[zo] at ht ⊢;have h1:Bd 1 (Cq x.toNat k).1:=Bd.scale (by decide) (hl x Bf4) (by omega);have h2:Bd 2 (E7 (Cq x.toNat k).1 (Cq x.toNat k).1).1:=Bd.mul (j:=1) (k:=1) (by decide) h1 h1;have h3:=Bm.add (k:=2) (by omega) (by omega) (by decide) hs h2.bm;have:=Apv hk l _ (t+1) (fun z hz=>hl z (Bfu _ hz)) h3 (by omega) (by omega);rw[show t+(l.length+1)=t+1+l.length by omega];unfold Jz De Bz;rw[Eh,Ber,Ber];exact this
theorem Aab(a b:Int):(E2 a b).toNat=(Ok a.toNat b.toNat).1:=Ber _
theorem Nq(a b:Int):(Bz a b).toNat=(E7 a.toNat b.toNat).1:=Ber _
def TL(t:Nat)(l:List Int):Prop:=∀x∈l,Bb x≠0->Lo t x.toNat
theorem A3u{k:Nat}{l:List Int}(h:Mr l (k:Int)=true):TL k l:=fun x hx k0=>by
 have hx:=(zJ.1 h) x hx;unfold Ahq at hx;rw[Be0,Bool.or_eq_true,Be0,Bew,Bew,Bew] at hx;obtain⟨hf,hx⟩:=hx;have kk:=Acn hf;have kn:Ag x.toNat≠0:=fun e=>k0 (by unfold Bb; omega)
 rcases hx with hx | ⟨hx,_⟩
 ·exact absurd hx k0
 ·unfold Bs Pp at hx;rw[Bfc ⟨hf,kn⟩] at hx;exact⟨kk.1,kk.2,fun e=>kn ((Du kk.1 kk.2).1 e),hx⟩
theorem Wm(a b:Int):Gs a b=Sz b a:=by
 unfold Gs Sz Su Hp Aev Abf;by_cases h:Ag a.toNat=4\/Ag b.toNat=4
 ·have h':Ag b.toNat=4\/Ag a.toNat=4:=h.symm;rw[Beq h,Bfc h']; rfl
 ·have h':¬(Ag b.toNat=4\/Ag a.toNat=4):=fun g=>h g.symm
  rw[Beu h,Bfb h,Bfb h',Bf8,Bf2];rcases Int.lt_trichotomy (G5 a.toNat) (G5 b.toNat) with g | g | g
  ·rw[Bfc g,Bfb (by omega),Bfc g]; rfl
  ·rw[Bfb (by omega),Bfb (by omega),Bfb (by omega),Bfb (by omega)]
  ·rw[Bfb (by omega),Bfc g,Bfc g]; rfl
theorem A56:beR=Wz:=by
 funext x y low
 unfold beR Wz;rw[Wm,Wm,Wm]
theorem Aqc(R n:Nat)(low:Int)(w v:List Int):U7 R n low w v=Jb R n low w v:=by unfold U7 Jb; rw[A56]
theorem Ahz{b:Nat}{n:Int}(h4:Ag b≠4):Ag (Cq b n).1≠4:=by
 by_cases h:Ag b=3\/Ag b=0
 ·unfold Cq; rw[Bfb h4,Bfc h]; exact h4
 ·rw[Ms h4 h]; exact Jf _ _ _
theorem Ajs{k:Int}:∀(l:List Int) (s t:Nat),(∀z∈l,Bd 1 (Cq z.toNat k).1)->Bm t 2 s->0<t->t+l.length<=1000->Bm (t+l.length) 2 (Jz k (s:Int) l).toNat
 | [],s,t,_,hs,_,_=>by show Bm t 2 (toNat (s:Int));rw[Ber]; exact hs
 | x::l,s,t,hl,hs,h0,ht=>by simp only[zo] at ht ⊢;have h1:Bd 1 (Cq x.toNat k).1:=hl x Bf4;have h2:Bd 2 (E7 (Cq x.toNat k).1 (Cq x.toNat k).1).1:=Bd.mul (j:=1) (k:=1) (by decide) h1 h1;have h3:=Bm.add (k:=2) (by omega) (by omega) (by decide) hs h2.bm;have:=Ajs l _ (t+1) (fun z hz=>hl z (Bfu _ hz)) h3 (by omega) (by omega);rw[show t+(l.length+1)=t+1+l.length by omega];unfold Jz De Bz;rw[Eh,Ber,Ber];exact this
theorem Am9{x:List Int}(hf:Ds x=true)(hl:x.length<=6):Ag (Bk x).toNat≠4:=by
 obtain⟨b3,b4,_,hb⟩:=Wy hf;unfold Bk;by_cases h:Bi x=0\/Dl (Bi x)=false
 ·rw[Bfc h]; exact b4
 ·rw[Bfb h];obtain⟨t,te,t1,_⟩:=Ad9 (-Bs (Bi x)) x 0 (zA _);have te:Jz (-Bs (Bi x)) 0 x=t:=te
  have bm:Bm (1+x.length) 2 (Jz (-Bs (Bi x)) 0 x).toNat:=Ajs x 0 1 (fun z hz=>by have zk:=Acn (Nx hf z hz);exact Bd.down zk.1 zk.2 b3 b4 (hb z hz)) (Bd.zero false 2).bm (by decide) (by omega)
  rw[te,Ber] at bm;have bt:Bd (3+3) t:=(bm.bd (j:=3) (by omega)).mono (by decide);have br:Bd 3 (Hc t).1:=Bd.root (by decide) bt (Jd t1);rw[te,Eh];unfold Dt;rw[Ber,Ber];exact Ahz br.2.1
section
variable{key:Int->Int}(hk:∀i,Ag (key i).toNat≠4)
def Yc(key:Int->Int)(i:Int):Int:=G5 (key i).toNat
include hk
theorem Zi(y x:Int):Hp (key y) (key x)<0↔Yc key y<Yc key x:=by
 unfold Hp Abf Yc;rw[Bfb (fun h=>h.elim (hk y) (hk x))];split
 ·exact⟨fun _=>‹_›,fun _=>by decide⟩
 ·split
  ·exact⟨fun h=>absurd h (by decide),fun h=>absurd h ‹_›⟩
  ·exact⟨fun h=>absurd h (by decide),fun h=>absurd h ‹_›⟩
theorem Ana(x y:Int):Gs (key x) (key y)=true↔Yc key y<Yc key x:=by rw[Wm];unfold Sz;rw[decide_eq_true_iff];exact Zi hk y x
theorem Aio{x y:Int}(h:Yc key y<Yc key x):∀A:List Int,Rm key x (A++[y])=Rm key x A++[y]
 | []=>Bfc ((Ana hk x y).2 h)
 | a::A=>by
   rw[xF];unfold Rm;split
   ·rfl
   ·rw[Aio h A]; rfl
theorem Anx{x:Int}:∀A:List Int,(∀a∈A,Yc key x<=Yc key a)->Rm key x A=A++[x]
 | [],_=>rfl
 | a::A,h=>by have ha:=h a Bf4;unfold Rm;rw[Bfb (fun g=>by have:=(Ana hk x a).1 g; omega),Anx A (fun z hz=>h z (Bfu _ hz))];rfl
def Aub(key:Int->Int)(acc:List Int):Prop:=acc.Pairwise fun y z=>Yc key y<=Yc key z
theorem Aim{x:Int}:∀{acc:List Int},Aub key acc->Aub key (Sb key x acc)
 | [],_=>List.pairwise_singleton _ _
 | y::t,h=>by
   have h':=wA.1 h;unfold Sb;split
   ·rename_i g;have g:=(Zi hk y x).1 g;refine wA.2 ⟨fun z hz=>?_,Aim h'.2⟩;rcases Anv hz with rfl | hz
    ·omega
    ·exact h'.1 z hz
   ·rename_i g;have g:¬Yc key y<Yc key x:=fun e=>g ((Zi hk y x).2 e)
    refine wA.2 ⟨fun z hz=>?_,h⟩;rcases zu.1 hz with rfl | hz
    ·omega
    ·have:=h'.1 z hz; omega
theorem Anu{x:Int}:∀{acc:List Int},Aub key acc->(Sb key x acc).reverse=Rm key x acc.reverse
 | [],_=>rfl
 | y::t,h=>by
   have h':=wA.1 h;rw[wB];unfold Sb;split
   ·rename_i g;have g:=(Zi hk y x).1 g;rw[Aio hk g,wB,Anu h'.2]
   ·rename_i g;have g:¬Yc key y<Yc key x:=fun e=>g ((Zi hk y x).2 e)
    rw[Anx hk _ (fun z hz=>by
     rcases List.mem_append.1 hz with hz | hz
     ·have:=h'.1 z (wx.1 hz); omega
     ·rw[zf.1 hz]; omega),wB,wB]
theorem Awx(l:List Int):∀{acc:List Int},Aub key acc->(l.foldl (fun acc x=>Sb key x acc) acc).reverse=l.foldl (fun acc x=>Rm key x acc) acc.reverse:=by
 induction l with
 | nil=>intro acc _; rfl
 | cons x t ih =>intro acc h;rw[yn,yn,ih (Aim hk h),Anu hk h]
end
theorem Aqm{l:List Int}(hk:∀x∈l,Ag x.toNat≠4):Ge l=Fv l (Na l.length):=by
 unfold Ge Fv U0;refine(Awx (key:=Nv l) (fun i=>?_) _ (acc:=[]) List.Pairwise.nil).symm;unfold Nv;rw[Bez];rcases Bfm i.toNat l.length with h | h
 ·rw[Be6 h]; exact hk _ (yz h)
 ·rw[Bf7 h]; decide
theorem A07{key:Int->Int}{x z:Int}{l:List Int}:z∈Rm key x l↔z=x\/z∈l:=by
 induction l with
 | nil=>simp[Rm]
 | cons y t ih =>
   unfold Rm;split
   ·rw[zu]
   ·rw[zu,ih,zu];constructor
    ·rintro (h | h | h)
     ·exact .inr (.inl h)
     ·exact .inl h
     ·exact .inr (.inr h)
    ·rintro (h | h | h)
     ·exact .inr (.inl h)
     ·exact .inl h
     ·exact .inr (.inr h)
theorem Acj(key:Int->Int)(x:Int)(l:List Int):(Rm key x l).length=l.length+1:=by
 induction l with
 | nil=>rfl
 | cons y t ih =>
   unfold Rm;split
   ·rfl
   ·rw[zo,ih,zo]
theorem Ais{key:Int->Int}{z:Int}(l:List Int):∀acc:List Int,z∈l.foldl (fun acc x=>Rm key x acc) acc↔z∈acc\/z∈l:=by
 induction l with
 | nil=>intro acc; simp
 | cons x t ih =>
   intro acc;rw[yn,ih,A07,zu];constructor
   ·rintro ((h | h) | h)
    ·exact .inr (.inl h)
    ·exact .inl h
    ·exact .inr (.inr h)
   ·rintro (h | h | h)
    ·exact .inl (.inr h)
    ·exact .inl (.inl h)
    ·exact .inr h
theorem Aeu{l:List Int}{z:Int}:z∈Ge l↔z∈Na l.length:=by unfold Ge;rw[Ais];simp
theorem Aqo(l:List Int):(Ge l).length=l.length:=by
 unfold Ge
 suffices h:∀(x acc:List Int),(x.foldl (fun acc x=>Rm (Nv l) x acc) acc).length=acc.length+x.length by rw[h,Q2]; simp
 intro x
 induction x with
 | nil=>intro acc; rfl
 | cons y t ih=>intro acc; rw[yn,ih,Acj,zo]; omega
theorem Avv(l:List Int):J1 l.length (Ge l)=true:=Kv.2 fun z hz=>Kv.1 (Zd _) z (Aeu.1 hz)
theorem Ain{key:Int->Int}{x z:Int}{l:List Int}(h:z=x\/z∈l):z∈Sb key x l:=by
 induction l with
 | nil =>
   rcases h with h | h
   ·exact zf.2 h
   ·cases h
 | cons y t ih =>
   unfold Sb;split
   ·rcases h with h | h
    ·exact Bfu _ (ih (.inl h))
    ·rcases zu.1 h with h | h
     ·exact h ▸ Bf4
     ·exact Bfu _ (ih (.inr h))
   ·exact zu.2 h
theorem Au2{l x:List Int}{z:Int}(h:z∈x):z∈Fv l x:=by
 unfold Fv U0;rw[wx];suffices g:∀acc:List Int,(z∈acc\/z∈x)->z∈x.foldl (fun acc x=>Sb (Nv l) x acc) acc from g [] (.inr h)
 clear h
 induction x with
 | nil =>
   intro acc h;rcases h with h | h
   ·exact h
   ·cases h
 | cons y t ih =>
   intro acc h;rw[yn];refine ih _ ?_;rcases h with h | h
   ·exact .inl (Ain (.inr h))
   ·rcases zu.1 h with h | h
    ·exact .inl (Ain (.inl h))
    ·exact .inr h
theorem Am4{n k:Nat}(h:k<n):(k:Int)∈Na n:=zw.2 ⟨k,yg.2 h,rfl⟩
theorem Au8{x k:Int}(h:Dl x=false):Dl (A7 x k)=false:=by
 have hx:Ag x.toNat=3\/Ag x.toNat=4:=by
  unfold Dl at h; rw[Qs] at h;by_cases h3:Ag x.toNat=3
  ·exact .inl h3
  ·by_cases h4:Ag x.toNat=4
   ·exact .inr h4
   ·simp[h3,h4] at h
 unfold Dl;rw[Eh,Qs];unfold Cq;rcases hx with h3 | h4
 ·rw[Bfb (by rw[h3]; decide),Bfc (.inl h3),h3]; rfl
 ·rw[Bfc h4]; decide
theorem Afs{R n:Nat}{w ps:List Int}{k:Nat}(hp:(k:Int)∈ps)(hl:ps.length=n)(h:Ds (Dz R n w k)=false)(e:Int):Ds (A4 (Cu R n w ps) e)=false:=by
 obtain⟨x,hx,hf⟩:∃x∈Dz R n w k,Dl x=false:=by unfold Ds at h;rw[List.all_eq_false] at h;obtain⟨x,hx,g⟩:=h;exact⟨x,hx,by simpa using g⟩
 obtain⟨i,hi,rfl⟩:=zw.1 hx;have hi:=yg.1 hi;obtain⟨j,hj,ej⟩:=List.mem_iff_getElem.1 hp;unfold Ds;rw[List.all_eq_false];refine⟨A7 ((Cu R n w ps).getD (i*n+j) 0) e,zw.2 ⟨_,?_,rfl⟩,?_⟩
 ·have:i*n+j<(Cu R n w ps).length:=by rw[Hd]; exact Hk hi (by omega)
  rw[Bez,Be6 this];exact yz this
 ·unfold Cu;rw[Afq hi (by omega),Bez,Be6 hj,Bf9,ej];rw[Int.zero_add] at hf;rw[Au8 hf];decide
def tw(e:Int):Rat:=(2:Rat)^e
theorem Qx:(2:Rat)≠0:=by decide
theorem G3(a b:Int):tw (a+b)=tw a*tw b:=Rat.zpow_add Qx a b
theorem Yw:tw 0=1:=Rat.zpow_zero 2
theorem Gy(e:Int):0<tw e:=Rat.zpow_pos (by decide)
theorem Ll(n:Nat):tw (n:Int)=((2^n:Nat):Rat):=by
 unfold tw;rw[Rat.zpow_natCast]
 induction n with
 | zero=>rfl
 | succ n ih=>rw[Rat.pow_succ,ih,zD]; exact(zT _ _).symm
theorem Auj(n:Nat):1<=tw (n:Int):=by rw[Ll];have:=Cm n;exact xj.2 (show 1<=2^n from this)
theorem Ayh{a b:Int}(h:a<=b):tw a<=tw b:=by
 have e:b=a+((b-a).toNat:Int):=by omega
 rw[e,G3];have h1:=Auj (b-a).toNat;have h2:=Gy a;have:=zl h1 (zc h2);rw[Rat.mul_one] at this;exact this
theorem Ac8(e:Int):tw (e+1)=2*tw e:=by
 have:tw 1=2:=by have:=Ll 1;exact this
 rw[G3,this]; grind
theorem A92(e:Int):tw e≠0:=fun h=>by have:=Gy e; grind
theorem Uv(V k:Nat)(E:Int):((V*2^k:Nat):Rat)*tw (E-k)=(V:Rat)*tw E:=by
 have e:tw E=tw (E-k)*tw (k:Int):=by rw[<- G3]; congr 1; omega
 rw[e,zT,<- Ll];grind
def Nr(x y d:Rat):Prop:=x<=y+d/\y<=x+d
theorem Nr.mono{x y d e:Rat}(h:Nr x y d)(g:d<=e):Nr x y e:=by unfold Nr at *; grind
theorem Nr.symm{x y d:Rat}(h:Nr x y d):Nr y x d:=⟨h.2,h.1⟩
theorem Nr.trans{x y z d e:Rat}(h:Nr x y d)(g:Nr y z e):Nr x z (d+e):=by unfold Nr at *; grind
theorem Azr(V k:Nat):2*(K8 V k*2^k)<=2*V+2^k/\2*V<=2*(K8 V k*2^k)+2^k:=by
 have hd:=zG V (2^k);have hm:=zv V (Cm k);unfold K8;rw[Bft,Bfd (V / 2^k)];split
 ·rw[zC]; omega
 ·rw[zN]; omega
theorem Avo(V k:Nat):Nr ((K8 V k*2^k:Nat):Rat) (V:Rat) (tw ((k:Int)-1)):=by
 obtain⟨h1,h2⟩:=Azr V k
 have e:((2^k:Nat):Rat)=2*tw ((k:Int)-1):=by rw[<- Ll,<- Ac8]; congr 1; omega
 have h1:((2*(K8 V k*2^k):Nat):Rat)<=((2*V+2^k:Nat):Rat):=xj.2 h1;have h2:((2*V:Nat):Rat)<=((2*(K8 V k*2^k)+2^k:Nat):Rat):=xj.2 h2;rw[yK,zT 2,zT 2,e] at h1 h2;have t:((2:Nat):Rat)=2:=rfl;rw[t] at h1 h2;unfold Nr;grind
theorem Nr.scale{x y d c:Rat}(h:Nr x y d)(hc:0<=c):Nr (x*c) (y*c) (d*c):=by have h1:=ze h.1 hc;have h2:=ze h.2 hc;unfold Nr;grind
theorem Awo(M:Nat)(E:Int):Nr ((kept M E:Rat)*tw (Ca M E)) ((M:Rat)*tw E) (if Ca M E<=E then 0 else tw (Ca M E-1)):=by
 unfold kept Lk;generalize Ca M E=L;by_cases h:L<=E
 ·rw[Bfc h];have e1:(L-E).toNat=0:=by omega
  have e2:tw L=tw (E-((-(L-E)).toNat:Int)):=by congr 1; omega
  rw[e1,Qp,e2,Uv];unfold Nr; grind
 ·rw[Bfb h];have e1:(-(L-E)).toNat=0:=by omega
  rw[e1,Bfn,Bfy];have h1:=(Avo M (L-E).toNat).scale (c:=tw E) (zc (Gy E))
  have e2:((K8 M (L-E).toNat*2^(L-E).toNat:Nat):Rat)*tw E=(K8 M (L-E).toNat:Rat)*tw L:=by have:=Uv (K8 M (L-E).toNat) (L-E).toNat L;rw[show L-((L-E).toNat:Int)=E by omega] at this;exact this
  have e3:tw (((L-E).toNat:Int)-1)*tw E=tw (L-1):=by rw[<- G3]; congr 1; omega
  rw[e2,e3] at h1;exact h1
def Tb(s:Bool):Rat:=if s then -1 else 1
def vR(a:Nat):Rat:=Tb (Be a)*((Ap a:Nat):Rat)*tw (Aw a)
theorem Aj1(s:Bool)(m:Nat):((Il s m:Int):Rat)=Tb s*(m:Rat):=by
 unfold Il Tb;cases s
 ·simp; rfl
 ·show(((-(m:Int)):Int):Rat)=-1*(m:Rat)
  rw[Rat.intCast_neg];have e:((m:Int):Rat)=(m:Rat):=rfl;rw[e]; grind
theorem As1(s t:Bool):Tb (s !=t)=Tb s*Tb t:=by cases s<;>cases t<;>decide +kernel
theorem Ax1{a:Nat}{g:Int}(h:g<=Aw a):((Gc a g:Int):Rat)*tw g=vR a:=by unfold Gc vR;rw[Aj1];have:=Uv (Ap a) (Aw a-g).toNat (Aw a);rw[show Aw a-((Aw a-g).toNat:Int)=g by omega] at this;rw[xA,this,xA]
theorem Aza(s:Bool){V:Nat}{E:Int}(hi:B9 V E<Ea):vR (Bf s (B9 V E))=Tb s*((kept V E:Rat)*tw (Ca V E)):=by
 by_cases h0:V=0
 ·subst h0;have e1:B9 0 E=0:=by unfold B9; rw[Bfc rfl]
  have e2:kept 0 E=0:=by unfold kept Lk K8;rw[zN,xe,Nat.zero_mod];have:=Cm (Ca 0 E-E).toNat;rw[Bfb (by omega)]
  have e3:Ap (Bf s 0)=0:=by cases s<;>decide
  rw[e1,e2];unfold vR;rw[e3];have z:((0:Nat):Rat)=0:=rfl;rw[z];grind
 have er:B9 V E=(Ca V E+1074).toNat*2^52+kept V E:=by unfold B9 at hi ⊢;rw[Bfb h0] at hi ⊢;omega
 have hl:-1074<=Ca V E:=by unfold Ca; omega
 have hk:=Atr (V:=V) (E:=E);have hlt:=Qa V E;rw[er] at hi hlt;rw[er];by_cases hq:kept V E<2^53
 ·have hc:2^52<=kept V E\/Ca V E=-1074:=by
   by_cases h:Ca V E=E+V.log2-52
   ·exact .inl (Adn h0 h)
   ·refine .inr ?_;unfold Ca at h ⊢; omega
  obtain⟨p1,p2⟩:=Xt s hq hl hc hi;unfold vR;rw[p1,p2,sign_neg s hlt,xA]
 ·have hq:kept V E=2^53:=by omega
  rw[hq] at hi hlt ⊢;have e:(Ca V E+1074).toNat*2^52+2^53=(Ca V E+1+1074).toNat*2^52+2^52:=by omega
  rw[e] at hi hlt ⊢;obtain⟨p1,p2⟩:=Xt s (q:=2^52) (L:=Ca V E+1) (by decide) (by omega) (.inl (Bfj _)) hi;unfold vR;rw[p1,p2,sign_neg s hlt,xA,Ac8];have t:((2^53:Nat):Rat)=2*((2^52:Nat):Rat):=by decide +kernel
  rw[t];grind
def uR:Rat:=tw (-53)
def Fu:Rat:=tw (-1075)
theorem Gj:0<uR:=Gy _
theorem J2:0<Fu:=Gy _
theorem Ay2{s:Bool}{x y d:Rat}(h:Nr x y d):Nr (Tb s*x) (Tb s*y) d:=by
 unfold Tb;unfold Nr at *
 cases s<;>simp<;>grind
theorem A8h{V:Nat}(h:V≠0):tw (V.log2:Int)<=(V:Rat):=by rw[Ll];exact xj.2 (zS h)
theorem Pn(V:Nat):(0:Rat)<=(V:Rat):=by have:((0:Nat):Rat)<=(V:Rat):=xj.2 (zA V);exact this
theorem Abl(V:Nat)(E:Int):0<=(V:Rat)*tw E:=zd (Pn V) (zc (Gy E))
theorem A5e{V:Nat}{E:Int}(h0:V≠0):(if Ca V E<=E then 0 else tw (Ca V E-1))<=uR*((V:Rat)*tw E)+Fu/\(-1074<=E->(if Ca V E<=E then 0 else tw (Ca V E-1))<=uR*((V:Rat)*tw E))/\(V<2^53->(if Ca V E<=E then 0 else tw (Ca V E-1))<=Fu):=by
 have hn:=Abl V E;have hu:=zd (zc Gj) hn;have he:=J2;by_cases h:Ca V E<=E
 ·rw[Bfc h];exact⟨by grind,fun _=>hu,fun _=>by grind⟩
 rw[Bfb h];by_cases h1:Ca V E=E+V.log2-52
 ·have e:tw (Ca V E-1)=uR*(tw (V.log2:Int)*tw E):=by unfold uR;rw[h1,<- G3,<- G3]; congr 1; omega
  have hl:=ze (A8h h0) (zc (Gy E));have hl:=zl hl (zc Gj);rw[e];refine⟨by grind,fun _=>hl,fun hv=>?_⟩;have:=Awj hv;omega
 ·have e:Ca V E=-1074:=by unfold Ca at h1 ⊢; omega
  have e2:tw (Ca V E-1)=Fu:=by unfold Fu; rw[e]; rfl
  rw[e2];exact⟨by grind,fun _=>by omega,fun _=>zY⟩
theorem U5(s:Bool){V:Nat}{E:Int}(hi:B9 V E<Ea):Nr (vR (Bf s (B9 V E))) (Tb s*((V:Rat)*tw E)) (uR*((V:Rat)*tw E)+Fu)/\(-1074<=E->Nr (vR (Bf s (B9 V E))) (Tb s*((V:Rat)*tw E)) (uR*((V:Rat)*tw E)))/\(V<2^53->Nr (vR (Bf s (B9 V E))) (Tb s*((V:Rat)*tw E)) Fu):=by
 rw[Aza s hi];by_cases h0:V=0
 ·subst h0
  have e2:kept 0 E=0:=by unfold kept Lk K8;rw[zN,xe,Nat.zero_mod];have:=Cm (Ca 0 E-E).toNat;rw[Bfb (by omega)]
  rw[e2];have z:((0:Nat):Rat)=0:=rfl;have he:=J2;rw[z];unfold Nr;refine⟨by grind,fun _=>by grind,fun _=>by grind⟩
 have h:=Ay2 (s:=s) (Awo V E);obtain⟨g1,g2,g3⟩:=A5e (E:=E) h0;exact⟨h.mono g1,fun k=>h.mono (g2 k),fun k=>h.mono (g3 k)⟩
def Ab(x B:Rat):Prop:=-B<=x/\x<=B
theorem Ab.nn{x B:Rat}(h:Ab x B):0<=B:=by unfold Ab at h; grind
theorem Ap5{s:Bool}{x B:Rat}(hx:0<=x):Ab (Tb s*x) B↔x<=B:=by unfold Ab Tb;cases s<;>simp<;>grind
theorem Ac4(s:Bool):vR (Bf s 0)=0:=by
 have e3:Ap (Bf s 0)=0:=by cases s<;>decide
 unfold vR;rw[e3];have z:((0:Nat):Rat)=0:=rfl;rw[z]; grind
theorem Sj{a:Nat}(h:Ag a=0):vR a=0:=by
 have h3:Ag a≠3:=by omega
 have h4:Ag a≠4:=by omega
 unfold vR;rw[(Du h3 h4).2 h];have z:((0:Nat):Rat)=0:=rfl;rw[z]; grind
theorem As2(S:Int):Tb (decide (S<0))*((S.natAbs:Nat):Rat)=(S:Rat):=by
 rw[<- Aj1];congr 1;unfold Il;by_cases h:S<0
 ·rw[Bfc (Beq h)]; omega
 ·rw[Bfb (by rw[Beu h]; decide)]; omega
theorem U4{s:Bool}{V:Nat}{E:Int}(h:Ag (Bf s (B9 V E))≠3):B9 V E<Ea:=by
 have:=K5 V E;rcases Bfm (B9 V E) Ea with g | g
 ·exact g
 ·exfalso;have e:B9 V E=Ea:=by omega
  rw[e] at h;exact h (A02 s)
theorem A2p{s:Bool}{V:Nat}{E:Int}{B:Rat}(h:Ab (Tb s*((V:Rat)*tw E)) B):(V:Rat)*tw E<=B:=(Ap5 (Abl V E)).1 h
theorem Alv{x B:Rat}(h:x<=B):uR*x<=uR*B:=zl h (zc Gj)
theorem Aam{a b:Nat}(a3:Ag a≠3)(a4:Ag a≠4)(b3:Ag b≠3)(b4:Ag b≠4)(hf:Ag (Fh a b).1≠3){B:Rat}(hB:Ab (vR a+vR b) B):Nr (vR (Fh a b).1) (vR a+vR b) (uR*B):=by
 have pa:=Da a;have pb:=Da b;rw[S9 (by omega) a3 b3] at hf ⊢;obtain⟨m,hm⟩:∃m,m=min (Aw a) (Aw b):=⟨_,rfl⟩
 have ea:=Ax1 (a:=a) (g:=m) (by omega);have eb:=Ax1 (a:=b) (g:=m) (by omega);rw[<- hm] at hf ⊢;generalize hS:Gc a m+Gc b m=S at hf ⊢
 have es:vR a+vR b=(S:Rat)*tw m:=by rw[<- ea,<- eb,<- hS,Rat.intCast_add]; grind
 rw[es] at hB ⊢;unfold Lp at hf ⊢;by_cases h0:S=0
 ·rw[Bfc h0];dsimp only;rw[Ac4,h0];have z:((0:Int):Rat)=0:=rfl;have:=zd (zc Gj) hB.nn;rw[z];unfold Nr; grind
 ·rw[Bfb h0] at hf ⊢;dsimp only at hf ⊢;have h:=(U5 (decide (S<0)) (U4 hf)).2.1 (by omega);rw[<- xA (Tb _),As2] at h;refine h.mono (Alv (A2p (s:=decide (S<0)) ?_));rw[<- xA,As2]; exact hB
theorem Adl{a b:Nat}(a3:Ag a≠3)(a4:Ag a≠4)(b3:Ag b≠3)(b4:Ag b≠4)(hf:Ag (E7 a b).1≠3){B:Rat}(hB:Ab (vR a*vR b) B):Nr (vR (E7 a b).1) (vR a*vR b) (uR*B+Fu):=by
 unfold E7 at hf ⊢;rw[Bfb (by omega),Bfb (by omega)] at hf ⊢;dsimp only at hf ⊢
 have e:vR a*vR b=Tb (Be a !=Be b)*(((Ap a*Ap b:Nat):Rat)*tw (Aw a+Aw b)):=by unfold vR;rw[As1,zT,G3]; grind
 rw[e] at hB ⊢;refine(U5 _ (U4 hf)).1.mono ?_;have:=Alv (A2p hB);grind
theorem Ad0{b:Nat}(h:b<2^64):vR (Fz b)=-(vR b):=by obtain⟨h1,h2,h3⟩:=Ve h;unfold vR Ap Aw;rw[h1,h2,h3];unfold Tb;cases Be b<;>simp<;>grind
theorem A3x{a b:Nat}(hb:b<2^64)(a3:Ag a≠3)(a4:Ag a≠4)(b3:Ag b≠3)(b4:Ag b≠4)(hf:Ag (Agw a b).1≠3){B:Rat}(hB:Ab (vR a-vR b) B):Nr (vR (Agw a b).1) (vR a-vR b) (uR*B):=by
 have k:=Arf b;have e:vR a-vR b=vR a+vR (Fz b):=by rw[Ad0 hb]; grind
 rw[e] at hB ⊢;exact Aam a3 a4 (by omega) (by omega) hf hB
theorem We{a:Nat}{n:Int}(a3:Ag a≠3)(a4:Ag a≠4)(hf:Ag (Cq a n).1≠3):Nr (vR (Cq a n).1) (vR a*tw n) Fu:=by
 by_cases k0:Ag a=0
 ·have e:(Cq a n).1=a:=by unfold Cq; rw[Bfb a4,Bfc (.inr k0)]
  have he:=J2;rw[e,Sj k0];unfold Nr; grind
 ·rw[Ms a4 (by omega)] at hf ⊢;dsimp only at hf ⊢;have h:=(U5 (Be a) (U4 hf)).2.2 (F8 a)
  have e:vR a*tw n=Tb (Be a)*(((Ap a:Nat):Rat)*tw (Aw a+n)):=by unfold vR;rw[G3]; grind
  rw[e];exact h
theorem Auw{X Y K:Nat}(hY:0<Y):F4 X Y K*Y<=2*(X*2^K)+Y/\2*(X*2^K)<=F4 X Y K*Y+Y:=by
 have hd:=zG (X*2^K) Y;have hm:=zv (X*2^K) hY;unfold F4;rw[Bft,Bfg,Bfd (X*2^K / Y)];split
 ·rw[zN]; omega
 ·rw[zC]; omega
theorem Dr{m n:Nat}(h:m<=n):(m:Rat)<=(n:Rat):=xj.2 h
theorem Aux{X Y:Nat}{e f:Int}{q:Rat}(hX:0<X)(hY:0<Y)(hY2:Y<2^53)(hq:q*((Y:Rat)*tw f)=(X:Rat)*tw e):Nr ((F4 X Y 120:Rat)*tw (e-f-121)) q (tw (-68)*q)/\0<=q:=by
 obtain⟨h1,h2⟩:=Auw (X:=X) (K:=120) hY;have g1:=Dr h1;have g2:=Dr h2;rw[yK,zT,zT,zT] at g1;rw[yK,zT,zT,zT] at g2;have t2:((2:Nat):Rat)=2:=rfl;have t120:((2^120:Nat):Rat)=tw 120:=(Ll 120).symm;rw[t2,t120] at g1 g2;have pE:=Gy (e-f-121);have pf:=Gy f
 have yp:(0:Rat)<(Y:Rat):=by have:((0:Nat):Rat)<(Y:Rat):=ui.2 hY;exact this
 have ypos:0<(Y:Rat)*tw f:=yD yp pf
 have e1:2*tw 120*(tw (e-f-121)*tw f)=tw e:=by have:2*tw 120=tw 121:=(Ac8 120).symm;rw[this,<- G3,<- G3]; congr 1; omega
 have m1:=ze g1 (zc (yD pE pf));have m2:=ze g2 (zc (yD pE pf));generalize tw (e-f-121)=T at *
 generalize (F4 X Y 120:Rat)=S at *
 have s1:S*T*((Y:Rat)*tw f)<=(q+T)*((Y:Rat)*tw f):=by
  have:(q+T)*((Y:Rat)*tw f)=(X:Rat)*tw e+T*((Y:Rat)*tw f):=by rw[<- hq]; grind
  rw[this,<- e1];grind
 have s2:q*((Y:Rat)*tw f)<=(S*T+T)*((Y:Rat)*tw f):=by rw[hq,<- e1];grind
 have k1:=xk s1 ypos;have k2:=xk s2 ypos
 have hT:T<=tw (-68)*q:=by
  refine xk (c:=(Y:Rat)*tw f) ?_ ypos;have e3:tw (-68)*q*((Y:Rat)*tw f)=tw (-68)*((X:Rat)*tw e):=by rw[<- hq]; grind
  have x1:(1:Rat)<=(X:Rat):=Dr (show 1<=X from hX)
  have y1:(Y:Rat)<=tw 53:=by have:=Dr (xQ hY2);rw[<- Ll] at this;exact this
  have z1:=zl y1 (zc (yD pE pf));have pe:=Gy e;have z2:=ze x1 (zc (yD (Gy (-68)) pe))
  have e4:T*tw f*tw 53=tw (-68)*tw e:=by
   rw[<- e1]
   have:tw (-68)*(2*tw 120)=tw 53:=by rw[<- Ac8,<- G3]; rfl
   grind
  rw[e3];grind
 have hq0:0<=q:=by refine xk (c:=(Y:Rat)*tw f) ?_ ypos;rw[hq];have:=Abl X e;grind
 refine⟨?_,hq0⟩;unfold Nr;grind
theorem Ap4(s:Bool):Tb s*Tb s=1:=by cases s<;>decide +kernel
theorem At2{a b:Nat}(a3:Ag a≠3)(a4:Ag a≠4)(b3:Ag b≠3)(b4:Ag b≠4)(b0:Ag b≠0)(hf:Ag (Ok a b).1≠3){q B:Rat}(hq:q*vR b=vR a)(hB:Ab q B):Nr (vR (Ok a b).1) q (2*uR*B+Fu):=by
 have hBn:=hB.nn;have hu:=Gj;have he:=J2;have bm:Ap b≠0:=fun h=>b0 ((Du b3 b4).1 h)
 have yp:(0:Rat)<((Ap b:Nat):Rat):=by have:((0:Nat):Rat)<((Ap b:Nat):Rat):=ui.2 (by omega);exact this
 have ypos:0<((Ap b:Nat):Rat)*tw (Aw b):=yD yp (Gy _);have hub:=zd (zc Gj) hBn
 have hq2:(Tb (Be a !=Be b)*q)*(((Ap b:Nat):Rat)*tw (Aw b))=((Ap a:Nat):Rat)*tw (Aw a):=by
  unfold vR at hq;rw[As1];have h1:=Ap4 (Be a);generalize Tb (Be a)=sa at *
  generalize Tb (Be b)=sb at *
  grind
 by_cases k0:Ag a=0
 ·have ea:Ap a=0:=(Du a3 a4).2 k0;have z:((0:Nat):Rat)=0:=rfl;rw[ea,z] at hq2
  have q0:q=0:=by
   have:(Tb (Be a !=Be b)*q)*(((Ap b:Nat):Rat)*tw (Aw b))=0:=by rw[hq2]; grind
   have h1:Tb (Be a !=Be b)*q=0:=by
    rcases wD.1 this with h | h
    ·exact h
    ·grind
   have h2:=Ap4 (Be a !=Be b);generalize Tb (Be a !=Be b)=sx at *
   grind
  have ed:(Ok a b).1=Bf (Be a !=Be b) 0:=by unfold Ok;rw[Bfb (by omega),Bfb (by omega),Bfb a3,Bfc (.inr k0)]
  rw[ed,Ac4,q0];unfold Nr;grind
 ·have am:Ap a≠0:=fun h=>k0 ((Du a3 a4).1 h)
  have ed:(Ok a b).1=Bf (Be a !=Be b) (B9 (F4 (Ap a) (Ap b) 120) (Aw a-Aw b-121)):=by unfold Ok;rw[Bfb (by omega),Bfb (by omega),Bfb a3,Bfb (by omega),Bfb b0]
  rw[ed] at hf ⊢;obtain⟨h1,h2⟩:=Aux (X:=Ap a) (Y:=Ap b) (by omega) (by omega) (F8 b) hq2;have h3:=(U5 (Be a !=Be b) (U4 hf)).1;have h4:=Ay2 (s:=Be a !=Be b) h1
  have sq:Tb (Be a !=Be b)*(Tb (Be a !=Be b)*q)=q:=by
   have h2:=Ap4 (Be a !=Be b);generalize Tb (Be a !=Be b)=sx at *
   grind
  rw[sq] at h4
  have hB2:Tb (Be a !=Be b)*q<=B:=by
   unfold Ab at hB;unfold Tb;cases (Be a !=Be b)
   ·have e:(if false=true then (-1:Rat) else 1)=1:=rfl;rw[e]; grind
   ·have e:(if true=true then (-1:Rat) else 1)=-1:=rfl;rw[e]; grind
  generalize Tb (Be a !=Be b)*q=p at *
  generalize ((F4 (Ap a) (Ap b) 120:Nat):Rat)*tw (Aw a-Aw b-121)=W at *
  refine(h3.trans h4).mono ?_;have t68:tw (-68)=uR*tw (-15):=by unfold uR; rw[<- G3]; rfl
  have t15:tw (-15)<=1 / 4:=by decide +kernel
  have t0:=zc (Gy (-15))
  have n1:W<=2*p:=by
   have:=h1.1;have m:=ze t15 h2
   have:tw (-68)*p<=p:=by
    have u1:tw (-68)<=1:=by decide +kernel
    have:=ze u1 h2;grind
   grind
  have n2:tw (-68)*p<=1 / 4*(uR*p):=by have m:=ze t15 (zd (zc hu) h2);rw[t68]; grind
  have n3:=h1.1;have n4:W<=p+tw (-68)*p:=n3;have n5:tw (-68)<=1 / 4:=by decide +kernel
  have n6:tw (-68)*p<=1 / 4*p:=ze n5 h2;have n7:uR*W<=uR*(5 / 4*p):=Alv (by grind);have n8:uR*p<=uR*B:=Alv hB2;grind
theorem Apr{n:Nat}(h:2^53<=N5 n):(Ff n*Ff n)*2^52<=4*n*2^52+4*n/\4*n*2^52<=(Ff n*Ff n)*2^52+4*n:=by
 obtain⟨h1,h2⟩:=Pa n;unfold Ff;split
 ·rename_i e
  have:(2*N5 n+0)*(2*N5 n+0)=4*n:=by rw[Bfx,xh,e]
  rw[this]; omega
 ·have e1:(2*N5 n+1)*(2*N5 n+1)=4*(N5 n*N5 n)+4*N5 n+1:=by simp only[Bft,yh,zC,Bfy,xh]; omega
  have e2:(N5 n+1)*(N5 n+1)=N5 n*N5 n+2*N5 n+1:=by simp only[Bft,yh,zC,Bfy]; omega
  rw[e2] at h2;rw[e1];have h3:N5 n*2^53<=N5 n*N5 n:=yQ _ h;generalize N5 n*N5 n=I at *
  generalize N5 n=i at *
  omega
theorem O0{x y:Rat}(h:0<=x)(g:x<=y):x*x<=y*y:=by have h1:=zl g h;have h2:=ze g (zZ h g);grind
theorem Aea{b:Nat}(b3:Ag b≠3)(b4:Ag b≠4)(hn:Be b=false\/Ag b=0)(hf:Ag (Hc b).1≠3):Nr (vR (Hc b).1*vR (Hc b).1) (vR b) (8*uR*vR b)/\0<=vR (Hc b).1/\0<=vR b:=by
 by_cases k0:Ag b=0
 ·rw[K0 b4 (.inl k0),Sj k0];unfold Nr; grind
 have hn:Be b=false:=hn.elim id fun h=>absurd h k0
 have m0:Ap b≠0:=fun e=>k0 ((Du b3 b4).1 e)
 have hi:b≠Ea:=fun e=>b3 (by rw[e]; exact Afp)
 have pe:=Da b;rw[Sn b4 (fun h=>h.elim k0 hi) hn] at hf ⊢;dsimp only at hf ⊢;obtain⟨r1,r2⟩:=U8 m0;have hrk:Gn b<=129:=by unfold Gn; omega
 generalize hr:(Aw b-(Gn b:Int)) / 2-1=r at r2 hf ⊢;have hq:2^53<=N5 (Ap b*2^Gn b):=Z5 (t:=53) r1;obtain⟨s1,s2⟩:=Apr hq;have hs:2^54<=Ff (Ap b*2^Gn b):=by unfold Ff; omega
 have hf':Ag (Bf false (B9 (Ff (Ap b*2^Gn b)) r))≠3:=by rw[G0]; exact hf
 have h1:=(U5 false (U4 hf')).1;rw[G0] at h1;have sg:Tb false=1:=rfl;rw[sg,Rat.one_mul] at h1
 have eb:vR b=((Ap b*2^Gn b:Nat):Rat)*(tw 2*(tw r*tw r)):=by
  have e:=Uv (Ap b) (Gn b) (Aw b);unfold vR;rw[hn];have e2:tw 2*(tw r*tw r)=tw (Aw b-(Gn b:Int)):=by rw[<- G3,<- G3]; congr 1; omega
  rw[e2,e,sg]; grind
 generalize Ap b*2^Gn b=n at *
 generalize Ff n=s at *
 have g1:=Dr s1;have g2:=Dr s2;simp only[yK,zT] at g1 g2;have t4:((4:Nat):Rat)=tw 2:=by decide +kernel
 have t52:((2^52:Nat):Rat)=tw 52:=(Ll 52).symm;rw[t4,t52] at g1 g2;have hs':=Dr hs;have t54:((2^54:Nat):Rat)=tw 54:=(Ll 54).symm;rw[t54] at hs';have pr:=Gy r;have prr:=yD pr pr;have m1:=ze g1 (zc prr);have m2:=ze g2 (zc prr);have hS1:tw 54*tw r<=(s:Rat)*tw r:=ze hs' (zc pr);generalize hS:(s:Rat)*tw r=S at *
 have q1:S*S*tw 52<=vR b*tw 52+vR b:=by rw[eb,<- hS]; grind
 have q2:vR b*tw 52<=S*S*tw 52+vR b:=by rw[eb,<- hS]; grind
 have hb0:0<=vR b:=by rw[eb];exact zd (Pn n) (zc (yD (Gy 2) prr))
 have eta1:Fu<=uR*S:=by
  have z1:tw (-657)<=tw r:=Ayh (by omega);have z2:Fu<=uR*(tw 54*tw (-657)):=by decide +kernel
  have z3:tw 54*tw (-657)<=tw 54*tw r:=zl z1 (zc (Gy 54));have z4:=Alv (zZ z3 hS1);grind
 have hS0:0<=S:=by have:=yD (Gy 54) pr;grind
 generalize vR b=B at *
 generalize vR (B9 s r)=R at *
 have h2:Nr R S (2*uR*S):=h1.mono (by grind);have cu:2*uR*tw 52=1:=by decide +kernel
 have u0:=Gj;have p1:=ze q1 (show 0<=2*uR by grind);have p2:=ze q2 (show 0<=2*uR by grind);have k1:S*S*tw 52*(2*uR)=S*S:=by grind
 have k2:(B*tw 52+B)*(2*uR)=(1+2*uR)*B:=by grind
 have k3:B*tw 52*(2*uR)=B:=by grind
 have k4:(S*S*tw 52+B)*(2*uR)=S*S+2*uR*B:=by grind
 rw[k1,k2] at p1;rw[k3,k4] at p2;have e1:S*S<=(1+2*uR)*B:=p1;have e2:(1-2*uR)*B<=S*S:=by grind
 have hu1:0<=1-2*uR:=by decide +kernel
 have a1:R<=(1+2*uR)*S:=by have:=h2.1; grind
 have a2:(1-2*uR)*S<=R:=by have:=h2.2; grind
 have a0:=zd hu1 hS0;have hR0:0<=R:=zZ a0 a2;have b1:R*R<=(1+2*uR)*S*((1+2*uR)*S):=O0 hR0 a1;have b2:(1-2*uR)*S*((1-2*uR)*S)<=R*R:=O0 a0 a2;have c1:=zl e1 (show 0<=(1+2*uR)*(1+2*uR) by decide +kernel);have c2:=zl e2 (show 0<=(1-2*uR)*(1-2*uR) by decide +kernel);have d1:(1+2*uR)*(1+2*uR)*(1+2*uR)<=1+8*uR:=by decide +kernel
 have d2:1-8*uR<=(1-2*uR)*(1-2*uR)*(1-2*uR):=by decide +kernel
 have f1:=ze d1 hb0;have f2:=ze d2 hb0;refine⟨?_,hR0,hb0⟩;generalize uR=u at *
 unfold Nr;grind
def sm:Nat->(Nat->Rat)->Rat
 | 0,_=>0
 | n+1,f=>sm n f+f n
theorem Ce{f g:Nat->Rat}:∀n,(∀i,i<n->f i=g i)->sm n f=sm n g
 | 0,_=>rfl
 | n+1,h=>by unfold sm;rw[Ce n fun i hi=>h i (by omega),h n (by omega)]
theorem Lm(f g:Nat->Rat):∀n,sm n (fun i=>f i+g i)=sm n f+sm n g
 | 0=>by unfold sm; grind
 | n+1=>by unfold sm;rw[Lm f g n]; grind
theorem Nh(c:Rat)(f:Nat->Rat):∀n,sm n (fun i=>c*f i)=c*sm n f
 | 0=>by unfold sm; grind
 | n+1=>by unfold sm;rw[Nh c f n]; grind
theorem Ue{f g:Nat->Rat}:∀n,(∀i,i<n->f i<=g i)->sm n f<=sm n g
 | 0,_=>zY
 | n+1,h=>by
   unfold sm;have h1:=Ue n fun i hi=>h i (by omega)
   have h2:=h n (by omega);grind
theorem Aee{f:Nat->Rat}:∀n,(∀i,i<n->0<=f i)->0<=sm n f
 | 0,_=>zY
 | n+1,h=>by
   unfold sm;have h1:=Aee n fun i hi=>h i (by omega)
   have h2:=h n (by omega);grind
theorem K4(n:Nat):sm n (fun _=>0)=0:=by
 induction n with
 | zero=>rfl
 | succ n ih=>unfold sm; rw[ih]; grind
theorem Aed{n:Nat}{f:Nat->Rat}{k:Nat}(hk:k<n)(h:∀i,i<n->i≠k->f i=0):sm n f=f k:=by
 induction n with
 | zero=>omega
 | succ n ih =>
   unfold sm;by_cases e:k=n
   ·subst e;rw[Ce k (g:=fun _=>0) fun i hi=>h i (by omega) (by omega),K4]; grind
   ·rw[ih (by omega) fun i hi=>h i (by omega),h n (by omega) (by omega)]; grind
theorem Cd(x:Rat):0<=x*x:=by
 rcases(xB:(0:Rat)<=x\/x<=0) with h | h
 ·exact zd h h
 ·have:=zd (show 0<=-x by grind) (show 0<=-x by grind);grind
theorem Rb{x y:Rat}(hy:0<=y)(h:x*x<=y*y):x<=y:=by
 rcases(xB:x<=y\/y<=x) with g | g
 ·exact g
 ·have h1:=O0 hy g;have e:x*x=y*y:=by grind
  have z:(x-y)*(x+y)=0:=by grind
  rcases wD.1 z with k | k
  ·grind
  ·grind
theorem Agq{x y:Rat}(hy:0<=y)(h:x*x<=y*y):Ab x y:=by have h1:=Rb hy h;have h2:=Rb (x:=-x) hy (by grind);unfold Ab; grind
def sq(n:Nat)(f:Nat->Rat):Rat:=sm n fun i=>f i*f i
theorem Ab8(n:Nat)(f:Nat->Rat):0<=sq n f:=Aee n fun i _=>Cd (f i)
theorem cs(f g:Nat->Rat):∀n,sm n (fun i=>f i*g i)*sm n (fun i=>f i*g i)<=sq n f*sq n g
 | 0=>by unfold sq sm; grind
 | n+1=>by
   have ih:=cs f g n;have hF:=Ab8 n f;have hG:=Ab8 n g;unfold sq sm;dsimp only;unfold sq at ih hF hG;generalize sm n (fun i=>f i*g i)=A at *
   generalize sm n (fun i=>f i*f i)=F at *
   generalize sm n (fun i=>g i*g i)=G at *
   generalize f n=a;generalize g n=b;have hP:=zd hF (Cd b);have hQ:=zd hG (Cd a)
   have hX:A*a*b*(A*a*b)<=F*(b*b)*(G*(a*a)):=by have:=ze ih (zd (Cd a) (Cd b));grind
   have hd:=Cd (F*(b*b)-G*(a*a));have k:2*(A*a*b)<=F*(b*b)+G*(a*a):=Rb (by grind) (by grind);grind
def Ln(n:Nat)(f:Nat->Rat)(s:Rat):Prop:=0<=s/\sq n f<=s*s
theorem Ln.mono{n:Nat}{f:Nat->Rat}{s t:Rat}(h:Ln n f s)(g:s<=t):Ln n f t:=⟨zZ h.1 g,zZ h.2 (O0 h.1 g)⟩
theorem Fq{a b c d:Rat}(h1:a<=b)(h2:c<=d)(hb:0<=b)(hc:0<=c):a*c<=b*d:=by have g1:=ze h1 hc;have g2:=zl h2 hb;grind
theorem Ln.dot{n:Nat}{f g:Nat->Rat}{s t:Rat}(h:Ln n f s)(k:Ln n g t):Ab (sm n fun i=>f i*g i) (s*t):=by refine Agq (zd h.1 k.1) ?_;have h1:=cs f g n;have h2:=Fq h.2 k.2 (Cd s) (Ab8 n g);grind
theorem Ln.congr{n:Nat}{f g:Nat->Rat}{s:Rat}(h:Ln n f s)(e:∀i,i<n->g i=f i):Ln n g s:=by
 refine⟨h.1,?_⟩;have:sq n g=sq n f:=Ce n fun i hi=>by rw[e i hi]
 rw[this]; exact h.2
theorem Ln.add{n:Nat}{f g:Nat->Rat}{s t:Rat}(h:Ln n f s)(k:Ln n g t):Ln n (fun i=>f i+g i) (s+t):=by
 have h0:=h.1;have k0:=k.1;refine⟨by grind,?_⟩
 have e:sq n (fun i=>f i+g i)=sq n f+(2*sm n (fun i=>f i*g i)+sq n g):=by unfold sq;rw[<- Nh,<- Lm,<- Lm];exact Ce n fun i _=>by grind
 have d:=(h.dot k).2;have h2:=h.2;have k2:=k.2;rw[e];grind
theorem Ln.scale{n:Nat}{f:Nat->Rat}{s c B:Rat}(h:Ln n f s)(hc:Ab c B):Ln n (fun i=>c*f i) (B*s):=by
 have hB:=hc.nn;refine⟨zd hB h.1,?_⟩
 have e:sq n (fun i=>c*f i)=c*c*sq n f:=by unfold sq;rw[<- Nh];exact Ce n fun i _=>by grind
 have c2:c*c<=B*B:=by
  unfold Ab at hc;rcases(xB:(0:Rat)<=c\/c<=0) with g | g
  ·exact O0 g hc.2
  ·have:=O0 (x:=-c) (y:=B) (by grind) (by grind);grind
 have:=Fq c2 h.2 (Cd B) (Ab8 n f);rw[e];grind
theorem Ln.neg{n:Nat}{f:Nat->Rat}{s:Rat}(h:Ln n f s):Ln n (fun i=>-f i) s:=by
 refine⟨h.1,?_⟩;have e:sq n (fun i=>-f i)=sq n f:=Ce n fun i _=>by grind
 rw[e]; exact h.2
theorem Ln.sub{n:Nat}{f g:Nat->Rat}{s t:Rat}(h:Ln n f s)(k:Ln n g t):Ln n (fun i=>f i-g i) (s+t) :=(h.add k.neg).congr fun i _=>by grind
theorem Y3{n k:Nat}{f:Nat->Rat}(hk:k<n)(h:∀i,i<n->0<=f i):f k<=sm n f:=by
 induction n with
 | zero=>omega
 | succ n ih =>
   unfold sm;by_cases e:k=n
   ·subst e;have:=Aee k fun i hi=>h i (by omega)
    grind
   ·have h1:=ih (by omega) fun i hi=>h i (by omega)
    have h2:=h n (by omega);grind
theorem Ln.at{n k:Nat}{f:Nat->Rat}{s:Rat}(h:Ln n f s)(hk:k<n):Ab (f k) s:=by refine Agq h.1 (zZ ?_ h.2);exact Y3 (f:=fun i=>f i*f i) hk fun i _=>Cd (f i)
theorem Ln.zero(n:Nat):Ln n (fun _=>0) 0:=by
 refine⟨zY,?_⟩
 have:sq n (fun _=>0)=0:=by unfold sq;have:=K4 n;rw[<- this];exact Ce n fun i _=>by grind
 rw[this]; grind
theorem Y4(n:Nat)(c:Rat):sm n (fun _=>c)=(n:Rat)*c:=by
 induction n with
 | zero =>have z:((0:Nat):Rat)=0:=rfl;rw[z]; unfold sm; grind
 | succ n ih =>have e:((n+1:Nat):Rat)=(n:Rat)+1:=yK n 1;unfold sm;rw[ih,e]; grind
theorem Ln.Abh{n:Nat}{f:Nat->Rat}{B:Rat}(hB:0<=B)(h:∀i,i<n->Ab (f i) B)(h9:n<=9):Ln n f (3*B):=by
 refine⟨by grind,?_⟩
 have h1:sq n f<=sm n (fun _=>B*B):=Ue n fun i hi=>by
  have:=h i hi;unfold Ab at this;rcases(xB:(0:Rat)<=f i\/f i<=0) with g | g
  ·exact O0 g this.2
  ·have:=O0 (x:=-f i) (y:=B) (by grind) (by grind);grind
 rw[Y4] at h1;have h2:(n:Rat)<=9:=Dr h9;have:=ze h2 (Cd B);grind
theorem Amg(f:Nat->Rat):∀n,sm (n+1) f=f 0+sm n (fun i=>f (i+1))
 | 0=>by show(0:Rat)+f 0=f 0+0;grind
 | n+1=>by
   show sm (n+1) f+f (n+1)=f 0+(sm n (fun i=>f (i+1))+f (n+1))
   rw[Amg f n]; grind
theorem Aya:uR<=1 / 1000000:=by decide +kernel
theorem Ark:Fu<=uR*uR*uR*uR:=by decide +kernel
theorem Ayx{c t q T z t' u e:Rat}(hc:0<=c)(hc2:c<=20)(hT:0<=T)(hz:0<=z)(hu:0<u)(hu2:u<=1 / 1000000)(he:0<e)
 (h1:Nr t T (3*c*u*T+2*c*e)) (h2:Nr q z (u*z+e)) (h3:Nr t' (t+q) (u*(T+3*c*u*T+2*c*e+(z+(u*z+e))))) :
 Nr t' (T+z) (3*(c+1)*u*(T+z)+2*(c+1)*e):=by
 have a0:=zd (zc hu) hT;have b0:=zd (zc hu) hz
 have c1:3*c*u<=1:=by have:=ze hc2 (zc hu);grind
 have k1:=ze c1 a0;have k2:=ze (show u<=1 by grind) b0
 have c3:(2*c+1)*u<=1:=by have:=ze hc2 (zc hu);grind
 have k3:=ze c3 (zc he);have k4:=zd hc b0;unfold Nr at *
 grind
def zR(k x:Int):Rat:=vR (Cq x.toNat k).1
theorem Asw{k:Int}(hk:k<=0):∀(l:List Int) (s t:Nat) (T c:Rat),Bl 1 l->Bm t 2 s->0<t->t+l.length<=100->0<=T->0<=c->c+(l.length:Rat)<=20->Nr (vR s) T (3*c*uR*T+2*c*Fu) ->
 Nr (vR (Jz k (s:Int) l).toNat) (T+sm l.length (fun j=>zR k (l.getD j 0)*zR k (l.getD j 0))) (3*(c+(l.length:Rat))*uR*(T+sm l.length (fun j=>zR k (l.getD j 0)*zR k (l.getD j 0)))+2*(c+(l.length:Rat))*Fu)
 | [],s,t,T,c,_,_,_,_,_,_,_,h=>by have z:((([]:List Int).length:Nat):Rat)=0:=rfl;have e:sm ([]:List Int).length (fun j=>zR k (([]:List Int).getD j 0)*zR k (([]:List Int).getD j 0))=0:=rfl;rw[z,e,Rat.add_zero,Rat.add_zero];show Nr (vR (toNat (s:Int))) T _;rw[Ber];exact h
 | x::l,s,t,T,c,hl,hs,h0,ht,hT,hc,hc2,h=>by
   have el:(((x::l).length:Nat):Rat)=(l.length:Rat)+1:=by rw[zo]; exact yK _ 1
   simp only[zo] at ht;rw[el] at hc2 ⊢;have hln:=Pn l.length;have b1:Bd 1 (Cq x.toNat k).1:=Bd.scale (by decide) (hl x Bf4) (by omega);have b2:Bd 2 (E7 (Cq x.toNat k).1 (Cq x.toNat k).1).1:=Bd.mul (j:=1) (k:=1) (by decide) b1 b1;have b3:=Bm.add (k:=2) (by omega) (by omega) (by decide) hs b2.bm;have zz:=Cd (vR (Cq x.toNat k).1);have m1:=Adl b1.1 b1.2.1 b1.1 b1.2.1 b2.1 (B:=vR (Cq x.toNat k).1*vR (Cq x.toNat k).1) (by unfold Ab; grind);have u0:=Gj;have e0:=J2
   have m2:=Aam hs.1 hs.2.1 b2.1 b2.2.1 b3.1 (B:=T+3*c*uR*T+2*c*Fu+(vR (Cq x.toNat k).1*vR (Cq x.toNat k).1+(uR*(vR (Cq x.toNat k).1*vR (Cq x.toNat k).1)+Fu))) (by have n1:=h.1;have n2:=h.2;have n3:=m1.1;have n4:=m1.2;have n5:=zd (zc u0) zz;have n6:=zd hc (zd (zc u0) hT);have n7:=zd hc (zc e0);unfold Ab;grind)
   have st:=Ayx hc (by grind) hT zz u0 Aya e0 h m1 m2;have ih:=Asw hk l _ (t+1) (T+vR (Cq x.toNat k).1*vR (Cq x.toNat k).1) (c+1) (fun z hz=>hl z (Bfu _ hz)) b3 (by omega) (by omega) (by grind) (by grind) (by grind) st
   have es:sm (x::l).length (fun j=>zR k ((x::l).getD j 0)*zR k ((x::l).getD j 0))=vR (Cq x.toNat k).1*vR (Cq x.toNat k).1+sm l.length (fun j=>zR k (l.getD j 0)*zR k (l.getD j 0)):=by rw[zo,Amg];rfl
   have eq:(Jz k (s:Int) (x::l)).toNat=(Jz k ((Fh s (E7 (Cq x.toNat k).1 (Cq x.toNat k).1).1).1:Nat) l).toNat:=by rw[Jz];unfold De Bz;rw[Eh,Ber,Ber]
   rw[es,eq];rw[show T+(vR (Cq x.toNat k).1*vR (Cq x.toNat k).1+sm l.length (fun j=>zR k (l.getD j 0)*zR k (l.getD j 0)))=T+vR (Cq x.toNat k).1*vR (Cq x.toNat k).1+sm l.length (fun j=>zR k (l.getD j 0)*zR k (l.getD j 0)) by grind,show c+((l.length:Rat)+1)=c+1+(l.length:Rat) by grind];exact ih
theorem Ash(a:Nat):vR a=Tb (Be a)*((Od a:Rat)*tw (-1074)):=by
 have pa:=Da a
 have e:(Od a:Rat)*tw (-1074)=((Ap a:Nat):Rat)*tw (Aw a):=by have:=Uv (Ap a) (Aw a-(-1074)).toNat (Aw a);rw[show Aw a-((Aw a-(-1074)).toNat:Int)=-1074 by omega] at this;exact this
 rw[e];unfold vR;grind
theorem A2d{k a:Nat}(h:Bd k a):Ab (vR a) (tw k):=by
 rw[Ash,Ap5 (Abl _ _)];have h1:=Dr h.2.2;rw[<- Ll] at h1;have h2:=ze h1 (zc (Gy (-1074)));rw[<- G3] at h2;have e:((k+1074:Nat):Int)+-1074=k:=by omega
 rw[e] at h2;exact h2
def av(x:Rat):Rat:=if 0<=x then x else -x
theorem Px(x:Rat):0<=av x:=by unfold av; split<;>grind
theorem Aah(x:Rat):Ab x (av x):=by unfold av Ab; split<;>grind
theorem Py{x B:Rat}(h:Ab x B):av x<=B:=by unfold Ab at h; unfold av; split<;>grind
theorem Ab0(x y:Rat):av (x*y)=av x*av y:=by
 unfold av;by_cases hx:0<=x
 ·by_cases hy:0<=y
  ·have:=zd hx hy;rw[Bfc hx,Bfc hy,Bfc this]
  ·have:=zd hx (show 0<=-y by grind);rw[Bfc hx,Bfb hy];split<;>grind
 ·by_cases hy:0<=y
  ·have:=zd (show 0<=-x by grind) hy;rw[Bfb hx,Bfc hy];split<;>grind
  ·have:=zd (show 0<=-x by grind) (show 0<=-y by grind);rw[Bfb hx,Bfb hy];split<;>grind
theorem Agk(x:Rat):av x*av x=x*x:=by unfold av; split<;>grind
theorem A81(x y:Rat):av (x+y)<=av x+av y:=by have h1:=Aah x;have h2:=Aah y;refine Py ?_;unfold Ab at *; grind
theorem Am8{x y d:Rat}:Nr x y d↔av (x-y)<=d:=by unfold Nr av;split<;>constructor<;>intro h<;>grind
theorem X5{a:Nat}(h:pw 0<=a%2^63):1<=av (vR a):=by
 obtain⟨h1,h2⟩:=Ww h;have m1:=Dr h1;have t:((2^52:Nat):Rat)=tw 52:=(Ll 52).symm;rw[t] at m1;have m2:tw (-52)<=tw (Aw a):=Ayh h2;have m3:=Fq m1 m2 (Pn _) (zc (Gy _));have e:tw 52*tw (-52)=1:=by rw[<- G3]; exact Yw
 rw[e] at m3
 have e2:av (vR a)=((Ap a:Nat):Rat)*tw (Aw a):=by
  have hn:=Abl (Ap a) (Aw a);unfold vR Tb;cases Be a
  ·have e:(if false=true then (-1:Rat) else 1)=1:=rfl;rw[e,Rat.one_mul]; unfold av; rw[Bfc hn]
  ·have e:(if true=true then (-1:Rat) else 1)=-1:=rfl;rw[e];unfold av;split<;>grind
 rw[e2];exact m3
theorem Asg{a:Nat}(h:Be a=false):0<=vR a:=by unfold vR;rw[h];have hn:=Abl (Ap a) (Aw a);have e:Tb false=1:=rfl;rw[e]; grind
theorem Aju{f g:Nat->Rat}{d:Rat}:∀n,(∀i,i<n->Nr (f i) (g i) d)->Nr (sm n f) (sm n g) ((n:Rat)*d)
 | 0,_=>by have z:((0:Nat):Rat)=0:=rfl;show Nr 0 0 _;rw[z]; unfold Nr; grind
 | n+1,h=>by
   have ih:=Aju n fun i hi=>h i (by omega)
   have h1:=h n (by omega);have e:((n+1:Nat):Rat)=(n:Rat)+1:=yK n 1;show Nr (sm n f+f n) (sm n g+g n) _;rw[e];unfold Nr at *; grind
theorem Ajt{x y d B:Rat}(h:Nr x y d)(hB:Ab y B)(hd:0<=d):Nr (x*x) (y*y) (d*(2*B+d)):=by
 have e:x*x-y*y=(x-y)*(x+y):=by grind
 rw[Am8,e,Ab0];have h1:=Am8.1 h
 have h2:av (x+y)<=2*B+d:=by
  refine Py ?_;unfold Nr at h;unfold Ab at *
  grind
 exact Fq h1 h2 hd (Px _)
def rv(l:List Int)(i:Nat):Rat:=vR (l.getD i 0).toNat
theorem tw1:tw 1=2:=by decide +kernel
theorem Ar2{x:Rat}(h:av x=0):x=0:=by unfold av at h; split at h<;>grind
theorem Af9{a b:Rat}(h:b≠0):a / b*b=a:=by grind
section
variable{k:Nat}{y v:Nat->Rat}{μ τ d p:Rat}
structure Bem(k:Nat)(y v:Nat->Rat)(μ τ d p:Rat):Prop where
 k6:k<=6
 v0:v 0=1
 one:1<=av μ
 Il:y 0*μ<=0
 len:Nr (μ*μ) (sq (k+1) y) (40*uR*sq (k+1) y)
 two:∀i,i<=k->Ab (y i) 2
 hd:Nr d (y 0-μ) (uR*av (y 0-μ))
 hp:Nr p (μ-y 0) (uR*av (y 0-μ))
 hv:∀i,i<k->∀q,q*d=y (i+1)->Nr (v (i+1)) q (2*uR*av q+Fu)
 ht:∀q,q*μ=p->Nr τ q (2*uR*av q+Fu)
end
section
variable{k:Nat}{y v:Nat->Rat}{μ τ d p:Rat}
end
theorem Ay7{x:List Int}{e:Int}{i:Nat}(hi:i<x.length):rv (A4 x e) i=vR (Cq (x.getD i 0).toNat e).1:=by unfold rv A4;rw[Bez,Bf6,Bez,Be6 hi];show vR (A7 x[i] e).toNat=_;rw[Eh];rfl
def Np(a:Nat):Prop:=Nn a/\Ag a≠4
theorem Aii(s:Bool):Ag (Bf s 0)≠4:=(Bd.zero s 0).2.1
theorem Ae3{z:Nat}(h4:Ag z≠4):Np (E7 z z).1:=by
 refine⟨Ay0.1,?_⟩;unfold E7;rw[Bfb (fun h=>h.elim h4 h4)];split
 ·split
  ·rename_i h3 h0;exfalso;omega
  ·cases Be z<;>decide +kernel
 ·exact Jf _ _ _
theorem Ar7{s t:Nat}(hs:Np s)(ht:Np t):Np (Fh s t).1:=by
 refine⟨(Ago hs.1 ht.1).1,?_⟩;unfold Fh;rw[Bfb (fun h=>h.elim hs.2 ht.2)];split
 ·rename_i s3;split
  ·rename_i h;exact absurd ((Afo hs.1 s3).trans (Afo ht.1 h.1).symm) h.2
  ·exact hs.2
 ·split
  ·exact ht.2
  ·unfold Lp;split
   ·exact Aii _
   ·exact Jf _ _ _
theorem Adb{b:Nat}(h:Np b):Np (Hc b).1:=by
 by_cases k:Ag b=0\/b=Ea
 ·rw[K0 h.2 k]; exact h
 ·rw[Sn h.2 k (Jd h.1)];have:=Jf false (Ff (Ap b*2^Gn b)) ((Aw b-Gn b) / 2-1);rw[G0] at this;exact⟨Qe _ _,this⟩
theorem Abg:Np 4607182418800017408/\Big 4607182418800017408:=⟨⟨by unfold Nn; rw[It]; decide,by decide +kernel⟩,by unfold Big; rw[Avs,It]; decide⟩
theorem Tq:Bd 0 4607182418800017408:=by refine .Rw (by decide) (by decide +kernel) ?_;rw[Avs]; decide
theorem A1x{d:Nat}(h4:Ag d≠4)(hb:Big d):Bd 0 (Ok 4607182418800017408 d).1:=by
 by_cases h3:Ag d=3
 ·have:(Ok 4607182418800017408 d).1=Bf (Be 4607182418800017408 !=Be d) 0:=by unfold Ok;rw[Bfb (fun h=>h.elim (by decide +kernel) h4),Bfb (fun h=>by rw[h3] at h; exact absurd h.1 (by decide +kernel)),Bfb (by decide +kernel),Bfc (.inl h3)]
  rw[this]; exact Bd.zero _ 0
 ·have hd:d%2^63=d:=by have h:=hb.2; rw[It] at h; omega
  exact Bd.div (j:=0) (t:=0) (by decide) Tq (Lo.Az8 h3 h4 (by rw[hd]; exact hb.1))
theorem A2o{z:Nat}(h4:Ag z≠4):Np (E9 z):=by refine⟨?_,by rw[Aij]; exact h4⟩;have:=A04 h4;unfold Nn E9;rw[It]; rw[Ft] at this; omega
theorem Am7:Va.toNat=4607182418800017408:=by decide +kernel
theorem Aal(a b:Int):(De a b).toNat=(Fh a.toNat b.toNat).1:=Ber _
theorem Uy(a:Int):(Dt a).toNat=(Hc a.toNat).1:=Ber _
theorem Akn(a:Int):(Hq a).toNat=E9 a.toNat:=Ber _
theorem Wn(a:Int):(B7 a).toNat=Fz a.toNat:=Ber _
theorem Ahj{z:Int}(h4:Ag z.toNat≠4):Bd 0 (Aat z).toNat:=by unfold Aat;rw[Aab,Aal,Akn,Uy,Aal,Nq,Am7];have a:=Ar7 Abg.1 (Ae3 h4);have ab:=(Ago Abg.1.1 (Ae3 h4).1).2 (.inl Abg.2);have r:=Adb a;have rb:=Ams ab;have d:=Ar7 (A2o h4) r;have db:=(Ago (A2o h4).1 r.1).2 (.inr rb);exact A1x d.2 db
theorem A1u(a b:Int):(E2 a b).toNat<2^64:=by rw[Aab]; exact Ak4
theorem Ayl{z:Int}(h4:Ag z.toNat≠4):Bd 0 (G9 z).toNat:=by
 unfold G9;split
 ·rw[Wn]; exact Zt (A1u _ _) (Ahj h4)
 ·exact Ahj h4
theorem A6k{t:Int}(ht:Bd 0 t.toNat):Np (Fh 4607182418800017408 (E7 t.toNat t.toNat).1).1/\Big (Fh 4607182418800017408 (E7 t.toNat t.toNat).1).1/\Bd 1 (Fh 4607182418800017408 (E7 t.toNat t.toNat).1).1 :=⟨Ar7 Abg.1 (Ae3 ht.2.1),(Ago Abg.1.1 (Ae3 ht.2.1).1).2 (.inl Abg.2),Bd.add (k:=0) (by decide) Tq (Bd.mul (j:=0) (k:=0) (by decide) ht ht)⟩
theorem A6j{t:Int}(ht:Bd 0 t.toNat):Np (Hc (Fh 4607182418800017408 (E7 t.toNat t.toNat).1).1).1/\Big (Hc (Fh 4607182418800017408 (E7 t.toNat t.toNat).1).1).1/\Bd 1 (Hc (Fh 4607182418800017408 (E7 t.toNat t.toNat).1).1).1:=by obtain⟨h1,h2,h3⟩:=A6k ht;exact⟨Adb h1,Ams h2,Bd.root (j:=1) (by decide) (h3.mono (by decide)) (Jd h1.1)⟩
theorem Ahk(t:Int):(Fj t).toNat=(Ok 4607182418800017408 (Hc (Fh 4607182418800017408 (E7 t.toNat t.toNat).1).1).1).1:=by unfold Fj;rw[Aab,Uy,Aal,Nq,Am7]
theorem Ad2{t:Int}(ht:Bd 0 t.toNat):Bd 0 (Fj t).toNat:=by obtain⟨h1,h2,_⟩:=A6j ht;rw[Ahk];exact A1x h1.2 h2
theorem Alx{t:Int}(ht:Bd 0 t.toNat):Bd 0 (El t).toNat:=by unfold El;rw[Nq];exact Bd.mul (j:=0) (k:=0) (by decide) (Ad2 ht) ht
end Go.Ct
end
