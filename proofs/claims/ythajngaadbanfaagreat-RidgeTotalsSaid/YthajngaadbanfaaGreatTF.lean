/- A verified evaluator of the program's form and its use for this seat: HouL, DiffL, MagL, RootM, NorL, BndL, RatV, DyQ, QuoW, SvdW, TotW, S1Specs, S1Tt. -/
import Derived.Test.YthajngaadbanfaaGreatTE
set_option linter.unusedVariables false
set_option linter.unusedSimpArgs false
noncomputable section
open Int (toNat)
open List (length getD)
namespace Go.Rnd
open Go.Den
theorem Km:Af (0:Int)=true:=Cm (n:=0) (by decide)
theorem Ae9:Af V8=true:=Cm (n:=4607182418800017408) (by decide)
theorem Anz {b:Nat} {n:Int} (h:b<2^64):(Fk b n).1<2^64:=by
 unfold Fk
 by_cases h4:Ai b=4
 ·rw [A5d h4]; exact (by decide:Ok<2^64)
 rw [A5c h4]
 by_cases h3:Ai b=3∨Ai b=0
 ·rw [A5d h3]; exact h
 rw [A5c h3]
 exact Vq _ _ _
theorem Ha {b n:Int} (h:Af b=true):Af (Bf b n)=true:=by
 obtain ⟨x,rfl,hx⟩:=By h
 exact Cm (Anz (by rw [A4s]; exact hx))
theorem Tz (b:Nat):Ge b<2^63:=Nat.mod_lt _ (by decide)
theorem Ab0:∀ (l:List Int) (m:Nat),m<2^64→P6 l m<2^64
 | [],m,h=>h
 | x::l,m,h=>by
   unfold P6
   split
   ·exact (by decide:Ok<2^64)
   ·have h2:=Tz x.toNat
    exact Ab0 l _ (by omega)
theorem P5 (l:List Int):Af (Bw l)=true:=Cm (Ab0 l 0 (by decide))
theorem Ns (x:Int):Af (Gj x)=true:=Cm (Nat.lt_trans (Tz x.toNat) (by decide))
theorem Nt {a b:Int} (ha:Af a=true) (hb:Af b=true):Af (Dm a b)=true:=by
 obtain ⟨x,rfl,hx⟩:=By ha
 obtain ⟨y,rfl,hy⟩:=By hb
 exact Cm (Ty (by rw [A4s]; exact hx) (by rw [A4s]; exact hy)).1
theorem Oz {a:Int} (ha:Af a=true):Af (Da a)=true:=by
 obtain ⟨x,rfl,hx⟩:=By ha
 exact Cm (Xx (by rw [A4s]; exact hx))
theorem Aq6 {b:Nat} (h:b<2^64):(Oq b).1<2^64:=by
 by_cases h4:Ai b=4
 ·rw [Z5 h4]; exact (by decide:Ok<2^64)
 by_cases h0:Ai b=0∨b=Eh
 ·rw [Ob h4 h0]; exact h
 cases hn:Bx b with
 | true=>rw [Vo h4 h0 hn]; exact (by decide:Ok<2^64)
 | false =>
   unfold Oq
   rw [A5c h4,A5c h0,hn,A5c (by decide)]
   exact Nat.lt_trans (Q5 _ _) (by decide)
theorem Q4 {a:Int} (ha:Af a=true):Af (Ea a)=true:=by
 obtain ⟨x,rfl,hx⟩:=By ha
 exact Cm (Aq6 (by rw [A4s]; exact hx))
theorem Aq5 (k:Int):∀ (l:List Int) {s:Int},Af s=true→Af (Vn k s l)=true
 | [],_,h=>h
 | _::l,_,h=>Aq5 k l (Nt h (Eu _ _))
theorem Ks (x:List Int):Af (B6 x)=true:=by
 unfold B6
 split
 ·exact P5 x
 ·exact Ha (Q4 (Aq5 _ _ Km))
theorem A11 (x:List Int):Af (muI x)=true:=by
 unfold muI
 split
 ·exact Ks _
 ·exact Oz (Ks _)
theorem Axh (x:List Int):Af (Kj x)=true:=Ha (A11 x)
theorem Apq (b:Nat):-1100≤Acm b∧Acm b≤1100:=by
 unfold Acm
 split
 ·have h1:=Dt b
  have h2:=Gc b
  rename_i h
  have h3:(Ax b).log2<53:=by
   by_cases h0:Ax b=0
   ·rw [h0]; decide
   ·exact (A56 h0).2 h2
  omega
 ·omega
theorem U6 (x:Int):-1100≤Ck x∧Ck x≤1100:=Apq x.toNat
theorem Qy {l:List Int} (h:Aj l=true) (j:Nat):Af (l.getD j 0)=true:=Aml (Aq.1 h) j
theorem Tx {l:List Int} (h:∀ x∈l,Af x=true):Aj l=true:=Aq.2 h
theorem Qx:Aj []=true:=Tx fun _ h=>by cases h
theorem W3 {α:Type} {l:List α} {f:α→Int} (h:∀ j,Af (f j)=true):Aj (l.map f)=true:=Tx fun x hx=>by
 obtain ⟨j,_,rfl⟩:=List.mem_map.1 hx
 exact h j
theorem Ap8 {x:Int} {l:List Int} (h1:Af x=true) (h2:Aj l=true):Aj (x::l)=true:=Tx fun y hy=>by
 rcases List.mem_cons.1 hy with rfl | hy
 ·exact h1
 ·exact Aq.1 h2 y hy
theorem F7 {c i k:Int} {l:List Int} (h:Aj l=true):Af (D8 c l i k)=true:=Qy h _
theorem Fs (c b i:Int) (n:Nat) (l:List Int):(Cn c l b i n).length=n:=by unfold Cn; rw [A5w,A5t]
theorem Ot {c b i:Int} {n:Nat} {l:List Int} (h:Aj l=true):Aj (Cn c l b i n)=true:=W3 fun _=>F7 h
theorem Ark (n:Nat) {f:Nat→Int} (h:∀ j,Af (f j)=true):Aj (L8 n f)=true:=Ap8 Ae9 (W3 fun _=>h _)
theorem Vy {n:Nat} (h:n≠0) (f:Nat→Int):(L8 n f).length=n:=by
 unfold L8
 rw [List.length_cons,A5w,A5t]
 omega
theorem Zl {x:List Int} (h:Aj x=true):Aj (Dp x).1=true∧Af (Dp x).2.1=true∧Af (Dp x).2.2.1=true:=by
 have hz:Aj []=true∧Af (0:Int)=true∧Af (0:Int)=true:=⟨Qx,Km,Km⟩
 unfold Dp
 split
 ·exact hz
 split
 ·unfold Av8
  split
  ·dsimp only
   exact ⟨Ark _ fun _=>Km,Km,Qy h 0⟩
  ·split
   ·dsimp only
    exact ⟨Ark _ fun _=>Ji _ _,Ji _ _,Axh x⟩
   ·exact hz
 ·exact hz
theorem Aay {x:List Int} (h:(Dp x).2.2.2=0):(Dp x).1.length=x.length:=by
 unfold Dp at h ⊢
 by_cases h1:x.length=0∨64<x.length
 ·rw [A5d h1] at h; exact absurd h (by decide)
 rw [A5c h1] at h ⊢
 by_cases h2:D2 x=true
 ·rw [A5d h2] at h ⊢
  unfold Av8 at h ⊢
  by_cases h3:M8 (x.drop 1)=true
  ·rw [A5d h3]; dsimp only; exact Vy (n:=x.length) (by omega) _
  ·rw [A5c h3] at h ⊢
   by_cases h4:Dw (Kj x)=true
   ·rw [A5d h4]; dsimp only [Aho]; exact Vy (n:=x.length) (by omega) _
   ·rw [A5c h4] at h; exact absurd h (by decide)
 ·rw [A5c h2] at h; exact absurd h (by decide)
theorem Hg (x y:List Int):Af (Ik x y)=true:=Cm (Afw x y 0 (by decide))
theorem Ap7 {c i k t a b:Int} {l v:List Int} (h:Aj l=true):Af (Sz c l i k v t a b)=true:=by
 unfold Sz
 split
 ·exact Q3 (F7 h) (Eu _ _)
 ·exact F7 h
theorem Ad8 {r c:Nat} {l:List Int} (h:Aj l=true) (i k:Int) (v:List Int) (t:Int):Aj (Im r c l i k v t)=true:=I9 fun _ _=>Ap7 h
theorem P7 (r c:Nat) (l:List Int) (i k:Int) (v:List Int) (t:Int):(Im r c l i k v t).length=r*c:=Cd _ _ _
theorem Apw {r c:Nat} {l:List Int} (h:Aj l=true) (j:Nat) {x:Int} (hx:Af x=true):Aj (X8 r c l j x)=true:=I9 fun a b=>by
 split
 ·split
  ·exact hx
  ·exact Km
 ·exact F7 h
theorem Sg (r c:Nat) (l:List Int) (j:Nat):(Acg r c l j).length=r*c:=by unfold Acg X8; exact Cd _ _ _
theorem Afi {r c:Nat} {l:List Int} (h:Aj l=true) (j:Nat):Aj (Acg r c l j)=true:=Apw (Ad8 h _ _ _ _) _ (Zl (Ot h)).2.2
def Ahq (r:Nat):Nat→List (List Int × Int)→Prop
 | _,[]=>True
 | j,m::ms=>(Aj m.1=true∧Af m.2=true∧m.1.length+j=r)∧Ahq r (j+1) ms
theorem Abt (r c:Nat):∀ (n j:Nat) (l:List Int) (x:List Int × List (List Int × Int)),Aj l=true→l.length=r*c→j+n≤r→Rz r c n j l=some x→Aj x.1=true∧x.1.length=r*c∧x.2.length=n∧Ahq r j x.2
 | 0,j,l,x,ha,hl,_,h=>by
   cases h
   exact ⟨ha,hl,rfl,trivial⟩
 | n+1,j,l,x,ha,hl,hj,h=>by
   unfold Rz at h
   by_cases h1:(Dp (Iw r c l j)).2.2.2=0
   ·rw [A5d h1,Option.map_eq_some_iff] at h
    obtain ⟨y,hy,rfl⟩:=h
    obtain ⟨a1,a2,a3,a4⟩:=Abt r c n (j+1) _ y (Afi ha j) (Sg r c l j) (by omega) hy
    have hm:=Zl (x:=Iw r c l j) (Ot ha)
    have hlen:=Aay h1
    refine ⟨a1,a2,by rw [List.length_cons,a3],⟨hm.1,hm.2.1,?_⟩,a4⟩
    show (Dp (Iw r c l j)).1.length+j=r
    rw [hlen]
    unfold Iw
    rw [Fs]
    omega
   ·rw [A5c h1] at h; cases h
theorem Aft (n:Nat):Aj (Ni n)=true:=I9 fun i k=>by
 unfold N7
 split
 ·exact Ae9
 ·exact Km
theorem Zt (n:Nat):∀ (ms:List (List Int × Int)) (j:Nat) (q:List Int),Aj q=true→q.length=n*n→Aj (Nw n j ms q)=true∧(Nw n j ms q).length=n*n
 | [],_,_,h1,h2=>⟨h1,h2⟩
 | m::ms,j,q,h1,h2=>by
   unfold Nw
   exact ⟨Ad8 (Zt n ms (j+1) q h1 h2).1 _ _ _ _,P7 _ _ _ _ _ _ _⟩
theorem Awt {r c:Nat} {l:List Int} (h:(L4 r c l).isSome=true):Aj (U4 r c l)=true∧(U4 r c l).length=r*r:=by
 unfold U4
 cases hd:L4 r c l with
 | none=>rw [hd] at h; cases h
 | some x=>exact Zt r x.2 0 _ (Aft r) (by unfold Ni; exact Cd _ _ _)
theorem Aws {r c:Nat} {l:List Int} (ha:Aj l=true) (hl:l.length=r*c) (h:(L4 r c l).isSome=true):Aj (Rl r c l)=true∧(Rl r c l).length=r*c:=by
 unfold Rl
 cases hd:L4 r c l with
 | none=>rw [hd] at h; cases h
 | some x =>
   have hn:L5 r c≤r:=by unfold L5; omega
   have:=Abt r c (L5 r c) 0 l x ha hl (by omega) hd
   exact ⟨this.1,this.2.1⟩
end Go.Rnd
namespace Go.Rnd
open Go.Den
theorem X1 (n:Nat):J1 n=!(decide (Ai n=3)||decide (Ai n=4)):=by
 have:=J4 n
 unfold J1 Ai
 by_cases h:D7 n=2047
 ·by_cases h2:Dj n=0<;>simp [h,h2]
 ·have h3:D7 n<2047:=by omega
  by_cases h4:0<D7 n
  ·simp [h,h3,h4]
  ·by_cases h5:0<Dj n<;>simp [h,h3,h4,h5]
theorem Alw (s:Bool) (m:Nat):(Jb s m).natAbs=m:=by unfold Jb; split<;>omega
end Go.Rnd
namespace Go.Rnd
open Go.Den
def pw (k:Nat):Nat:=(k+1023)*2^52
theorem Sd {k:Nat} (h:k≤1023):Ax (pw k)=2^52∧A2 (pw k)=(k:Int)-52∧Ai (pw k)=2∧pw k%2^63=pw k∧pw k<Eh:=by
 have hp:D7 (pw k)=k+1023:=by unfold D7 pw; omega
 have hf:Dj (pw k)=0:=by unfold Dj pw; omega
 refine ⟨?_,?_,?_,?_,?_⟩
 ·unfold Ax; rw [hp,hf,A5c (by omega)]
 ·unfold A2; rw [hp,A5c (by omega)]; omega
 ·unfold Ai; rw [hp,A5c (by omega),A5d (by omega)]
 ·unfold pw; omega
 ·rw [F6]; unfold pw; omega
def N4 (a:Nat):Nat:=Gv a (-1074)
theorem Al1 {k:Nat} (h:k≤1023):N4 (pw k)=2^(k+1074):=by
 obtain ⟨h1,h2,_⟩:=Sd h
 unfold N4 Gv
 rw [h1,h2,← A5f]
 congr 1; omega
theorem Ae7 {k:Nat} (h:k≤1023):Cl (2^(k+1074)) (-1074)=pw k:=by
 obtain ⟨h1,h2,h3,h4,_⟩:=Sd h
 have:=O0 (b:=pw k) (f:=-1074) (by omega) (by omega)
 rw [h4] at this
 rw [← this,← Al1 h]; rfl
def Bd (k:Nat) (a:Nat):Prop:=Ai a≠3∧Ai a≠4∧N4 a≤2^(k+1074)
theorem Bd.mono {j k a:Nat} (h:Bd j a) (hk:j≤k):Bd k a:=⟨h.1,h.2.1,A5x h.2.2 (A45 (by decide) (by omega))⟩
theorem Bd.Wa {k a:Nat} (hk:k≤1023) (h4:Ai a≠4) (h:a%2^63≤pw k):Bd k a:=by
 obtain ⟨p1,p2,p3,p4,p5⟩:=Sd hk
 have h3:Ai a≠3:=fun e=>by have:=Rg e; omega
 refine ⟨h3,h4,?_⟩
 have ha:=Dt a
 rcases A5n (N4 (pw k)) (N4 a) with g | g
 ·have:=(Aaz (f:=-1074) (by omega) h4 (by omega) ha.1).1 g
  omega
 ·rw [Al1 hk] at g; exact g
theorem Tn (s:Bool) (V:Nat) (E:Int):Ai (Bl s (Cl V E))≠4:=by
 have h:=Kp V E
 rw [F6] at h
 have hp:=Xp s (r:=Cl V E) (by omega)
 have hf:=U2 s (Cl V E)
 unfold Ai
 rw [hp,hf]
 split
 ·split
  ·omega
  ·omega
 ·split
  ·omega
  ·split<;>omega
theorem Bd.Cl {k:Nat} (s:Bool) {V:Nat} {E:Int} (hk:k≤1023) (h:Cl V E≤pw k):Bd k (Bl s (Cl V E)):=by
 refine .Wa hk (Tn s V E) ?_
 have:=Q5 V E
 have e:Bl s (Go.Rnd.Cl V E)%2^63=Go.Rnd.Cl V E:=by unfold Bl; split<;>omega
 rw [e]; exact h
theorem Bd.zero (s:Bool) (k:Nat):Bd k (Bl s 0):=by
 have:Ai (Bl s 0)=0∧N4 (Bl s 0)=0:=by cases s<;>decide +kernel
 exact ⟨by omega,by omega,by rw [this.2]; exact Nat.zero_le _⟩
theorem Ahw (a:Nat):(Ho a (-1074)).natAbs=N4 a:=by
 unfold Ho N4 Gv
 rw [Alw]
theorem Bd.mul {j k a b:Nat} (hk:j+k≤1023) (ha:Bd j a) (hb:Bd k b):Bd (j+k) (Ly a b).1:=by
 obtain ⟨a3,a4,am⟩:=ha
 obtain ⟨b3,b4,bm⟩:=hb
 have pa:=Dt a
 have pb:=Dt b
 unfold Ly
 rw [A5c (by omega),A5c (by omega)]
 refine .Cl _ hk ?_
 obtain ⟨u,hu⟩:∃ u:Nat,A2 a=(u:Int)-1074:=⟨(A2 a+1074).toNat,by omega⟩
 obtain ⟨v,hv⟩:∃ v:Nat,A2 b=(v:Int)-1074:=⟨(A2 b+1074).toNat,by omega⟩
 have ea:N4 a=Ax a*2^u:=by unfold N4 Gv; congr 2; omega
 have eb:N4 b=Ax b*2^v:=by unfold N4 Gv; congr 2; omega
 have s1:=(Dv (Ax a*Ax b) (u+v) (A2 a+A2 b)).1
 obtain ⟨t,ht⟩:∃ t:Nat,t=1074:=⟨1074,rfl⟩
 rw [← s1,← Ae7 hk,← (Dv (2^(j+k+1074)) t (-1074)).1]
 rw [← ht] at am bm ⊢
 have ee:A2 a+A2 b-((u+v:Nat):Int)=-1074-(t:Int):=by omega
 rw [ee]
 refine Ib ?_
 have:Ax a*Ax b*2^(u+v)=N4 a*N4 b:=by
  rw [ea,eb,A5f,Nat.mul_mul_mul_comm]
 rw [this,← A5f,show j+k+t+t=(j+t)+(k+t) by omega,A5f]
 exact A5m am bm
end Go.Rnd
namespace Go.Rnd
open Go.Den
theorem Ak1 {P root rest two:Nat} (h1:P=root*root+rest) (h2:rest≤2*root) (h3:two<4) :
 (4*root+1≤4*rest+two→4*P+two=(2*root+1)*(2*root+1)+(4*rest+two-(4*root+1))∧4*rest+two-(4*root+1)≤2*(2*root+1)) ∧
 (4*rest+two<4*root+1→4*P+two=(2*root)*(2*root)+(4*rest+two)∧4*rest+two≤2*(2*root)):=by
 have e1:(2*root+1)*(2*root+1)=4*(root*root)+(4*root+1):=by
  rw [A5u,Nat.mul_add,Nat.mul_add]
  have:2*root*(2*root)=4*(root*root):=by rw [Nat.mul_mul_mul_comm]
  omega
 have e2:(2*root)*(2*root)=4*(root*root):=by rw [Nat.mul_mul_mul_comm]
 constructor
 ·intro h; rw [e1]; omega
 ·intro h; rw [e2]; omega
theorem Avq {P root rest:Nat} (h1:P=root*root+rest) (h2:rest≤2*root):root=Tq P:=by
 refine Aa9 (by omega) ?_
 have:(root+1)*(root+1)=root*root+2*root+1:=by rw [A5u,Nat.mul_add]; omega
 omega
end Go.Rnd
namespace Go.Rnd
open Go.Den
theorem Awj {M a b:Nat} {E:Int} (h:2^a≤M) (g:(b:Int)-1074≤a+E):Cl (2^b) (-1074)≤Cl M E:=by
 by_cases k:-1074≤E
 ·have s:=(Dv M (E+1074).toNat E).1
  rw [show E-((E+1074).toNat:Int)=-1074 by omega] at s
  rw [← s]
  refine Ib (A5x (m:=2^(a+(E+1074).toNat)) (A45 (by decide) (by omega)) ?_)
  rw [A5f]; exact A42 _ h
 ·have s:=(Dv (2^b) (-1074-E).toNat (-1074)).1
  rw [show (-1074:Int)-((-1074-E).toNat:Int)=E by omega,← A5f] at s
  rw [← s]
  exact Ib (A5x (A45 (by decide) (by omega)) h)
theorem Ahm {M a:Nat} {E:Int} (h:2^a≤M) (g:0≤a+E):pw 0≤Cl M E:=by
 obtain ⟨t,ht⟩:∃ t:Nat,t=1074:=⟨1074,rfl⟩
 rw [← Ae7 (k:=0) (by decide),A50,← ht]
 exact Awj h (by omega)
def Nn (a:Nat):Prop:=a≤Ok
def Big (a:Nat):Prop:=pw 0≤a∧a≤Ok
theorem P1:Ok=9221120237041090560:=rfl
theorem Ay8:pw 0=4607182418800017408:=by unfold pw; omega
theorem Amw:Big Ok:=⟨by rw [Ay8,P1]; omega,A5k _⟩
theorem Af4:Big Eh:=⟨by rw [Ay8,F6]; omega,by rw [P1,F6]; omega⟩
theorem Wc (V:Nat) (E:Int):Nn (Cl V E):=by
 have:=Kp V E
 rw [F6] at this
 unfold Nn; rw [P1]; omega
theorem Ar9:Nn Ok:=A5k _
theorem Asa:Nn Eh:=Af4.2
theorem Ap3 {z:Nat} (h:pw 0≤z%2^63):2^52≤Ax z∧-52≤A2 z:=by
 have h1:1023≤D7 z:=by unfold D7; rw [Ay8] at h; omega
 unfold Ax A2
 rw [A5c (by omega),A5c (by omega)]
 omega
theorem Aas {a:Nat} (h:Nn a):Bx a=false:=by
 unfold Nn at h; rw [P1] at h
 exact A4v (by omega)
theorem Ayu {z:Nat}:Nn (Ly z z).1∧(pw 0≤z%2^63→Big (Ly z z).1):=by
 have hp:(Bx z !=Bx z)=false:=by cases Bx z<;>rfl
 unfold Ly
 by_cases k4:Ai z=4
 ·rw [A5d (.inl k4)]; exact ⟨Ar9,fun _=>Amw⟩
 rw [A5c (by omega)]
 by_cases k3:Ai z=3
 ·rw [A5d (.inl k3),A5c (by omega),hp,Ke]; exact ⟨Asa,fun _=>Af4⟩
 rw [A5c (by omega),hp,Ke]
 refine ⟨Wc _ _,fun h=>⟨?_,Wc _ _⟩⟩
 obtain ⟨h1,h2⟩:=Ap3 h
 refine Ahm (a:=104) ?_ (by omega)
 rw [show (104:Nat)=52+52 from rfl,A5f]
 exact A5m h1 h1
theorem As6 {a:Nat} (h:Nn a) (k3:Ai a=3):a=Eh:=by
 have:=Ms (b:=a) (by unfold Nn at h; rw [P1] at h; omega) k3
 rw [Aas h] at this
 exact this.symm
theorem Aeh {a:Nat} (h:Nn a) (g:Int):Ho a g=Gv a g:=by
 unfold Ho Gv; rw [Aas h]; rfl
theorem Az1 {s t:Nat} (hs:Nn s) (ht:Nn t):Nn (Hz s t).1∧(Big s∨Big t→Big (Hz s t).1):=by
 have hN:Nn Ok∧(Big s∨Big t→Big Ok):=⟨Ar9,fun _=>Amw⟩
 have hI:Nn Eh∧(Big s∨Big t→Big Eh):=⟨Asa,fun _=>Af4⟩
 by_cases k:Ai s=4∨Ai t=4
 ·have:(Hz s t).1=Ok:=by unfold Hz; rw [A5d k]
  rw [this]; exact hN
 by_cases s3:Ai s=3
 ·rw [Ai8 k s3]
  split
  ·exact hN
  ·obtain rfl:=As6 hs s3; exact hI
 by_cases t3:Ai t=3
 ·rw [Aeb k s3 t3]
  obtain rfl:=As6 ht t3; exact hI
 have ek:=Am0 s3 (by omega) t3 (by omega) (g:=min (A2 s) (A2 t)) (Int.le_refl _)
 generalize hg:min (A2 s) (A2 t)=g at ek
 rw [Aeh hs,Aeh ht] at ek
 have e0:¬ ((Gv s g:Int)+(Gv t g:Int)<0):=by omega
 unfold Ag9 at ek
 rw [A5c e0] at ek
 have n2:(Hz s t).1=Cl ((Gv s g:Int)+(Gv t g:Int)).natAbs g:=by
  have hn:Bx (Hz s t).1=false∨(Hz s t).1%2^63=0:=by
   unfold Hr at ek
   cases hh:Bx (Hz s t).1
   ·exact .inl rfl
   ·rw [hh] at ek
    have ek:-(((Hz s t).1%2^63:Nat):Int)=_:=ek
    exact .inr (by omega)
  have hlt:(Hz s t).1<2^64:=(Ty (by unfold Nn at hs; rw [P1] at hs; omega) (by unfold Nn at ht; rw [P1] at ht; omega)).1
  have hnf:Bx (Hz s t).1=false:=by
   rw [W5 k s3 t3]
   unfold L9
   have hh:(Bx s&&Bx t)=false:=by rw [Aas hs]; rfl
   split
   ·show Bx (Bl (Bx s&&Bx t) 0)=false
    rw [hh]; rfl
   ·rename_i h0
    rw [hg,Aeh hs,Aeh ht]
    rw [A4v e0,Ke]
    exact Aas (Wc _ _)
  unfold Hr at ek
  rw [hnf] at ek
  have ek:(((Hz s t).1%2^63:Nat):Int)=_:=ek
  unfold Bx at hnf
  have:=of_decide_eq_false hnf
  omega
 rw [n2]
 refine ⟨Wc _ _,fun h=>⟨?_,Wc _ _⟩⟩
 have ms:=O0 (b:=s) (f:=g) (by omega) (by omega)
 have mt:=O0 (b:=t) (f:=g) (by omega) (by omega)
 rcases h with h | h
 ·have:=Ib (V:=Gv s g) (W:=((Gv s g:Int)+(Gv t g:Int)).natAbs) (E:=g) (by omega)
  have h1:=h.1
  unfold Nn at hs; rw [P1] at hs
  rw [ms] at this; omega
 ·have:=Ib (V:=Gv t g) (W:=((Gv s g:Int)+(Gv t g:Int)).natAbs) (E:=g) (by omega)
  have h1:=h.1
  unfold Nn at ht; rw [P1] at ht
  rw [mt] at this; omega
theorem Aq4 (k:Int):∀ (l:List Int) (s:Nat),Nn s→∃ t:Nat,Vn k s l=t∧Nn t∧((Big s∨∃ x∈l,pw 0≤(Bf x k).toNat%2^63)→Big t)
 | [],s,h=>⟨s,rfl,h,fun g=>by
  rcases g with g | ⟨x,hx,_⟩
  ·exact g
  ·cases hx⟩
 | x::l,s,h=>by
   obtain ⟨q1,q2⟩:=Ayu (z:=(Bf x k).toNat)
   obtain ⟨a1,a2⟩:=Az1 h q1
   obtain ⟨t,e,t1,t2⟩:=Aq4 k l _ a1
   refine ⟨t,?_,t1,fun g=>t2 ?_⟩
   ·unfold Vn
    rw [← e]
    unfold Dm Ca
    rw [A4s,A4s]
   ·rcases g with g | ⟨y,hy,g⟩
    ·exact .inl (a2 (.inl g))
    ·rcases List.mem_cons.1 hy with rfl | hy
     ·exact .inl (a2 (.inr (q2 g)))
     ·exact .inr ⟨y,hy,g⟩
theorem X2 {b:Nat} (h:Ai b=0):b%2^63=0:=by
 unfold Ai D7 Dj at h
 split at h
 ·split at h<;>omega
 ·split at h
  ·omega
  ·split at h<;>omega
theorem Awq {b:Nat} (k3:Ai b≠3) (k4:Ai b≠4) (k0:Ai b≠0):Acm b=((Ax b).log2:Int)+A2 b∧-1074≤Acm b:=by
 have:=Dt b
 have hf:J1 b=true:=by rw [X1]; simp [k3,k4]
 unfold Acm
 rw [A5d ⟨hf,k0⟩]
 exact ⟨rfl,by omega⟩
theorem At7 {x:Int} {l:List Int} {m:Nat} (k:Ai x.toNat=4):P6 (x::l) m=Ok:=A5d k
theorem Ai1 {x:Int} {l:List Int} {m:Nat} (k:Ai x.toNat≠4):P6 (x::l) m=P6 l (max m (Ge x.toNat)):=A5c k
theorem At6:∀ (l:List Int) (m:Nat),P6 l m=Ok∨(m≤P6 l m∧∀ x∈l,Ge x.toNat≤P6 l m)
 | [],_=>.inr ⟨A5k _,fun _ h=>by cases h⟩
 | x::l,m=>by
   by_cases k4:Ai x.toNat=4
   ·exact .inl (At7 k4)
   rw [Ai1 k4]
   rcases At6 l (max m (Ge x.toNat)) with g | ⟨g1,g2⟩
   ·exact .inl g
   ·refine .inr ⟨by omega,fun y hy=>?_⟩
    rcases List.mem_cons.1 hy with rfl | hy
    ·omega
    ·exact g2 y hy
theorem Ao9 (b:Nat):Ai (Ge b)=Ai b:=by
 have h1:D7 (Ge b)=D7 b:=by unfold D7 Ge; omega
 have h2:Dj (Ge b)=Dj b:=by unfold Dj Ge; omega
 unfold Ai; rw [h1,h2]
theorem abs_zero {b:Nat} (h:Ge b=0):Ai b=0:=by
 rw [← Ao9,h]; decide
end Go.Rnd
namespace Go.Rnd
open Go.Den
theorem Ae0 {V u k:Nat} {E:Int} (hk:k≤1023) (h:V≤2^u) (g:(u:Int)+E≤k):Cl V E≤pw k:=by
 refine A5x (Ib h) ?_
 obtain ⟨t,ht⟩:∃ t:Nat,t=1074:=⟨1074,rfl⟩
 rw [← Ae7 hk,← ht]
 by_cases hE:-1074≤E
 ·have s:=(Dv (2^u) (E+1074).toNat E).1
  rw [show E-((E+1074).toNat:Int)=-1074 by omega,← A5f] at s
  rw [← s]
  exact Ib (A45 (by decide) (by omega))
 ·have s:=(Dv (2^(k+t)) (-1074-E).toNat (-1074)).1
  rw [show (-1074:Int)-((-1074-E).toNat:Int)=E by omega,← A5f] at s
  rw [← s]
  exact Ib (A45 (by decide) (by omega))
theorem Bd.Al9 {k V u:Nat} {E:Int} (s:Bool) (hk:k≤1023) (h:V≤2^u) (g:(u:Int)+E≤k):Bd k (Bl s (Go.Rnd.Cl V E)):=Bd.Cl s hk (Ae0 hk h g)
theorem Bd.log {k a:Nat} (h:Bd k a) (h0:Ax a≠0):((Ax a).log2:Int)+A2 a≤k:=by
 have pa:=Dt a
 have hm:=h.2.2
 obtain ⟨t,ht⟩:∃ t:Nat,t=1074:=⟨1074,rfl⟩
 have e:N4 a=Ax a*2^(A2 a+1074).toNat:=by unfold N4 Gv; congr 2
 rw [e,← ht] at hm
 have h1:=A42 (2^(A2 a+1074).toNat) (Nat.log2_self_le h0)
 rw [← A5f] at h1
 have:=(Nat.pow_le_pow_iff_right (a:=2) (by decide)).1 (A5x h1 hm)
 omega
theorem Bd.part {k a:Nat} (h:Bd k a) (h0:Ax a≠0):Ax a≤2^((k:Int)-A2 a).toNat∧A2 a≤k:=by
 have pa:=Dt a
 have hm:=h.2.2
 have hl:=h.log h0
 obtain ⟨t,ht⟩:∃ t:Nat,t=1074:=⟨1074,rfl⟩
 have e:N4 a=Ax a*2^(A2 a+1074).toNat:=by unfold N4 Gv; congr 2
 refine ⟨?_,by omega⟩
 rw [e,← ht,show k+t=((k:Int)-A2 a).toNat+(A2 a+1074).toNat by omega,A5f] at hm
 exact Nat.le_of_mul_le_mul_right hm (Co _)
theorem Atk {a b:Nat} (a3:Ai a≠3) (a4:Ai a≠4) (b3:Ai b≠3) (b4:Ai b≠4) (h:Ge a≤Ge b) (h0:Ax a≠0):((Ax a).log2:Int)+A2 a≤((Ax b).log2:Int)+A2 b:=by
 have pa:=Dt a
 have pb:=Dt b
 have hm:Gv a (-1074)≤Gv b (-1074):=by
  rcases A5n (Gv b (-1074)) (Gv a (-1074)) with g | g
  ·have:=(Aaz (f:=-1074) b4 a4 pb.1 pa.1).1 g
   unfold Ge at h; omega
  ·exact g
 unfold Gv at hm
 have hb0:Ax b≠0:=fun e=>by
  rw [e,Nat.zero_mul] at hm
  have:=Nat.mul_pos (show 0<Ax a by omega) (Co (A2 a - -1074).toNat)
  omega
 have h1:=A42 (2^(A2 a - -1074).toNat) (Nat.log2_self_le h0)
 have h2:=Nat.mul_lt_mul_of_pos_right (Nat.lt_log2_self (n:=Ax b)) (Co (A2 b - -1074).toNat)
 rw [← A5f] at h1 h2
 have:=(Nat.pow_lt_pow_iff_right (a:=2) (by decide)).1 (A5s (A5x h1 hm) h2)
 omega
theorem Bd.down {a b:Nat} (a3:Ai a≠3) (a4:Ai a≠4) (b3:Ai b≠3) (b4:Ai b≠4) (h:Ge a≤Ge b):Bd 1 (Fk a (-Acm b)).1:=by
 by_cases k0:Ai a=0
 ·unfold Fk
  rw [A5c a4,A5d (.inr k0)]
  refine .Wa (by decide) a4 ?_
  rw [X2 k0]; exact Nat.zero_le _
 have h0:Ax a≠0:=fun e=>k0 ((Hq a3 a4).1 e)
 have hb0:Ai b≠0:=fun e=>by
  have:=X2 e
  have hh:Ai a=0:=abs_zero (by unfold Ge at h ⊢; omega)
  exact k0 hh
 have hl:=Atk a3 a4 b3 b4 h h0
 obtain ⟨ee,_⟩:=Awq b3 b4 hb0
 rw [Xh a4 (by omega)]
 exact .Al9 _ (by decide) (Nat.le_of_lt (Nat.lt_log2_self (n:=Ax a))) (by omega)
structure Lo (t:Nat) (a:Nat):Prop where
 k3:Ai a≠3
 k4:Ai a≠4
 m0:Ax a≠0
 log:-(t:Int)≤((Ax a).log2:Int)+A2 a
theorem Anp {n u:Nat} (h:n≤2^(u+u)):He n≤2^(u+1):=by
 obtain ⟨h1,_⟩:=Qr n
 rw [A5f] at h
 have hq:Tq n≤2^u:=by
  rcases A5n (2^u) (Tq n) with g | g
  ·have:=Nat.mul_lt_mul'' g g
   omega
  ·exact g
 unfold He
 rw [Nat.pow_succ]
 split
 ·omega
 ·rename_i hr
  have:Tq n≠2^u:=fun e=>by
   rw [e] at h1 hr
   omega
  omega
theorem Bd.root {j b:Nat} (hj:j≤1000) (hb:Bd (j+j) b) (hn:Bx b=false):Bd j (Oq b).1:=by
 by_cases k0:Ai b=0
 ·rw [Ob hb.2.1 (.inl k0)]
  refine .Wa (by omega) hb.2.1 ?_
  rw [X2 k0]; exact Nat.zero_le _
 have m0:Ax b≠0:=fun e=>k0 ((Hq hb.1 hb.2.1).1 e)
 have hi:b≠Eh:=fun e=>hb.1 (by rw [e]; exact Aic)
 rw [Z4 hb.2.1 (fun h=>h.elim k0 hi) hn]
 obtain ⟨p1,p2⟩:=hb.part m0
 obtain ⟨r1,r2⟩:=Aaf m0
 generalize hr:(A2 b-(K5 b:Int)) / 2-1=r at r2 ⊢
 have hrk:128≤K5 b:=by unfold K5; omega
 obtain ⟨u,hu⟩:∃ u:Nat,(u:Int)=(j:Int)-r-1:=⟨((j:Int)-r-1).toNat,by omega⟩
 have h2:Ax b*2^K5 b≤2^(u+u):=by
  refine A5x (A42 _ p1) ?_
  rw [← A5f]
  exact A45 (by decide) (by omega)
 have:=Bd.Al9 (k:=j) (E:=r) false (by omega) (Anp h2) (by omega)
 rw [Ke] at this
 exact this
def Bm (m k:Nat) (a:Nat):Prop:=Ai a≠3∧Ai a≠4∧N4 a≤m*2^(k+1074)
theorem Bd.bm {k a:Nat} (h:Bd k a):Bm 1 k a:=⟨h.1,h.2.1,by rw [Nat.one_mul]; exact h.2.2⟩
theorem Bm.bd {m k a j:Nat} (h:Bm m k a) (hm:m≤2^j):Bd (k+j) a:=by
 refine ⟨h.1,h.2.1,A5x h.2.2 ?_⟩
 obtain ⟨t,ht⟩:∃ t:Nat,t=1074:=⟨1074,rfl⟩
 rw [← ht,show k+j+t=j+(k+t) by omega,A5f 2 j]
 exact A42 _ hm
theorem Atf {m k:Nat} (h0:m≠0) (hm:m≤1024) (hk:k≤1000):∃ z:Nat,z=Cl (m*2^(k+1074)) (-1074)∧z%2^63=z∧Ai z≠4∧N4 z=m*2^(k+1074):=by
 obtain ⟨t,ht⟩:∃ t:Nat,t=1074:=⟨1074,rfl⟩
 have s:=(Dv m (k+t) k).1
 rw [show (k:Int)-((k+t:Nat):Int)=-1074 by omega] at s
 have hu:Cl m k≤pw (k+10):=Ae0 (by omega) (u:=10) (by omega) (by omega)
 have hi:Cl m k<Eh:=A5s hu (Sd (by omega)).2.2.2.2
 obtain ⟨_,d,e1,e2⟩:=Abn false h0 (Ys (V:=m) (E:=(k:Int)) (by omega) (by omega)) hi
 rw [Ke] at e1 e2
 have hl:=Q5 m k
 have pe:=Dt (Cl m k)
 have k4:=Tn false m k
 rw [Ke] at k4
 refine ⟨Cl m k,?_,A43 hl,k4,?_⟩
 ·rw [← ht]; exact s.symm
 ·unfold N4 Gv
  rw [e1,e2,A5h,← A5f]
  congr 2
  omega
theorem Bm.Wa {m k a z:Nat} (hz:N4 z=m*2^(k+1074)) (z4:Ai z≠4) (zi:z%2^63<Eh) (a4:Ai a≠4) (h:a%2^63≤z%2^63):Bm m k a:=by
 have a3:Ai a≠3:=fun e=>by have:=Rg e; omega
 refine ⟨a3,a4,?_⟩
 rw [← hz]
 have pa:=Dt a
 have pz:=Dt z
 rcases A5n (N4 z) (N4 a) with g | g
 ·have:=(Aaz (f:=-1074) z4 a4 pz.1 pa.1).1 g
  omega
 ·exact g
theorem Bm.add {m n k a b:Nat} (h0:m+n≠0) (hmn:m+n≤1024) (hk:k≤1000) (ha:Bm m k a) (hb:Bm n k b):Bm (m+n) k (Hz a b).1:=by
 obtain ⟨a3,a4,am⟩:=ha
 obtain ⟨b3,b4,bm⟩:=hb
 have pa:=Dt a
 have pb:=Dt b
 have ek:=Am0 a3 a4 b3 b4 (g:=-1074) (by omega)
 have e4:Ai (Hz a b).1≠4:=by
  rw [W5 (by omega) a3 b3]
  unfold L9
  split
  ·have:Ai (Bl (Bx a&&Bx b) 0)=0:=by cases (Bx a&&Bx b)<;>decide
   show Ai (Bl (Bx a&&Bx b) 0)≠4
   omega
  ·exact Tn _ _ _
 obtain ⟨z,ez,z63,z4,zm⟩:=Atf h0 hmn hk
 have zi:z%2^63<Eh:=by
  have hu:z≤pw (k+10):=by
   rw [ez]
   refine Ae0 (u:=k+1074+10) (by omega) ?_ (by omega)
   rw [A5f 2 (k+1074),A5e]
   exact Nat.mul_le_mul_left _ hmn
  have:=(Sd (k:=k+10) (by omega)).2.2.2.2
  omega
 refine .Wa zm z4 zi e4 ?_
 have hs:(Ho a (-1074)+Ho b (-1074)).natAbs≤(m+n)*2^(k+1074):=by
  have h1:=Ahw a
  have h2:=Ahw b
  have:(m+n)*2^(k+1074)=m*2^(k+1074)+n*2^(k+1074):=A5u _ _ _
  omega
 have hr:=Ib (E:=-1074) hs
 rw [← ez] at hr
 have hn:(Hr (Hz a b).1).natAbs=(Hz a b).1%2^63:=by unfold Hr; rw [Alw]
 rw [← hn,ek,z63]
 unfold Ag9
 split<;>omega
end Go.Rnd
namespace Go.Rnd
open Go.Den
def tw (e:Int):Rat:=(2:Rat)^e
theorem Py:(2:Rat)≠0:=by decide
end Go.Rnd
namespace Go.Rnd
open Go.Den
structure Dg (g t n:Nat) (x:Rat):Prop where
 ex:∃ v:Int,x=(v:Rat)*tw (-(g:Int))∧v.natAbs≤n*2^t
end Go.Rnd
namespace Go.Rnd
open Go.Den
end Go.Rnd
namespace Go.Rnd
open Go.Den
def Sl (a b:Int):Bool:=decide (G7 a b<0)
def Ey (R n:Nat) (l:List Int) (p:Nat):List Int:=Cn (n:Int) l (p:Int) 0 R
def W9 (x y:List Int) (low:Int):Bool:=(!(Sl low (B6 x))||!(Sl low (B6 y)))||!(Sl (Bf (Ca (B6 x) (B6 y)) (-44)) (Gj (Ik x y)))
def Fx (a b:Int):Bool:=Nu a b&&decide (0<G7 a b)
def beR (x y:List Int) (low:Int):Bool:=(!(Fx (B6 x) low)||!(Fx (B6 y) low))||!(Fx (Gj (Ik x y)) (Bf (Ca (B6 x) (B6 y)) (-44)))
def Iz (x y:List Int):Int:=Es (Gb (Ik y y) (Ik x x)) (Dm (Ik x y) (Ik x y))
def Aen (z:Int):Int:=Es V8 (Dm (Gj z) (Ea (Dm V8 (Ca z z))))
def G0 (z:Int):Int:=if Eb z=true then Da (Aen z) else Aen z
def Mz (t:Int):Int:=Es V8 (Ea (Dm V8 (Ca t t)))
def Lz (t:Int):Int:=Ca (Mz t) t
def trC (x y:List Int) (low:Int):Int:=if W9 x y low=true then 0 else Mz (G0 (Iz x y))
def trS (x y:List Int) (low:Int):Int:=if W9 x y low=true then 0 else Lz (G0 (Iz x y))
def Lm (R n:Nat) (l:List Int) (i k:Nat) (c s:Int):List Int:=B8 R n fun a b =>
 if a=i then Dm (Ca c (D8 (n:Int) l (i:Int) (b:Int))) (Ca s (D8 (n:Int) l (k:Int) (b:Int)))
 else if a=k then Gb (Ca c (D8 (n:Int) l (k:Int) (b:Int))) (Ca s (D8 (n:Int) l (i:Int) (b:Int))) else D8 (n:Int) l (a:Int) (b:Int)
def O6 (R n:Nat) (l:List Int) (i k:Nat) (c s:Int):List Int:=B8 R n fun a b =>
 if b=i then Dm (Ca c (D8 (n:Int) l (a:Int) (i:Int))) (Ca s (D8 (n:Int) l (a:Int) (k:Int)))
 else if b=k then Gb (Ca c (D8 (n:Int) l (a:Int) (k:Int))) (Ca s (D8 (n:Int) l (a:Int) (i:Int))) else D8 (n:Int) l (a:Int) (b:Int)
def Mw (be:List Int→List Int→Int→Bool) (R n:Nat) (low:Int) (p q:Nat) (s:List Int × List Int × Bool):List Int × List Int × Bool :=
 if be (Ey R n s.1 p) (Ey R n s.1 q) low=true then s
 else (O6 R n s.1 p q (Mz (G0 (Iz (Ey R n s.1 p) (Ey R n s.1 q)))) (Da (Lz (G0 (Iz (Ey R n s.1 p) (Ey R n s.1 q))))),
  O6 n n s.2.1 p q (Mz (G0 (Iz (Ey R n s.1 p) (Ey R n s.1 q)))) (Da (Lz (G0 (Iz (Ey R n s.1 p) (Ey R n s.1 q))))),false)
def Pd (be:List Int→List Int→Int→Bool) (R n:Nat) (low:Int) (p:Nat):Nat→Nat→List Int × List Int × Bool→List Int × List Int × Bool
 | 0,_,s=>s
 | d+1,q,s=>Pd be R n low p d (q+1) (Mw be R n low p q s)
def M6 (be:List Int→List Int→Int→Bool) (R n:Nat) (low:Int):Nat→Nat→List Int × List Int × Bool→List Int × List Int × Bool
 | 0,_,s=>s
 | d+1,p,s=>M6 be R n low d (p+1) (Pd be R n low p (n-(p+1)) (p+1) s)
def Ju (R n:Nat) (low:Int) (w v:List Int):List Int × List Int × Bool:=M6 W9 R n low n 0 (w,v,true)
def Sc (R n:Nat) (low:Int) (w v:List Int):List Int × List Int × Bool:=M6 beR R n low n 0 (w,v,true)
def Ee (R n:Nat) (low:Int):Nat→List Int→List Int→List Int × List Int × Int
 | 0,w,v=>(w,v,6)
 | m+1,w,v=>if (Ju R n low w v).2.2=true then ((Ju R n low w v).1,(Ju R n low w v).2.1,0) else Ee R n low m (Ju R n low w v).1 (Ju R n low w v).2.1
def Cf (R n:Nat) (l:List Int):List Int:=(List.range n).map fun c=>B6 (Ey R n l c)
def P3 (key:Int→Int) (x:Int):List Int→List Int
 | []=>[x]
 | y::t=>if G7 (key y) (key x)<0 then y::P3 key x t else x::y::t
def R9 (key:Int→Int) (l:List Int):List Int:=l.foldl (fun acc x=>P3 key x acc) []
def Lr (l:List Int) (i:Int):Int:=l.getD i.toNat 0
def Le (n:Nat):List Int:=(List.range n).map fun i:Nat=>(i:Int)
def E8 (l x:List Int):List Int:=(R9 (Lr l) x).reverse
def A1w (l:List Int) (n:Nat):List Int:=E8 l (Le n)
def Pe (key:Int→Int) (x:Int):List Int→List Int
 | []=>[x]
 | y::t=>if Fx (key x) (key y)=true then x::y::t else y::Pe key x t
def Fp (l:List Int):List Int:=(Le l.length).foldl (fun acc x=>Pe (Lr l) x acc) []
def Jh (n:Nat) (x:List Int):Bool:=x.all fun i=>decide (0≤i∧i<(n:Int))
def Cq (R n:Nat) (l ps:List Int):List Int:=B8 R n fun i k=>D8 (n:Int) l (i:Int) (ps.getD k 0)
def Ga (l:List Int):Int:=Ck (Bw l)
def Eg (R n:Nat) (l:List Int):List Int × List Int × Int:=Ee R n (Bf (B6 (Bh l (-(Ga l)))) (-44)) 60 (Bh l (-(Ga l))) (Ni n)
def Aqk (R n:Nat) (l:List Int):List Int:=A1w (Cf R n (Eg R n l).1) n
def L6 (R n:Nat) (l:List Int):List Int:=Bh (Cq R n (Eg R n l).1 (Aqk R n l)) (Ga l)
def Nx (R n:Nat) (l:List Int):List Int:=Cq n n (Eg R n l).2.1 (Aqk R n l)
def Jn (r c:Int) (l:List Int):Int :=
 if Cj r c l≠0 then Cj r c l else if (Eg r.toNat c.toNat l).2.2≠0 then 6 else if (D2 (L6 r.toNat c.toNat l)&&D2 (Nx r.toNat c.toNat l))=true then 0 else 2
def F9 (r c:Int) (l:List Int):MX:=if Jn r c l≠0 then M9 (Jn r c l) else (r,c,L6 r.toNat c.toNat l,0)
def Gt (r c:Int) (l:List Int):MX:=if Jn r c l≠0 then M9 (Jn r c l) else (c,c,Nx r.toNat c.toNat l,0)
def Xa (r c:Int) (l:List Int):List Int:=if Jn r c l≠0 then [] else Cf r.toNat c.toNat (L6 r.toNat c.toNat l)
end Go.Rnd
namespace Go.Rnd
open Go.Den
def Vb (r c:Int) (l:List Int) (p q:Int) (m:List Int):Int:=if Cj r c l≠0 then Cj r c l else Cj p q m
def Zx (c:Int) (V:List Int):List Int:=(List.range c.toNat).map fun i:Nat=>Da (Es (D8 (c+1) V (i:Int) c) (D8 (c+1) V c c))
def Ank (c:Int) (V:List Int):MX:=if Sl (Bf V8 (-20)) (Gj (D8 (c+1) V c c))=true then T5 c 1 (Zx c V) else M9 7
def Avc (r c:Int) (b:List Int):MX:=if Jn r (c+1) b≠0 then M9 (Jn r (c+1) b) else Ank c (Nx r.toNat (c+1).toNat b)
def Gu (r c:Int) (l:List Int) (p q:Int) (m:List Int):MX :=
 if Vb r c l p q m≠0 then M9 (Vb r c l p q m)
 else if p≠r∨q≠1∨c=0∨6≤c then M9 3 else Avc r c (Jk r c l p q m).2.2.1
end Go.Rnd
namespace Go.Proofs.S1
open Go Go.Den Go.Rnd
def soft.Split.pre:List Atom→Bool
 | [.i x]=>Af x
 | _=>false
def soft.Split.out:List Atom→DV
 | [.i x]=>.agg [.bool (Eb x),.int .i64 (N0 x),.int .u64 (Dq x)]
 | _=>.undef
abbrev soft.Split.ts:List AT:=[.i .u64]
def soft.Split.spec:Entry:=entry soft.Split.ts soft.Split.pre soft.Split.out
def soft.Kind.pre:List Atom→Bool
 | [.i x]=>Af x
 | _=>false
def soft.Kind.out:List Atom→DV
 | [.i x]=>.int .i64 (Bz x)
 | _=>.undef
abbrev soft.Kind.ts:List AT:=[.i .u64]
def soft.Kind.spec:Entry:=entry soft.Kind.ts soft.Kind.pre soft.Kind.out
def soft.Sign.pre:List Atom→Bool
 | [.i x]=>Af x
 | _=>false
def soft.Sign.out:List Atom→DV
 | [.i x]=>.bool (Eb x)
 | _=>.undef
abbrev soft.Sign.ts:List AT:=[.i .u64]
def soft.Sign.spec:Entry:=entry soft.Sign.ts soft.Sign.pre soft.Sign.out
def soft.Finite.pre:List Atom→Bool
 | [.i x]=>Af x
 | _=>false
def soft.Finite.out:List Atom→DV
 | [.i x]=>.bool (Dw x)
 | _=>.undef
abbrev soft.Finite.ts:List AT:=[.i .u64]
def soft.Finite.spec:Entry:=entry soft.Finite.ts soft.Finite.pre soft.Finite.out
def soft.Dn.pre:List Atom→Bool
 | [.i x]=>Af x
 | _=>false
def soft.Dn.out:List Atom→DV
 | [.i x]=>.int .u64 (Da x)
 | _=>.undef
abbrev soft.Dn.ts:List AT:=[.i .u64]
def soft.Dn.spec:Entry:=entry soft.Dn.ts soft.Dn.pre soft.Dn.out
def soft.Gy.pre:List Atom→Bool
 | [.i x]=>Af x
 | _=>false
def soft.Gy.out:List Atom→DV
 | [.i x]=>.tup [.int .u64 (B7 x),.int .i64 (Bo x)]
 | _=>.undef
abbrev soft.Gy.ts:List AT:=[.i .u64]
def soft.Gy.spec:Entry:=entry soft.Gy.ts soft.Gy.pre soft.Gy.out
def soft.Pack.mu:List Atom→Nat
 | [.b _n,.i m,.i e]=>Q8 m e
 | _=>0
def soft.Pack.pre:List Atom→Bool
 | [.b _n,.i m,.i e]=>Mn m e
 | _=>false
def soft.Pack.out:List Atom→DV
 | [.b n,.i m,.i e]=>.int .u64 (V3 n m e)
 | _=>.undef
abbrev soft.Pack.ts:List AT:=[.b,.i .u64,.i .i64]
def soft.Pack.spec:Entry:=entry soft.Pack.ts soft.Pack.pre soft.Pack.out
def soft.D5.pre:List Atom→Bool
 | [.b _n,.i m,.i e,.b r]=>Fe m e r
 | _=>false
def soft.D5.out:List Atom→DV
 | [.b n,.i m,.i e,.b r]=>.tup [.int .u64 (F1 n m e r),.int .u8 (F0 n m e r)]
 | _=>.undef
abbrev soft.D5.ts:List AT:=[.b,.i .u64,.i .i64,.b]
def soft.D5.spec:Entry:=entry soft.D5.ts soft.D5.pre soft.D5.out
def sum.right.pre:List Atom→Bool
 | [.i m,.i d]=>Af m&&B3 (0≤d∧d<1000000)
 | _=>false
def sum.right.out:List Atom→DV
 | [.i m,.i d]=>.int .u64 (Gh m d)
 | _=>.undef
abbrev sum.right.ts:List AT:=[.i .u64,.i .i64]
def sum.right.spec:Entry:=entry sum.right.ts sum.right.pre sum.right.out
def sum.E4.pre:List Atom→Bool
 | [.i a,.i b]=>(Af a&&Af b)&&(!(Dw a)||!(Dw b))
 | _=>false
def sum.E4.out:List Atom→DV
 | [.i a,.i b]=>.tup [.int .u64 (Dm a b),.int .u8 (Y3 a b)]
 | _=>.undef
abbrev sum.E4.ts:List AT:=[.i .u64,.i .u64]
def sum.E4.spec:Entry:=entry sum.E4.ts sum.E4.pre sum.E4.out
def sum.Add.pre:List Atom→Bool
 | [.i a,.i b]=>Af a&&Af b
 | _=>false
def sum.Add.out:List Atom→DV
 | [.i a,.i b]=>.tup [.int .u64 (Dm a b),.int .u8 (Y3 a b)]
 | _=>.undef
abbrev sum.Add.ts:List AT:=[.i .u64,.i .u64]
def sum.Add.spec:Entry:=entry sum.Add.ts sum.Add.pre sum.Add.out
def sum.Sub.pre:List Atom→Bool
 | [.i a,.i b]=>Af a&&Af b
 | _=>false
def sum.Sub.out:List Atom→DV
 | [.i a,.i b]=>.tup [.int .u64 (Gb a b),.int .u8 (A1s a b)]
 | _=>.undef
abbrev sum.Sub.ts:List AT:=[.i .u64,.i .u64]
def sum.Sub.spec:Entry:=entry sum.Sub.ts sum.Sub.pre sum.Sub.out
def A6.Neg.pre:List Atom→Bool
 | [.i x]=>Af x
 | _=>false
def A6.Neg.out:List Atom→DV
 | [.i x]=>.bool (Eb x)
 | _=>.undef
abbrev A6.Neg.ts:List AT:=[.i .u64]
def A6.Neg.spec:Entry:=entry A6.Neg.ts A6.Neg.pre A6.Neg.out
def A6.Power.pre:List Atom→Bool
 | [.i x]=>Re x
 | _=>false
def A6.Power.out:List Atom→DV
 | [.i x]=>.int .i64 (N0 x)
 | _=>.undef
abbrev A6.Power.ts:List AT:=[.i .u64]
def A6.Power.spec:Entry:=entry A6.Power.ts A6.Power.pre A6.Power.out
def A6.Lx.pre:List Atom→Bool
 | [.i x]=>Re x
 | _=>false
def A6.Lx.out:List Atom→DV
 | [.i x]=>.int .u64 (Dq x)
 | _=>.undef
abbrev A6.Lx.ts:List AT:=[.i .u64]
def A6.Lx.spec:Entry:=entry A6.Lx.ts A6.Lx.pre A6.Lx.out
def A6.Kind.pre:List Atom→Bool
 | [.i x]=>Re x
 | _=>false
def A6.Kind.out:List Atom→DV
 | [.i x]=>.int .i64 (Bz x)
 | _=>.undef
abbrev A6.Kind.ts:List AT:=[.i .u64]
def A6.Kind.spec:Entry:=entry A6.Kind.ts A6.Kind.pre A6.Kind.out
def A6.Finite.pre:List Atom→Bool
 | [.i x]=>Af x
 | _=>false
def A6.Finite.out:List Atom→DV
 | [.i x]=>.bool (Dw x)
 | _=>.undef
abbrev A6.Finite.ts:List AT:=[.i .u64]
def A6.Finite.spec:Entry:=entry A6.Finite.ts A6.Finite.pre A6.Finite.out
def A6.Dn.pre:List Atom→Bool
 | [.i x]=>Af x
 | _=>false
def A6.Dn.out:List Atom→DV
 | [.i x]=>.int .u64 (Da x)
 | _=>.undef
abbrev A6.Dn.ts:List AT:=[.i .u64]
def A6.Dn.spec:Entry:=entry A6.Dn.ts A6.Dn.pre A6.Dn.out
def Fc.Canon.pre:List Atom→Bool
 | [.i x]=>Re x
 | _=>false
def Fc.Canon.out:List Atom→DV
 | [.i x]=>.int .u64 (Abx x)
 | _=>.undef
abbrev Fc.Canon.ts:List AT:=[.i .u64]
def Fc.Canon.spec:Entry:=entry Fc.Canon.ts Fc.Canon.pre Fc.Canon.out
def De.B9.pre:List Atom→Bool
 | [.i x]=>Af x
 | _=>false
def De.B9.out:List Atom→DV
 | [.i x]=>.int .i64 (64-F2 x)
 | _=>.undef
abbrev De.B9.ts:List AT:=[.i .u64]
def De.B9.spec:Entry:=entry De.B9.ts De.B9.pre De.B9.out
def De.Ir.pre:List Atom→Bool
 | [.i x,.i y]=>Af x&&Af y
 | _=>false
def De.Ir.out:List Atom→DV
 | [.i x,.i y]=>.tup [.int .u64 (Ub x y),.int .u64 (Pn x y)]
 | _=>.undef
abbrev De.Ir.ts:List AT:=[.i .u64,.i .u64]
def De.Ir.spec:Entry:=entry De.Ir.ts De.Ir.pre De.Ir.out
def times.signed.pre:List Atom→Bool
 | [.i b,.b _n]=>Af b
 | _=>false
def times.signed.out:List Atom→DV
 | [.i b,.b n]=>.int .u64 (T8 n b)
 | _=>.undef
abbrev times.signed.ts:List AT:=[.i .u64,.b]
def times.signed.spec:Entry:=entry times.signed.ts times.signed.pre times.signed.out
def times.nan.pre:List Atom→Bool
 | [.i a,.i b]=>Af a&&Af b
 | _=>false
def times.nan.out:List Atom→DV
 | [.i a,.i b]=>.bool (Ash a b)
 | _=>.undef
abbrev times.nan.ts:List AT:=[.i .u64,.i .u64]
def times.nan.spec:Entry:=entry times.nan.ts times.nan.pre times.nan.out
def times.norm.pre:List Atom→Bool
 | [.i b]=>Af b&&N2 b
 | _=>false
def times.norm.out:List Atom→DV
 | [.i b]=>.tup [.int .u64 (Du b),.int .i64 (I2 b)]
 | _=>.undef
abbrev times.norm.ts:List AT:=[.i .u64]
def times.norm.spec:Entry:=entry times.norm.ts times.norm.pre times.norm.out
def times.wide.pre:List Atom→Bool
 | [.b _n,.i m,.i e,.b _r]=>Q0 m e
 | _=>false
def times.wide.out:List Atom→DV
 | [.b n,.i m,.i e,.b r]=>.tup [.int .u64 (F1 n m e r),.int .u8 (F0 n m e r)]
 | _=>.undef
abbrev times.wide.ts:List AT:=[.b,.i .u64,.i .i64,.b]
def times.wide.spec:Entry:=entry times.wide.ts times.wide.pre times.wide.out
def times.Mul.pre:List Atom→Bool
 | [.i a,.i b]=>Af a&&Af b
 | _=>false
def times.Mul.out:List Atom→DV
 | [.i a,.i b]=>.tup [.int .u64 (Ca a b),.int .u8 (A10 a b)]
 | _=>.undef
abbrev times.Mul.ts:List AT:=[.i .u64,.i .u64]
def times.Mul.spec:Entry:=entry times.Mul.ts times.Mul.pre times.Mul.out
def times.Div.pre:List Atom→Bool
 | [.i a,.i b]=>Af a&&Af b
 | _=>false
def times.Div.out:List Atom→DV
 | [.i a,.i b]=>.tup [.int .u64 (Es a b),.int .u8 (A17 a b)]
 | _=>.undef
abbrev times.Div.ts:List AT:=[.i .u64,.i .u64]
def times.Div.spec:Entry:=entry times.Div.ts times.Div.pre times.Div.out
def Ae.Add.pre:List Atom→Bool
 | [.i a,.i b]=>Af a&&Af b
 | _=>false
def Ae.Add.out:List Atom→DV
 | [.i a,.i b]=>.int .u64 (Dm a b)
 | _=>.undef
abbrev Ae.Add.ts:List AT:=[.i .u64,.i .u64]
def Ae.Add.spec:Entry:=entry Ae.Add.ts Ae.Add.pre Ae.Add.out
def Ae.Sub.pre:List Atom→Bool
 | [.i a,.i b]=>Af a&&Af b
 | _=>false
def Ae.Sub.out:List Atom→DV
 | [.i a,.i b]=>.int .u64 (Gb a b)
 | _=>.undef
abbrev Ae.Sub.ts:List AT:=[.i .u64,.i .u64]
def Ae.Sub.spec:Entry:=entry Ae.Sub.ts Ae.Sub.pre Ae.Sub.out
def Ae.Mul.pre:List Atom→Bool
 | [.i a,.i b]=>Af a&&Af b
 | _=>false
def Ae.Mul.out:List Atom→DV
 | [.i a,.i b]=>.int .u64 (Ca a b)
 | _=>.undef
abbrev Ae.Mul.ts:List AT:=[.i .u64,.i .u64]
def Ae.Mul.spec:Entry:=entry Ae.Mul.ts Ae.Mul.pre Ae.Mul.out
def Ae.fit.pre:List Atom→Bool
 | [.l _x,.l _y]=>true
 | _=>false
def Ae.fit.out:List Atom→DV
 | [.l x,.l y]=>.bool (O5 x y)
 | _=>.undef
abbrev Ae.fit.ts:List AT:=[.s .u64,.s .u64]
def Ae.fit.spec:Entry:=entry Ae.fit.ts Ae.fit.pre Ae.fit.out
def Ae.Iv.pre:List Atom→Bool
 | [.l x,.l y]=>(O5 x y&&Aj x)&&Aj y
 | _=>false
def Ae.Iv.out:List Atom→DV
 | [.l x,.l y]=>.tup [.int .u64 (Ik x y),.int .i64 (0:Int)]
 | _=>.undef
abbrev Ae.Iv.ts:List AT:=[.s .u64,.s .u64]
def Ae.Iv.spec:Entry:=entry Ae.Iv.ts Ae.Iv.pre Ae.Iv.out
def Ah.F.pre:List Atom→Bool
 | [.i x]=>Af x
 | _=>false
def Ah.F.out:List Atom→DV
 | [.i x]=>.fl (toNat x)
 | _=>.undef
abbrev Ah.F.ts:List AT:=[.i .u64]
def Ah.F.spec:Entry:=entry Ah.F.ts Ah.F.pre Ah.F.out
def Ah.B.pre:List Atom→Bool
 | [.f _x]=>true
 | _=>false
def Ah.B.out:List Atom→DV
 | [.f x]=>.int .u64 (Hi x)
 | _=>.undef
abbrev Ah.B.ts:List AT:=[.fl]
def Ah.B.spec:Entry:=entry Ah.B.ts Ah.B.pre Ah.B.out
def Ah.Add.pre:List Atom→Bool
 | [.i a,.i b]=>Af a&&Af b
 | _=>false
def Ah.Add.out:List Atom→DV
 | [.i a,.i b]=>.int .u64 (Dm a b)
 | _=>.undef
abbrev Ah.Add.ts:List AT:=[.i .u64,.i .u64]
def Ah.Add.spec:Entry:=entry Ah.Add.ts Ah.Add.pre Ah.Add.out
def Ah.Sub.pre:List Atom→Bool
 | [.i a,.i b]=>Af a&&Af b
 | _=>false
def Ah.Sub.out:List Atom→DV
 | [.i a,.i b]=>.int .u64 (Gb a b)
 | _=>.undef
abbrev Ah.Sub.ts:List AT:=[.i .u64,.i .u64]
def Ah.Sub.spec:Entry:=entry Ah.Sub.ts Ah.Sub.pre Ah.Sub.out
def Ah.Mul.pre:List Atom→Bool
 | [.i a,.i b]=>Af a&&Af b
 | _=>false
def Ah.Mul.out:List Atom→DV
 | [.i a,.i b]=>.int .u64 (Ca a b)
 | _=>.undef
abbrev Ah.Mul.ts:List AT:=[.i .u64,.i .u64]
def Ah.Mul.spec:Entry:=entry Ah.Mul.ts Ah.Mul.pre Ah.Mul.out
def Ah.Iv.pre:List Atom→Bool
 | [.l x,.l y]=>(O5 x y&&Aj x)&&Aj y
 | _=>false
def Ah.Iv.out:List Atom→DV
 | [.l x,.l y]=>.int .u64 (Ik x y)
 | _=>.undef
abbrev Ah.Iv.ts:List AT:=[.s .u64,.s .u64]
def Ah.Iv.spec:Entry:=entry Ah.Iv.ts Ah.Iv.pre Ah.Iv.out
def Ah.Fg.pre:List Atom→Bool
 | [.l x,.l _y]=>Aao x
 | _=>false
def Ah.Fg.out:List Atom→DV
 | [.l x,.l y]=>.bool (Vw x y)
 | _=>.undef
abbrev Ah.Fg.ts:List AT:=[.s .u64,.s .u64]
def Ah.Fg.spec:Entry:=entry Ah.Fg.ts Ah.Fg.pre Ah.Fg.out
def Aa.size.pre:List Atom→Bool
 | [.i _n]=>true
 | _=>false
def Aa.size.out:List Atom→DV
 | [.i n]=>.bool (Bp n)
 | _=>.undef
abbrev Aa.size.ts:List AT:=[.i .i64]
def Aa.size.spec:Entry:=entry Aa.size.ts Aa.size.pre Aa.size.out
def Aa.Check.pre:List Atom→Bool
 | [.i _r,.i _c,.l _l]=>true
 | _=>false
def Aa.Check.out:List Atom→DV
 | [.i r,.i c,.l l]=>.int .i64 (Lt r c l)
 | _=>.undef
abbrev Aa.Check.ts:List AT:=[.st [.i .i64,.i .i64,.s .u64]]
def Aa.Check.spec:Entry:=entry Aa.Check.ts Aa.Check.pre Aa.Check.out
def Aa.get.pre:List Atom→Bool
 | [.i r,.i c,.l l,.i i,.i k]=>Em r c l i k
 | _=>false
def Aa.get.out:List Atom→DV
 | [.i _r,.i c,.l l,.i i,.i k]=>.int .u64 (D8 c l i k)
 | _=>.undef
abbrev Aa.get.ts:List AT:=[.st [.i .i64,.i .i64,.s .u64],.i .i64,.i .i64]
def Aa.get.spec:Entry:=entry Aa.get.ts Aa.get.pre Aa.get.out
def Aa.two.pre:List Atom→Bool
 | [.i _r,.i _c,.l _l,.i _p,.i _q,.l _m]=>true
 | _=>false
def Aa.two.out:List Atom→DV
 | [.i r,.i c,.l l,.i p,.i q,.l m]=>.int .i64 (Xb r c l p q m)
 | _=>.undef
abbrev Aa.two.ts:List AT:=[.st [.i .i64,.i .i64,.s .u64],.st [.i .i64,.i .i64,.s .u64]]
def Aa.two.spec:Entry:=entry Aa.two.ts Aa.two.pre Aa.two.out
def Aa.Row.pre:List Atom→Bool
 | [.i r,.i c,.l l,.i i,.i f]=>Ae2 r c l i&&decide (f=0)
 | _=>false
def Aa.Row.out:List Atom→DV
 | [.i _r,.i c,.l l,.i i,.i _f]=>.ints .fresh .u64 (Q7 c l i)
 | _=>.undef
abbrev Aa.Row.ts:List AT:=[.st [.i .i64,.i .i64,.s .u64],.i .i64,.i .i64]
def Aa.Row.spec:Entry:=entry Aa.Row.ts Aa.Row.pre Aa.Row.out
def Aa.D3.pre:List Atom→Bool
 | [.i r,.i c,.l l,.i k,.i f]=>Hh r c l k&&B3 (0≤f∧f≤r)
 | _=>false
def Aa.D3.out:List Atom→DV
 | [.i r,.i c,.l l,.i k,.i f]=>.ints .fresh .u64 (Cn c l k f (toNat (r-f)))
 | _=>.undef
abbrev Aa.D3.ts:List AT:=[.st [.i .i64,.i .i64,.s .u64],.i .i64,.i .i64]
def Aa.D3.spec:Entry:=entry Aa.D3.ts Aa.D3.pre Aa.D3.out
def Aa.Ez.pre:List Atom→Bool
 | [.i _i,.i _k]=>true
 | _=>false
def Aa.Ez.out:List Atom→DV
 | [.i _i,.i _k]=>.int .u64 (0:Int)
 | _=>.undef
abbrev Aa.Ez.ts:List AT:=[.i .i64,.i .i64]
def Aa.Ez.spec:Entry:=entry Aa.Ez.ts Aa.Ez.pre Aa.Ez.out
def Aa.Iu.pre:List Atom→Bool
 | [.i _i,.i _k]=>true
 | _=>false
def Aa.Iu.out:List Atom→DV
 | [.i i,.i k]=>.int .u64 (N7 i k)
 | _=>.undef
abbrev Aa.Iu.ts:List AT:=[.i .i64,.i .i64]
def Aa.Iu.spec:Entry:=entry Aa.Iu.ts Aa.Iu.pre Aa.Iu.out
def Aa.Gl.pre:List Atom→Bool
 | [.i i,.i k,.i r,.i c,.l l]=>Em r c l k i
 | _=>false
def Aa.Gl.out:List Atom→DV
 | [.i i,.i k,.i _r,.i c,.l l]=>.int .u64 (D8 c l k i)
 | _=>.undef
abbrev Aa.Gl.ts:List AT:=[.i .i64,.i .i64,.cp [.i .i64,.i .i64,.s .u64]]
def Aa.Gl.spec:Entry:=entry Aa.Gl.ts Aa.Gl.pre Aa.Gl.out
def Aa.Gm.pre:List Atom→Bool
 | [.i i,.i k,.i r,.i c,.l l,.i x,.i y]=>Em r c l (x+i) (y+k)&&Z6 x y i k
 | _=>false
def Aa.Gm.out:List Atom→DV
 | [.i i,.i k,.i _r,.i c,.l l,.i x,.i y]=>.int .u64 (D8 c l (x+i) (y+k))
 | _=>.undef
abbrev Aa.Gm.ts:List AT:=[.i .i64,.i .i64,.cp [.i .i64,.i .i64,.s .u64],.cp [.i .i64],.cp [.i .i64]]
def Aa.Gm.spec:Entry:=entry Aa.Gm.ts Aa.Gm.pre Aa.Gm.out
def Aa.E7.pre:List Atom→Bool
 | [.i i,.i k,.i r,.i c,.l l,.i p,.i q,.l m]=>Qd r c l p q m i k
 | _=>false
def Aa.E7.out:List Atom→DV
 | [.i i,.i k,.i r,.i c,.l l,.i _p,.i q,.l m]=>.int .u64 (Jr r c l q m i k)
 | _=>.undef
abbrev Aa.E7.ts:List AT:=[.i .i64,.i .i64,.cp [.i .i64,.i .i64,.s .u64],.cp [.i .i64,.i .i64,.s .u64]]
def Aa.E7.spec:Entry:=entry Aa.E7.ts Aa.E7.pre Aa.E7.out
def Aa.Iq.pre:List Atom→Bool
 | [.i i,.i k,.i r,.i c,.l l,.i p,.i q,.l m]=>Xw r c l p q m i k
 | _=>false
def Aa.Iq.out:List Atom→DV
 | [.i i,.i k,.i _r,.i c,.l l,.i p,.i q,.l m]=>.int .u64 (Ik (Q7 c l i) (U9 p q m k))
 | _=>.undef
abbrev Aa.Iq.ts:List AT:=[.i .i64,.i .i64,.cp [.i .i64,.i .i64,.s .u64],.cp [.i .i64,.i .i64,.s .u64]]
def Aa.Iq.spec:Entry:=entry Aa.Iq.ts Aa.Iq.pre Aa.Iq.out
def Aa.of.A9.pre:List Atom→Bool
 | [.i a,.i b]=>(Bp a&&Bp b)
 | _=>false
def Aa.of.A9.out:List Atom→DV
 | [.i a,.i b]=>.agg [.int .i64 a,.int .i64 b,.ints .fresh .u64 (B8 (toNat a) (toNat b) (fun _ _=>0))]
 | _=>.undef
abbrev Aa.of.A9.ts:List AT:=[.i .i64,.i .i64,.fn 193 []]
def Aa.of.A9.spec:Entry:=entry Aa.of.A9.ts Aa.of.A9.pre Aa.of.A9.out
def Aa.of.Ff.pre:List Atom→Bool
 | [.i a,.i b]=>(Bp a&&Bp b)
 | _=>false
def Aa.of.Ff.out:List Atom→DV
 | [.i a,.i b]=>.agg [.int .i64 a,.int .i64 b,.ints .fresh .u64 (B8 (toNat a) (toNat b) (fun j1 j2=>N7 j1 j2))]
 | _=>.undef
abbrev Aa.of.Ff.ts:List AT:=[.i .i64,.i .i64,.fn 168 []]
def Aa.of.Ff.spec:Entry:=entry Aa.of.Ff.ts Aa.of.Ff.pre Aa.of.Ff.out
def Aa.of.Cv.pre:List Atom→Bool
 | [.i a,.i b,.i r,.i c,.l l]=>(Bp a&&Bp b)&&A3 r c l&&decide (a=c∧b=r)
 | _=>false
def Aa.of.Cv.out:List Atom→DV
 | [.i a,.i b,.i _r,.i c,.l l]=>.agg [.int .i64 a,.int .i64 b,.ints .fresh .u64 (B8 (toNat a) (toNat b) (fun j1 j2=>D8 c l j2 j1))]
 | _=>.undef
abbrev Aa.of.Cv.ts:List AT:=[.i .i64,.i .i64,.fn 232 [.cp [.i .i64,.i .i64,.s .u64]]]
def Aa.of.Cv.spec:Entry:=entry Aa.of.Cv.ts Aa.of.Cv.pre Aa.of.Cv.out
def Aa.of.Part.pre:List Atom→Bool
 | [.i a,.i b,.i r,.i c,.l l,.i x,.i y]=>(Bp a&&Bp b)&&A3 r c l&&Rx r c x y a b
 | _=>false
def Aa.of.Part.out:List Atom→DV
 | [.i a,.i b,.i _r,.i c,.l l,.i x,.i y]=>.agg [.int .i64 a,.int .i64 b,.ints .fresh .u64 (B8 (toNat a) (toNat b) (fun j1 j2=>D8 c l (x+j1) (y+j2)))]
 | _=>.undef
abbrev Aa.of.Part.ts:List AT:=[.i .i64,.i .i64,.fn 122 [.cp [.i .i64,.i .i64,.s .u64],.cp [.i .i64],.cp [.i .i64]]]
def Aa.of.Part.spec:Entry:=entry Aa.of.Part.ts Aa.of.Part.pre Aa.of.Part.out
def Aa.of.Stack.pre:List Atom→Bool
 | [.i a,.i b,.i r,.i c,.l l,.i p,.i q,.l m]=>(Bp a&&Bp b)&&(A3 r c l&&A3 p q m)&&decide (a=r+p∧b=c∧q=c)
 | _=>false
def Aa.of.Stack.out:List Atom→DV
 | [.i a,.i b,.i r,.i c,.l l,.i _p,.i q,.l m]=>.agg [.int .i64 a,.int .i64 b,.ints .fresh .u64 (B8 (toNat a) (toNat b) (fun j1 j2=>Jr r c l q m j1 j2))]
 | _=>.undef
abbrev Aa.of.Stack.ts:List AT:=[.i .i64,.i .i64,.fn 118 [.cp [.i .i64,.i .i64,.s .u64],.cp [.i .i64,.i .i64,.s .u64]]]
def Aa.of.Stack.spec:Entry:=entry Aa.of.Stack.ts Aa.of.Stack.pre Aa.of.Stack.out
def Aa.of.Mul.pre:List Atom→Bool
 | [.i a,.i b,.i r,.i c,.l l,.i p,.i q,.l m]=>(Bp a&&Bp b)&&((A3 r c l&&A3 p q m)&&(Aj l&&Aj m))&&decide (a=r∧b=q∧c=p)
 | _=>false
def Aa.of.Mul.out:List Atom→DV
 | [.i a,.i b,.i _r,.i c,.l l,.i p,.i q,.l m]=>.agg [.int .i64 a,.int .i64 b,.ints .fresh .u64 (B8 (toNat a) (toNat b) (fun j1 j2=>Ik (Q7 c l j1) (U9 p q m j2)))]
 | _=>.undef
abbrev Aa.of.Mul.ts:List AT:=[.i .i64,.i .i64,.fn 133 [.cp [.i .i64,.i .i64,.s .u64],.cp [.i .i64,.i .i64,.s .u64]]]
def Aa.of.Mul.spec:Entry:=entry Aa.of.Mul.ts Aa.of.Mul.pre Aa.of.Mul.out
def Aa.A9.pre:List Atom→Bool
 | [.i _a,.i _b]=>true
 | _=>false
def Aa.A9.out:List Atom→DV
 | [.i a,.i b]=>.tup [.agg [.int .i64 ((Dr a b).1),.int .i64 ((Dr a b).2.1),.ints .fresh .u64 ((Dr a b).2.2.1)],.int .i64 ((Dr a b).2.2.2)]
 | _=>.undef
abbrev Aa.A9.ts:List AT:=[.i .i64,.i .i64]
def Aa.A9.spec:Entry:=entry Aa.A9.ts Aa.A9.pre Aa.A9.out
def Aa.Ff.pre:List Atom→Bool
 | [.i _n]=>true
 | _=>false
def Aa.Ff.out:List Atom→DV
 | [.i n]=>.tup [.agg [.int .i64 ((Pf n).1),.int .i64 ((Pf n).2.1),.ints .fresh .u64 ((Pf n).2.2.1)],.int .i64 ((Pf n).2.2.2)]
 | _=>.undef
abbrev Aa.Ff.ts:List AT:=[.i .i64]
def Aa.Ff.spec:Entry:=entry Aa.Ff.ts Aa.Ff.pre Aa.Ff.out
def Aa.Cv.pre:List Atom→Bool
 | [.i _r,.i _c,.l _l]=>true
 | _=>false
def Aa.Cv.out:List Atom→DV
 | [.i r,.i c,.l l]=>.tup [.agg [.int .i64 ((Ds r c l).1),.int .i64 ((Ds r c l).2.1),.ints .fresh .u64 ((Ds r c l).2.2.1)],.int .i64 ((Ds r c l).2.2.2)]
 | _=>.undef
abbrev Aa.Cv.ts:List AT:=[.st [.i .i64,.i .i64,.s .u64]]
def Aa.Cv.spec:Entry:=entry Aa.Cv.ts Aa.Cv.pre Aa.Cv.out
def Aa.Part.pre:List Atom→Bool
 | [.i _r,.i _c,.l _l,.i _x,.i _y,.i _a,.i _b]=>true
 | _=>false
def Aa.Part.out:List Atom→DV
 | [.i r,.i c,.l l,.i x,.i y,.i a,.i b]=>.tup [.agg [.int .i64 ((Kf r c l x y a b).1),.int .i64 ((Kf r c l x y a b).2.1),.ints .fresh .u64 ((Kf r c l x y a b).2.2.1)],.int .i64 ((Kf r c l x y a b).2.2.2)]
 | _=>.undef
abbrev Aa.Part.ts:List AT:=[.st [.i .i64,.i .i64,.s .u64],.i .i64,.i .i64,.i .i64,.i .i64]
def Aa.Part.spec:Entry:=entry Aa.Part.ts Aa.Part.pre Aa.Part.out
def Aa.Stack.pre:List Atom→Bool
 | [.i _r,.i _c,.l _l,.i _p,.i _q,.l _m]=>true
 | _=>false
def Aa.Stack.out:List Atom→DV
 | [.i r,.i c,.l l,.i p,.i q,.l m]=>.tup [.agg [.int .i64 ((E0 r c l p q m).1),.int .i64 ((E0 r c l p q m).2.1),.ints .fresh .u64 ((E0 r c l p q m).2.2.1)],.int .i64 ((E0 r c l p q m).2.2.2)]
 | _=>.undef
abbrev Aa.Stack.ts:List AT:=[.st [.i .i64,.i .i64,.s .u64],.st [.i .i64,.i .i64,.s .u64]]
def Aa.Stack.spec:Entry:=entry Aa.Stack.ts Aa.Stack.pre Aa.Stack.out
def Aa.Mul.pre:List Atom→Bool
 | [.i _r,.i _c,.l l,.i _p,.i _q,.l m]=>Aj l&&Aj m
 | _=>false
def Aa.Mul.out:List Atom→DV
 | [.i r,.i c,.l l,.i p,.i q,.l m]=>.tup [.agg [.int .i64 ((Xv r c l p q m).1),.int .i64 ((Xv r c l p q m).2.1),.ints .fresh .u64 ((Xv r c l p q m).2.2.1)],.int .i64 ((Xv r c l p q m).2.2.2)]
 | _=>.undef
abbrev Aa.Mul.ts:List AT:=[.st [.i .i64,.i .i64,.s .u64],.st [.i .i64,.i .i64,.s .u64]]
def Aa.Mul.spec:Entry:=entry Aa.Mul.ts Aa.Mul.pre Aa.Mul.out
def Am.Ip.pre:List Atom→Bool
 | [.i _r,.i _c,.l _l]=>true
 | _=>false
def Am.Ip.out:List Atom→DV
 | [.i r,.i c,.l l]=>.bool (A3 r c l)
 | _=>.undef
abbrev Am.Ip.ts:List AT:=[.st [.i .i64,.i .i64,.s .u64]]
def Am.Ip.spec:Entry:=entry Am.Ip.ts Am.Ip.pre Am.Ip.out
def Am.At.pre:List Atom→Bool
 | [.i r,.i c,.l l,.i i,.i k]=>Em r c l i k
 | _=>false
def Am.At.out:List Atom→DV
 | [.i _r,.i c,.l l,.i i,.i k]=>.int .u64 (D8 c l i k)
 | _=>.undef
abbrev Am.At.ts:List AT:=[.st [.i .i64,.i .i64,.s .u64],.i .i64,.i .i64]
def Am.At.spec:Entry:=entry Am.At.ts Am.At.pre Am.At.out
def Am.A9.pre:List Atom→Bool
 | [.i a,.i b]=>Bp a&&Bp b
 | _=>false
def Am.A9.out:List Atom→DV
 | [.i a,.i b]=>.agg [.int .i64 a,.int .i64 b,.ints .fresh .u64 (B8 (toNat a) (toNat b) (fun _ _=>0))]
 | _=>.undef
abbrev Am.A9.ts:List AT:=[.i .i64,.i .i64]
def Am.A9.spec:Entry:=entry Am.A9.ts Am.A9.pre Am.A9.out
def Am.Hj.pre:List Atom→Bool
 | [.i r,.i c,.l l,.i i,.i k,.i _b]=>Em r c l i k
 | _=>false
def Am.Hj.out:List Atom→DV
 | [.i r,.i c,.l l,.i i,.i k,.i b]=>.agg [.int .i64 r,.int .i64 c,.ints .fresh .u64 (List.set l (toNat (i*c+k)) b)]
 | _=>.undef
abbrev Am.Hj.ts:List AT:=[.st [.i .i64,.i .i64,.s .u64],.i .i64,.i .i64,.i .u64]
def Am.Hj.spec:Entry:=entry Am.Hj.ts Am.Hj.pre Am.Hj.out
def Am.Ff.pre:List Atom→Bool
 | [.i n]=>Bp n
 | _=>false
def Am.Ff.out:List Atom→DV
 | [.i n]=>.agg [.int .i64 n,.int .i64 n,.ints .fresh .u64 (B8 (toNat n) (toNat n) (fun j1 j2=>N7 j1 j2))]
 | _=>.undef
abbrev Am.Ff.ts:List AT:=[.i .i64]
def Am.Ff.spec:Entry:=entry Am.Ff.ts Am.Ff.pre Am.Ff.out
def Am.Fg.pre:List Atom→Bool
 | [.i _r,.i _c,.l l,.i _p,.i _q,.l _m]=>Aao l
 | _=>false
def Am.Fg.out:List Atom→DV
 | [.i r,.i c,.l l,.i p,.i q,.l m]=>.bool (Yl r c l p q m)
 | _=>.undef
abbrev Am.Fg.ts:List AT:=[.st [.i .i64,.i .i64,.s .u64],.st [.i .i64,.i .i64,.s .u64]]
def Am.Fg.spec:Entry:=entry Am.Fg.ts Am.Fg.pre Am.Fg.out
def Am.Row.pre:List Atom→Bool
 | [.i r,.i c,.l l,.i i]=>Ae2 r c l i
 | _=>false
def Am.Ru.pre:List Atom→Bool
 | [.i r,.i c,.l l,.i k,.i f]=>Hh r c l k&&B3 (0≤f∧f≤r)
 | _=>false
def Am.Ru.out:List Atom→DV
 | [.i r,.i c,.l l,.i k,.i f]=>.ints .fresh .u64 (Cn c l k f (toNat (r-f)))
 | _=>.undef
abbrev Am.Ru.ts:List AT:=[.st [.i .i64,.i .i64,.s .u64],.i .i64,.i .i64]
def Am.Ru.spec:Entry:=entry Am.Ru.ts Am.Ru.pre Am.Ru.out
def Am.Cv.pre:List Atom→Bool
 | [.i r,.i c,.l l]=>A3 r c l
 | _=>false
def Am.Cv.out:List Atom→DV
 | [.i r,.i c,.l l]=>.agg [.int .i64 c,.int .i64 r,.ints .fresh .u64 (B8 (toNat c) (toNat r) (fun j1 j2=>D8 c l j2 j1))]
 | _=>.undef
abbrev Am.Cv.ts:List AT:=[.st [.i .i64,.i .i64,.s .u64]]
def Am.Cv.spec:Entry:=entry Am.Cv.ts Am.Cv.pre Am.Cv.out
def Ag.Kc.pre:List Atom→Bool
 | [.l l,.i _i]=>Lf l
 | _=>false
def Ag.Kc.out:List Atom→DV
 | [.l l,.i i]=>.int .u64 (Ii l i)
 | _=>.undef
abbrev Ag.Kc.ts:List AT:=[.s .u32,.i .i64]
def Ag.Kc.spec:Entry:=entry Ag.Kc.ts Ag.Kc.pre Ag.Kc.out
def Ag.Made.pre:List Atom→Bool
 | [.b _n,.l l]=>Lf l
 | _=>false
def Ag.Made.out:List Atom→DV
 | [.b n,.l l]=>.agg [.bool (Bu (wv n l)),.ints .arg .u32 (Aw (wv n l))]
 | _=>.undef
abbrev Ag.Made.ts:List AT:=[.b,.s .u32]
def Ag.Made.spec:Entry:=entry Ag.Made.ts Ag.Made.pre Ag.Made.out
def Ag.Of.pre:List Atom→Bool
 | [.i n]=>Amk n
 | _=>false
def Ag.Of.out:List Atom→DV
 | [.i n]=>.agg [.bool (Bu (n)),.ints .arg .u32 (Aw (n))]
 | _=>.undef
abbrev Ag.Of.ts:List AT:=[.i .i64]
def Ag.Of.spec:Entry:=entry Ag.Of.ts Ag.Of.pre Ag.Of.out
def Ag.Jf.pre:List Atom→Bool
 | [.l a,.l b]=>Lf a&&Lf b
 | _=>false
def Ag.Jf.out:List Atom→DV
 | [.l a,.l b]=>.int .i64 (X7 (C1 a) (C1 b))
 | _=>.undef
abbrev Ag.Jf.ts:List AT:=[.s .u32,.s .u32]
def Ag.Jf.spec:Entry:=entry Ag.Jf.ts Ag.Jf.pre Ag.Jf.out
def Ag.plus.pre:List Atom→Bool
 | [.l a,.l b]=>Lf a&&Lf b
 | _=>false
def Ag.plus.out:List Atom→DV
 | [.l a,.l b]=>.ints .arg .u32 (M5 a b)
 | _=>.undef
abbrev Ag.plus.ts:List AT:=[.s .u32,.s .u32]
def Ag.plus.spec:Entry:=entry Ag.plus.ts Ag.plus.pre Ag.plus.out
def Ag.minus.pre:List Atom→Bool
 | [.l a,.l b]=>(Lf a&&Lf b)&&leL b a
 | _=>false
def Ag.minus.out:List Atom→DV
 | [.l a,.l b]=>.ints .arg .u32 (Jx a b)
 | _=>.undef
abbrev Ag.minus.ts:List AT:=[.s .u32,.s .u32]
def Ag.minus.spec:Entry:=entry Ag.minus.ts Ag.minus.pre Ag.minus.out
def Ag.Add.pre:List Atom→Bool
 | [.b n,.l a,.b m,.l b]=>Og n a&&Og m b
 | _=>false
def Ag.Add.out:List Atom→DV
 | [.b n,.l a,.b m,.l b]=>.agg [.bool (Bu (wv n a+wv m b)),.ints .arg .u32 (Aw (wv n a+wv m b))]
 | _=>.undef
abbrev Ag.Add.ts:List AT:=[.st [.b,.s .u32],.st [.b,.s .u32]]
def Ag.Add.spec:Entry:=entry Ag.Add.ts Ag.Add.pre Ag.Add.out
def Ag.Neg.pre:List Atom→Bool
 | [.b n,.l a]=>Og n a
 | _=>false
def Ag.Neg.out:List Atom→DV
 | [.b n,.l a]=>.agg [.bool (Bu (- wv n a)),.ints .arg .u32 (Aw (- wv n a))]
 | _=>.undef
abbrev Ag.Neg.ts:List AT:=[.st [.b,.s .u32]]
def Ag.Neg.spec:Entry:=entry Ag.Neg.ts Ag.Neg.pre Ag.Neg.out
def Ag.Gq.pre:List Atom→Bool
 | [.b n,.l a]=>Og n a
 | _=>false
def Ag.Gq.out:List Atom→DV
 | [.b n,.l a]=>.agg [.bool (Bu (2*wv n a)),.ints .arg .u32 (Aw (2*wv n a))]
 | _=>.undef
abbrev Ag.Gq.ts:List AT:=[.st [.b,.s .u32]]
def Ag.Gq.spec:Entry:=entry Ag.Gq.ts Ag.Gq.pre Ag.Gq.out
def Ag.Ix.pre:List Atom→Bool
 | [.b n,.l a]=>Og n a
 | _=>false
def Ag.Ix.out:List Atom→DV
 | [.b n,.l a]=>.agg [.bool (Bu (Mm (wv n a) 1)),.ints .arg .u32 (Aw (Mm (wv n a) 1))]
 | _=>.undef
abbrev Ag.Ix.ts:List AT:=[.st [.b,.s .u32]]
def Ag.Ix.spec:Entry:=entry Ag.Ix.ts Ag.Ix.pre Ag.Ix.out
def Ag.Br.pre:List Atom→Bool
 | [.b n,.l a,.i k]=>okV n a&&Aze k
 | _=>false
def Ag.Br.out:List Atom→DV
 | [.b n,.l a,.i k]=>.agg [.bool (Bu (Jo (wv n a) k)),.ints .arg .u32 (Aw (Jo (wv n a) k))]
 | _=>.undef
abbrev Ag.Br.ts:List AT:=[.st [.b,.s .u32],.i .i64]
def Ag.Br.spec:Entry:=entry Ag.Br.ts Ag.Br.pre Ag.Br.out
def Ag.R1.pre:List Atom→Bool
 | [.b n,.l a]=>Og n a
 | _=>false
def Ag.R1.out:List Atom→DV
 | [.b n,.l a]=>.int .i64 (Aa5 (wv n a))
 | _=>.undef
abbrev Ag.R1.ts:List AT:=[.st [.b,.s .u32]]
def Ag.R1.spec:Entry:=entry Ag.R1.ts Ag.R1.pre Ag.R1.out
def Ag.Yb.pre:List Atom→Bool
 | [.b n,.l a]=>Og n a
 | _=>false
def Ag.Yb.out:List Atom→DV
 | [.b n,.l a]=>.bool (Aon (wv n a))
 | _=>.undef
abbrev Ag.Yb.ts:List AT:=[.st [.b,.s .u32]]
def Ag.Yb.spec:Entry:=entry Ag.Yb.ts Ag.Yb.pre Ag.Yb.out
def A0.Of.pre:List Atom→Bool
 | [.b n,.l a,.i e]=>Og n a&&Afb e
 | _=>false
def A0.Of.out:List Atom→DV
 | [.b n,.l a,.i e]=>.agg [.bool (Bu (mD (wv n a))),.ints .arg .u32 (Aw (mD (wv n a))),.int .i64 (eD (wv n a) e)]
 | _=>.undef
abbrev A0.Of.ts:List AT:=[.st [.b,.s .u32],.i .i64]
def A0.Of.spec:Entry:=entry A0.Of.ts A0.Of.pre A0.Of.out
def A0.Neg.pre:List Atom→Bool
 | [.b n,.l a,.i _e]=>Og n a
 | _=>false
def A0.Neg.out:List Atom→DV
 | [.b n,.l a,.i e]=>.agg [.bool (Bu (- wv n a)),.ints .arg .u32 (Aw (- wv n a)),.int .i64 e]
 | _=>.undef
abbrev A0.Neg.ts:List AT:=[.st [.b,.s .u32,.i .i64]]
def A0.Neg.spec:Entry:=entry A0.Neg.ts A0.Neg.pre A0.Neg.out
def A0.Yc.pre:List Atom→Bool
 | [.b n,.l a,.i _e,.b m,.l b,.i _f]=>Og n a&&Og m b
 | _=>false
def A0.Yc.out:List Atom→DV
 | [.b n,.l a,.i e,.b m,.l b,.i f]=>.int .i64 (Ec (wv n a) e (wv m b) f)
 | _=>.undef
abbrev A0.Yc.ts:List AT:=[.st [.b,.s .u32,.i .i64],.st [.b,.s .u32,.i .i64]]
def A0.Yc.spec:Entry:=entry A0.Yc.ts A0.Yc.pre A0.Yc.out
def A0.Level.pre:List Atom→Bool
 | [.b n,.l a,.i e,.i f]=>okV n a&&Aom (wv n a) e f
 | _=>false
def A0.Level.out:List Atom→DV
 | [.b n,.l a,.i e,.i f]=>.agg [.bool (Bu (Jo (wv n a) (e-f))),.ints .arg .u32 (Aw (Jo (wv n a) (e-f)))]
 | _=>.undef
abbrev A0.Level.ts:List AT:=[.st [.b,.s .u32,.i .i64],.i .i64]
def A0.Level.spec:Entry:=entry A0.Level.ts A0.Level.pre A0.Level.out
def A0.Add.pre:List Atom→Bool
 | [.b n,.l a,.i e,.b m,.l b,.i f]=>((okV n a&&okV m b)&&okE e)&&okE f
 | _=>false
def A0.Add.out:List Atom→DV
 | [.b n,.l a,.i e,.b m,.l b,.i f]=>.agg [.bool (Bu (S4 (wv n a) e (wv m b) f)),.ints .arg .u32 (Aw (S4 (wv n a) e (wv m b) f)),.int .i64 (Aui (wv n a) e (wv m b) f)]
 | _=>.undef
abbrev A0.Add.ts:List AT:=[.st [.b,.s .u32,.i .i64],.st [.b,.s .u32,.i .i64]]
def A0.Add.spec:Entry:=entry A0.Add.ts A0.Add.pre A0.Add.out
def A0.Sub.pre:List Atom→Bool
 | [.b n,.l a,.i e,.b m,.l b,.i f]=>((okV n a&&okV m b)&&okE e)&&okE f
 | _=>false
def A0.Sub.out:List Atom→DV
 | [.b n,.l a,.i e,.b m,.l b,.i f]=>.agg [.bool (Bu (S4 (wv n a) e (- wv m b) f)),.ints .arg .u32 (Aw (S4 (wv n a) e (- wv m b) f)),.int .i64 (Aui (wv n a) e (- wv m b) f)]
 | _=>.undef
abbrev A0.Sub.ts:List AT:=[.st [.b,.s .u32,.i .i64],.st [.b,.s .u32,.i .i64]]
def A0.Sub.spec:Entry:=entry A0.Sub.ts A0.Sub.pre A0.Sub.out
def A0.W7.pre:List Atom→Bool
 | [.b n,.l a,.i e]=>Og n a&&okE e
 | _=>false
def A0.W7.out:List Atom→DV
 | [.b n,.l a,.i e]=>.int .i64 (Jq (wv n a) e)
 | _=>.undef
abbrev A0.W7.ts:List AT:=[.st [.b,.s .u32,.i .i64]]
def A0.W7.spec:Entry:=entry A0.W7.ts A0.W7.pre A0.W7.out
def A0.Sign.pre:List Atom→Bool
 | [.b n,.l a,.i _e]=>Og n a
 | _=>false
def A0.Sign.out:List Atom→DV
 | [.b n,.l a,.i _e]=>.int .i64 (Pc (wv n a))
 | _=>.undef
abbrev A0.Sign.ts:List AT:=[.st [.b,.s .u32,.i .i64]]
def A0.Sign.spec:Entry:=entry A0.Sign.ts A0.Sign.pre A0.Sign.out
def A0.Compare.pre:List Atom→Bool
 | [.b n,.l a,.i e,.b m,.l b,.i f]=>((okV n a&&okV m b)&&okE e)&&okE f
 | _=>false
def A0.Compare.out:List Atom→DV
 | [.b n,.l a,.i e,.b m,.l b,.i f]=>.int .i64 (Za (wv n a) e (wv m b) f)
 | _=>.undef
abbrev A0.Compare.ts:List AT:=[.st [.b,.s .u32,.i .i64],.st [.b,.s .u32,.i .i64]]
def A0.Compare.spec:Entry:=entry A0.Compare.ts A0.Compare.pre A0.Compare.out
def A6.Value.pre:List Atom→Bool
 | [.i x]=>Af x
 | _=>false
def A6.Value.out:List Atom→DV
 | [.i x]=>.agg [.bool (Bu (mD (F8 x))),.ints .arg .u32 (Aw (mD (F8 x))),.int .i64 (eD (F8 x) (Bo x))]
 | _=>.undef
abbrev A6.Value.ts:List AT:=[.i .u64]
def A6.Value.spec:Entry:=entry A6.Value.ts A6.Value.pre A6.Value.out
def compare.Ma.pre:List Atom→Bool
 | [.i b]=>Af b
 | _=>false
def compare.Ma.out:List Atom→DV
 | [.i b]=>.int .i64 (Ac9 b)
 | _=>.undef
abbrev compare.Ma.ts:List AT:=[.i .u64]
def compare.Ma.spec:Entry:=entry compare.Ma.ts compare.Ma.pre compare.Ma.out
def compare.Order.pre:List Atom→Bool
 | [.i a,.i b]=>Af a&&Af b
 | _=>false
def compare.Order.out:List Atom→DV
 | [.i a,.i b]=>.tup [.int .i64 (G7 a b),.bool (Nu a b)]
 | _=>.undef
abbrev compare.Order.ts:List AT:=[.i .u64,.i .u64]
def compare.Order.spec:Entry:=entry compare.Order.ts compare.Order.pre compare.Order.out
def compare.K3.pre:List Atom→Bool
 | [.i a,.i b]=>Af a&&Af b
 | _=>false
def compare.K3.out:List Atom→DV
 | [.i a,.i b]=>.bool (decide (G7 a b<0))
 | _=>.undef
abbrev compare.K3.ts:List AT:=[.i .u64,.i .u64]
def compare.K3.spec:Entry:=entry compare.K3.ts compare.K3.pre compare.K3.out
def compare.Hn.pre:List Atom→Bool
 | [.i a]=>Af a
 | _=>false
def compare.Hn.out:List Atom→DV
 | [.i a]=>.int .u64 (Gj a)
 | _=>.undef
abbrev compare.Hn.ts:List AT:=[.i .u64]
def compare.Hn.spec:Entry:=entry compare.Hn.ts compare.Hn.pre compare.Hn.out
def compare.Fv.pre:List Atom→Bool
 | [.i a,.i n]=>Dd a n
 | _=>false
def compare.Fv.out:List Atom→DV
 | [.i a,.i n]=>.tup [.int .u64 (Bf a n),.int .u8 (Avk a n)]
 | _=>.undef
abbrev compare.Fv.ts:List AT:=[.i .u64,.i .i64]
def compare.Fv.spec:Entry:=entry compare.Fv.ts compare.Fv.pre compare.Fv.out
def Ae.Br.pre:List Atom→Bool
 | [.i a,.i n]=>Dd a n
 | _=>false
def Ae.Br.out:List Atom→DV
 | [.i a,.i n]=>.int .u64 (Bf a n)
 | _=>.undef
abbrev Ae.Br.ts:List AT:=[.i .u64,.i .i64]
def Ae.Br.spec:Entry:=entry Ae.Br.ts Ae.Br.pre Ae.Br.out
def Ae.Div.pre:List Atom→Bool
 | [.i a,.i b]=>Af a&&Af b
 | _=>false
def Ae.Div.out:List Atom→DV
 | [.i a,.i b]=>.int .u64 (Es a b)
 | _=>.undef
abbrev Ae.Div.ts:List AT:=[.i .u64,.i .u64]
def Ae.Div.spec:Entry:=entry Ae.Div.ts Ae.Div.pre Ae.Div.out
def Ae.Bv.pre:List Atom→Bool
 | [.l x]=>B4 x
 | _=>false
def Ae.Bv.out:List Atom→DV
 | [.l x]=>.int .u64 (Bw x)
 | _=>.undef
abbrev Ae.Bv.ts:List AT:=[.s .u64]
def Ae.Bv.spec:Entry:=entry Ae.Bv.ts Ae.Bv.pre Ae.Bv.out
def Ae.Finite.pre:List Atom→Bool
 | [.l x]=>B4 x
 | _=>false
def Ae.Finite.out:List Atom→DV
 | [.l x]=>.bool (D2 x)
 | _=>.undef
abbrev Ae.Finite.ts:List AT:=[.s .u64]
def Ae.Finite.spec:Entry:=entry Ae.Finite.ts Ae.Finite.pre Ae.Finite.out
def Cz.Check.pre:List Atom→Bool
 | [.i _r,.i _c,.l l]=>Aj l
 | _=>false
def Cz.Check.out:List Atom→DV
 | [.i r,.i c,.l l]=>.int .i64 (Cj r c l)
 | _=>.undef
abbrev Cz.Check.ts:List AT:=[.st [.i .i64,.i .i64,.s .u64]]
def Cz.Check.spec:Entry:=entry Cz.Check.ts Cz.Check.pre Cz.Check.out
def solve.check.pre:List Atom→Bool
 | [.i _r,.i _c,.l l,.i _p,.i _q,.l m]=>Aj l&&Aj m
 | _=>false
def solve.check.out:List Atom→DV
 | [.i r,.i c,.l l,.i p,.i q,.l m]=>.int .i64 (Zb r c l p q m)
 | _=>.undef
abbrev solve.check.ts:List AT:=[.st [.i .i64,.i .i64,.s .u64],.st [.i .i64,.i .i64,.s .u64]]
def solve.check.spec:Entry:=entry solve.check.ts solve.check.pre solve.check.out
def G9.G6.up.pre:List Atom→Bool
 | [.i n,.i k]=>B3 (0≤k∧k<n∧n≤10)
 | _=>false
def G9.G6.up.out:List Atom→DV
 | [.i n,.i k]=>.int .i64 (n-1-k)
 | _=>.undef
abbrev G9.G6.up.ts:List AT:=[.i .i64,.i .i64]
def G9.G6.up.spec:Entry:=entry G9.G6.up.ts G9.G6.up.pre G9.G6.up.out
def solve.E5.pre:List Atom→Bool
 | [.i _i,.i _k]=>true
 | _=>false
def solve.E5.out:List Atom→DV
 | [.i i,.i k]=>.bool (decide (i<k))
 | _=>.undef
abbrev solve.E5.ts:List AT:=[.i .i64,.i .i64]
def solve.E5.spec:Entry:=entry solve.E5.ts solve.E5.pre solve.E5.out
def Aa.of.A9.own.pre:List Atom→Bool
 | [.i a,.i b]=>Bp a&&Bp b
 | _=>false
def Aa.of.A9.own.out:List Atom→DV
 | [.i a,.i b]=>.agg [.int .i64 a,.int .i64 b,.ints (.own 108002 43) .u64 (B8 (toNat a) (toNat b) (fun _ _=>0))]
 | _=>.undef
abbrev Aa.of.A9.own.ts:List AT:=[.i .i64,.i .i64,.fn 193 []]
def Aa.of.A9.own.spec:Entry:=entry Aa.of.A9.own.ts Aa.of.A9.own.pre Aa.of.A9.own.out
def Aa.A9.own.pre:List Atom→Bool
 | [.i a,.i b]=>Bp a&&Bp b
 | _=>false
def Aa.A9.own.out:List Atom→DV
 | [.i a,.i b]=>.tup [.agg [.int .i64 a,.int .i64 b,.ints (.own 1136 43) .u64 (B8 (toNat a) (toNat b) (fun _ _=>0))],.int .i64 (0:Int)]
 | _=>.undef
abbrev Aa.A9.own.ts:List AT:=[.i .i64,.i .i64]
def Aa.A9.own.spec:Entry:=entry Aa.A9.own.ts Aa.A9.own.pre Aa.A9.own.out
def solve.B2.Up.pre:List Atom→Bool
 | [.i r,.i c,.l l,.i p,.i q,.l m,.i n]=>Aeq r c l p q m&&decide (n=r)
 | _=>false
def solve.B2.Up.out:List Atom→DV
 | [.i r,.i c,.l l,.i _p,.i q,.l m,.i _n]=>.tup [.agg [.int .i64 ((T5 r q (upG c l q m (toNat r) (toNat q))).1),.int .i64 ((T5 r q (upG c l q m (toNat r) (toNat q))).2.1),.ints .fresh .u64 ((T5 r q (upG c l q m (toNat r) (toNat q))).2.2.1)],.int .i64 ((T5 r q (upG c l q m (toNat r) (toNat q))).2.2.2)]
 | _=>.undef
abbrev solve.B2.Up.ts:List AT:=[.st [.i .i64,.i .i64,.s .u64],.st [.i .i64,.i .i64,.s .u64],.fm 222 [.i .i64],.fn 223 []]
def solve.B2.Up.spec:Entry:=entry solve.B2.Up.ts solve.B2.Up.pre solve.B2.Up.out
def solve.Io.pre:List Atom→Bool
 | [.i _r,.i _c,.l l,.i _p,.i _q,.l m]=>Aj l&&Aj m
 | _=>false
def solve.Io.out:List Atom→DV
 | [.i r,.i c,.l l,.i p,.i q,.l m]=>.tup [.agg [.int .i64 ((upX r c l p q m).1),.int .i64 ((upX r c l p q m).2.1),.ints .fresh .u64 ((upX r c l p q m).2.2.1)],.int .i64 ((upX r c l p q m).2.2.2)]
 | _=>.undef
abbrev solve.Io.ts:List AT:=[.st [.i .i64,.i .i64,.s .u64],.st [.i .i64,.i .i64,.s .u64]]
def solve.Io.spec:Entry:=entry solve.Io.ts solve.Io.pre solve.Io.out
def solve.Flat.pre:List Atom→Bool
 | [.i _r,.i _c,.l l]=>Aj l
 | _=>false
def solve.Flat.out:List Atom→DV
 | [.i r,.i c,.l l]=>.tup [.bool ((Ss r c l).1),.int .i64 ((Ss r c l).2)]
 | _=>.undef
abbrev solve.Flat.ts:List AT:=[.st [.i .i64,.i .i64,.s .u64]]
def solve.Flat.spec:Entry:=entry solve.Flat.ts solve.Flat.pre solve.Flat.out
def qr.Gk.pre:List Atom→Bool
 | [.i _r,.i _c,.l l,.i _p,.i _q,.l m]=>Aj l&&Aj m
 | _=>false
def qr.Gk.out:List Atom→DV
 | [.i r,.i c,.l l,.i p,.i q,.l m]=>.tup [.agg [.int .i64 ((Ev r c l p q m).1),.int .i64 ((Ev r c l p q m).2.1),.ints .fresh .u64 ((Ev r c l p q m).2.2.1)],.int .i64 ((Ev r c l p q m).2.2.2)]
 | _=>.undef
abbrev qr.Gk.ts:List AT:=[.st [.i .i64,.i .i64,.s .u64],.st [.i .i64,.i .i64,.s .u64]]
def qr.Gk.spec:Entry:=entry qr.Gk.ts qr.Gk.pre qr.Gk.out
def Ah.Div.pre:List Atom→Bool
 | [.i a,.i b]=>Af a&&Af b
 | _=>false
def Ah.Div.out:List Atom→DV
 | [.i a,.i b]=>.int .u64 (Es a b)
 | _=>.undef
abbrev Ah.Div.ts:List AT:=[.i .u64,.i .u64]
def Ah.Div.spec:Entry:=entry Ah.Div.ts Ah.Div.pre Ah.Div.out
def Ah.Finite.pre:List Atom→Bool
 | [.l x]=>B4 x
 | _=>false
def Ah.Finite.out:List Atom→DV
 | [.l x]=>.bool (D2 x)
 | _=>.undef
abbrev Ah.Finite.ts:List AT:=[.s .u64]
def Ah.Finite.spec:Entry:=entry Ah.Finite.ts Ah.Finite.pre Ah.Finite.out
def Ic.Check.pre:List Atom→Bool
 | [.i _r,.i _c,.l l]=>Aj l
 | _=>false
def Ic.Check.out:List Atom→DV
 | [.i r,.i c,.l l]=>.int .i64 (Cj r c l)
 | _=>.undef
abbrev Ic.Check.ts:List AT:=[.st [.i .i64,.i .i64,.s .u64]]
def Ic.Check.spec:Entry:=entry Ic.Check.ts Ic.Check.pre Ic.Check.out
def math.Hn.pre:List Atom→Bool
 | [.f _x]=>true
 | _=>false
def math.Hn.out:List Atom→DV
 | [.f x]=>.fl (Ge x)
 | _=>.undef
abbrev math.Hn.ts:List AT:=[.fl]
def math.Hn.spec:Entry:=entry math.Hn.ts math.Hn.pre math.Hn.out
def math.Is.pre:List Atom→Bool
 | [.f x]=>W2 x
 | _=>false
def math.Is.out:List Atom→DV
 | [.f x]=>.bool (decide (Ai x=4))
 | _=>.undef
abbrev math.Is.ts:List AT:=[.fl]
def math.Is.spec:Entry:=entry math.Is.ts math.Is.pre math.Is.out
def math.It.pre:List Atom→Bool
 | [.f x,.i s]=>W2 x&&decide (s=0)
 | _=>false
def math.It.out:List Atom→DV
 | [.f x,.i _s]=>.bool (decide (Ai x=3))
 | _=>.undef
abbrev math.It.ts:List AT:=[.fl,.i .i64]
def math.It.spec:Entry:=entry math.It.ts math.It.pre math.It.out
def math.normalize.pre:List Atom→Bool
 | [.f x]=>Aim x
 | _=>false
def math.normalize.out:List Atom→DV
 | [.f x]=>.tup [.fl (N1 x),.int .i64 (J7 x)]
 | _=>.undef
abbrev math.normalize.ts:List AT:=[.fl]
def math.normalize.spec:Entry:=entry math.normalize.ts math.normalize.pre math.normalize.out
def math.Ej.pre:List Atom→Bool
 | [.f x,.f y]=>Aim y&&decide (x=0)
 | _=>false
def math.Ej.out:List Atom→DV
 | [.f _x,.f y]=>.fl (Bl (Bx y) 0)
 | _=>.undef
abbrev math.Ej.ts:List AT:=[.fl,.fl]
def math.Ej.spec:Entry:=entry math.Ej.ts math.Ej.pre math.Ej.out
def math.Yd.pre:List Atom→Bool
 | [.i _s]=>true
 | _=>false
def math.Yd.out:List Atom→DV
 | [.i s]=>.fl (Bl (decide (s<0)) Eh)
 | _=>.undef
abbrev math.Yd.ts:List AT:=[.i .i64]
def math.Yd.spec:Entry:=entry math.Yd.ts math.Yd.pre math.Yd.out
def math.Hy.pre:List Atom→Bool
 | [.f x,.i k]=>W2 x&&B3 (-2300≤k∧k≤2300)
 | _=>false
def math.Hy.out:List Atom→DV
 | [.f x,.i k]=>.fl (Jz x k)
 | _=>.undef
abbrev math.Hy.ts:List AT:=[.fl,.i .i64]
def math.Hy.spec:Entry:=entry math.Hy.ts math.Hy.pre math.Hy.out
def math.I3.pre:List Atom→Bool
 | [.f x,.i k]=>W2 x&&B3 (-2300≤k∧k≤2300)
 | _=>false
def math.I3.out:List Atom→DV
 | [.f x,.i k]=>.fl (Jz x k)
 | _=>.undef
abbrev math.I3.ts:List AT:=[.fl,.i .i64]
def math.I3.spec:Entry:=entry math.I3.ts math.I3.pre math.I3.out
def Ah.Br.pre:List Atom→Bool
 | [.i a,.i k]=>Dd a k
 | _=>false
def Ah.Br.out:List Atom→DV
 | [.i a,.i k]=>.int .u64 (Bf a k)
 | _=>.undef
abbrev Ah.Br.ts:List AT:=[.i .u64,.i .i64]
def Ah.Br.spec:Entry:=entry Ah.Br.ts Ah.Br.pre Ah.Br.out
def Bq.ends.pre:List Atom→Bool
 | [.i b]=>Af b
 | _=>false
def Bq.ends.out:List Atom→DV
 | [.i b]=>.int .i64 (U7 b)
 | _=>.undef
abbrev Bq.ends.ts:List AT:=[.i .u64]
def Bq.ends.spec:Entry:=entry Bq.ends.ts Bq.ends.pre Bq.ends.out
def Bq.Order.pre:List Atom→Bool
 | [.i a,.i b]=>Af a&&Af b
 | _=>false
def Bq.Order.out:List Atom→DV
 | [.i a,.i b]=>.tup [.int .i64 (G7 a b),.bool (Nu a b)]
 | _=>.undef
abbrev Bq.Order.ts:List AT:=[.i .u64,.i .u64]
def Bq.Order.spec:Entry:=entry Bq.Order.ts Bq.Order.pre Bq.Order.out
def Bq.Hn.pre:List Atom→Bool
 | [.i a]=>Af a
 | _=>false
def Bq.Hn.out:List Atom→DV
 | [.i a]=>.int .u64 (Gj a)
 | _=>.undef
abbrev Bq.Hn.ts:List AT:=[.i .u64]
def Bq.Hn.spec:Entry:=entry Bq.Hn.ts Bq.Hn.pre Bq.Hn.out
def Bq.Max.pre:List Atom→Bool
 | [.i a,.i b]=>Af a&&Af b
 | _=>false
def Bq.Max.out:List Atom→DV
 | [.i a,.i b]=>.int .u64 (Uz a b)
 | _=>.undef
abbrev Bq.Max.ts:List AT:=[.i .u64,.i .u64]
def Bq.Max.spec:Entry:=entry Bq.Max.ts Bq.Max.pre Bq.Max.out
def root.Hv.pre:List Atom→Bool
 | [.i m]=>B3 (0≤m∧m<9223372036854775808)
 | _=>false
def root.Hv.out:List Atom→DV
 | [.i m]=>.tup [.int .u64 (Wl m),.bool (Wm m)]
 | _=>.undef
abbrev root.Hv.ts:List AT:=[.i .u64]
def root.Hv.spec:Entry:=entry root.Hv.ts root.Hv.pre root.Hv.out
def root.Sqrt.pre:List Atom→Bool
 | [.i a]=>Af a
 | _=>false
def root.Sqrt.out:List Atom→DV
 | [.i a]=>.tup [.int .u64 (Ea a),.int .u8 (R8 a)]
 | _=>.undef
abbrev root.Sqrt.ts:List AT:=[.i .u64]
def root.Sqrt.spec:Entry:=entry root.Sqrt.ts root.Sqrt.pre root.Sqrt.out
def Ae.Sqrt.pre:List Atom→Bool
 | [.i a]=>Af a
 | _=>false
def Ae.Sqrt.out:List Atom→DV
 | [.i a]=>.int .u64 (Ea a)
 | _=>.undef
abbrev Ae.Sqrt.ts:List AT:=[.i .u64]
def Ae.Sqrt.spec:Entry:=entry Ae.Sqrt.ts Ae.Sqrt.pre Ae.Sqrt.out
def compare.Lh.pre:List Atom→Bool
 | [.i a]=>Af a
 | _=>false
def compare.Lh.out:List Atom→DV
 | [.i a]=>.int .i64 (Ck a)
 | _=>.undef
abbrev compare.Lh.ts:List AT:=[.i .u64]
def compare.Lh.spec:Entry:=entry compare.Lh.ts compare.Lh.pre compare.Lh.out
def Ae.Norm.pre:List Atom→Bool
 | [.l x]=>B4 x&&B3 (length x≤64)
 | _=>false
def Ae.Norm.out:List Atom→DV
 | [.l x]=>.tup [.int .u64 (B6 x),.int .i64 (0:Int)]
 | _=>.undef
abbrev Ae.Norm.ts:List AT:=[.s .u64]
def Ae.Norm.spec:Entry:=entry Ae.Norm.ts Ae.Norm.pre Ae.Norm.out
def Ar.D1.pre:List Atom→Bool
 | [.l x]=>B4 x
 | _=>false
def Ar.D1.out:List Atom→DV
 | [.l x]=>.bool (M8 x)
 | _=>.undef
abbrev Ar.D1.ts:List AT:=[.s .u64]
def Ar.D1.spec:Entry:=entry Ar.D1.ts Ar.D1.pre Ar.D1.out
def Ar.lead.pre:List Atom→Bool
 | [.l x]=>B4 x
 | _=>false
def Ar.lead.out:List Atom→DV
 | [.l x]=>.int .u64 (Ud x)
 | _=>.undef
abbrev Ar.lead.ts:List AT:=[.s .u64]
def Ar.lead.spec:Entry:=entry Ar.lead.ts Ar.lead.pre Ar.lead.out
def Ar.Be.pre:List Atom→Bool
 | [.l x,.i k]=>B4 x&&B3 (length x≤1000∧-2300≤k∧k≤2300)
 | _=>false
def Ar.Be.out:List Atom→DV
 | [.l x,.i k]=>.ints .fresh .u64 (Bh x k)
 | _=>.undef
abbrev Ar.Be.ts:List AT:=[.s .u64,.i .i64]
def Ar.Be.spec:Entry:=entry Ar.Be.ts Ar.Be.pre Ar.Be.out
def Ar.Gp.pre:List Atom→Bool
 | [.i _i]=>true
 | _=>false
def Ar.Gp.out:List Atom→DV
 | [.i _i]=>.int .u64 (0:Int)
 | _=>.undef
abbrev Ar.Gp.ts:List AT:=[.i .i64]
def Ar.Gp.spec:Entry:=entry Ar.Gp.ts Ar.Gp.pre Ar.Gp.out
def Ar.Gn.pre:List Atom→Bool
 | [.i i,.l y,.i d]=>(B3 (0≤i∧i<length y)&&Aj y)&&Af d
 | _=>false
def Ar.Gn.out:List Atom→DV
 | [.i i,.l y,.i d]=>.int .u64 (Es (getD y (toNat i) 0) d)
 | _=>.undef
abbrev Ar.Gn.ts:List AT:=[.i .i64,.cp [.s .u64],.cp [.i .u64]]
def Ar.Gn.spec:Entry:=entry Ar.Gn.ts Ar.Gn.pre Ar.Gn.out
def Ar.row.Zero.pre:List Atom→Bool
 | [.i n]=>B3 (1≤n∧n≤64)
 | _=>false
def Ar.row.Zero.out:List Atom→DV
 | [.i n]=>.ints .fresh .u64 (L8 (toNat n) (fun _=>0))
 | _=>.undef
abbrev Ar.row.Zero.ts:List AT:=[.i .i64,.fn 227 []]
def Ar.row.Zero.spec:Entry:=entry Ar.row.Zero.ts Ar.row.Zero.pre Ar.row.Zero.out
def Ar.row.Div.pre:List Atom→Bool
 | [.i n,.l y,.i d]=>(B3 (1≤n∧n≤64∧n=length y)&&Aj y)&&Af d
 | _=>false
def Ar.row.Div.out:List Atom→DV
 | [.i n,.l y,.i d]=>.ints .fresh .u64 (L8 (toNat n) (fun j=>Es (getD y j 0) d))
 | _=>.undef
abbrev Ar.row.Div.ts:List AT:=[.i .i64,.fn 230 [.cp [.s .u64],.cp [.i .u64]]]
def Ar.row.Div.spec:Entry:=entry Ar.row.Div.ts Ar.row.Div.pre Ar.row.Div.out
def Ar.Lg.pre:List Atom→Bool
 | [.l x]=>B4 x
 | _=>false
def Ar.Lg.out:List Atom→DV
 | [.l x]=>.tup [.ints .fresh .u64 ((Dp x).1),.int .u64 ((Dp x).2.1),.int .u64 ((Dp x).2.2.1),.int .i64 ((Dp x).2.2.2)]
 | _=>.undef
abbrev Ar.Lg.ts:List AT:=[.s .u64]
def Ar.Lg.spec:Entry:=entry Ar.Lg.ts Ar.Lg.pre Ar.Lg.out
def Ar.Apply.pre:List Atom→Bool
 | [.i r,.i c,.l l,.i i,.i k,.l v,.i t]=>((A3 r c l&&Rq r c i k v)&&(Aj l&&Aj v))&&Af t
 | _=>false
def Ar.Apply.out:List Atom→DV
 | [.i r,.i c,.l l,.i i,.i k,.l v,.i t]=>.tup [.agg [.int .i64 r,.int .i64 c,.ints (.own 114002 43) .u64 (Im (toNat r) (toNat c) l i k v t)],.int .i64 (0:Int)]
 | _=>.undef
abbrev Ar.Apply.ts:List AT:=[.st [.i .i64,.i .i64,.s .u64],.i .i64,.i .i64,.s .u64,.i .u64]
def Ar.Apply.spec:Entry:=entry Ar.Apply.ts Ar.Apply.pre Ar.Apply.out
def qr.down.pre:List Atom→Bool
 | [.i r,.i c,.l l]=>(A3 r c l&&D2 l)&&Aj l
 | _=>false
def qr.down.out:List Atom→DV
 | [.i r,.i c,.l l]=>.tup [.agg [.int .i64 ((Hu r c l).1),.int .i64 ((Hu r c l).2.1),.ints .arg .u64 ((Hu r c l).2.2.1)],.recs .fresh 2 (Qq r c l),.int .i64 ((Hu r c l).2.2.2)]
 | _=>.undef
abbrev qr.down.ts:List AT:=[.st [.i .i64,.i .i64,.s .u64]]
def qr.down.spec:Entry:=entry qr.down.ts qr.down.pre qr.down.out
def qr.En.pre:List Atom→Bool
 | [.i _r,.i _c,.l l]=>Aj l
 | _=>false
def qr.En.out:List Atom→DV
 | [.i r,.i c,.l l]=>.tup [.agg [.int .i64 ((qX r c l).1),.int .i64 ((qX r c l).2.1),.ints .arg .u64 ((qX r c l).2.2.1)],.agg [.int .i64 ((rX r c l).1),.int .i64 ((rX r c l).2.1),.ints .arg .u64 ((rX r c l).2.2.1)],.int .i64 (Ij r c l)]
 | _=>.undef
abbrev qr.En.ts:List AT:=[.st [.i .i64,.i .i64,.s .u64]]
def qr.En.spec:Entry:=entry qr.En.ts qr.En.pre qr.En.out
def qr.Mj.pre:List Atom→Bool
 | [.i _r,.i _c,.l l]=>Aj l
 | _=>false
def qr.Mj.out:List Atom→DV
 | [.i r,.i c,.l l]=>.tup [.agg [.int .i64 ((Ko r c l).1),.int .i64 ((Ko r c l).2.1),.ints .fresh .u64 ((Ko r c l).2.2.1)],.agg [.int .i64 ((Qc r c l).1),.int .i64 ((Qc r c l).2.1),.ints .fresh .u64 ((Qc r c l).2.2.1)],.int .i64 (Ij r c l)]
 | _=>.undef
abbrev qr.Mj.ts:List AT:=[.st [.i .i64,.i .i64,.s .u64]]
def qr.Mj.spec:Entry:=entry qr.Mj.ts qr.Mj.pre qr.Mj.out
def solve.H7.pre:List Atom→Bool
 | [.i _r,.i _c,.l l,.i _p,.i _q,.l m]=>Aj l&&Aj m
 | _=>false
def solve.H7.out:List Atom→DV
 | [.i r,.i c,.l l,.i p,.i q,.l m]=>.tup [.agg [.int .i64 ((O2 r c l p q m).1),.int .i64 ((O2 r c l p q m).2.1),.ints .fresh .u64 ((O2 r c l p q m).2.2.1)],.int .i64 ((O2 r c l p q m).2.2.2)]
 | _=>.undef
abbrev solve.H7.ts:List AT:=[.st [.i .i64,.i .i64,.s .u64],.st [.i .i64,.i .i64,.s .u64]]
def solve.H7.spec:Entry:=entry solve.H7.ts solve.H7.pre solve.H7.out
def Bq.Lh.pre:List Atom→Bool
 | [.i a]=>Af a
 | _=>false
def Bq.Lh.out:List Atom→DV
 | [.i a]=>.int .i64 (Ck a)
 | _=>.undef
abbrev Bq.Lh.ts:List AT:=[.i .u64]
def Bq.Lh.spec:Entry:=entry Bq.Lh.ts Bq.Lh.pre Bq.Lh.out
def Ah.Bv.pre:List Atom→Bool
 | [.l x]=>B4 x
 | _=>false
def Ah.Bv.out:List Atom→DV
 | [.l x]=>.int .u64 (Bw x)
 | _=>.undef
abbrev Ah.Bv.ts:List AT:=[.s .u64]
def Ah.Bv.spec:Entry:=entry Ah.Bv.ts Ah.Bv.pre Ah.Bv.out
def math.Sqrt.pre:List Atom→Bool
 | [.f _x]=>true
 | _=>false
def math.Sqrt.out:List Atom→DV
 | [.f x]=>.fl (((Ieee.double.sqrt x).getD nanBits))
 | _=>.undef
abbrev math.Sqrt.ts:List AT:=[.fl]
def math.Sqrt.spec:Entry:=entry math.Sqrt.ts math.Sqrt.pre math.Sqrt.out
def Ah.Sqrt.pre:List Atom→Bool
 | [.i a]=>Af a
 | _=>false
def Ah.Sqrt.out:List Atom→DV
 | [.i a]=>.int .u64 (Ea a)
 | _=>.undef
abbrev Ah.Sqrt.ts:List AT:=[.i .u64]
def Ah.Sqrt.spec:Entry:=entry Ah.Sqrt.ts Ah.Sqrt.pre Ah.Sqrt.out
def Ah.Norm.pre:List Atom→Bool
 | [.l x]=>B4 x
 | _=>false
def Ah.Norm.out:List Atom→DV
 | [.l x]=>.int .u64 (B6 x)
 | _=>.undef
abbrev Ah.Norm.ts:List AT:=[.s .u64]
def Ah.Norm.spec:Entry:=entry Ah.Norm.ts Ah.Norm.pre Ah.Norm.out
def Am.A9.own.pre:List Atom→Bool
 | [.i a,.i b]=>Bp a&&Bp b
 | _=>false
def Am.A9.own.out:List Atom→DV
 | [.i a,.i b]=>.agg [.int .i64 a,.int .i64 b,.ints (.own 10 43) .u64 (B8 (toNat a) (toNat b) (fun _ _=>0))]
 | _=>.undef
abbrev Am.A9.own.ts:List AT:=[.i .i64,.i .i64]
def Am.A9.own.spec:Entry:=entry Am.A9.own.ts Am.A9.own.pre Am.A9.own.out
def Am.Stack.pre:List Atom→Bool
 | [.i r,.i c,.l l,.i p,.i q,.l m]=>(A3 r c l&&A3 p q m)&&decide (q=c)
 | _=>false
def Am.Stack.out:List Atom→DV
 | [.i r,.i c,.l l,.i p,.i _q,.l m]=>.agg [.int .i64 (r+p),.int .i64 c,.ints .fresh .u64 (l++m)]
 | _=>.undef
abbrev Am.Stack.ts:List AT:=[.st [.i .i64,.i .i64,.s .u64],.st [.i .i64,.i .i64,.s .u64]]
def Am.Stack.spec:Entry:=entry Am.Stack.ts Am.Stack.pre Am.Stack.out
def Ae.E6.pre:List Atom→Bool
 | [.i i,.i x,.l l]=>(B3 (0≤i∧i<length l)&&Aj l)&&Af x
 | _=>false
def Ae.E6.out:List Atom→DV
 | [.i i,.i x,.l l]=>.int .u64 (Ca x (getD l (toNat i) 0))
 | _=>.undef
abbrev Ae.E6.ts:List AT:=[.i .i64,.cp [.i .u64],.cp [.s .u64]]
def Ae.E6.spec:Entry:=entry Ae.E6.ts Ae.E6.pre Ae.E6.out
def Ae.each.Dx.pre:List Atom→Bool
 | [.i n,.i x,.l l]=>((B3 (0≤n∧n≤64∧n=length l))&&Aj l)&&Af x
 | _=>false
def Ae.each.Dx.out:List Atom→DV
 | [.i _n,.i x,.l l]=>.ints .fresh .u64 (Fw x l)
 | _=>.undef
abbrev Ae.each.Dx.ts:List AT:=[.i .i64,.fn 192 [.cp [.i .u64],.cp [.s .u64]]]
def Ae.each.Dx.spec:Entry:=entry Ae.each.Dx.ts Ae.each.Dx.pre Ae.each.Dx.out
def Ae.Dx.pre:List Atom→Bool
 | [.i x,.l l]=>(B4 l&&Af x)&&B3 (length l≤64)
 | _=>false
def Ae.Dx.out:List Atom→DV
 | [.i x,.l l]=>.tup [.ints .fresh .u64 (Fw x l),.int .i64 (0:Int)]
 | _=>.undef
abbrev Ae.Dx.ts:List AT:=[.i .u64,.s .u64]
def Ae.Dx.spec:Entry:=entry Ae.Dx.ts Ae.Dx.pre Ae.Dx.out
def Bn.Cc.pre:List Atom→Bool
 | [.i _r,.i _c,.l l,.i _p,.i _q,.l m,.i _u,.i _v,.l h]=>Zd l m h
 | _=>false
def Bn.Cc.out:List Atom→DV
 | [.i r,.i c,.l l,.i p,.i q,.l m,.i u,.i v,.l h]=>.int .i64 (O7 r c l p q m u v h)
 | _=>.undef
abbrev Bn.Cc.ts:List AT:=[.rs 3 [[.i .i64,.i .i64,.s .u64],[.i .i64,.i .i64,.s .u64],[.i .i64,.i .i64,.s .u64]]]
def Bn.Cc.spec:Entry:=entry Bn.Cc.ts Bn.Cc.pre Bn.Cc.out
def Bn.Nm.pre:List Atom→Bool
 | [.i _r,.i _c,.l l,.i _p,.i _q,.l m,.i _u,.i _v,.l h,.i x]=>Zd l m h&&Af x
 | _=>false
def Bn.Nm.out:List Atom→DV
 | [.i r,.i c,.l l,.i p,.i q,.l m,.i u,.i v,.l h,.i x]=>.tup [.agg [.int .i64 ((Kz r c l p q m u v h x).1),.int .i64 ((Kz r c l p q m u v h x).2.1),.ints .fresh .u64 ((Kz r c l p q m u v h x).2.2.1)],.int .i64 ((Kz r c l p q m u v h x).2.2.2)]
 | _=>.undef
abbrev Bn.Nm.ts:List AT:=[.st [.i .i64,.i .i64,.s .u64],.st [.i .i64,.i .i64,.s .u64],.st [.i .i64,.i .i64,.s .u64],.i .u64]
def Bn.Nm.spec:Entry:=entry Bn.Nm.ts Bn.Nm.pre Bn.Nm.out
def Ci.Cc.pre:List Atom→Bool
 | [.i _r,.i _c,.l l,.i _p,.i _q,.l m,.i _u,.i _v,.l h]=>Zd l m h
 | _=>false
def Ci.Cc.out:List Atom→DV
 | [.i r,.i c,.l l,.i p,.i q,.l m,.i u,.i v,.l h]=>.int .i64 (O7 r c l p q m u v h)
 | _=>.undef
abbrev Ci.Cc.ts:List AT:=[.st [.i .i64,.i .i64,.s .u64],.st [.i .i64,.i .i64,.s .u64],.st [.i .i64,.i .i64,.s .u64]]
def Ci.Cc.spec:Entry:=entry Ci.Cc.ts Ci.Cc.pre Ci.Cc.out
def Db.one.pre:List Atom→Bool
 | [.i _b]=>true
 | _=>false
def Db.one.out:List Atom→DV
 | [.i b]=>.agg [.int .i64 (1:Int),.int .i64 (1:Int),.ints .fresh .u64 ([b])]
 | _=>.undef
abbrev Db.one.ts:List AT:=[.i .u64]
def Db.one.spec:Entry:=entry Db.one.ts Db.one.pre Db.one.out
def Db.Il.pre:List Atom→Bool
 | []=>true
 | _=>false
def Db.Il.out:List Atom→DV
 | []=>.bool true
 | _=>.undef
abbrev Db.Il.ts:List AT:=[]
def Db.Il.spec:Entry:=entry Db.Il.ts Db.Il.pre Db.Il.out
def Cx.Rows.pre:List Atom→Bool
 | [.i r,.i c,.l l,.i i,.i k,.i x,.i y]=>A3 r c l&&(Aj l&&((Af x&&Af y)&&B3 (0≤i∧i<r∧0≤k∧k<r∧i≠k)))
 | _=>false
def Cx.Rows.out:List Atom→DV
 | [.i r,.i c,.l l,.i i,.i k,.i x,.i y]=>.tup [.agg [.int .i64 r,.int .i64 c,.ints .fresh .u64 (Lm (toNat r) (toNat c) l (toNat i) (toNat k) x y)],.int .i64 (0:Int)]
 | _=>.undef
abbrev Cx.Rows.ts:List AT:=[.st [.i .i64,.i .i64,.s .u64],.i .i64,.i .i64,.i .u64,.i .u64]
def Cx.Rows.spec:Entry:=entry Cx.Rows.ts Cx.Rows.pre Cx.Rows.out
def Cx.Gz.pre:List Atom→Bool
 | [.i r,.i c,.l l,.i i,.i k,.i x,.i y]=>A3 r c l&&(Aj l&&((Af x&&Af y)&&B3 (0≤i∧i<c∧0≤k∧k<c∧i≠k)))
 | _=>false
def Cx.Gz.out:List Atom→DV
 | [.i r,.i c,.l l,.i i,.i k,.i x,.i y]=>.tup [.agg [.int .i64 r,.int .i64 c,.ints .arg .u64 (O6 (toNat r) (toNat c) l (toNat i) (toNat k) x y)],.int .i64 (0:Int)]
 | _=>.undef
abbrev Cx.Gz.ts:List AT:=[.st [.i .i64,.i .i64,.s .u64],.i .i64,.i .i64,.i .u64,.i .u64]
def Cx.Gz.spec:Entry:=entry Cx.Gz.ts Cx.Gz.pre Cx.Gz.out
def D0.Rows.pre:List Atom→Bool
 | [.i r,.i c,.l l,.i i,.i k,.i x,.i y]=>A3 r c l&&(Aj l&&((Af x&&Af y)&&B3 (0≤i∧i<r∧0≤k∧k<r∧i≠k)))
 | _=>false
def D0.Rows.out:List Atom→DV
 | [.i r,.i c,.l l,.i i,.i k,.i x,.i y]=>.agg [.int .i64 r,.int .i64 c,.ints .arg .u64 (Lm (toNat r) (toNat c) l (toNat i) (toNat k) x y)]
 | _=>.undef
abbrev D0.Rows.ts:List AT:=[.st [.i .i64,.i .i64,.s .u64],.i .i64,.i .i64,.i .u64,.i .u64]
def D0.Rows.spec:Entry:=entry D0.Rows.ts D0.Rows.pre D0.Rows.out
def D0.Gz.pre:List Atom→Bool
 | [.i r,.i c,.l l,.i i,.i k,.i x,.i y]=>A3 r c l&&(Aj l&&((Af x&&Af y)&&B3 (0≤i∧i<c∧0≤k∧k<c∧i≠k)))
 | _=>false
def D0.Gz.out:List Atom→DV
 | [.i r,.i c,.l l,.i i,.i k,.i x,.i y]=>.agg [.int .i64 r,.int .i64 c,.ints .arg .u64 (O6 (toNat r) (toNat c) l (toNat i) (toNat k) x y)]
 | _=>.undef
abbrev D0.Gz.ts:List AT:=[.st [.i .i64,.i .i64,.s .u64],.i .i64,.i .i64,.i .u64,.i .u64]
def D0.Gz.spec:Entry:=entry D0.Gz.ts D0.Gz.pre D0.Gz.out
def B5.D4.pre:List Atom→Bool
 | [.i i,.i k,.l l]=>B4 l&&B3 (0≤i∧i<((length l:Nat):Int)∧0≤k∧k<((length l:Nat):Int))
 | _=>false
def B5.D4.out:List Atom→DV
 | [.i i,.i k,.l l]=>.int .i64 (G7 (Lr l k) (Lr l i))
 | _=>.undef
abbrev B5.D4.ts:List AT:=[.i .i64,.i .i64,.cp [.s .u64]]
def B5.D4.spec:Entry:=entry B5.D4.ts B5.D4.pre B5.D4.out
def Bk.Ap.pre:List Atom→Bool
 | [.l x,.i a,.i b,.l l]=>B4 l&&B3 (Jh (length l) x=true∧length x≤6∧a=0∧b=((length x:Nat):Int))
 | _=>false
def Bk.Ap.Aaj:List Atom→List Int
 | [.l x,.i _a,.i _b,.l l]=>E8 l x
 | _=>[]
abbrev Bk.Ap.ts:List AT:=[.i .i64,.i .i64,.fn 130 [.cp [.s .u64]]]
def Bk.A5.pre:List Atom→Bool
 | [.l x,.i n,.l l]=>B4 l&&B3 (Jh (length l) x=true∧length x≤6∧n=((length x:Nat):Int))
 | _=>false
def Bk.A5.Aaj:List Atom→List Int
 | [.l x,.i _n,.l l]=>E8 l x
 | _=>[]
abbrev Bk.A5.ts:List AT:=[.i .i64,.fn 130 [.cp [.s .u64]]]
def Bk.A7.pre:List Atom→Bool
 | [.l x,.l l]=>B4 l&&B3 (Jh (length l) x=true∧length x≤6)
 | _=>false
def Bk.A7.Aaj:List Atom→List Int
 | [.l x,.l l]=>E8 l x
 | _=>[]
abbrev Bk.A7.ts:List AT:=[.fn 130 [.cp [.s .u64]]]
def B5.Cr.pre:List Atom→Bool
 | [.i r,.i c,.l l,.i i,.i k,.i b]=>A3 r c l&&(Aj l&&(Af b&&B3 (0≤i∧i<c∧0≤k∧k<c)))
 | _=>false
def B5.Cr.out:List Atom→DV
 | [.i r,.i c,.l l,.i i,.i k,.i b]=>.agg [.int .u64 (trC (Ey (toNat r) (toNat c) l (toNat i)) (Ey (toNat r) (toNat c) l (toNat k)) b),.int .u64 (trS (Ey (toNat r) (toNat c) l (toNat i)) (Ey (toNat r) (toNat c) l (toNat k)) b),.bool (W9 (Ey (toNat r) (toNat c) l (toNat i)) (Ey (toNat r) (toNat c) l (toNat k)) b)]
 | _=>.undef
abbrev B5.Cr.ts:List AT:=[.st [.i .i64,.i .i64,.s .u64],.i .i64,.i .i64,.i .u64]
def B5.Cr.spec:Entry:=entry B5.Cr.ts B5.Cr.pre B5.Cr.out
def B5.rounds.pre:List Atom→Bool
 | [.i r,.i c,.l l,.i p,.i q,.l m,.i b]=>(A3 r c l&&A3 p q m)&&((Aj l&&Aj m)&&(Af b&&B3 (p=c∧q=c)))
 | _=>false
def B5.rounds.out:List Atom→DV
 | [.i r,.i c,.l l,.i p,.i q,.l m,.i b]=>.tup [.agg [.int .i64 r,.int .i64 c,.ints .arg .u64 ((Ee (toNat r) (toNat c) b 60 l m).1)],.agg [.int .i64 p,.int .i64 q,.ints .arg .u64 ((Ee (toNat r) (toNat c) b 60 l m).2.1)],.int .i64 ((Ee (toNat r) (toNat c) b 60 l m).2.2)]
 | _=>.undef
abbrev B5.rounds.ts:List AT:=[.st [.i .i64,.i .i64,.s .u64],.st [.i .i64,.i .i64,.s .u64],.i .u64]
def B5.rounds.spec:Entry:=entry B5.rounds.ts B5.rounds.pre B5.rounds.out
def B5.Be.pre:List Atom→Bool
 | [.i _r,.i _c,.l l,.i k]=>B4 l&&B3 (length l≤1000∧-2300≤k∧k≤2300)
 | _=>false
def B5.Be.out:List Atom→DV
 | [.i r,.i c,.l l,.i k]=>.agg [.int .i64 r,.int .i64 c,.ints .arg .u64 (Bh l k)]
 | _=>.undef
abbrev B5.Be.ts:List AT:=[.st [.i .i64,.i .i64,.s .u64],.i .i64]
def B5.Be.spec:Entry:=entry B5.Be.ts B5.Be.pre B5.Be.out
def B5.at.pre:List Atom→Bool
 | [.i r,.i c,.l l,.l x]=>A3 r c l&&B3 (((length x:Nat):Int)=c∧Jh (toNat c) x=true)
 | _=>false
def B5.at.out:List Atom→DV
 | [.i r,.i c,.l l,.l x]=>.agg [.int .i64 r,.int .i64 c,.ints .fresh .u64 (Cq (toNat r) (toNat c) l x)]
 | _=>.undef
abbrev B5.at.ts:List AT:=[.st [.i .i64,.i .i64,.s .u64],.s .i64]
def B5.at.spec:Entry:=entry B5.at.ts B5.at.pre B5.at.out
def B5.Gd.pre:List Atom→Bool
 | [.i r,.i c,.l l]=>A3 r c l&&Aj l
 | _=>false
def B5.Gd.out:List Atom→DV
 | [.i r,.i c,.l l]=>.ints .fresh .u64 (Cf (toNat r) (toNat c) l)
 | _=>.undef
abbrev B5.Gd.ts:List AT:=[.st [.i .i64,.i .i64,.s .u64]]
def B5.Gd.spec:Entry:=entry B5.Gd.ts B5.Gd.pre B5.Gd.out
def B5.Az.pre:List Atom→Bool
 | [.i _r,.i _c,.l l]=>Aj l
 | _=>false
def B5.Az.out:List Atom→DV
 | [.i r,.i c,.l l]=>.tup [.agg [.int .i64 ((F9 r c l).1),.int .i64 ((F9 r c l).2.1),.ints .arg .u64 ((F9 r c l).2.2.1)],.agg [.int .i64 ((Gt r c l).1),.int .i64 ((Gt r c l).2.1),.ints .fresh .u64 ((Gt r c l).2.2.1)],.ints .fresh .u64 (Xa r c l),.int .i64 (Jn r c l)]
 | _=>.undef
abbrev B5.Az.ts:List AT:=[.st [.i .i64,.i .i64,.s .u64]]
def B5.Az.spec:Entry:=entry B5.Az.ts B5.Az.pre B5.Az.out
def Ao.F3.pre:List Atom→Bool
 | [.i a,.i b]=>Af a&&Af b
 | _=>false
def Ao.F3.out:List Atom→DV
 | [.i a,.i b]=>.bool (Fx a b)
 | _=>.undef
abbrev Ao.F3.ts:List AT:=[.i .u64,.i .u64]
def Ao.F3.spec:Entry:=entry Ao.F3.ts Ao.F3.pre Ao.F3.out
def Ao.be.pre:List Atom→Bool
 | [.l x,.l y,.i b]=>(B4 x&&B4 y)&&(Af b&&B3 (length x=length y∧length x≤6))
 | _=>false
def Ao.be.out:List Atom→DV
 | [.l x,.l y,.i b]=>.bool (beR x y b)
 | _=>.undef
abbrev Ao.be.ts:List AT:=[.s .u64,.s .u64,.i .u64]
def Ao.be.spec:Entry:=entry Ao.be.ts Ao.be.pre Ao.be.out
def Ao.Cr.pre:List Atom→Bool
 | [.l x,.l y]=>(B4 x&&B4 y)&&B3 (length x=length y∧length x≤6)
 | _=>false
def Ao.Cr.out:List Atom→DV
 | [.l x,.l y]=>.tup [.int .u64 (Mz (G0 (Iz x y))),.int .u64 (Lz (G0 (Iz x y)))]
 | _=>.undef
abbrev Ao.Cr.ts:List AT:=[.s .u64,.s .u64]
def Ao.Cr.spec:Entry:=entry Ao.Cr.ts Ao.Cr.pre Ao.Cr.out
def Ao.round.pre:List Atom→Bool
 | [.i r,.i c,.l l,.i p,.i q,.l m,.i b]=>(A3 r c l&&A3 p q m)&&((Aj l&&Aj m)&&(Af b&&B3 (p=c∧q=c)))
 | _=>false
def Ao.round.out:List Atom→DV
 | [.i r,.i c,.l l,.i p,.i q,.l m,.i b]=>.tup [.agg [.int .i64 r,.int .i64 c,.ints .arg .u64 ((Sc (toNat r) (toNat c) b l m).1)],.agg [.int .i64 p,.int .i64 q,.ints .arg .u64 ((Sc (toNat r) (toNat c) b l m).2.1)],.bool ((Sc (toNat r) (toNat c) b l m).2.2)]
 | _=>.undef
abbrev Ao.round.ts:List AT:=[.st [.i .i64,.i .i64,.s .u64],.st [.i .i64,.i .i64,.s .u64],.i .u64]
def Ao.round.spec:Entry:=entry Ao.round.ts Ao.round.pre Ao.round.out
def Ao.Be.pre:List Atom→Bool
 | [.i r,.i c,.l l,.i k]=>A3 r c l&&(Aj l&&B3 (-2300≤k∧k≤2300))
 | _=>false
def Ao.Be.out:List Atom→DV
 | [.i r,.i c,.l l,.i k]=>.agg [.int .i64 r,.int .i64 c,.ints .arg .u64 (Bh l k)]
 | _=>.undef
abbrev Ao.Be.ts:List AT:=[.st [.i .i64,.i .i64,.s .u64],.i .i64]
def Ao.Be.spec:Entry:=entry Ao.Be.ts Ao.Be.pre Ao.Be.out
def Ao.Gf.pre:List Atom→Bool
 | [.i r,.i c,.l l]=>A3 r c l&&Aj l
 | _=>false
def Ao.Gf.out:List Atom→DV
 | [.i r,.i c,.l l]=>.ints .fresh .u64 (Cf (toNat r) (toNat c) l)
 | _=>.undef
abbrev Ao.Gf.ts:List AT:=[.st [.i .i64,.i .i64,.s .u64]]
def Ao.Gf.spec:Entry:=entry Ao.Gf.ts Ao.Gf.pre Ao.Gf.out
def Ao.order.pre:List Atom→Bool
 | [.l l]=>B4 l&&B3 (length l≤6)
 | _=>false
def Ao.order.out:List Atom→DV
 | [.l l]=>.ints .fresh .i64 (Fp l)
 | _=>.undef
abbrev Ao.order.ts:List AT:=[.s .u64]
def Ao.order.spec:Entry:=entry Ao.order.ts Ao.order.pre Ao.order.out
def E2.Dc.pre:List Atom→Bool
 | [.i r,.i c,.l l,.l x]=>A3 r c l&&B3 (((length x:Nat):Int)=c∧Jh (toNat c) x=true)
 | _=>false
def E2.Dc.out:List Atom→DV
 | [.i r,.i c,.l l,.l x]=>.agg [.int .i64 r,.int .i64 c,.ints .arg .u64 (Cq (toNat r) (toNat c) l x)]
 | _=>.undef
abbrev E2.Dc.ts:List AT:=[.st [.i .i64,.i .i64,.s .u64],.s .i64]
def E2.Dc.spec:Entry:=entry E2.Dc.ts E2.Dc.pre E2.Dc.out
def Ao.Az.pre:List Atom→Bool
 | [.i r,.i c,.l l]=>A3 r c l&&(Aj l&&decide (D2 l=true))
 | _=>false
def Ao.Az.out:List Atom→DV
 | [.i r,.i c,.l l]=>.agg [.int .i64 ((F9 r c l).1),.int .i64 ((F9 r c l).2.1),.ints .arg .u64 ((F9 r c l).2.2.1),.int .i64 ((Gt r c l).1),.int .i64 ((Gt r c l).2.1),.ints .arg .u64 ((Gt r c l).2.2.1),.ints .fresh .u64 (Xa r c l),.int .i64 (Jn r c l)]
 | _=>.undef
abbrev Ao.Az.ts:List AT:=[.st [.i .i64,.i .i64,.s .u64]]
def Ao.Az.spec:Entry:=entry Ao.Az.ts Ao.Az.pre Ao.Az.out
def Aa.Ek.pre:List Atom→Bool
 | [.i i,.i k,.i r,.i c,.l l,.i p,.i q,.l m]=>Oj r c l p q m i k
 | _=>false
def Aa.Ek.out:List Atom→DV
 | [.i i,.i k,.i _r,.i c,.l l,.i _p,.i q,.l m]=>.int .u64 (Er c l q m i k)
 | _=>.undef
abbrev Aa.Ek.ts:List AT:=[.i .i64,.i .i64,.cp [.i .i64,.i .i64,.s .u64],.cp [.i .i64,.i .i64,.s .u64]]
def Aa.Ek.spec:Entry:=entry Aa.Ek.ts Aa.Ek.pre Aa.Ek.out
def Aa.of.Bt.pre:List Atom→Bool
 | [.i a,.i b,.i r,.i c,.l l,.i p,.i q,.l m]=>(Bp a&&Bp b)&&(A3 r c l&&A3 p q m)&&decide (a=r∧b=c+q∧p=r)
 | _=>false
def Aa.of.Bt.out:List Atom→DV
 | [.i a,.i b,.i _r,.i c,.l l,.i _p,.i q,.l m]=>.agg [.int .i64 a,.int .i64 b,.ints .fresh .u64 (B8 (toNat a) (toNat b) (fun j1 j2=>Er c l q m j1 j2))]
 | _=>.undef
abbrev Aa.of.Bt.ts:List AT:=[.i .i64,.i .i64,.fn 142 [.cp [.i .i64,.i .i64,.s .u64],.cp [.i .i64,.i .i64,.s .u64]]]
def Aa.of.Bt.spec:Entry:=entry Aa.of.Bt.ts Aa.of.Bt.pre Aa.of.Bt.out
def Aa.Bt.pre:List Atom→Bool
 | [.i _r,.i _c,.l _l,.i _p,.i _q,.l _m]=>true
 | _=>false
def Aa.Bt.out:List Atom→DV
 | [.i r,.i c,.l l,.i p,.i q,.l m]=>.tup [.agg [.int .i64 ((Jk r c l p q m).1),.int .i64 ((Jk r c l p q m).2.1),.ints .fresh .u64 ((Jk r c l p q m).2.2.1)],.int .i64 ((Jk r c l p q m).2.2.2)]
 | _=>.undef
abbrev Aa.Bt.ts:List AT:=[.st [.i .i64,.i .i64,.s .u64],.st [.i .i64,.i .i64,.s .u64]]
def Aa.Bt.spec:Entry:=entry Aa.Bt.ts Aa.Bt.pre Aa.Bt.out
def Am.Bt.pre:List Atom→Bool
 | [.i r,.i c,.l l,.i p,.i q,.l m]=>(A3 r c l&&A3 p q m)&&decide (p=r∧c+q≤6)
 | _=>false
def Am.Bt.out:List Atom→DV
 | [.i r,.i c,.l l,.i _p,.i q,.l m]=>.agg [.int .i64 r,.int .i64 (c+q),.ints .fresh .u64 (B8 (toNat r) (toNat (c+q)) (fun j1 j2=>Er c l q m j1 j2))]
 | _=>.undef
abbrev Am.Bt.ts:List AT:=[.st [.i .i64,.i .i64,.s .u64],.st [.i .i64,.i .i64,.s .u64]]
def Am.Bt.spec:Entry:=entry Am.Bt.ts Am.Bt.pre Am.Bt.out
def Bn.Cc.two.pre:List Atom→Bool
 | [.i _r,.i _c,.l l,.i _p,.i _q,.l m]=>Aj l&&Aj m
 | _=>false
def Bn.Cc.two.out:List Atom→DV
 | [.i r,.i c,.l l,.i p,.i q,.l m]=>.int .i64 (Vb r c l p q m)
 | _=>.undef
abbrev Bn.Cc.two.ts:List AT:=[.rs 3 [[.i .i64,.i .i64,.s .u64],[.i .i64,.i .i64,.s .u64]]]
def Bn.Cc.two.spec:Entry:=entry Bn.Cc.two.ts Bn.Cc.two.pre Bn.Cc.two.out
def Bn.Total.pre:List Atom→Bool
 | [.i _r,.i _c,.l l,.i _p,.i _q,.l m]=>Aj l&&Aj m
 | _=>false
def Bn.Total.out:List Atom→DV
 | [.i r,.i c,.l l,.i p,.i q,.l m]=>.tup [.agg [.int .i64 ((Gu r c l p q m).1),.int .i64 ((Gu r c l p q m).2.1),.ints .fresh .u64 ((Gu r c l p q m).2.2.1)],.int .i64 ((Gu r c l p q m).2.2.2)]
 | _=>.undef
abbrev Bn.Total.ts:List AT:=[.st [.i .i64,.i .i64,.s .u64],.st [.i .i64,.i .i64,.s .u64]]
def Bn.Total.spec:Entry:=entry Bn.Total.ts Bn.Total.pre Bn.Total.out
def Ci.Total.pre:List Atom→Bool
 | [.i _r,.i _c,.l l,.i _p,.i _q,.l m]=>Aj l&&Aj m
 | _=>false
def Ci.Total.out:List Atom→DV
 | [.i r,.i c,.l l,.i p,.i q,.l m]=>.tup [.agg [.int .i64 ((Gu r c l p q m).1),.int .i64 ((Gu r c l p q m).2.1),.ints .arg .u64 ((Gu r c l p q m).2.2.1)],.int .i64 ((Gu r c l p q m).2.2.2)]
 | _=>.undef
abbrev Ci.Total.ts:List AT:=[.st [.i .i64,.i .i64,.s .u64],.st [.i .i64,.i .i64,.s .u64]]
def Ci.Total.spec:Entry:=entry Ci.Total.ts Ci.Total.pre Ci.Total.out
def Db.Dl.pre:List Atom→Bool
 | [.i _r,.i _c,.l l,.i _p,.i _q,.l m]=>Aj l&&Aj m
 | _=>false
def Db.Dl.out:List Atom→DV
 | [.i _r,.i _c,.l _l,.i _p,.i _q,.l _m]=>.bool true
 | _=>.undef
abbrev Db.Dl.ts:List AT:=[.st [.i .i64,.i .i64,.s .u64],.st [.i .i64,.i .i64,.s .u64]]
def Db.Dl.spec:Entry:=entry Db.Dl.ts Db.Dl.pre Db.Dl.out
def Am.Hj.arg.pre:List Atom→Bool
 | [.i r,.i c,.l l,.i i,.i k,.i _b]=>Em r c l i k
 | _=>false
def Am.Hj.arg.out:List Atom→DV
 | [.i r,.i c,.l l,.i i,.i k,.i b]=>.agg [.int .i64 r,.int .i64 c,.ints .arg .u64 (List.set l (toNat (i*c+k)) b)]
 | _=>.undef
abbrev Am.Hj.arg.ts:List AT:=[.st [.i .i64,.i .i64,.s .u64],.i .i64,.i .i64,.i .u64]
def Am.Hj.arg.spec:Entry:=entry Am.Hj.arg.ts Am.Hj.arg.pre Am.Hj.arg.out
def Am.A9.arg.pre:List Atom→Bool
 | [.i a,.i b]=>Bp a&&Bp b
 | _=>false
def Am.A9.arg.out:List Atom→DV
 | [.i a,.i b]=>.agg [.int .i64 a,.int .i64 b,.ints .arg .u64 (B8 (toNat a) (toNat b) (fun _ _=>0))]
 | _=>.undef
abbrev Am.A9.arg.ts:List AT:=[.i .i64,.i .i64]
def Am.A9.arg.spec:Entry:=entry Am.A9.arg.ts Am.A9.arg.pre Am.A9.arg.out
def Am.Ff.arg.pre:List Atom→Bool
 | [.i n]=>Bp n
 | _=>false
def Am.Ff.arg.out:List Atom→DV
 | [.i n]=>.agg [.int .i64 n,.int .i64 n,.ints .arg .u64 (Ni (toNat n))]
 | _=>.undef
abbrev Am.Ff.arg.ts:List AT:=[.i .i64]
def Am.Ff.arg.spec:Entry:=entry Am.Ff.arg.ts Am.Ff.arg.pre Am.Ff.arg.out
def Fc.Canon.nb.pre:List Atom→Bool
 | [.f _x]=>true
 | _=>false
def Fc.Canon.nb.out:List Atom→DV
 | [.f x]=>.int .u64 (Hi x)
 | _=>.undef
abbrev Fc.Canon.nb.ts:List AT:=[.nb]
def Fc.Canon.nb.spec:Entry:=entry Fc.Canon.nb.ts Fc.Canon.nb.pre Fc.Canon.nb.out
def De.Lw.pre:List Atom→Bool
 | [.i x]=>Af x
 | _=>false
def De.Lw.out:List Atom→DV
 | [.i x]=>.int .i64 (F2 x)
 | _=>.undef
abbrev De.Lw.ts:List AT:=[.i .u64]
def De.Lw.spec:Entry:=entry De.Lw.ts De.Lw.pre De.Lw.out
theorem tt0:∀ a b c:Bool,((a==a)&&(b&&(c&&true)))=(b&&c):=by decide
theorem tt1:∀ a b:Bool,(bif a then b else false)=(a&&b):=by decide
theorem W8:∀ a:Bool,(((!a)||(a==true))&&true)=true:=by decide
theorem Oo:∀ a:Bool,((!(a==true))||((((!(a==true))||(a==true))&&true)&&true))=true:=by decide
theorem R5:∀ a:Bool,((!(a==true))||true)=true:=by decide
theorem tt5:∀ a b:Bool,(bif a then true else b)=(a||b):=by decide
theorem Y5:∀ a:Bool,((!(!a))||(a==false))=true:=by decide
theorem Rv:∀ a:Bool,((!(a==false))||((((!(a==false))||(a==false))&&true)&&true))=true:=by decide
theorem tt8:∀ a:Bool,((!(a==false))||((((!(a==false))||(a==false))&&(((!(a==false))||(a==false))&&true))&&true))=true:=by decide
theorem T3:∀ a:Bool,((!(a==false))||true)=true:=by decide
theorem Ct:∀ a:Bool,(a&&true)=a:=by decide
theorem A30:∀ a b c d e:Bool,(bif a then (bif b then true else (bif c then (bif d then true else e) else false)) else false)=(a&&(b||(c&&(d||e)))):=by decide
theorem A3z:∀ a b:Bool,((!(a==true))||(((!(a==true))||(a==true))&&((!(!b))||((a==true)&&(b==false)))))=true:=by decide
theorem A3y:∀ a b c:Bool,((!((a==true)&&(b==false)))||(((!((a==true)&&(b==false)))||((a==true)&&(b==false)))&&(((!c)||(((a==true)&&(b==false))&&(c==true)))&&true)))=true:=by decide
theorem A3x:∀ a b c d:Bool,((!(((a==true)&&(b==false))&&(c==true)))||(((!(((a==true)&&(b==false))&&(c==true)))||(((a==true)&&(b==false))&&(c==true)))&&((!(!d))||((((a==true)&&(b==false))&&(c==true))&&(d==false)))))=true:=by decide
theorem A1l:∀ a b c d:Bool,((!((((a==true)&&(b==false))&&(c==true))&&(d==false)))||((((!((((a==true)&&(b==false))&&(c==true))&&(d==false)))||((((a==true)&&(b==false))&&(c==true))&&(d==false)))&&true)&&true))=true:=by decide
theorem A3w:∀ a b c d:Bool,((!((((a==true)&&(b==false))&&(c==true))&&(d==false)))||true)=true:=by decide
theorem A3v:∀ a b c:Bool,((!(((a==true)&&(b==false))&&(c==true)))||((((!(((a==true)&&(b==false))&&(c==true)))||(((a==true)&&(b==false))&&(c==true)))&&true)&&true))=true:=by decide
theorem A3u:∀ a b c:Bool,((!(((a==true)&&(b==false))&&(c==true)))||true)=true:=by decide
theorem A3t:∀ a b:Bool,((!((a==true)&&(b==false)))||((((!((a==true)&&(b==false)))||((a==true)&&(b==false)))&&true)&&true))=true:=by decide
theorem A3s:∀ a b:Bool,((!((a==true)&&(b==false)))||((((!((a==true)&&(b==false)))||((a==true)&&(b==false)))&&(((!((a==true)&&(b==false)))||((a==true)&&(b==false)))&&true))&&true))=true:=by decide
theorem A1k:∀ a b:Bool,((!((a==true)&&(b==false)))||true)=true:=by decide
theorem Ani:∀ a:Bool,((!(a==true))||((((!(a==true))||(a==true))&&(((!(a==true))||(a==true))&&true))&&true))=true:=by decide
theorem Ava:∀ a b:Bool,(bif (!a) then true else b)=((!a)||b):=by decide
theorem Xc:∀ a:Bool,((!(!(!a)))||((!a)==false))=true:=by decide
theorem Pz:∀ a:Bool,((!((!a)==false))||((((!((!a)==false))||((!a)==false))&&true)&&true))=true:=by decide
theorem Un:∀ a:Bool,((!((!a)==false))||true)=true:=by decide
theorem A1j:∀ a b:Bool,(bif a then (!b) else false)=(a&&(!b)):=by decide
theorem Anh:∀ a b:Bool,(bif (!a) then true else (!b))=((!a)||(!b)):=by decide
theorem Ang:∀ a b:Bool,((!((!a)==false))||((((!((!a)==false))||((!a)==false))&&true)&&b))=((!a)||b):=by decide
theorem A1i:∀ a b c d:Bool,(bif (bif a then b else false) then true else (bif c then d else false))=((a&&b)||(c&&d)):=by decide
theorem A1h:∀ a b:Bool,((!(!(bif a then b else false)))||((bif a then b else false)==false))=true:=by decide
theorem A1g:∀ a b c:Bool,((!((bif a then b else false)==false))||(((!((bif a then b else false)==false))||((bif a then b else false)==false))&&(((!c)||(((bif a then b else false)==false)&&(c==true)))&&true)))=true:=by decide
theorem A1f:∀ a b c:Bool,((!(((bif a then b else false)==false)&&(c==true)))||((((!(((bif a then b else false)==false)&&(c==true)))||(((bif a then b else false)==false)&&(c==true)))&&true)&&true))=true:=by decide
theorem A1e:∀ a b c:Bool,((!(((bif a then b else false)==false)&&(c==true)))||true)=true:=by decide
theorem Au9:∀ a b:Bool,((!((bif a then b else false)==false))||((((!((bif a then b else false)==false))||((bif a then b else false)==false))&&true)&&true))=true:=by decide
theorem A1d:∀ a b:Bool,((!((bif a then b else false)==false))||true)=true:=by decide
theorem Kb:∀ a b:Bool,((a&&b)&&true)=(a&&b):=by decide
theorem A3r:∀ a b c:Bool,(bif (bif (!a) then true else (!b)) then true else c)=(((!a)||(!b))||c):=by decide
theorem Ayo:∀ a b:Bool,((!(!(bif (!a) then true else (!b))))||((bif (!a) then true else (!b))==false))=true:=by decide
theorem A1c:∀ a b:Bool,((!((bif (!a) then true else (!b))==false))||((((!((bif (!a) then true else (!b))==false))||((bif (!a) then true else (!b))==false))&&(((!((bif (!a) then true else (!b))==false))||((bif (!a) then true else (!b))==false))&&true))&&true))=true:=by decide
theorem Anf:∀ a b:Bool,((!((bif (!a) then true else (!b))==false))||((((!((bif (!a) then true else (!b))==false))||((bif (!a) then true else (!b))==false))&&true)&&true))=true:=by decide
theorem Ago:∀ a b:Bool,((!((bif (!a) then true else (!b))==false))||true)=true:=by decide
theorem A3q:∀ a b c d:Bool,(((a&&b)&&(c&&d))&&true)=((a&&b)&&(c&&d)):=by decide
theorem A3p:∀ a b c d e f g h:Bool,(bif (bif (bif (bif (bif (bif (bif a then true else b) then true else c) then true else d) then true else e) then true else f) then true else g) then true else h)=(((((((a||b)||c)||d)||e)||f)||g)||h):=by decide
theorem A3o:∀ a b c d e f g:Bool,((!(!(bif (bif (bif (bif (bif (bif a then true else b) then true else c) then true else d) then true else e) then true else f) then true else g)))||((bif (bif (bif (bif (bif (bif a then true else b) then true else c) then true else d) then true else e) then true else f) then true else g)==false))=true:=by decide
theorem A1b:∀ a b c d e f g:Bool,((!((bif (bif (bif (bif (bif (bif a then true else b) then true else c) then true else d) then true else e) then true else f) then true else g)==false))||((((!((bif (bif (bif (bif (bif (bif a then true else b) then true else c) then true else d) then true else e) then true else f) then true else g)==false))||((bif (bif (bif (bif (bif (bif a then true else b) then true else c) then true else d) then true else e) then true else f) then true else g)==false))&&(((!((bif (bif (bif (bif (bif (bif a then true else b) then true else c) then true else d) then true else e) then true else f) then true else g)==false))||((bif (bif (bif (bif (bif (bif a then true else b) then true else c) then true else d) then true else e) then true else f) then true else g)==false))&&true))&&true))=true:=by decide
theorem Ayn:∀ a b c d e f g:Bool,((!((bif (bif (bif (bif (bif (bif a then true else b) then true else c) then true else d) then true else e) then true else f) then true else g)==false))||true)=true:=by decide
theorem A3n:∀ a b c d e f g:Bool,((!((bif (bif (bif (bif (bif (bif a then true else b) then true else c) then true else d) then true else e) then true else f) then true else g)==false))||((((!((bif (bif (bif (bif (bif (bif a then true else b) then true else c) then true else d) then true else e) then true else f) then true else g)==false))||((bif (bif (bif (bif (bif (bif a then true else b) then true else c) then true else d) then true else e) then true else f) then true else g)==false))&&true)&&true))=true:=by decide
theorem A3m:∀ a b c d e f:Bool,((!(!(bif (bif (bif (bif (bif a then true else b) then true else c) then true else d) then true else e) then true else f)))||((bif (bif (bif (bif (bif a then true else b) then true else c) then true else d) then true else e) then true else f)==false))=true:=by decide
theorem A1a:∀ a b c d e f:Bool,((!((bif (bif (bif (bif (bif a then true else b) then true else c) then true else d) then true else e) then true else f)==false))||((((!((bif (bif (bif (bif (bif a then true else b) then true else c) then true else d) then true else e) then true else f)==false))||((bif (bif (bif (bif (bif a then true else b) then true else c) then true else d) then true else e) then true else f)==false))&&(((!((bif (bif (bif (bif (bif a then true else b) then true else c) then true else d) then true else e) then true else f)==false))||((bif (bif (bif (bif (bif a then true else b) then true else c) then true else d) then true else e) then true else f)==false))&&true))&&true))=true:=by decide
theorem Aym:∀ a b c d e f:Bool,((!((bif (bif (bif (bif (bif a then true else b) then true else c) then true else d) then true else e) then true else f)==false))||true)=true:=by decide
theorem A3l:∀ a b c d e f:Bool,((!((bif (bif (bif (bif (bif a then true else b) then true else c) then true else d) then true else e) then true else f)==false))||((((!((bif (bif (bif (bif (bif a then true else b) then true else c) then true else d) then true else e) then true else f)==false))||((bif (bif (bif (bif (bif a then true else b) then true else c) then true else d) then true else e) then true else f)==false))&&true)&&true))=true:=by decide
theorem A3k:∀ a b c d e:Bool,((!(!(bif (bif (bif (bif a then true else b) then true else c) then true else d) then true else e)))||((bif (bif (bif (bif a then true else b) then true else c) then true else d) then true else e)==false))=true:=by decide
theorem A3j:∀ a b c d e:Bool,((!((bif (bif (bif (bif a then true else b) then true else c) then true else d) then true else e)==false))||((((!((bif (bif (bif (bif a then true else b) then true else c) then true else d) then true else e)==false))||((bif (bif (bif (bif a then true else b) then true else c) then true else d) then true else e)==false))&&(((!((bif (bif (bif (bif a then true else b) then true else c) then true else d) then true else e)==false))||((bif (bif (bif (bif a then true else b) then true else c) then true else d) then true else e)==false))&&true))&&true))=true:=by decide
theorem A3i:∀ a b c d e:Bool,((!((bif (bif (bif (bif a then true else b) then true else c) then true else d) then true else e)==false))||((((!((bif (bif (bif (bif a then true else b) then true else c) then true else d) then true else e)==false))||((bif (bif (bif (bif a then true else b) then true else c) then true else d) then true else e)==false))&&true)&&true))=true:=by decide
theorem A09:∀ a b c d e:Bool,((!((bif (bif (bif (bif a then true else b) then true else c) then true else d) then true else e)==false))||true)=true:=by decide
theorem Ayl:∀ a b c d:Bool,((!(!(bif (bif (bif a then true else b) then true else c) then true else d)))||((bif (bif (bif a then true else b) then true else c) then true else d)==false))=true:=by decide
theorem Ayk:∀ a b c d:Bool,((!((bif (bif (bif a then true else b) then true else c) then true else d)==false))||((((!((bif (bif (bif a then true else b) then true else c) then true else d)==false))||((bif (bif (bif a then true else b) then true else c) then true else d)==false))&&(((!((bif (bif (bif a then true else b) then true else c) then true else d)==false))||((bif (bif (bif a then true else b) then true else c) then true else d)==false))&&true))&&true))=true:=by decide
theorem A08:∀ a b c d:Bool,((!((bif (bif (bif a then true else b) then true else c) then true else d)==false))||((((!((bif (bif (bif a then true else b) then true else c) then true else d)==false))||((bif (bif (bif a then true else b) then true else c) then true else d)==false))&&true)&&true))=true:=by decide
theorem Ane:∀ a b c d:Bool,((!((bif (bif (bif a then true else b) then true else c) then true else d)==false))||true)=true:=by decide
theorem Anc:∀ a b c:Bool,((!(!(bif (bif a then true else b) then true else c)))||((bif (bif a then true else b) then true else c)==false))=true:=by decide
theorem Aep:∀ a b c:Bool,((!((bif (bif a then true else b) then true else c)==false))||((((!((bif (bif a then true else b) then true else c)==false))||((bif (bif a then true else b) then true else c)==false))&&true)&&true))=true:=by decide
theorem Agn:∀ a b c:Bool,((!((bif (bif a then true else b) then true else c)==false))||true)=true:=by decide
theorem Anb:∀ a b:Bool,((!(!(bif a then true else b)))||((bif a then true else b)==false))=true:=by decide
theorem Agm:∀ a b:Bool,((!((bif a then true else b)==false))||((((!((bif a then true else b)==false))||((bif a then true else b)==false))&&true)&&true))=true:=by decide
theorem Aeo:∀ a b:Bool,((!((bif a then true else b)==false))||true)=true:=by decide
theorem A3h:∀ a b c d:Bool,(((!(bif (bif (bif a then b else false) then c else false) then d else false))||((bif (bif (bif a then b else false) then c else false) then d else false)==true))&&true)=true:=by decide
theorem A07:∀ a b c d:Bool,((!((bif (bif (bif a then b else false) then c else false) then d else false)==true))||((((!((bif (bif (bif a then b else false) then c else false) then d else false)==true))||((bif (bif (bif a then b else false) then c else false) then d else false)==true))&&(((!((bif (bif (bif a then b else false) then c else false) then d else false)==true))||((bif (bif (bif a then b else false) then c else false) then d else false)==true))&&true))&&true))=true:=by decide
theorem Au8:∀ a b c d:Bool,((!((bif (bif (bif a then b else false) then c else false) then d else false)==true))||((((!((bif (bif (bif a then b else false) then c else false) then d else false)==true))||((bif (bif (bif a then b else false) then c else false) then d else false)==true))&&true)&&true))=true:=by decide
theorem Ayj:∀ a b c d:Bool,((!((bif (bif (bif a then b else false) then c else false) then d else false)==true))||true)=true:=by decide
theorem A3g:∀ a b c:Bool,(((!(bif (bif a then b else false) then c else false))||((bif (bif a then b else false) then c else false)==true))&&true)=true:=by decide
theorem A06:∀ a b c:Bool,((!((bif (bif a then b else false) then c else false)==true))||((((!((bif (bif a then b else false) then c else false)==true))||((bif (bif a then b else false) then c else false)==true))&&true)&&true))=true:=by decide
theorem A3f:∀ a b c:Bool,((!((bif (bif a then b else false) then c else false)==true))||true)=true:=by decide
theorem Au7:∀ a b:Bool,(((!(bif a then b else false))||((bif a then b else false)==true))&&true)=true:=by decide
theorem Ajn:∀ a b:Bool,((!((bif a then b else false)==true))||((((!((bif a then b else false)==true))||((bif a then b else false)==true))&&true)&&true))=true:=by decide
theorem Aqw:∀ a b:Bool,((!((bif a then b else false)==true))||true)=true:=by decide
theorem A3e:∀ a b c:Bool,((!((bif a then b else false)==true))||((((!((bif a then b else false)==true))||((bif a then b else false)==true))&&(((!((bif a then b else false)==true))||((bif a then b else false)==true))&&true))&&c))=((!(a&&b))||c):=by decide
theorem A3d:∀ a b c:Bool,((!(a==true))||((((!(a==true))||(a==true))&&(((!(a==true))||(a==true))&&true))&&(b&&c)))=((!a)||(b&&c)):=by decide
theorem A05:∀ a:Bool,(((a&&true)&&true)&&true)=a:=by decide
theorem A3c:∀ a b:Bool,((!(a==true))||((((!(a==true))||(a==true))&&true)&&b))=((!a)||b):=by decide
theorem Au6:∀ a b:Bool,((!(a==false))||((((!(a==false))||(a==false))&&true)&&b))=(a||b):=by decide
theorem A04:∀ a b:Bool,(bif a then true else (!b))=(a||(!b)):=by decide
theorem Ayi:∀ a b c:Bool,((a&&b)&&((a&&c)&&true))=((a&&b)&&(a&&c)):=by decide
theorem A3b:∀ a:Bool,((a&&true)&&true)=a:=by decide
theorem A03:∀ a b c d e:Bool,(bif (bif (bif (bif a then true else b) then true else c) then true else d) then true else e)=((((a||b)||c)||d)||e):=by decide
theorem Ayh:∀ a b:Bool,((!((bif a then true else b)==false))||((((!((bif a then true else b)==false))||((bif a then true else b)==false))&&(((!((bif a then true else b)==false))||((bif a then true else b)==false))&&true))&&true))=true:=by decide
theorem Ayg:∀ a b c d:Bool,(bif (bif (bif a then true else b) then true else c) then true else d)=(((a||b)||c)||d):=by decide
theorem A02:∀ a b c:Bool,((!((bif (bif a then true else b) then true else c)==false))||((((!((bif (bif a then true else b) then true else c)==false))||((bif (bif a then true else b) then true else c)==false))&&(((!((bif (bif a then true else b) then true else c)==false))||((bif (bif a then true else b) then true else c)==false))&&true))&&true))=true:=by decide
theorem A3a:∀ a b c:Bool,((!((bif a then b else false)==true))||((((!((bif a then b else false)==true))||((bif a then b else false)==true))&&true)&&c))=((!(a&&b))||c):=by decide
theorem A29:∀ a b:Bool,((!(a==true))||((((!(a==true))||(a==true))&&(((!(a==true))||(a==true))&&true))&&b))=((!a)||b):=by decide
theorem A28:∀ a b c:Bool,(((a&&b)&&c)&&true)=((a&&b)&&c):=by decide
theorem A27:∀ a:Bool,((((!a)||(a==true))&&true)&&true)=true:=by decide
theorem A01:∀ a:Bool,(((!(a==true))||((((!(a==true))||(a==true))&&true)&&true))&&true)=true:=by decide
theorem A26:∀ a b:Bool,(((!(a==true))||((((!(a==true))||(a==true))&&(((!(a==true))||(a==true))&&(((!(a==true))||(a==true))&&true)))&&b))&&true)=((!a)||b):=by decide
theorem A00:∀ a b:Bool,(((!(a==true))||((((!(a==true))||(a==true))&&true)&&b))&&true)=((!a)||b):=by decide
theorem A0z:∀ a b c:Bool,(((!(a==true))||((((!(a==true))||(a==true))&&(((!(a==true))||(a==true))&&true))&&(b&&c)))&&true)=((!a)||(b&&c)):=by decide
theorem Agq:∀ a:Bool,(((!(a==true))||true)&&true)=true:=by decide
theorem A1q:∀ a b c:Bool,(bif (bif (!a) then true else (!b)) then true else (!c))=(((!a)||(!b))||(!c)):=by decide
theorem Aqy:∀ a b c:Bool,((!((bif (!a) then true else (!b))==false))||((((!((bif (!a) then true else (!b))==false))||((bif (!a) then true else (!b))==false))&&(((!((bif (!a) then true else (!b))==false))||((bif (!a) then true else (!b))==false))&&true))&&c))=(((!a)||(!b))||c):=by decide
theorem Axx:∀ a b c:Bool,((!((bif (!a) then true else (!b))==false))||((((!((bif (!a) then true else (!b))==false))||((bif (!a) then true else (!b))==false))&&true)&&c))=(((!a)||(!b))||c):=by decide
theorem Axw:∀ a b:Bool,((!((!a)==false))||((((!((!a)==false))||((!a)==false))&&(((!((!a)==false))||((!a)==false))&&true))&&b))=((!a)||b):=by decide
theorem A1p:∀ a b:Bool,(bif (!a) then b else false)=((!a)&&b):=by decide
theorem A1o:∀ a:Bool,((((!(!a))||((!a)==true))&&true)&&true)=true:=by decide
theorem A1n:∀ a b:Bool,(((!((!a)==true))||((((!((!a)==true))||((!a)==true))&&(((!((!a)==true))||((!a)==true))&&true))&&b))&&true)=(a||b):=by decide
theorem Axv:∀ a:Bool,(((!((!a)==true))||((((!((!a)==true))||((!a)==true))&&true)&&true))&&true)=true:=by decide
theorem Aqx:∀ a b c:Bool,(((!((!a)==true))||((((!((!a)==true))||((!a)==true))&&(((!((!a)==true))||((!a)==true))&&true))&&(b&&c)))&&true)=(a||(b&&c)):=by decide
theorem A1m:∀ a b:Bool,(((!((!a)==true))||((((!((!a)==true))||((!a)==true))&&true)&&b))&&true)=(a||b):=by decide
theorem Agp:∀ a:Bool,(((!((!a)==true))||true)&&true)=true:=by decide
end Go.Proofs.S1
end
