/- A verified evaluator of the program's form and its use for this seat: DiffL, MagL, RootM, NorL, BndL, RatV, DyQ, QuoW, SvdW, TotW, InfW, GsvW, S1Specs, S1Tt, S1EqSoft. -/
import Derived.Test.YthajngaadbanfaaGreatTE
set_option linter.unusedVariables false
set_option linter.unusedSimpArgs false
noncomputable section
open Int (toNat)
open List (length getD)
open Go.Proofs.Tryz
namespace Go.Rnd
open Go.Den
theorem Xx (n:Nat):Jy n=!(decide (Aj n=3)||decide (Aj n=4)):=by
 have:=J4 n
 unfold Jy Aj
 by_cases h:Ea n=2047
 ·by_cases h2:Dr n=0<;>simp [h,h2]
 ·have h3:Ea n<2047:=by omega
  by_cases h4:0<Ea n
  ·simp [h,h3,h4]
  ·by_cases h5:0<Dr n<;>simp [h,h3,h4,h5]
theorem Alz (s:Bool) (m:Nat):(Ja s m).natAbs=m:=by unfold Ja; split<;>omega
end Go.Rnd
namespace Go.Rnd
open Go.Den
def pw (k:Nat):Nat:=(k+1023)*2^52
theorem Se {k:Nat} (h:k≤1023):Ay (pw k)=2^52∧A3 (pw k)=(k:Int)-52∧Aj (pw k)=2∧pw k%2^63=pw k∧pw k<Ek:=by
 have hp:Ea (pw k)=k+1023:=by unfold Ea pw; omega
 have hf:Dr (pw k)=0:=by unfold Dr pw; omega
 refine ⟨?_,?_,?_,?_,?_⟩
 ·unfold Ay; rw [hp,hf,A42 (by omega)]
 ·unfold A3; rw [hp,A42 (by omega)]; omega
 ·unfold Aj; rw [hp,A42 (by omega),A43 (by omega)]
 ·unfold pw; omega
 ·rw [Gb]; unfold pw; omega
def Nx (a:Nat):Nat:=Gw a (-1074)
theorem Al5 {k:Nat} (h:k≤1023):Nx (pw k)=2^(k+1074):=by
 obtain ⟨h1,h2,_⟩:=Se h
 unfold Nx Gw
 rw [h1,h2,← A45]
 congr 1; omega
theorem Ae6 {k:Nat} (h:k≤1023):Ck (2^(k+1074)) (-1074)=pw k:=by
 obtain ⟨h1,h2,h3,h4,_⟩:=Se h
 have:=Ot (b:=pw k) (f:=-1074) (by omega) (by omega)
 rw [h4] at this
 rw [← this,← Al5 h]; rfl
def Bd (k:Nat) (a:Nat):Prop:=Aj a≠3∧Aj a≠4∧Nx a≤2^(k+1074)
theorem Bd.mono {j k a:Nat} (h:Bd j a) (hk:j≤k):Bd k a:=⟨h.1,h.2.1,A5n h.2.2 (A4v (by decide) (by omega))⟩
theorem Bd.V4 {k a:Nat} (hk:k≤1023) (h4:Aj a≠4) (h:a%2^63≤pw k):Bd k a:=by
 obtain ⟨p1,p2,p3,p4,p5⟩:=Se hk
 have h3:Aj a≠3:=fun e=>by have:=Rf e; omega
 refine ⟨h3,h4,?_⟩
 have ha:=Dy a
 rcases A5d (Nx (pw k)) (Nx a) with g | g
 ·have:=(Aay (f:=-1074) (by omega) h4 (by omega) ha.1).1 g
  omega
 ·rw [Al5 hk] at g; exact g
theorem Tn (s:Bool) (V:Nat) (E:Int):Aj (Bo s (Ck V E))≠4:=by
 have h:=Km V E
 rw [Gb] at h
 have hp:=Xk s (r:=Ck V E) (by omega)
 have hf:=U2 s (Ck V E)
 unfold Aj
 rw [hp,hf]
 split
 ·split
  ·omega
  ·omega
 ·split
  ·omega
  ·split<;>omega
theorem Bd.Ck {k:Nat} (s:Bool) {V:Nat} {E:Int} (hk:k≤1023) (h:Ck V E≤pw k):Bd k (Bo s (Ck V E)):=by
 refine .V4 hk (Tn s V E) ?_
 have:=Q2 V E
 have e:Bo s (Go.Rnd.Ck V E)%2^63=Go.Rnd.Ck V E:=by unfold Bo; split<;>omega
 rw [e]; exact h
theorem Bd.zero (s:Bool) (k:Nat):Bd k (Bo s 0):=by
 have:Aj (Bo s 0)=0∧Nx (Bo s 0)=0:=by cases s<;>decide +kernel
 exact ⟨by omega,by omega,by rw [this.2]; exact Nat.zero_le _⟩
theorem Ahw (a:Nat):(Hl a (-1074)).natAbs=Nx a:=by
 unfold Hl Nx Gw
 rw [Alz]
theorem Bd.mul {j k a b:Nat} (hk:j+k≤1023) (ha:Bd j a) (hb:Bd k b):Bd (j+k) (Ly a b).1:=by
 obtain ⟨a3,a4,am⟩:=ha
 obtain ⟨b3,b4,bm⟩:=hb
 have pa:=Dy a
 have pb:=Dy b
 unfold Ly
 rw [A42 (by omega),A42 (by omega)]
 refine .Ck _ hk ?_
 obtain ⟨u,hu⟩:∃ u:Nat,A3 a=(u:Int)-1074:=⟨(A3 a+1074).toNat,by omega⟩
 obtain ⟨v,hv⟩:∃ v:Nat,A3 b=(v:Int)-1074:=⟨(A3 b+1074).toNat,by omega⟩
 have ea:Nx a=Ay a*2^u:=by unfold Nx Gw; congr 2; omega
 have eb:Nx b=Ay b*2^v:=by unfold Nx Gw; congr 2; omega
 have s1:=(D1 (Ay a*Ay b) (u+v) (A3 a+A3 b)).1
 obtain ⟨t,ht⟩:∃ t:Nat,t=1074:=⟨1074,rfl⟩
 rw [← s1,← Ae6 hk,← (D1 (2^(j+k+1074)) t (-1074)).1]
 rw [← ht] at am bm ⊢
 have ee:A3 a+A3 b-((u+v:Nat):Int)=-1074-(t:Int):=by omega
 rw [ee]
 refine Ii ?_
 have:Ay a*Ay b*2^(u+v)=Nx a*Nx b:=by
  rw [ea,eb,A45,Nat.mul_mul_mul_comm]
 rw [this,← A45,show j+k+t+t=(j+t)+(k+t) by omega,A45]
 exact A5c am bm
end Go.Rnd
namespace Go.Rnd
open Go.Den
theorem Ak4 {P root rest two:Nat} (h1:P=root*root+rest) (h2:rest≤2*root) (h3:two<4) :
 (4*root+1≤4*rest+two→4*P+two=(2*root+1)*(2*root+1)+(4*rest+two-(4*root+1))∧4*rest+two-(4*root+1)≤2*(2*root+1)) ∧
 (4*rest+two<4*root+1→4*P+two=(2*root)*(2*root)+(4*rest+two)∧4*rest+two≤2*(2*root)):=by
 have e1:(2*root+1)*(2*root+1)=4*(root*root)+(4*root+1):=by
  rw [A5k,Nat.mul_add,Nat.mul_add]
  have:2*root*(2*root)=4*(root*root):=by rw [Nat.mul_mul_mul_comm]
  omega
 have e2:(2*root)*(2*root)=4*(root*root):=by rw [Nat.mul_mul_mul_comm]
 constructor
 ·intro h; rw [e1]; omega
 ·intro h; rw [e2]; omega
theorem Au8 {P root rest:Nat} (h1:P=root*root+rest) (h2:rest≤2*root):root=Tq P:=by
 refine Aa9 (by omega) ?_
 have:(root+1)*(root+1)=root*root+2*root+1:=by rw [A5k,Nat.mul_add]; omega
 omega
end Go.Rnd
namespace Go.Rnd
open Go.Den
theorem Avw {M a b:Nat} {E:Int} (h:2^a≤M) (g:(b:Int)-1074≤a+E):Ck (2^b) (-1074)≤Ck M E:=by
 by_cases k:-1074≤E
 ·have s:=(D1 M (E+1074).toNat E).1
  rw [show E-((E+1074).toNat:Int)=-1074 by omega] at s
  rw [← s]
  refine Ii (A5n (m:=2^(a+(E+1074).toNat)) (A4v (by decide) (by omega)) ?_)
  rw [A45]; exact A4s _ h
 ·have s:=(D1 (2^b) (-1074-E).toNat (-1074)).1
  rw [show (-1074:Int)-((-1074-E).toNat:Int)=E by omega,← A45] at s
  rw [← s]
  exact Ii (A5n (A4v (by decide) (by omega)) h)
theorem Aho {M a:Nat} {E:Int} (h:2^a≤M) (g:0≤a+E):pw 0≤Ck M E:=by
 obtain ⟨t,ht⟩:∃ t:Nat,t=1074:=⟨1074,rfl⟩
 rw [← Ae6 (k:=0) (by decide),A5q,← ht]
 exact Avw h (by omega)
def Nn (a:Nat):Prop:=a≤Oc
def Big (a:Nat):Prop:=pw 0≤a∧a≤Oc
theorem Py:Oc=9221120237041090560:=rfl
theorem Ayc:pw 0=4607182418800017408:=by unfold pw; omega
theorem Amz:Big Oc:=⟨by rw [Ayc,Py]; omega,A5a _⟩
theorem Af3:Big Ek:=⟨by rw [Ayc,Gb]; omega,by rw [Py,Gb]; omega⟩
theorem V6 (V:Nat) (E:Int):Nn (Ck V E):=by
 have:=Km V E
 rw [Gb] at this
 unfold Nn; rw [Py]; omega
theorem Ar2:Nn Oc:=A5a _
theorem Ar3:Nn Ek:=Af3.2
theorem Apv {z:Nat} (h:pw 0≤z%2^63):2^52≤Ay z∧-52≤A3 z:=by
 have h1:1023≤Ea z:=by unfold Ea; rw [Ayc] at h; omega
 unfold Ay A3
 rw [A42 (by omega),A42 (by omega)]
 omega
theorem Aar {a:Nat} (h:Nn a):By a=false:=by
 unfold Nn at h; rw [Py] at h
 exact A4l (by omega)
theorem Ax3 {z:Nat}:Nn (Ly z z).1∧(pw 0≤z%2^63→Big (Ly z z).1):=by
 have hp:(By z !=By z)=false:=by cases By z<;>rfl
 unfold Ly
 by_cases k4:Aj z=4
 ·rw [A43 (.inl k4)]; exact ⟨Ar2,fun _=>Amz⟩
 rw [A42 (by omega)]
 by_cases k3:Aj z=3
 ·rw [A43 (.inl k3),A42 (by omega),hp,Kf]; exact ⟨Ar3,fun _=>Af3⟩
 rw [A42 (by omega),hp,Kf]
 refine ⟨V6 _ _,fun h=>⟨?_,V6 _ _⟩⟩
 obtain ⟨h1,h2⟩:=Apv h
 refine Aho (a:=104) ?_ (by omega)
 rw [show (104:Nat)=52+52 from rfl,A45]
 exact A5c h1 h1
theorem Asx {a:Nat} (h:Nn a) (k3:Aj a=3):a=Ek:=by
 have:=Mn (b:=a) (by unfold Nn at h; rw [Py] at h; omega) k3
 rw [Aar h] at this
 exact this.symm
theorem Ael {a:Nat} (h:Nn a) (g:Int):Hl a g=Gw a g:=by
 unfold Hl Gw; rw [Aar h]; rfl
theorem Ay6 {s t:Nat} (hs:Nn s) (ht:Nn t):Nn (H4 s t).1∧(Big s∨Big t→Big (H4 s t).1):=by
 have hN:Nn Oc∧(Big s∨Big t→Big Oc):=⟨Ar2,fun _=>Amz⟩
 have hI:Nn Ek∧(Big s∨Big t→Big Ek):=⟨Ar3,fun _=>Af3⟩
 by_cases k:Aj s=4∨Aj t=4
 ·have:(H4 s t).1=Oc:=by unfold H4; rw [A43 k]
  rw [this]; exact hN
 by_cases s3:Aj s=3
 ·rw [Aje k s3]
  split
  ·exact hN
  ·obtain rfl:=Asx hs s3; exact hI
 by_cases t3:Aj t=3
 ·rw [Aee k s3 t3]
  obtain rfl:=Asx ht t3; exact hI
 have ek:=Am4 s3 (by omega) t3 (by omega) (g:=min (A3 s) (A3 t)) (Int.le_refl _)
 generalize hg:min (A3 s) (A3 t)=g at ek
 rw [Ael hs,Ael ht] at ek
 have e0:¬ ((Gw s g:Int)+(Gw t g:Int)<0):=by omega
 unfold Ahb at ek
 rw [A42 e0] at ek
 have n2:(H4 s t).1=Ck ((Gw s g:Int)+(Gw t g:Int)).natAbs g:=by
  have hn:By (H4 s t).1=false∨(H4 s t).1%2^63=0:=by
   unfold Hr at ek
   cases hh:By (H4 s t).1
   ·exact .inl rfl
   ·rw [hh] at ek
    have ek:-(((H4 s t).1%2^63:Nat):Int)=_:=ek
    exact .inr (by omega)
  have hlt:(H4 s t).1<2^64:=(Tz (by unfold Nn at hs; rw [Py] at hs; omega) (by unfold Nn at ht; rw [Py] at ht; omega)).1
  have hnf:By (H4 s t).1=false:=by
   rw [W0 k s3 t3]
   unfold L6
   have hh:(By s&&By t)=false:=by rw [Aar hs]; rfl
   split
   ·show By (Bo (By s&&By t) 0)=false
    rw [hh]; rfl
   ·rename_i h0
    rw [hg,Ael hs,Ael ht]
    rw [A4l e0,Kf]
    exact Aar (V6 _ _)
  unfold Hr at ek
  rw [hnf] at ek
  have ek:(((H4 s t).1%2^63:Nat):Int)=_:=ek
  unfold By at hnf
  have:=of_decide_eq_false hnf
  omega
 rw [n2]
 refine ⟨V6 _ _,fun h=>⟨?_,V6 _ _⟩⟩
 have ms:=Ot (b:=s) (f:=g) (by omega) (by omega)
 have mt:=Ot (b:=t) (f:=g) (by omega) (by omega)
 rcases h with h | h
 ·have:=Ii (V:=Gw s g) (W:=((Gw s g:Int)+(Gw t g:Int)).natAbs) (E:=g) (by omega)
  have h1:=h.1
  unfold Nn at hs; rw [Py] at hs
  rw [ms] at this; omega
 ·have:=Ii (V:=Gw t g) (W:=((Gw s g:Int)+(Gw t g:Int)).natAbs) (E:=g) (by omega)
  have h1:=h.1
  unfold Nn at ht; rw [Py] at ht
  rw [mt] at this; omega
theorem Aqz (k:Int):∀ (l:List Int) (s:Nat),Nn s→∃ t:Nat,Vi k s l=t∧Nn t∧((Big s∨∃ x∈l,pw 0≤(Bg x k).toNat%2^63)→Big t)
 | [],s,h=>⟨s,rfl,h,fun g=>by
  rcases g with g | ⟨x,hx,_⟩
  ·exact g
  ·cases hx⟩
 | x::l,s,h=>by
   obtain ⟨q1,q2⟩:=Ax3 (z:=(Bg x k).toNat)
   obtain ⟨a1,a2⟩:=Ay6 h q1
   obtain ⟨t,e,t1,t2⟩:=Aqz k l _ a1
   refine ⟨t,?_,t1,fun g=>t2 ?_⟩
   ·unfold Vi
    rw [← e]
    unfold Dt Cc
    rw [A4i,A4i]
   ·rcases g with g | ⟨y,hy,g⟩
    ·exact .inl (a2 (.inl g))
    ·rcases List.mem_cons.1 hy with rfl | hy
     ·exact .inl (a2 (.inr (q2 g)))
     ·exact .inr ⟨y,hy,g⟩
theorem Xy {b:Nat} (h:Aj b=0):b%2^63=0:=by
 unfold Aj Ea Dr at h
 split at h
 ·split at h<;>omega
 ·split at h
  ·omega
  ·split at h<;>omega
theorem Av5 {b:Nat} (k3:Aj b≠3) (k4:Aj b≠4) (k0:Aj b≠0):Aco b=((Ay b).log2:Int)+A3 b∧-1074≤Aco b:=by
 have:=Dy b
 have hf:Jy b=true:=by rw [Xx]; simp [k3,k4]
 unfold Aco
 rw [A43 ⟨hf,k0⟩]
 exact ⟨rfl,by omega⟩
theorem At5 {x:Int} {l:List Int} {m:Nat} (k:Aj x.toNat=4):P2 (x::l) m=Oc:=A43 k
theorem Ai4 {x:Int} {l:List Int} {m:Nat} (k:Aj x.toNat≠4):P2 (x::l) m=P2 l (max m (Gg x.toNat)):=A42 k
theorem At4:∀ (l:List Int) (m:Nat),P2 l m=Oc∨(m≤P2 l m∧∀ x∈l,Gg x.toNat≤P2 l m)
 | [],_=>.inr ⟨A5a _,fun _ h=>by cases h⟩
 | x::l,m=>by
   by_cases k4:Aj x.toNat=4
   ·exact .inl (At5 k4)
   rw [Ai4 k4]
   rcases At4 l (max m (Gg x.toNat)) with g | ⟨g1,g2⟩
   ·exact .inl g
   ·refine .inr ⟨by omega,fun y hy=>?_⟩
    rcases List.mem_cons.1 hy with rfl | hy
    ·omega
    ·exact g2 y hy
theorem Ao3 (b:Nat):Aj (Gg b)=Aj b:=by
 have h1:Ea (Gg b)=Ea b:=by unfold Ea Gg; omega
 have h2:Dr (Gg b)=Dr b:=by unfold Dr Gg; omega
 unfold Aj; rw [h1,h2]
theorem abs_zero {b:Nat} (h:Gg b=0):Aj b=0:=by
 rw [← Ao3,h]; decide
end Go.Rnd
namespace Go.Rnd
open Go.Den
theorem Aez {V u k:Nat} {E:Int} (hk:k≤1023) (h:V≤2^u) (g:(u:Int)+E≤k):Ck V E≤pw k:=by
 refine A5n (Ii h) ?_
 obtain ⟨t,ht⟩:∃ t:Nat,t=1074:=⟨1074,rfl⟩
 rw [← Ae6 hk,← ht]
 by_cases hE:-1074≤E
 ·have s:=(D1 (2^u) (E+1074).toNat E).1
  rw [show E-((E+1074).toNat:Int)=-1074 by omega,← A45] at s
  rw [← s]
  exact Ii (A4v (by decide) (by omega))
 ·have s:=(D1 (2^(k+t)) (-1074-E).toNat (-1074)).1
  rw [show (-1074:Int)-((-1074-E).toNat:Int)=E by omega,← A45] at s
  rw [← s]
  exact Ii (A4v (by decide) (by omega))
theorem Bd.Amb {k V u:Nat} {E:Int} (s:Bool) (hk:k≤1023) (h:V≤2^u) (g:(u:Int)+E≤k):Bd k (Bo s (Go.Rnd.Ck V E)):=Bd.Ck s hk (Aez hk h g)
theorem Bd.log {k a:Nat} (h:Bd k a) (h0:Ay a≠0):((Ay a).log2:Int)+A3 a≤k:=by
 have pa:=Dy a
 have hm:=h.2.2
 obtain ⟨t,ht⟩:∃ t:Nat,t=1074:=⟨1074,rfl⟩
 have e:Nx a=Ay a*2^(A3 a+1074).toNat:=by unfold Nx Gw; congr 2
 rw [e,← ht] at hm
 have h1:=A4s (2^(A3 a+1074).toNat) (Nat.log2_self_le h0)
 rw [← A45] at h1
 have:=(Nat.pow_le_pow_iff_right (a:=2) (by decide)).1 (A5n h1 hm)
 omega
theorem Bd.part {k a:Nat} (h:Bd k a) (h0:Ay a≠0):Ay a≤2^((k:Int)-A3 a).toNat∧A3 a≤k:=by
 have pa:=Dy a
 have hm:=h.2.2
 have hl:=h.log h0
 obtain ⟨t,ht⟩:∃ t:Nat,t=1074:=⟨1074,rfl⟩
 have e:Nx a=Ay a*2^(A3 a+1074).toNat:=by unfold Nx Gw; congr 2
 refine ⟨?_,by omega⟩
 rw [e,← ht,show k+t=((k:Int)-A3 a).toNat+(A3 a+1074).toNat by omega,A45] at hm
 exact Nat.le_of_mul_le_mul_right hm (Cp _)
theorem Atg {a b:Nat} (a3:Aj a≠3) (a4:Aj a≠4) (b3:Aj b≠3) (b4:Aj b≠4) (h:Gg a≤Gg b) (h0:Ay a≠0):((Ay a).log2:Int)+A3 a≤((Ay b).log2:Int)+A3 b:=by
 have pa:=Dy a
 have pb:=Dy b
 have hm:Gw a (-1074)≤Gw b (-1074):=by
  rcases A5d (Gw b (-1074)) (Gw a (-1074)) with g | g
  ·have:=(Aay (f:=-1074) b4 a4 pb.1 pa.1).1 g
   unfold Gg at h; omega
  ·exact g
 unfold Gw at hm
 have hb0:Ay b≠0:=fun e=>by
  rw [e,Nat.zero_mul] at hm
  have:=Nat.mul_pos (show 0<Ay a by omega) (Cp (A3 a - -1074).toNat)
  omega
 have h1:=A4s (2^(A3 a - -1074).toNat) (Nat.log2_self_le h0)
 have h2:=Nat.mul_lt_mul_of_pos_right (Nat.lt_log2_self (n:=Ay b)) (Cp (A3 b - -1074).toNat)
 rw [← A45] at h1 h2
 have:=(Nat.pow_lt_pow_iff_right (a:=2) (by decide)).1 (A5i (A5n h1 hm) h2)
 omega
theorem Bd.down {a b:Nat} (a3:Aj a≠3) (a4:Aj a≠4) (b3:Aj b≠3) (b4:Aj b≠4) (h:Gg a≤Gg b):Bd 1 (Fi a (-Aco b)).1:=by
 by_cases k0:Aj a=0
 ·unfold Fi
  rw [A42 a4,A43 (.inr k0)]
  refine .V4 (by decide) a4 ?_
  rw [Xy k0]; exact Nat.zero_le _
 have h0:Ay a≠0:=fun e=>k0 ((Hp a3 a4).1 e)
 have hb0:Aj b≠0:=fun e=>by
  have:=Xy e
  have hh:Aj a=0:=abs_zero (by unfold Gg at h ⊢; omega)
  exact k0 hh
 have hl:=Atg a3 a4 b3 b4 h h0
 obtain ⟨ee,_⟩:=Av5 b3 b4 hb0
 rw [Xb a4 (by omega)]
 exact .Amb _ (by decide) (Nat.le_of_lt (Nat.lt_log2_self (n:=Ay a))) (by omega)
structure Lo (t:Nat) (a:Nat):Prop where
 k3:Aj a≠3
 k4:Aj a≠4
 m0:Ay a≠0
 log:-(t:Int)≤((Ay a).log2:Int)+A3 a
theorem Anl {n u:Nat} (h:n≤2^(u+u)):Hd n≤2^(u+1):=by
 obtain ⟨h1,_⟩:=Qn n
 rw [A45] at h
 have hq:Tq n≤2^u:=by
  rcases A5d (2^u) (Tq n) with g | g
  ·have:=Nat.mul_lt_mul'' g g
   omega
  ·exact g
 unfold Hd
 rw [Nat.pow_succ]
 split
 ·omega
 ·rename_i hr
  have:Tq n≠2^u:=fun e=>by
   rw [e] at h1 hr
   omega
  omega
theorem Bd.root {j b:Nat} (hj:j≤1000) (hb:Bd (j+j) b) (hn:By b=false):Bd j (Oh b).1:=by
 by_cases k0:Aj b=0
 ·rw [N5 hb.2.1 (.inl k0)]
  refine .V4 (by omega) hb.2.1 ?_
  rw [Xy k0]; exact Nat.zero_le _
 have m0:Ay b≠0:=fun e=>k0 ((Hp hb.1 hb.2.1).1 e)
 have hi:b≠Ek:=fun e=>hb.1 (by rw [e]; exact Aid)
 rw [Z0 hb.2.1 (fun h=>h.elim k0 hi) hn]
 obtain ⟨p1,p2⟩:=hb.part m0
 obtain ⟨r1,r2⟩:=Aaa m0
 generalize hr:(A3 b-(K0 b:Int)) / 2-1=r at r2 ⊢
 have hrk:128≤K0 b:=by unfold K0; omega
 obtain ⟨u,hu⟩:∃ u:Nat,(u:Int)=(j:Int)-r-1:=⟨((j:Int)-r-1).toNat,by omega⟩
 have h2:Ay b*2^K0 b≤2^(u+u):=by
  refine A5n (A4s _ p1) ?_
  rw [← A45]
  exact A4v (by decide) (by omega)
 have:=Bd.Amb (k:=j) (E:=r) false (by omega) (Anl h2) (by omega)
 rw [Kf] at this
 exact this
def Bm (m k:Nat) (a:Nat):Prop:=Aj a≠3∧Aj a≠4∧Nx a≤m*2^(k+1074)
theorem Bd.bm {k a:Nat} (h:Bd k a):Bm 1 k a:=⟨h.1,h.2.1,by rw [Nat.one_mul]; exact h.2.2⟩
theorem Bm.bd {m k a j:Nat} (h:Bm m k a) (hm:m≤2^j):Bd (k+j) a:=by
 refine ⟨h.1,h.2.1,A5n h.2.2 ?_⟩
 obtain ⟨t,ht⟩:∃ t:Nat,t=1074:=⟨1074,rfl⟩
 rw [← ht,show k+j+t=j+(k+t) by omega,A45 2 j]
 exact A4s _ hm
theorem Atb {m k:Nat} (h0:m≠0) (hm:m≤1024) (hk:k≤1000):∃ z:Nat,z=Ck (m*2^(k+1074)) (-1074)∧z%2^63=z∧Aj z≠4∧Nx z=m*2^(k+1074):=by
 obtain ⟨t,ht⟩:∃ t:Nat,t=1074:=⟨1074,rfl⟩
 have s:=(D1 m (k+t) k).1
 rw [show (k:Int)-((k+t:Nat):Int)=-1074 by omega] at s
 have hu:Ck m k≤pw (k+10):=Aez (by omega) (u:=10) (by omega) (by omega)
 have hi:Ck m k<Ek:=A5i hu (Se (by omega)).2.2.2.2
 obtain ⟨_,d,e1,e2⟩:=Abo false h0 (Yq (V:=m) (E:=(k:Int)) (by omega) (by omega)) hi
 rw [Kf] at e1 e2
 have hl:=Q2 m k
 have pe:=Dy (Ck m k)
 have k4:=Tn false m k
 rw [Kf] at k4
 refine ⟨Ck m k,?_,A4t hl,k4,?_⟩
 ·rw [← ht]; exact s.symm
 ·unfold Nx Gw
  rw [e1,e2,A47,← A45]
  congr 2
  omega
theorem Bm.V4 {m k a z:Nat} (hz:Nx z=m*2^(k+1074)) (z4:Aj z≠4) (zi:z%2^63<Ek) (a4:Aj a≠4) (h:a%2^63≤z%2^63):Bm m k a:=by
 have a3:Aj a≠3:=fun e=>by have:=Rf e; omega
 refine ⟨a3,a4,?_⟩
 rw [← hz]
 have pa:=Dy a
 have pz:=Dy z
 rcases A5d (Nx z) (Nx a) with g | g
 ·have:=(Aay (f:=-1074) z4 a4 pz.1 pa.1).1 g
  omega
 ·exact g
theorem Bm.add {m n k a b:Nat} (h0:m+n≠0) (hmn:m+n≤1024) (hk:k≤1000) (ha:Bm m k a) (hb:Bm n k b):Bm (m+n) k (H4 a b).1:=by
 obtain ⟨a3,a4,am⟩:=ha
 obtain ⟨b3,b4,bm⟩:=hb
 have pa:=Dy a
 have pb:=Dy b
 have ek:=Am4 a3 a4 b3 b4 (g:=-1074) (by omega)
 have e4:Aj (H4 a b).1≠4:=by
  rw [W0 (by omega) a3 b3]
  unfold L6
  split
  ·have:Aj (Bo (By a&&By b) 0)=0:=by cases (By a&&By b)<;>decide
   show Aj (Bo (By a&&By b) 0)≠4
   omega
  ·exact Tn _ _ _
 obtain ⟨z,ez,z63,z4,zm⟩:=Atb h0 hmn hk
 have zi:z%2^63<Ek:=by
  have hu:z≤pw (k+10):=by
   rw [ez]
   refine Aez (u:=k+1074+10) (by omega) ?_ (by omega)
   rw [A45 2 (k+1074),A44]
   exact Nat.mul_le_mul_left _ hmn
  have:=(Se (k:=k+10) (by omega)).2.2.2.2
  omega
 refine .V4 zm z4 zi e4 ?_
 have hs:(Hl a (-1074)+Hl b (-1074)).natAbs≤(m+n)*2^(k+1074):=by
  have h1:=Ahw a
  have h2:=Ahw b
  have:(m+n)*2^(k+1074)=m*2^(k+1074)+n*2^(k+1074):=A5k _ _ _
  omega
 have hr:=Ii (E:=-1074) hs
 rw [← ez] at hr
 have hn:(Hr (H4 a b).1).natAbs=(H4 a b).1%2^63:=by unfold Hr; rw [Alz]
 rw [← hn,ek,z63]
 unfold Ahb
 split<;>omega
end Go.Rnd
namespace Go.Rnd
open Go.Den
def tw (e:Int):Rat:=(2:Rat)^e
theorem Um:(2:Rat)≠0:=by decide
end Go.Rnd
namespace Go.Rnd
open Go.Den
structure Dg (g t n:Nat) (x:Rat):Prop where
 ex:∃ v:Int,x=(v:Rat)*tw (-(g:Int))∧v.natAbs≤n*2^t
end Go.Rnd
namespace Go.Rnd
open Go.Den
end Go.Rnd
namespace Go.Rnd
open Go.Den
def Ado (a b:Int):Bool:=decide (Hq a b<0)
def Ev (R n:Nat) (l:List Int) (p:Nat):List Int:=Ci (n:Int) l (p:Int) 0 R
def W6 (x y:List Int) (low:Int):Bool:=(!(Ado low (Bt x))||!(Ado low (Bt y)))||!(Ado (Bg (Cc (Bt x) (Bt y)) (-44)) (Iw (Hj x y)))
def F1 (a b:Int):Bool:=Qh a b&&decide (0<Hq a b)
def beR (x y:List Int) (low:Int):Bool:=(!(F1 (Bt x) low)||!(F1 (Bt y) low))||!(F1 (Iw (Hj x y)) (Bg (Cc (Bt x) (Bt y)) (-44)))
def Iy (x y:List Int):Int:=Ey (E4 (Hj y y) (Hj x x)) (Dt (Hj x y) (Hj x y))
def Aep (z:Int):Int:=Ey Ae9 (Dt (Iw z) (Ed (Dt Ae9 (Cc z z))))
def G2 (z:Int):Int:=if Eb z=true then Cz (Aep z) else Aep z
def Ms (t:Int):Int:=Ey Ae9 (Ed (Dt Ae9 (Cc t t)))
def Lz (t:Int):Int:=Cc (Ms t) t
def trC (x y:List Int) (low:Int):Int:=if W6 x y low=true then 0 else Ms (G2 (Iy x y))
def trS (x y:List Int) (low:Int):Int:=if W6 x y low=true then 0 else Lz (G2 (Iy x y))
def Lh (R n:Nat) (l:List Int) (i k:Nat) (c s:Int):List Int:=Cx R n fun a b =>
 if a=i then Dt (Cc c (Fp (n:Int) l (i:Int) (b:Int))) (Cc s (Fp (n:Int) l (k:Int) (b:Int)))
 else if a=k then E4 (Cc c (Fp (n:Int) l (k:Int) (b:Int))) (Cc s (Fp (n:Int) l (i:Int) (b:Int))) else Fp (n:Int) l (a:Int) (b:Int)
def Oy (R n:Nat) (l:List Int) (i k:Nat) (c s:Int):List Int:=Cx R n fun a b =>
 if b=i then Dt (Cc c (Fp (n:Int) l (a:Int) (i:Int))) (Cc s (Fp (n:Int) l (a:Int) (k:Int)))
 else if b=k then E4 (Cc c (Fp (n:Int) l (a:Int) (k:Int))) (Cc s (Fp (n:Int) l (a:Int) (i:Int))) else Fp (n:Int) l (a:Int) (b:Int)
def Mr (be:List Int→List Int→Int→Bool) (R n:Nat) (low:Int) (p q:Nat) (s:List Int × List Int × Bool):List Int × List Int × Bool :=
 if be (Ev R n s.1 p) (Ev R n s.1 q) low=true then s
 else (Oy R n s.1 p q (Ms (G2 (Iy (Ev R n s.1 p) (Ev R n s.1 q)))) (Cz (Lz (G2 (Iy (Ev R n s.1 p) (Ev R n s.1 q))))),
  Oy n n s.2.1 p q (Ms (G2 (Iy (Ev R n s.1 p) (Ev R n s.1 q)))) (Cz (Lz (G2 (Iy (Ev R n s.1 p) (Ev R n s.1 q))))),false)
def O6 (be:List Int→List Int→Int→Bool) (R n:Nat) (low:Int) (p:Nat):Nat→Nat→List Int × List Int × Bool→List Int × List Int × Bool
 | 0,_,s=>s
 | d+1,q,s=>O6 be R n low p d (q+1) (Mr be R n low p q s)
def Mv (be:List Int→List Int→Int→Bool) (R n:Nat) (low:Int):Nat→Nat→List Int × List Int × Bool→List Int × List Int × Bool
 | 0,_,s=>s
 | d+1,p,s=>Mv be R n low d (p+1) (O6 be R n low p (n-(p+1)) (p+1) s)
def Js (R n:Nat) (low:Int) (w v:List Int):List Int × List Int × Bool:=Mv W6 R n low n 0 (w,v,true)
def Sd (R n:Nat) (low:Int) (w v:List Int):List Int × List Int × Bool:=Mv beR R n low n 0 (w,v,true)
def Ej (R n:Nat) (low:Int):Nat→List Int→List Int→List Int × List Int × Int
 | 0,w,v=>(w,v,6)
 | m+1,w,v=>if (Js R n low w v).2.2=true then ((Js R n low w v).1,(Js R n low w v).2.1,0) else Ej R n low m (Js R n low w v).1 (Js R n low w v).2.1
def Ca (R n:Nat) (l:List Int):List Int:=(List.range n).map fun c=>Bt (Ev R n l c)
def P0 (key:Int→Int) (x:Int):List Int→List Int
 | []=>[x]
 | y::t=>if Hq (key y) (key x)<0 then y::P0 key x t else x::y::t
def Sa (key:Int→Int) (l:List Int):List Int:=l.foldl (fun acc x=>P0 key x acc) []
def Ll (l:List Int) (i:Int):Int:=l.getD i.toNat 0
def K9 (n:Nat):List Int:=(List.range n).map fun i:Nat=>(i:Int)
def E5 (l x:List Int):List Int:=(Sa (Ll l) x).reverse
def A1k (l:List Int) (n:Nat):List Int:=E5 l (K9 n)
def O8 (key:Int→Int) (x:Int):List Int→List Int
 | []=>[x]
 | y::t=>if F1 (key x) (key y)=true then x::y::t else y::O8 key x t
def Fm (l:List Int):List Int:=(K9 l.length).foldl (fun acc x=>O8 (Ll l) x acc) []
def Jg (n:Nat) (x:List Int):Bool:=x.all fun i=>decide (0≤i∧i<(n:Int))
def Cr (R n:Nat) (l ps:List Int):List Int:=Cx R n fun i k=>Fp (n:Int) l (i:Int) (ps.getD k 0)
def Gd (l:List Int):Int:=B1 (Bk l)
def Ei (R n:Nat) (l:List Int):List Int × List Int × Int:=Ej R n (Bg (Bt (A9 l (-(Gd l)))) (-44)) 60 (A9 l (-(Gd l))) (Ic n)
def Aqb (R n:Nat) (l:List Int):List Int:=A1k (Ca R n (Ei R n l).1) n
def K8 (R n:Nat) (l:List Int):List Int:=A9 (Cr R n (Ei R n l).1 (Aqb R n l)) (Gd l)
def R1 (R n:Nat) (l:List Int):List Int:=Cr n n (Ei R n l).2.1 (Aqb R n l)
def Ht (r c:Int) (l:List Int):Int :=
 if D5 r c l≠0 then D5 r c l else if (Ei r.toNat c.toNat l).2.2≠0 then 6 else if (Dc (K8 r.toNat c.toNat l)&&Dc (R1 r.toNat c.toNat l))=true then 0 else 2
def Fq (r c:Int) (l:List Int):MX:=if Ht r c l≠0 then L8 (Ht r c l) else (r,c,K8 r.toNat c.toNat l,0)
def Hg (r c:Int) (l:List Int):MX:=if Ht r c l≠0 then L8 (Ht r c l) else (c,c,R1 r.toNat c.toNat l,0)
def O5 (r c:Int) (l:List Int):List Int:=if Ht r c l≠0 then [] else Ca r.toNat c.toNat (K8 r.toNat c.toNat l)
end Go.Rnd
namespace Go.Rnd
open Go.Den
def Ala (r c:Int) (l:List Int) (p q:Int) (m:List Int):Int:=if D5 r c l≠0 then D5 r c l else D5 p q m
end Go.Rnd
namespace Go.Rnd
open Go.Den
def Ak2 (b:Int):Bool:=!(decide (Hq (Bg 4607182418800017408 (-40)) b<0))
def Y4 (l:List Int):Int:=(l.countP Ak2:Nat)
end Go.Rnd
namespace Go.Rnd
open Go.Den
def Zj (r c:Int) (l:List Int) (p q:Int) (m:List Int):Int :=
 if Ala r c l p q m≠0 then Ala r c l p q m else if c≠q∨c<1∨r+p<c∨6<r+p then 3 else 0
def gsQ (r c:Int) (l:List Int) (p:Int) (m:List Int):MX:=Un (r+p) c (l++m)
def Hb (r c:Int) (l:List Int) (p:Int) (m:List Int):MX:=Q6 (gsQ r c l p m) 0 0 r c
def gsL (r c:Int) (l:List Int) (p:Int) (m:List Int):MX:=Q6 (gsQ r c l p m) r 0 p c
def gsV (r c:Int) (l:List Int) (p:Int) (m:List Int):MX:=Hg (Hb r c l p m).1 (Hb r c l p m).2.1 (Hb r c l p m).2.2.1
def Yt (r c:Int) (l:List Int) (p:Int) (m:List Int):MX:=mulM (gsL r c l p m) (gsV r c l p m)
def Cj (r c:Int) (l:List Int) (p q:Int) (m:List Int):Int :=
 if Zj r c l p q m≠0 then Zj r c l p q m else if Fa (r+p) c (l++m)≠0 then 2
 else if Ht (Hb r c l p m).1 (Hb r c l p m).2.1 (Hb r c l p m).2.2.1≠0 then Ht (Hb r c l p m).1 (Hb r c l p m).2.1 (Hb r c l p m).2.2.1
 else if Dc (Yt r c l p m).2.2.1=true then 0 else 2
def gsO (e:Int) (x:MX):MX:=if e≠0 then L8 e else x
def As5 (e:Int) (x:List Int):List Int:=if e≠0 then [] else x
def Cn (r c:Int) (l:List Int) (p q:Int) (m:List Int):MX:=gsO (Cj r c l p q m) (Fq (Hb r c l p m).1 (Hb r c l p m).2.1 (Hb r c l p m).2.2.1)
def Dx (r c:Int) (l:List Int) (p q:Int) (m:List Int):MX:=gsO (Cj r c l p q m) (Yt r c l p m)
def Fw (r c:Int) (l:List Int) (p q:Int) (m:List Int):MX:=gsO (Cj r c l p q m) (gsV r c l p m)
def R4 (r c:Int) (l:List Int) (p q:Int) (m:List Int):MX:=gsO (Cj r c l p q m) (Og (r+p) c (l++m))
def Gs (r c:Int) (l:List Int) (p q:Int) (m:List Int):List Int:=As5 (Cj r c l p q m) (O5 (Hb r c l p m).1 (Hb r c l p m).2.1 (Hb r c l p m).2.2.1)
def O9 (r c:Int) (l:List Int) (p q:Int) (m:List Int):List Int:=As5 (Cj r c l p q m) (Ca p.toNat c.toNat (Yt r c l p m).2.2.1)
end Go.Rnd
namespace Go.Proofs.S1
open Go Go.Den Go.Rnd
def soft.Split.pre:List Atom→Bool
 | [.i x]=>Af x
 | _=>false
def soft.Split.out:List Atom→DV
 | [.i x]=>.agg [.bool (Eb x),.int .i64 (Nt x),.int .u64 (Dw x)]
 | _=>.undef
abbrev soft.Split.ts:List AT:=[.i .u64]
def soft.Split.spec:Entry:=entry soft.Split.ts soft.Split.pre soft.Split.out
def soft.Kind.pre:List Atom→Bool
 | [.i x]=>Af x
 | _=>false
def soft.Kind.out:List Atom→DV
 | [.i x]=>.int .i64 (Bz x)
 | _=>.undef
abbrev soft.Kind.ts:List AT:=[.i .u64]
def soft.Kind.spec:Entry:=entry soft.Kind.ts soft.Kind.pre soft.Kind.out
def soft.Sign.pre:List Atom→Bool
 | [.i x]=>Af x
 | _=>false
def soft.Sign.out:List Atom→DV
 | [.i x]=>.bool (Eb x)
 | _=>.undef
abbrev soft.Sign.ts:List AT:=[.i .u64]
def soft.Sign.spec:Entry:=entry soft.Sign.ts soft.Sign.pre soft.Sign.out
def soft.Finite.pre:List Atom→Bool
 | [.i x]=>Af x
 | _=>false
def soft.Finite.out:List Atom→DV
 | [.i x]=>.bool (Dz x)
 | _=>.undef
abbrev soft.Finite.ts:List AT:=[.i .u64]
def soft.Finite.spec:Entry:=entry soft.Finite.ts soft.Finite.pre soft.Finite.out
def soft.Du.pre:List Atom→Bool
 | [.i x]=>Af x
 | _=>false
def soft.Du.out:List Atom→DV
 | [.i x]=>.int .u64 (Cz x)
 | _=>.undef
abbrev soft.Du.ts:List AT:=[.i .u64]
def soft.Du.spec:Entry:=entry soft.Du.ts soft.Du.pre soft.Du.out
def soft.G0.pre:List Atom→Bool
 | [.i x]=>Af x
 | _=>false
def soft.G0.out:List Atom→DV
 | [.i x]=>.tup [.int .u64 (B6 x),.int .i64 (Bp x)]
 | _=>.undef
abbrev soft.G0.ts:List AT:=[.i .u64]
def soft.G0.spec:Entry:=entry soft.G0.ts soft.G0.pre soft.G0.out
def soft.Pack.mu:List Atom→Nat
 | [.b _n,.i m,.i e]=>Q7 m e
 | _=>0
def soft.Pack.pre:List Atom→Bool
 | [.b _n,.i m,.i e]=>Mi m e
 | _=>false
def soft.Pack.out:List Atom→DV
 | [.b n,.i m,.i e]=>.int .u64 (Vy n m e)
 | _=>.undef
abbrev soft.Pack.ts:List AT:=[.b,.i .u64,.i .i64]
def soft.Pack.spec:Entry:=entry soft.Pack.ts soft.Pack.pre soft.Pack.out
def soft.D9.pre:List Atom→Bool
 | [.b _n,.i m,.i e,.b r]=>Fe m e r
 | _=>false
def soft.D9.out:List Atom→DV
 | [.b n,.i m,.i e,.b r]=>.tup [.int .u64 (F0 n m e r),.int .u8 (Fz n m e r)]
 | _=>.undef
abbrev soft.D9.ts:List AT:=[.b,.i .u64,.i .i64,.b]
def soft.D9.spec:Entry:=entry soft.D9.ts soft.D9.pre soft.D9.out
def sum.right.pre:List Atom→Bool
 | [.i m,.i d]=>Af m&&B5 (0≤d∧d<1000000)
 | _=>false
def sum.right.out:List Atom→DV
 | [.i m,.i d]=>.int .u64 (Gi m d)
 | _=>.undef
abbrev sum.right.ts:List AT:=[.i .u64,.i .i64]
def sum.right.spec:Entry:=entry sum.right.ts sum.right.pre sum.right.out
def sum.E2.pre:List Atom→Bool
 | [.i a,.i b]=>(Af a&&Af b)&&(!(Dz a)||!(Dz b))
 | _=>false
def sum.E2.out:List Atom→DV
 | [.i a,.i b]=>.tup [.int .u64 (Dt a b),.int .u8 (Y2 a b)]
 | _=>.undef
abbrev sum.E2.ts:List AT:=[.i .u64,.i .u64]
def sum.E2.spec:Entry:=entry sum.E2.ts sum.E2.pre sum.E2.out
def sum.Add.pre:List Atom→Bool
 | [.i a,.i b]=>Af a&&Af b
 | _=>false
def sum.Add.out:List Atom→DV
 | [.i a,.i b]=>.tup [.int .u64 (Dt a b),.int .u8 (Y2 a b)]
 | _=>.undef
abbrev sum.Add.ts:List AT:=[.i .u64,.i .u64]
def sum.Add.spec:Entry:=entry sum.Add.ts sum.Add.pre sum.Add.out
def sum.Sub.pre:List Atom→Bool
 | [.i a,.i b]=>Af a&&Af b
 | _=>false
def sum.Sub.out:List Atom→DV
 | [.i a,.i b]=>.tup [.int .u64 (E4 a b),.int .u8 (A1g a b)]
 | _=>.undef
abbrev sum.Sub.ts:List AT:=[.i .u64,.i .u64]
def sum.Sub.spec:Entry:=entry sum.Sub.ts sum.Sub.pre sum.Sub.out
def A6.Neg.pre:List Atom→Bool
 | [.i x]=>Af x
 | _=>false
def A6.Neg.out:List Atom→DV
 | [.i x]=>.bool (Eb x)
 | _=>.undef
abbrev A6.Neg.ts:List AT:=[.i .u64]
def A6.Neg.spec:Entry:=entry A6.Neg.ts A6.Neg.pre A6.Neg.out
def A6.Power.pre:List Atom→Bool
 | [.i x]=>Oo x
 | _=>false
def A6.Power.out:List Atom→DV
 | [.i x]=>.int .i64 (Nt x)
 | _=>.undef
abbrev A6.Power.ts:List AT:=[.i .u64]
def A6.Power.spec:Entry:=entry A6.Power.ts A6.Power.pre A6.Power.out
def A6.Lw.pre:List Atom→Bool
 | [.i x]=>Oo x
 | _=>false
def A6.Lw.out:List Atom→DV
 | [.i x]=>.int .u64 (Dw x)
 | _=>.undef
abbrev A6.Lw.ts:List AT:=[.i .u64]
def A6.Lw.spec:Entry:=entry A6.Lw.ts A6.Lw.pre A6.Lw.out
def A6.Kind.pre:List Atom→Bool
 | [.i x]=>Oo x
 | _=>false
def A6.Kind.out:List Atom→DV
 | [.i x]=>.int .i64 (Bz x)
 | _=>.undef
abbrev A6.Kind.ts:List AT:=[.i .u64]
def A6.Kind.spec:Entry:=entry A6.Kind.ts A6.Kind.pre A6.Kind.out
def A6.Finite.pre:List Atom→Bool
 | [.i x]=>Af x
 | _=>false
def A6.Finite.out:List Atom→DV
 | [.i x]=>.bool (Dz x)
 | _=>.undef
abbrev A6.Finite.ts:List AT:=[.i .u64]
def A6.Finite.spec:Entry:=entry A6.Finite.ts A6.Finite.pre A6.Finite.out
def A6.Du.pre:List Atom→Bool
 | [.i x]=>Af x
 | _=>false
def A6.Du.out:List Atom→DV
 | [.i x]=>.int .u64 (Cz x)
 | _=>.undef
abbrev A6.Du.ts:List AT:=[.i .u64]
def A6.Du.spec:Entry:=entry A6.Du.ts A6.Du.pre A6.Du.out
def Fc.Canon.pre:List Atom→Bool
 | [.i x]=>Oo x
 | _=>false
def Fc.Canon.out:List Atom→DV
 | [.i x]=>.int .u64 (Abw x)
 | _=>.undef
abbrev Fc.Canon.ts:List AT:=[.i .u64]
def Fc.Canon.spec:Entry:=entry Fc.Canon.ts Fc.Canon.pre Fc.Canon.out
def Dk.B9.pre:List Atom→Bool
 | [.i x]=>Af x
 | _=>false
def Dk.B9.out:List Atom→DV
 | [.i x]=>.int .i64 (64-F2 x)
 | _=>.undef
abbrev Dk.B9.ts:List AT:=[.i .u64]
def Dk.B9.spec:Entry:=entry Dk.B9.ts Dk.B9.pre Dk.B9.out
def Dk.Ir.pre:List Atom→Bool
 | [.i x,.i y]=>Af x&&Af y
 | _=>false
def Dk.Ir.out:List Atom→DV
 | [.i x,.i y]=>.tup [.int .u64 (Uc x y),.int .u64 (Pm x y)]
 | _=>.undef
abbrev Dk.Ir.ts:List AT:=[.i .u64,.i .u64]
def Dk.Ir.spec:Entry:=entry Dk.Ir.ts Dk.Ir.pre Dk.Ir.out
def times.signed.pre:List Atom→Bool
 | [.i b,.b _n]=>Af b
 | _=>false
def times.signed.out:List Atom→DV
 | [.i b,.b n]=>.int .u64 (T9 n b)
 | _=>.undef
abbrev times.signed.ts:List AT:=[.i .u64,.b]
def times.signed.spec:Entry:=entry times.signed.ts times.signed.pre times.signed.out
def times.nan.pre:List Atom→Bool
 | [.i a,.i b]=>Af a&&Af b
 | _=>false
def times.nan.out:List Atom→DV
 | [.i a,.i b]=>.bool (Asa a b)
 | _=>.undef
abbrev times.nan.ts:List AT:=[.i .u64,.i .u64]
def times.nan.spec:Entry:=entry times.nan.ts times.nan.pre times.nan.out
def times.norm.pre:List Atom→Bool
 | [.i b]=>Af b&&Nv b
 | _=>false
def times.norm.out:List Atom→DV
 | [.i b]=>.tup [.int .u64 (D0 b),.int .i64 (I2 b)]
 | _=>.undef
abbrev times.norm.ts:List AT:=[.i .u64]
def times.norm.spec:Entry:=entry times.norm.ts times.norm.pre times.norm.out
def times.wide.pre:List Atom→Bool
 | [.b _n,.i m,.i e,.b _r]=>Qy m e
 | _=>false
def times.wide.out:List Atom→DV
 | [.b n,.i m,.i e,.b r]=>.tup [.int .u64 (F0 n m e r),.int .u8 (Fz n m e r)]
 | _=>.undef
abbrev times.wide.ts:List AT:=[.b,.i .u64,.i .i64,.b]
def times.wide.spec:Entry:=entry times.wide.ts times.wide.pre times.wide.out
def times.Mul.pre:List Atom→Bool
 | [.i a,.i b]=>Af a&&Af b
 | _=>false
def times.Mul.out:List Atom→DV
 | [.i a,.i b]=>.tup [.int .u64 (Cc a b),.int .u8 (A1n a b)]
 | _=>.undef
abbrev times.Mul.ts:List AT:=[.i .u64,.i .u64]
def times.Mul.spec:Entry:=entry times.Mul.ts times.Mul.pre times.Mul.out
def times.Div.pre:List Atom→Bool
 | [.i a,.i b]=>Af a&&Af b
 | _=>false
def times.Div.out:List Atom→DV
 | [.i a,.i b]=>.tup [.int .u64 (Ey a b),.int .u8 (A1u a b)]
 | _=>.undef
abbrev times.Div.ts:List AT:=[.i .u64,.i .u64]
def times.Div.spec:Entry:=entry times.Div.ts times.Div.pre times.Div.out
def Ag.Add.pre:List Atom→Bool
 | [.i a,.i b]=>Af a&&Af b
 | _=>false
def Ag.Add.out:List Atom→DV
 | [.i a,.i b]=>.int .u64 (Dt a b)
 | _=>.undef
abbrev Ag.Add.ts:List AT:=[.i .u64,.i .u64]
def Ag.Add.spec:Entry:=entry Ag.Add.ts Ag.Add.pre Ag.Add.out
def Ag.Sub.pre:List Atom→Bool
 | [.i a,.i b]=>Af a&&Af b
 | _=>false
def Ag.Sub.out:List Atom→DV
 | [.i a,.i b]=>.int .u64 (E4 a b)
 | _=>.undef
abbrev Ag.Sub.ts:List AT:=[.i .u64,.i .u64]
def Ag.Sub.spec:Entry:=entry Ag.Sub.ts Ag.Sub.pre Ag.Sub.out
def Ag.Mul.pre:List Atom→Bool
 | [.i a,.i b]=>Af a&&Af b
 | _=>false
def Ag.Mul.out:List Atom→DV
 | [.i a,.i b]=>.int .u64 (Cc a b)
 | _=>.undef
abbrev Ag.Mul.ts:List AT:=[.i .u64,.i .u64]
def Ag.Mul.spec:Entry:=entry Ag.Mul.ts Ag.Mul.pre Ag.Mul.out
def Ag.fit.pre:List Atom→Bool
 | [.l _x,.l _y]=>true
 | _=>false
def Ag.fit.out:List Atom→DV
 | [.l x,.l y]=>.bool (Mb x y)
 | _=>.undef
abbrev Ag.fit.ts:List AT:=[.s .u64,.s .u64]
def Ag.fit.spec:Entry:=entry Ag.fit.ts Ag.fit.pre Ag.fit.out
def Ag.H9.pre:List Atom→Bool
 | [.l x,.l y]=>(Mb x y&&Al x)&&Al y
 | _=>false
def Ag.H9.out:List Atom→DV
 | [.l x,.l y]=>.tup [.int .u64 (Hj x y),.int .i64 (0:Int)]
 | _=>.undef
abbrev Ag.H9.ts:List AT:=[.s .u64,.s .u64]
def Ag.H9.spec:Entry:=entry Ag.H9.ts Ag.H9.pre Ag.H9.out
def Ah.F.pre:List Atom→Bool
 | [.i x]=>Af x
 | _=>false
def Ah.F.out:List Atom→DV
 | [.i x]=>.fl (toNat x)
 | _=>.undef
abbrev Ah.F.ts:List AT:=[.i .u64]
def Ah.F.spec:Entry:=entry Ah.F.ts Ah.F.pre Ah.F.out
def Ah.B.pre:List Atom→Bool
 | [.f _x]=>true
 | _=>false
def Ah.B.out:List Atom→DV
 | [.f x]=>.int .u64 (Hf x)
 | _=>.undef
abbrev Ah.B.ts:List AT:=[.fl]
def Ah.B.spec:Entry:=entry Ah.B.ts Ah.B.pre Ah.B.out
def Ah.Add.pre:List Atom→Bool
 | [.i a,.i b]=>Af a&&Af b
 | _=>false
def Ah.Add.out:List Atom→DV
 | [.i a,.i b]=>.int .u64 (Dt a b)
 | _=>.undef
abbrev Ah.Add.ts:List AT:=[.i .u64,.i .u64]
def Ah.Add.spec:Entry:=entry Ah.Add.ts Ah.Add.pre Ah.Add.out
def Ah.Sub.pre:List Atom→Bool
 | [.i a,.i b]=>Af a&&Af b
 | _=>false
def Ah.Sub.out:List Atom→DV
 | [.i a,.i b]=>.int .u64 (E4 a b)
 | _=>.undef
abbrev Ah.Sub.ts:List AT:=[.i .u64,.i .u64]
def Ah.Sub.spec:Entry:=entry Ah.Sub.ts Ah.Sub.pre Ah.Sub.out
def Ah.Mul.pre:List Atom→Bool
 | [.i a,.i b]=>Af a&&Af b
 | _=>false
def Ah.Mul.out:List Atom→DV
 | [.i a,.i b]=>.int .u64 (Cc a b)
 | _=>.undef
abbrev Ah.Mul.ts:List AT:=[.i .u64,.i .u64]
def Ah.Mul.spec:Entry:=entry Ah.Mul.ts Ah.Mul.pre Ah.Mul.out
def Ah.H9.pre:List Atom→Bool
 | [.l x,.l y]=>(Mb x y&&Al x)&&Al y
 | _=>false
def Ah.H9.out:List Atom→DV
 | [.l x,.l y]=>.int .u64 (Hj x y)
 | _=>.undef
abbrev Ah.H9.ts:List AT:=[.s .u64,.s .u64]
def Ah.H9.spec:Entry:=entry Ah.H9.ts Ah.H9.pre Ah.H9.out
def Ah.E8.pre:List Atom→Bool
 | [.l x,.l _y]=>Hz x
 | _=>false
def Ah.E8.out:List Atom→DV
 | [.l x,.l y]=>.bool (Ka x y)
 | _=>.undef
abbrev Ah.E8.ts:List AT:=[.s .u64,.s .u64]
def Ah.E8.spec:Entry:=entry Ah.E8.ts Ah.E8.pre Ah.E8.out
def Aa.size.pre:List Atom→Bool
 | [.i _n]=>true
 | _=>false
def Aa.size.out:List Atom→DV
 | [.i n]=>.bool (Cg n)
 | _=>.undef
abbrev Aa.size.ts:List AT:=[.i .i64]
def Aa.size.spec:Entry:=entry Aa.size.ts Aa.size.pre Aa.size.out
def Aa.Check.pre:List Atom→Bool
 | [.i _r,.i _c,.l _l]=>true
 | _=>false
def Aa.Check.out:List Atom→DV
 | [.i r,.i c,.l l]=>.int .i64 (Lq r c l)
 | _=>.undef
abbrev Aa.Check.ts:List AT:=[.st [.i .i64,.i .i64,.s .u64]]
def Aa.Check.spec:Entry:=entry Aa.Check.ts Aa.Check.pre Aa.Check.out
def Aa.get.pre:List Atom→Bool
 | [.i r,.i c,.l l,.i i,.i k]=>En r c l i k
 | _=>false
def Aa.get.out:List Atom→DV
 | [.i _r,.i c,.l l,.i i,.i k]=>.int .u64 (Fp c l i k)
 | _=>.undef
abbrev Aa.get.ts:List AT:=[.st [.i .i64,.i .i64,.s .u64],.i .i64,.i .i64]
def Aa.get.spec:Entry:=entry Aa.get.ts Aa.get.pre Aa.get.out
def Aa.two.pre:List Atom→Bool
 | [.i _r,.i _c,.l _l,.i _p,.i _q,.l _m]=>true
 | _=>false
def Aa.two.out:List Atom→DV
 | [.i r,.i c,.l l,.i p,.i q,.l m]=>.int .i64 (Zs r c l p q m)
 | _=>.undef
abbrev Aa.two.ts:List AT:=[.st [.i .i64,.i .i64,.s .u64],.st [.i .i64,.i .i64,.s .u64]]
def Aa.two.spec:Entry:=entry Aa.two.ts Aa.two.pre Aa.two.out
def Aa.Row.pre:List Atom→Bool
 | [.i r,.i c,.l l,.i i,.i f]=>Uq r c l i&&decide (f=0)
 | _=>false
def Aa.Row.out:List Atom→DV
 | [.i _r,.i c,.l l,.i i,.i _f]=>.ints .fresh .u64 (Lx c l i)
 | _=>.undef
abbrev Aa.Row.ts:List AT:=[.st [.i .i64,.i .i64,.s .u64],.i .i64,.i .i64]
def Aa.Row.spec:Entry:=entry Aa.Row.ts Aa.Row.pre Aa.Row.out
def Aa.D6.pre:List Atom→Bool
 | [.i r,.i c,.l l,.i k,.i f]=>Fv r c l k&&B5 (0≤f∧f≤r)
 | _=>false
def Aa.D6.out:List Atom→DV
 | [.i r,.i c,.l l,.i k,.i f]=>.ints .fresh .u64 (Ci c l k f (toNat (r-f)))
 | _=>.undef
abbrev Aa.D6.ts:List AT:=[.st [.i .i64,.i .i64,.s .u64],.i .i64,.i .i64]
def Aa.D6.spec:Entry:=entry Aa.D6.ts Aa.D6.pre Aa.D6.out
def Aa.Iv.pre:List Atom→Bool
 | [.i _i,.i _k]=>true
 | _=>false
def Aa.Iv.out:List Atom→DV
 | [.i i,.i k]=>.int .u64 (N0 i k)
 | _=>.undef
abbrev Aa.Iv.ts:List AT:=[.i .i64,.i .i64]
def Aa.Iv.spec:Entry:=entry Aa.Iv.ts Aa.Iv.pre Aa.Iv.out
def Aa.Gl.pre:List Atom→Bool
 | [.i i,.i k,.i r,.i c,.l l]=>En r c l k i
 | _=>false
def Aa.Gl.out:List Atom→DV
 | [.i i,.i k,.i _r,.i c,.l l]=>.int .u64 (Fp c l k i)
 | _=>.undef
abbrev Aa.Gl.ts:List AT:=[.i .i64,.i .i64,.cp [.i .i64,.i .i64,.s .u64]]
def Aa.Gl.spec:Entry:=entry Aa.Gl.ts Aa.Gl.pre Aa.Gl.out
def Aa.Gm.pre:List Atom→Bool
 | [.i i,.i k,.i r,.i c,.l l,.i x,.i y]=>En r c l (x+i) (y+k)&&Z2 x y i k
 | _=>false
def Aa.Gm.out:List Atom→DV
 | [.i i,.i k,.i _r,.i c,.l l,.i x,.i y]=>.int .u64 (Fp c l (x+i) (y+k))
 | _=>.undef
abbrev Aa.Gm.ts:List AT:=[.i .i64,.i .i64,.cp [.i .i64,.i .i64,.s .u64],.cp [.i .i64],.cp [.i .i64]]
def Aa.Gm.spec:Entry:=entry Aa.Gm.ts Aa.Gm.pre Aa.Gm.out
def Aa.E3.pre:List Atom→Bool
 | [.i i,.i k,.i r,.i c,.l l,.i p,.i q,.l m]=>P8 r c l p q m i k
 | _=>false
def Aa.E3.out:List Atom→DV
 | [.i i,.i k,.i r,.i c,.l l,.i _p,.i q,.l m]=>.int .u64 (L5 r c l q m i k)
 | _=>.undef
abbrev Aa.E3.ts:List AT:=[.i .i64,.i .i64,.cp [.i .i64,.i .i64,.s .u64],.cp [.i .i64,.i .i64,.s .u64]]
def Aa.E3.spec:Entry:=entry Aa.E3.ts Aa.E3.pre Aa.E3.out
def Aa.Iq.pre:List Atom→Bool
 | [.i i,.i k,.i r,.i c,.l l,.i p,.i q,.l m]=>Xr r c l p q m i k
 | _=>false
def Aa.Iq.out:List Atom→DV
 | [.i i,.i k,.i _r,.i c,.l l,.i p,.i q,.l m]=>.int .u64 (Hj (Lx c l i) (Qw p q m k))
 | _=>.undef
abbrev Aa.Iq.ts:List AT:=[.i .i64,.i .i64,.cp [.i .i64,.i .i64,.s .u64],.cp [.i .i64,.i .i64,.s .u64]]
def Aa.Iq.spec:Entry:=entry Aa.Iq.ts Aa.Iq.pre Aa.Iq.out
def Aa.of.E9.pre:List Atom→Bool
 | [.i a,.i b]=>(Cg a&&Cg b)
 | _=>false
def Aa.of.E9.out:List Atom→DV
 | [.i a,.i b]=>.agg [.int .i64 a,.int .i64 b,.ints .fresh .u64 (Cx (toNat a) (toNat b) (fun j1 j2=>N0 j1 j2))]
 | _=>.undef
abbrev Aa.of.E9.ts:List AT:=[.i .i64,.i .i64,.fn 168 []]
def Aa.of.E9.spec:Entry:=entry Aa.of.E9.ts Aa.of.E9.pre Aa.of.E9.out
def Aa.of.Db.pre:List Atom→Bool
 | [.i a,.i b,.i r,.i c,.l l]=>(Cg a&&Cg b)&&A0 r c l&&decide (a=c∧b=r)
 | _=>false
def Aa.of.Db.out:List Atom→DV
 | [.i a,.i b,.i _r,.i c,.l l]=>.agg [.int .i64 a,.int .i64 b,.ints .fresh .u64 (Cx (toNat a) (toNat b) (fun j1 j2=>Fp c l j2 j1))]
 | _=>.undef
abbrev Aa.of.Db.ts:List AT:=[.i .i64,.i .i64,.fn 232 [.cp [.i .i64,.i .i64,.s .u64]]]
def Aa.of.Db.spec:Entry:=entry Aa.of.Db.ts Aa.of.Db.pre Aa.of.Db.out
def Aa.of.Part.pre:List Atom→Bool
 | [.i a,.i b,.i r,.i c,.l l,.i x,.i y]=>(Cg a&&Cg b)&&A0 r c l&&Ia r c x y a b
 | _=>false
def Aa.of.Part.out:List Atom→DV
 | [.i a,.i b,.i _r,.i c,.l l,.i x,.i y]=>.agg [.int .i64 a,.int .i64 b,.ints .fresh .u64 (Cx (toNat a) (toNat b) (fun j1 j2=>Fp c l (x+j1) (y+j2)))]
 | _=>.undef
abbrev Aa.of.Part.ts:List AT:=[.i .i64,.i .i64,.fn 122 [.cp [.i .i64,.i .i64,.s .u64],.cp [.i .i64],.cp [.i .i64]]]
def Aa.of.Part.spec:Entry:=entry Aa.of.Part.ts Aa.of.Part.pre Aa.of.Part.out
def Aa.of.Stack.pre:List Atom→Bool
 | [.i a,.i b,.i r,.i c,.l l,.i p,.i q,.l m]=>(Cg a&&Cg b)&&(A0 r c l&&A0 p q m)&&decide (a=r+p∧b=c∧q=c)
 | _=>false
def Aa.of.Stack.out:List Atom→DV
 | [.i a,.i b,.i r,.i c,.l l,.i _p,.i q,.l m]=>.agg [.int .i64 a,.int .i64 b,.ints .fresh .u64 (Cx (toNat a) (toNat b) (fun j1 j2=>L5 r c l q m j1 j2))]
 | _=>.undef
abbrev Aa.of.Stack.ts:List AT:=[.i .i64,.i .i64,.fn 118 [.cp [.i .i64,.i .i64,.s .u64],.cp [.i .i64,.i .i64,.s .u64]]]
def Aa.of.Stack.spec:Entry:=entry Aa.of.Stack.ts Aa.of.Stack.pre Aa.of.Stack.out
def Aa.of.Mul.pre:List Atom→Bool
 | [.i a,.i b,.i r,.i c,.l l,.i p,.i q,.l m]=>(Cg a&&Cg b)&&((A0 r c l&&A0 p q m)&&(Al l&&Al m))&&decide (a=r∧b=q∧c=p)
 | _=>false
def Aa.of.Mul.out:List Atom→DV
 | [.i a,.i b,.i _r,.i c,.l l,.i p,.i q,.l m]=>.agg [.int .i64 a,.int .i64 b,.ints .fresh .u64 (Cx (toNat a) (toNat b) (fun j1 j2=>Hj (Lx c l j1) (Qw p q m j2)))]
 | _=>.undef
abbrev Aa.of.Mul.ts:List AT:=[.i .i64,.i .i64,.fn 133 [.cp [.i .i64,.i .i64,.s .u64],.cp [.i .i64,.i .i64,.s .u64]]]
def Aa.of.Mul.spec:Entry:=entry Aa.of.Mul.ts Aa.of.Mul.pre Aa.of.Mul.out
def Aa.E9.pre:List Atom→Bool
 | [.i _n]=>true
 | _=>false
def Aa.E9.out:List Atom→DV
 | [.i n]=>.tup [.agg [.int .i64 ((Pb n).1),.int .i64 ((Pb n).2.1),.ints .fresh .u64 ((Pb n).2.2.1)],.int .i64 ((Pb n).2.2.2)]
 | _=>.undef
abbrev Aa.E9.ts:List AT:=[.i .i64]
def Aa.E9.spec:Entry:=entry Aa.E9.ts Aa.E9.pre Aa.E9.out
def Aa.Db.pre:List Atom→Bool
 | [.i _r,.i _c,.l _l]=>true
 | _=>false
def Aa.Db.out:List Atom→DV
 | [.i r,.i c,.l l]=>.tup [.agg [.int .i64 ((Fb r c l).1),.int .i64 ((Fb r c l).2.1),.ints .fresh .u64 ((Fb r c l).2.2.1)],.int .i64 ((Fb r c l).2.2.2)]
 | _=>.undef
abbrev Aa.Db.ts:List AT:=[.st [.i .i64,.i .i64,.s .u64]]
def Aa.Db.spec:Entry:=entry Aa.Db.ts Aa.Db.pre Aa.Db.out
def Aa.Part.pre:List Atom→Bool
 | [.i _r,.i _c,.l _l,.i _x,.i _y,.i _a,.i _b]=>true
 | _=>false
def Aa.Part.out:List Atom→DV
 | [.i r,.i c,.l l,.i x,.i y,.i a,.i b]=>.tup [.agg [.int .i64 ((Cv r c l x y a b).1),.int .i64 ((Cv r c l x y a b).2.1),.ints .fresh .u64 ((Cv r c l x y a b).2.2.1)],.int .i64 ((Cv r c l x y a b).2.2.2)]
 | _=>.undef
abbrev Aa.Part.ts:List AT:=[.st [.i .i64,.i .i64,.s .u64],.i .i64,.i .i64,.i .i64,.i .i64]
def Aa.Part.spec:Entry:=entry Aa.Part.ts Aa.Part.pre Aa.Part.out
def Aa.Stack.pre:List Atom→Bool
 | [.i _r,.i _c,.l _l,.i _p,.i _q,.l _m]=>true
 | _=>false
def Aa.Stack.out:List Atom→DV
 | [.i r,.i c,.l l,.i p,.i q,.l m]=>.tup [.agg [.int .i64 ((L4 r c l p q m).1),.int .i64 ((L4 r c l p q m).2.1),.ints .fresh .u64 ((L4 r c l p q m).2.2.1)],.int .i64 ((L4 r c l p q m).2.2.2)]
 | _=>.undef
abbrev Aa.Stack.ts:List AT:=[.st [.i .i64,.i .i64,.s .u64],.st [.i .i64,.i .i64,.s .u64]]
def Aa.Stack.spec:Entry:=entry Aa.Stack.ts Aa.Stack.pre Aa.Stack.out
def Aa.Mul.pre:List Atom→Bool
 | [.i _r,.i _c,.l l,.i _p,.i _q,.l m]=>Al l&&Al m
 | _=>false
def Aa.Mul.out:List Atom→DV
 | [.i r,.i c,.l l,.i p,.i q,.l m]=>.tup [.agg [.int .i64 ((O7 r c l p q m).1),.int .i64 ((O7 r c l p q m).2.1),.ints .fresh .u64 ((O7 r c l p q m).2.2.1)],.int .i64 ((O7 r c l p q m).2.2.2)]
 | _=>.undef
abbrev Aa.Mul.ts:List AT:=[.st [.i .i64,.i .i64,.s .u64],.st [.i .i64,.i .i64,.s .u64]]
def Aa.Mul.spec:Entry:=entry Aa.Mul.ts Aa.Mul.pre Aa.Mul.out
def Ae.Ip.pre:List Atom→Bool
 | [.i _r,.i _c,.l _l]=>true
 | _=>false
def Ae.Ip.out:List Atom→DV
 | [.i r,.i c,.l l]=>.bool (A0 r c l)
 | _=>.undef
abbrev Ae.Ip.ts:List AT:=[.st [.i .i64,.i .i64,.s .u64]]
def Ae.Ip.spec:Entry:=entry Ae.Ip.ts Ae.Ip.pre Ae.Ip.out
def Ae.At.pre:List Atom→Bool
 | [.i r,.i c,.l l,.i i,.i k]=>En r c l i k
 | _=>false
def Ae.At.out:List Atom→DV
 | [.i _r,.i c,.l l,.i i,.i k]=>.int .u64 (Fp c l i k)
 | _=>.undef
abbrev Ae.At.ts:List AT:=[.st [.i .i64,.i .i64,.s .u64],.i .i64,.i .i64]
def Ae.At.spec:Entry:=entry Ae.At.ts Ae.At.pre Ae.At.out
def Ae.Dm.pre:List Atom→Bool
 | [.i a,.i b]=>Cg a&&Cg b
 | _=>false
def Ae.Dm.out:List Atom→DV
 | [.i a,.i b]=>.agg [.int .i64 a,.int .i64 b,.ints .fresh .u64 (Cx (toNat a) (toNat b) (fun _ _=>0))]
 | _=>.undef
abbrev Ae.Dm.ts:List AT:=[.i .i64,.i .i64]
def Ae.Dm.spec:Entry:=entry Ae.Dm.ts Ae.Dm.pre Ae.Dm.out
def Ae.Gk.pre:List Atom→Bool
 | [.i r,.i c,.l l,.i i,.i k,.i _b]=>En r c l i k
 | _=>false
def Ae.Gk.out:List Atom→DV
 | [.i r,.i c,.l l,.i i,.i k,.i b]=>.agg [.int .i64 r,.int .i64 c,.ints .fresh .u64 (List.set l (toNat (i*c+k)) b)]
 | _=>.undef
abbrev Ae.Gk.ts:List AT:=[.st [.i .i64,.i .i64,.s .u64],.i .i64,.i .i64,.i .u64]
def Ae.Gk.spec:Entry:=entry Ae.Gk.ts Ae.Gk.pre Ae.Gk.out
def Ae.E9.pre:List Atom→Bool
 | [.i n]=>Cg n
 | _=>false
def Ae.E9.out:List Atom→DV
 | [.i n]=>.agg [.int .i64 n,.int .i64 n,.ints .fresh .u64 (Cx (toNat n) (toNat n) (fun j1 j2=>N0 j1 j2))]
 | _=>.undef
abbrev Ae.E9.ts:List AT:=[.i .i64]
def Ae.E9.spec:Entry:=entry Ae.E9.ts Ae.E9.pre Ae.E9.out
def Ae.E8.pre:List Atom→Bool
 | [.i _r,.i _c,.l l,.i _p,.i _q,.l _m]=>Hz l
 | _=>false
def Ae.E8.out:List Atom→DV
 | [.i r,.i c,.l l,.i p,.i q,.l m]=>.bool (Ds r c l p q m)
 | _=>.undef
abbrev Ae.E8.ts:List AT:=[.st [.i .i64,.i .i64,.s .u64],.st [.i .i64,.i .i64,.s .u64]]
def Ae.E8.spec:Entry:=entry Ae.E8.ts Ae.E8.pre Ae.E8.out
def Ae.Ng.pre:List Atom→Bool
 | [.i _r,.i _c,.l l]=>Hz l
 | _=>false
def Ae.Ng.out:List Atom→DV
 | [.i r,.i c,.l l]=>.agg [.int .i64 r,.int .i64 c,.ints .fresh .u64 l]
 | _=>.undef
abbrev Ae.Ng.ts:List AT:=[.st [.i .i64,.i .i64,.s .u64]]
def Ae.Ng.spec:Entry:=entry Ae.Ng.ts Ae.Ng.pre Ae.Ng.out
def Ae.Row.pre:List Atom→Bool
 | [.i r,.i c,.l l,.i i]=>Uq r c l i
 | _=>false
def Ae.Row.out:List Atom→DV
 | [.i _r,.i c,.l l,.i i]=>.ints .arg .u64 (Lx c l i)
 | _=>.undef
abbrev Ae.Row.ts:List AT:=[.st [.i .i64,.i .i64,.s .u64],.i .i64]
def Ae.Row.spec:Entry:=entry Ae.Row.ts Ae.Row.pre Ae.Row.out
def Ae.Pc.pre:List Atom→Bool
 | [.i r,.i c,.l l,.i k,.i f]=>Fv r c l k&&B5 (0≤f∧f≤r)
 | _=>false
def Ae.Pc.out:List Atom→DV
 | [.i r,.i c,.l l,.i k,.i f]=>.ints .fresh .u64 (Ci c l k f (toNat (r-f)))
 | _=>.undef
abbrev Ae.Pc.ts:List AT:=[.st [.i .i64,.i .i64,.s .u64],.i .i64,.i .i64]
def Ae.Pc.spec:Entry:=entry Ae.Pc.ts Ae.Pc.pre Ae.Pc.out
def Ae.Mul.pre:List Atom→Bool
 | [.i r,.i c,.l l,.i p,.i q,.l m]=>(A0 r c l&&A0 p q m)&&((Al l&&Al m)&&decide (c=p))
 | _=>false
def Ae.Mul.out:List Atom→DV
 | [.i r,.i c,.l l,.i p,.i q,.l m]=>.agg [.int .i64 r,.int .i64 q,.ints .fresh .u64 (Cx (toNat r) (toNat q) (fun j1 j2=>Hj (Lx c l j1) (Qw p q m j2)))]
 | _=>.undef
abbrev Ae.Mul.ts:List AT:=[.st [.i .i64,.i .i64,.s .u64],.st [.i .i64,.i .i64,.s .u64]]
def Ae.Mul.spec:Entry:=entry Ae.Mul.ts Ae.Mul.pre Ae.Mul.out
def Ae.Db.pre:List Atom→Bool
 | [.i r,.i c,.l l]=>A0 r c l
 | _=>false
def Ae.Db.out:List Atom→DV
 | [.i r,.i c,.l l]=>.agg [.int .i64 c,.int .i64 r,.ints .fresh .u64 (Cx (toNat c) (toNat r) (fun j1 j2=>Fp c l j2 j1))]
 | _=>.undef
abbrev Ae.Db.ts:List AT:=[.st [.i .i64,.i .i64,.s .u64]]
def Ae.Db.spec:Entry:=entry Ae.Db.ts Ae.Db.pre Ae.Db.out
def Ae.Part.pre:List Atom→Bool
 | [.i r,.i c,.l l,.i x,.i y,.i a,.i b]=>A0 r c l&&Ia r c x y a b
 | _=>false
def Ae.Part.out:List Atom→DV
 | [.i _r,.i c,.l l,.i x,.i y,.i a,.i b]=>.agg [.int .i64 a,.int .i64 b,.ints .fresh .u64 (Cx (toNat a) (toNat b) (fun j1 j2=>Fp c l (x+j1) (y+j2)))]
 | _=>.undef
abbrev Ae.Part.ts:List AT:=[.st [.i .i64,.i .i64,.s .u64],.i .i64,.i .i64,.i .i64,.i .i64]
def Ae.Part.spec:Entry:=entry Ae.Part.ts Ae.Part.pre Ae.Part.out
def Ai.Kc.pre:List Atom→Bool
 | [.l l,.i _i]=>La l
 | _=>false
def Ai.Kc.out:List Atom→DV
 | [.l l,.i i]=>.int .u64 (Io l i)
 | _=>.undef
abbrev Ai.Kc.ts:List AT:=[.s .u32,.i .i64]
def Ai.Kc.spec:Entry:=entry Ai.Kc.ts Ai.Kc.pre Ai.Kc.out
def Ai.Made.pre:List Atom→Bool
 | [.b _n,.l l]=>La l
 | _=>false
def Ai.Made.out:List Atom→DV
 | [.b n,.l l]=>.agg [.bool (Bv (wv n l)),.ints .arg .u32 (Aw (wv n l))]
 | _=>.undef
abbrev Ai.Made.ts:List AT:=[.b,.s .u32]
def Ai.Made.spec:Entry:=entry Ai.Made.ts Ai.Made.pre Ai.Made.out
def Ai.Of.pre:List Atom→Bool
 | [.i n]=>Aml n
 | _=>false
def Ai.Of.out:List Atom→DV
 | [.i n]=>.agg [.bool (Bv (n)),.ints .arg .u32 (Aw (n))]
 | _=>.undef
abbrev Ai.Of.ts:List AT:=[.i .i64]
def Ai.Of.spec:Entry:=entry Ai.Of.ts Ai.Of.pre Ai.Of.out
def Ai.Jd.pre:List Atom→Bool
 | [.l a,.l b]=>La a&&La b
 | _=>false
def Ai.Jd.out:List Atom→DV
 | [.l a,.l b]=>.int .i64 (X4 (De a) (De b))
 | _=>.undef
abbrev Ai.Jd.ts:List AT:=[.s .u32,.s .u32]
def Ai.Jd.spec:Entry:=entry Ai.Jd.ts Ai.Jd.pre Ai.Jd.out
def Ai.plus.pre:List Atom→Bool
 | [.l a,.l b]=>La a&&La b
 | _=>false
def Ai.plus.out:List Atom→DV
 | [.l a,.l b]=>.ints .arg .u32 (Mu a b)
 | _=>.undef
abbrev Ai.plus.ts:List AT:=[.s .u32,.s .u32]
def Ai.plus.spec:Entry:=entry Ai.plus.ts Ai.plus.pre Ai.plus.out
def Ai.minus.pre:List Atom→Bool
 | [.l a,.l b]=>(La a&&La b)&&leL b a
 | _=>false
def Ai.minus.out:List Atom→DV
 | [.l a,.l b]=>.ints .arg .u32 (Ju a b)
 | _=>.undef
abbrev Ai.minus.ts:List AT:=[.s .u32,.s .u32]
def Ai.minus.spec:Entry:=entry Ai.minus.ts Ai.minus.pre Ai.minus.out
def Ai.Add.pre:List Atom→Bool
 | [.b n,.l a,.b m,.l b]=>N9 n a&&N9 m b
 | _=>false
def Ai.Add.out:List Atom→DV
 | [.b n,.l a,.b m,.l b]=>.agg [.bool (Bv (wv n a+wv m b)),.ints .arg .u32 (Aw (wv n a+wv m b))]
 | _=>.undef
abbrev Ai.Add.ts:List AT:=[.st [.b,.s .u32],.st [.b,.s .u32]]
def Ai.Add.spec:Entry:=entry Ai.Add.ts Ai.Add.pre Ai.Add.out
def Ai.Neg.pre:List Atom→Bool
 | [.b n,.l a]=>N9 n a
 | _=>false
def Ai.Neg.out:List Atom→DV
 | [.b n,.l a]=>.agg [.bool (Bv (- wv n a)),.ints .arg .u32 (Aw (- wv n a))]
 | _=>.undef
abbrev Ai.Neg.ts:List AT:=[.st [.b,.s .u32]]
def Ai.Neg.spec:Entry:=entry Ai.Neg.ts Ai.Neg.pre Ai.Neg.out
def Ai.Gq.pre:List Atom→Bool
 | [.b n,.l a]=>N9 n a
 | _=>false
def Ai.Gq.out:List Atom→DV
 | [.b n,.l a]=>.agg [.bool (Bv (2*wv n a)),.ints .arg .u32 (Aw (2*wv n a))]
 | _=>.undef
abbrev Ai.Gq.ts:List AT:=[.st [.b,.s .u32]]
def Ai.Gq.spec:Entry:=entry Ai.Gq.ts Ai.Gq.pre Ai.Gq.out
def Ai.Ix.pre:List Atom→Bool
 | [.b n,.l a]=>N9 n a
 | _=>false
def Ai.Ix.out:List Atom→DV
 | [.b n,.l a]=>.agg [.bool (Bv (Mh (wv n a) 1)),.ints .arg .u32 (Aw (Mh (wv n a) 1))]
 | _=>.undef
abbrev Ai.Ix.ts:List AT:=[.st [.b,.s .u32]]
def Ai.Ix.spec:Entry:=entry Ai.Ix.ts Ai.Ix.pre Ai.Ix.out
def Ai.Bu.pre:List Atom→Bool
 | [.b n,.l a,.i k]=>okV n a&&Ayi k
 | _=>false
def Ai.Bu.out:List Atom→DV
 | [.b n,.l a,.i k]=>.agg [.bool (Bv (Jm (wv n a) k)),.ints .arg .u32 (Aw (Jm (wv n a) k))]
 | _=>.undef
abbrev Ai.Bu.ts:List AT:=[.st [.b,.s .u32],.i .i64]
def Ai.Bu.spec:Entry:=entry Ai.Bu.ts Ai.Bu.pre Ai.Bu.out
def Ai.R0.pre:List Atom→Bool
 | [.b n,.l a]=>N9 n a
 | _=>false
def Ai.R0.out:List Atom→DV
 | [.b n,.l a]=>.int .i64 (Aa5 (wv n a))
 | _=>.undef
abbrev Ai.R0.ts:List AT:=[.st [.b,.s .u32]]
def Ai.R0.spec:Entry:=entry Ai.R0.ts Ai.R0.pre Ai.R0.out
def Ai.Ya.pre:List Atom→Bool
 | [.b n,.l a]=>N9 n a
 | _=>false
def Ai.Ya.out:List Atom→DV
 | [.b n,.l a]=>.bool (Aog (wv n a))
 | _=>.undef
abbrev Ai.Ya.ts:List AT:=[.st [.b,.s .u32]]
def Ai.Ya.spec:Entry:=entry Ai.Ya.ts Ai.Ya.pre Ai.Ya.out
def A1.Of.pre:List Atom→Bool
 | [.b n,.l a,.i e]=>N9 n a&&Afc e
 | _=>false
def A1.Of.out:List Atom→DV
 | [.b n,.l a,.i e]=>.agg [.bool (Bv (mD (wv n a))),.ints .arg .u32 (Aw (mD (wv n a))),.int .i64 (eD (wv n a) e)]
 | _=>.undef
abbrev A1.Of.ts:List AT:=[.st [.b,.s .u32],.i .i64]
def A1.Of.spec:Entry:=entry A1.Of.ts A1.Of.pre A1.Of.out
def A1.Neg.pre:List Atom→Bool
 | [.b n,.l a,.i _e]=>N9 n a
 | _=>false
def A1.Neg.out:List Atom→DV
 | [.b n,.l a,.i e]=>.agg [.bool (Bv (- wv n a)),.ints .arg .u32 (Aw (- wv n a)),.int .i64 e]
 | _=>.undef
abbrev A1.Neg.ts:List AT:=[.st [.b,.s .u32,.i .i64]]
def A1.Neg.spec:Entry:=entry A1.Neg.ts A1.Neg.pre A1.Neg.out
def A1.Yb.pre:List Atom→Bool
 | [.b n,.l a,.i _e,.b m,.l b,.i _f]=>N9 n a&&N9 m b
 | _=>false
def A1.Yb.out:List Atom→DV
 | [.b n,.l a,.i e,.b m,.l b,.i f]=>.int .i64 (Ee (wv n a) e (wv m b) f)
 | _=>.undef
abbrev A1.Yb.ts:List AT:=[.st [.b,.s .u32,.i .i64],.st [.b,.s .u32,.i .i64]]
def A1.Yb.spec:Entry:=entry A1.Yb.ts A1.Yb.pre A1.Yb.out
def A1.Level.pre:List Atom→Bool
 | [.b n,.l a,.i e,.i f]=>okV n a&&Aof (wv n a) e f
 | _=>false
def A1.Level.out:List Atom→DV
 | [.b n,.l a,.i e,.i f]=>.agg [.bool (Bv (Jm (wv n a) (e-f))),.ints .arg .u32 (Aw (Jm (wv n a) (e-f)))]
 | _=>.undef
abbrev A1.Level.ts:List AT:=[.st [.b,.s .u32,.i .i64],.i .i64]
def A1.Level.spec:Entry:=entry A1.Level.ts A1.Level.pre A1.Level.out
def A1.Add.pre:List Atom→Bool
 | [.b n,.l a,.i e,.b m,.l b,.i f]=>((okV n a&&okV m b)&&okE e)&&okE f
 | _=>false
def A1.Add.out:List Atom→DV
 | [.b n,.l a,.i e,.b m,.l b,.i f]=>.agg [.bool (Bv (S2 (wv n a) e (wv m b) f)),.ints .arg .u32 (Aw (S2 (wv n a) e (wv m b) f)),.int .i64 (Auf (wv n a) e (wv m b) f)]
 | _=>.undef
abbrev A1.Add.ts:List AT:=[.st [.b,.s .u32,.i .i64],.st [.b,.s .u32,.i .i64]]
def A1.Add.spec:Entry:=entry A1.Add.ts A1.Add.pre A1.Add.out
def A1.Sub.pre:List Atom→Bool
 | [.b n,.l a,.i e,.b m,.l b,.i f]=>((okV n a&&okV m b)&&okE e)&&okE f
 | _=>false
def A1.Sub.out:List Atom→DV
 | [.b n,.l a,.i e,.b m,.l b,.i f]=>.agg [.bool (Bv (S2 (wv n a) e (- wv m b) f)),.ints .arg .u32 (Aw (S2 (wv n a) e (- wv m b) f)),.int .i64 (Auf (wv n a) e (- wv m b) f)]
 | _=>.undef
abbrev A1.Sub.ts:List AT:=[.st [.b,.s .u32,.i .i64],.st [.b,.s .u32,.i .i64]]
def A1.Sub.spec:Entry:=entry A1.Sub.ts A1.Sub.pre A1.Sub.out
def A1.W2.pre:List Atom→Bool
 | [.b n,.l a,.i e]=>N9 n a&&okE e
 | _=>false
def A1.W2.out:List Atom→DV
 | [.b n,.l a,.i e]=>.int .i64 (Jo (wv n a) e)
 | _=>.undef
abbrev A1.W2.ts:List AT:=[.st [.b,.s .u32,.i .i64]]
def A1.W2.spec:Entry:=entry A1.W2.ts A1.W2.pre A1.W2.out
def A1.Sign.pre:List Atom→Bool
 | [.b n,.l a,.i _e]=>N9 n a
 | _=>false
def A1.Sign.out:List Atom→DV
 | [.b n,.l a,.i _e]=>.int .i64 (O4 (wv n a))
 | _=>.undef
abbrev A1.Sign.ts:List AT:=[.st [.b,.s .u32,.i .i64]]
def A1.Sign.spec:Entry:=entry A1.Sign.ts A1.Sign.pre A1.Sign.out
def A1.Compare.pre:List Atom→Bool
 | [.b n,.l a,.i e,.b m,.l b,.i f]=>((okV n a&&okV m b)&&okE e)&&okE f
 | _=>false
def A1.Compare.out:List Atom→DV
 | [.b n,.l a,.i e,.b m,.l b,.i f]=>.int .i64 (Y6 (wv n a) e (wv m b) f)
 | _=>.undef
abbrev A1.Compare.ts:List AT:=[.st [.b,.s .u32,.i .i64],.st [.b,.s .u32,.i .i64]]
def A1.Compare.spec:Entry:=entry A1.Compare.ts A1.Compare.pre A1.Compare.out
def A6.Value.pre:List Atom→Bool
 | [.i x]=>Af x
 | _=>false
def A6.Value.out:List Atom→DV
 | [.i x]=>.agg [.bool (Bv (mD (Gc x))),.ints .arg .u32 (Aw (mD (Gc x))),.int .i64 (eD (Gc x) (Bp x))]
 | _=>.undef
abbrev A6.Value.ts:List AT:=[.i .u64]
def A6.Value.spec:Entry:=entry A6.Value.ts A6.Value.pre A6.Value.out
def compare.L7.pre:List Atom→Bool
 | [.i b]=>Af b
 | _=>false
def compare.L7.out:List Atom→DV
 | [.i b]=>.int .i64 (Adb b)
 | _=>.undef
abbrev compare.L7.ts:List AT:=[.i .u64]
def compare.L7.spec:Entry:=entry compare.L7.ts compare.L7.pre compare.L7.out
def compare.Order.pre:List Atom→Bool
 | [.i a,.i b]=>Af a&&Af b
 | _=>false
def compare.Order.out:List Atom→DV
 | [.i a,.i b]=>.tup [.int .i64 (Hq a b),.bool (Qh a b)]
 | _=>.undef
abbrev compare.Order.ts:List AT:=[.i .u64,.i .u64]
def compare.Order.spec:Entry:=entry compare.Order.ts compare.Order.pre compare.Order.out
def compare.Lt.pre:List Atom→Bool
 | [.i a,.i b]=>Af a&&Af b
 | _=>false
def compare.Lt.out:List Atom→DV
 | [.i a,.i b]=>.bool (decide (Hq a b<0))
 | _=>.undef
abbrev compare.Lt.ts:List AT:=[.i .u64,.i .u64]
def compare.Lt.spec:Entry:=entry compare.Lt.ts compare.Lt.pre compare.Lt.out
def compare.Hy.pre:List Atom→Bool
 | [.i a]=>Af a
 | _=>false
def compare.Hy.out:List Atom→DV
 | [.i a]=>.int .u64 (Iw a)
 | _=>.undef
abbrev compare.Hy.ts:List AT:=[.i .u64]
def compare.Hy.spec:Entry:=entry compare.Hy.ts compare.Hy.pre compare.Hy.out
def compare.Ft.pre:List Atom→Bool
 | [.i a,.i n]=>Df a n
 | _=>false
def compare.Ft.out:List Atom→DV
 | [.i a,.i n]=>.tup [.int .u64 (Bg a n),.int .u8 (Au5 a n)]
 | _=>.undef
abbrev compare.Ft.ts:List AT:=[.i .u64,.i .i64]
def compare.Ft.spec:Entry:=entry compare.Ft.ts compare.Ft.pre compare.Ft.out
def Ag.Bu.pre:List Atom→Bool
 | [.i a,.i n]=>Df a n
 | _=>false
def Ag.Bu.out:List Atom→DV
 | [.i a,.i n]=>.int .u64 (Bg a n)
 | _=>.undef
abbrev Ag.Bu.ts:List AT:=[.i .u64,.i .i64]
def Ag.Bu.spec:Entry:=entry Ag.Bu.ts Ag.Bu.pre Ag.Bu.out
def Ag.Div.pre:List Atom→Bool
 | [.i a,.i b]=>Af a&&Af b
 | _=>false
def Ag.Div.out:List Atom→DV
 | [.i a,.i b]=>.int .u64 (Ey a b)
 | _=>.undef
abbrev Ag.Div.ts:List AT:=[.i .u64,.i .u64]
def Ag.Div.spec:Entry:=entry Ag.Div.ts Ag.Div.pre Ag.Div.out
def Ag.Bx.pre:List Atom→Bool
 | [.l x]=>Bs x
 | _=>false
def Ag.Bx.out:List Atom→DV
 | [.l x]=>.int .u64 (Bk x)
 | _=>.undef
abbrev Ag.Bx.ts:List AT:=[.s .u64]
def Ag.Bx.spec:Entry:=entry Ag.Bx.ts Ag.Bx.pre Ag.Bx.out
def Ag.Finite.pre:List Atom→Bool
 | [.l x]=>Bs x
 | _=>false
def Ag.Finite.out:List Atom→DV
 | [.l x]=>.bool (Dc x)
 | _=>.undef
abbrev Ag.Finite.ts:List AT:=[.s .u64]
def Ag.Finite.spec:Entry:=entry Ag.Finite.ts Ag.Finite.pre Ag.Finite.out
def Dv.Check.pre:List Atom→Bool
 | [.i _r,.i _c,.l l]=>Al l
 | _=>false
def Dv.Check.out:List Atom→DV
 | [.i r,.i c,.l l]=>.int .i64 (D5 r c l)
 | _=>.undef
abbrev Dv.Check.ts:List AT:=[.st [.i .i64,.i .i64,.s .u64]]
def Dv.Check.spec:Entry:=entry Dv.Check.ts Dv.Check.pre Dv.Check.out
def solve.A1e.Up.pre:List Atom→Bool
 | [.i r,.i c,.l l,.i p,.i q,.l m,.i n]=>Ax0 r c l p q m&&decide (n=r)
 | _=>false
def Ah.Div.pre:List Atom→Bool
 | [.i a,.i b]=>Af a&&Af b
 | _=>false
def Ah.Div.out:List Atom→DV
 | [.i a,.i b]=>.int .u64 (Ey a b)
 | _=>.undef
abbrev Ah.Div.ts:List AT:=[.i .u64,.i .u64]
def Ah.Div.spec:Entry:=entry Ah.Div.ts Ah.Div.pre Ah.Div.out
def Ah.Finite.pre:List Atom→Bool
 | [.l x]=>Bs x
 | _=>false
def Ah.Finite.out:List Atom→DV
 | [.l x]=>.bool (Dc x)
 | _=>.undef
abbrev Ah.Finite.ts:List AT:=[.s .u64]
def Ah.Finite.spec:Entry:=entry Ah.Finite.ts Ah.Finite.pre Ah.Finite.out
def Ij.Check.pre:List Atom→Bool
 | [.i _r,.i _c,.l l]=>Al l
 | _=>false
def Ij.Check.out:List Atom→DV
 | [.i r,.i c,.l l]=>.int .i64 (D5 r c l)
 | _=>.undef
abbrev Ij.Check.ts:List AT:=[.st [.i .i64,.i .i64,.s .u64]]
def Ij.Check.spec:Entry:=entry Ij.Check.ts Ij.Check.pre Ij.Check.out
def math.Hy.pre:List Atom→Bool
 | [.f _x]=>true
 | _=>false
def math.Hy.out:List Atom→DV
 | [.f x]=>.fl (Gg x)
 | _=>.undef
abbrev math.Hy.ts:List AT:=[.fl]
def math.Hy.spec:Entry:=entry math.Hy.ts math.Hy.pre math.Hy.out
def math.Is.pre:List Atom→Bool
 | [.f x]=>Wx x
 | _=>false
def math.Is.out:List Atom→DV
 | [.f x]=>.bool (decide (Aj x=4))
 | _=>.undef
abbrev math.Is.ts:List AT:=[.fl]
def math.Is.spec:Entry:=entry math.Is.ts math.Is.pre math.Is.out
def math.It.pre:List Atom→Bool
 | [.f x,.i s]=>Wx x&&decide (s=0)
 | _=>false
def math.It.out:List Atom→DV
 | [.f x,.i _s]=>.bool (decide (Aj x=3))
 | _=>.undef
abbrev math.It.ts:List AT:=[.fl,.i .i64]
def math.It.spec:Entry:=entry math.It.ts math.It.pre math.It.out
def math.normalize.pre:List Atom→Bool
 | [.f x]=>Ain x
 | _=>false
def math.normalize.out:List Atom→DV
 | [.f x]=>.tup [.fl (Nu x),.int .i64 (J7 x)]
 | _=>.undef
abbrev math.normalize.ts:List AT:=[.fl]
def math.normalize.spec:Entry:=entry math.normalize.ts math.normalize.pre math.normalize.out
def math.Eo.pre:List Atom→Bool
 | [.f x,.f y]=>Ain y&&decide (x=0)
 | _=>false
def math.Eo.out:List Atom→DV
 | [.f _x,.f y]=>.fl (Bo (By y) 0)
 | _=>.undef
abbrev math.Eo.ts:List AT:=[.fl,.fl]
def math.Eo.spec:Entry:=entry math.Eo.ts math.Eo.pre math.Eo.out
def math.Yc.pre:List Atom→Bool
 | [.i _s]=>true
 | _=>false
def math.Yc.out:List Atom→DV
 | [.i s]=>.fl (Bo (decide (s<0)) Ek)
 | _=>.undef
abbrev math.Yc.ts:List AT:=[.i .i64]
def math.Yc.spec:Entry:=entry math.Yc.ts math.Yc.pre math.Yc.out
def math.H3.pre:List Atom→Bool
 | [.f x,.i k]=>Wx x&&B5 (-2300≤k∧k≤2300)
 | _=>false
def math.H3.out:List Atom→DV
 | [.f x,.i k]=>.fl (Jw x k)
 | _=>.undef
abbrev math.H3.ts:List AT:=[.fl,.i .i64]
def math.H3.spec:Entry:=entry math.H3.ts math.H3.pre math.H3.out
def math.I4.pre:List Atom→Bool
 | [.f x,.i k]=>Wx x&&B5 (-2300≤k∧k≤2300)
 | _=>false
def math.I4.out:List Atom→DV
 | [.f x,.i k]=>.fl (Jw x k)
 | _=>.undef
abbrev math.I4.ts:List AT:=[.fl,.i .i64]
def math.I4.spec:Entry:=entry math.I4.ts math.I4.pre math.I4.out
def Ah.Bu.pre:List Atom→Bool
 | [.i a,.i k]=>Df a k
 | _=>false
def Ah.Bu.out:List Atom→DV
 | [.i a,.i k]=>.int .u64 (Bg a k)
 | _=>.undef
abbrev Ah.Bu.ts:List AT:=[.i .u64,.i .i64]
def Ah.Bu.spec:Entry:=entry Ah.Bu.ts Ah.Bu.pre Ah.Bu.out
def Br.ends.pre:List Atom→Bool
 | [.i b]=>Af b
 | _=>false
def Br.ends.out:List Atom→DV
 | [.i b]=>.int .i64 (U5 b)
 | _=>.undef
abbrev Br.ends.ts:List AT:=[.i .u64]
def Br.ends.spec:Entry:=entry Br.ends.ts Br.ends.pre Br.ends.out
def Br.Order.pre:List Atom→Bool
 | [.i a,.i b]=>Af a&&Af b
 | _=>false
def Br.Order.out:List Atom→DV
 | [.i a,.i b]=>.tup [.int .i64 (Hq a b),.bool (Qh a b)]
 | _=>.undef
abbrev Br.Order.ts:List AT:=[.i .u64,.i .u64]
def Br.Order.spec:Entry:=entry Br.Order.ts Br.Order.pre Br.Order.out
def Br.Hy.pre:List Atom→Bool
 | [.i a]=>Af a
 | _=>false
def Br.Hy.out:List Atom→DV
 | [.i a]=>.int .u64 (Iw a)
 | _=>.undef
abbrev Br.Hy.ts:List AT:=[.i .u64]
def Br.Hy.spec:Entry:=entry Br.Hy.ts Br.Hy.pre Br.Hy.out
def Br.Max.pre:List Atom→Bool
 | [.i a,.i b]=>Af a&&Af b
 | _=>false
def Br.Max.out:List Atom→DV
 | [.i a,.i b]=>.int .u64 (Uz a b)
 | _=>.undef
abbrev Br.Max.ts:List AT:=[.i .u64,.i .u64]
def Br.Max.spec:Entry:=entry Br.Max.ts Br.Max.pre Br.Max.out
def root.Hw.pre:List Atom→Bool
 | [.i m]=>B5 (0≤m∧m<9223372036854775808)
 | _=>false
def root.Hw.out:List Atom→DV
 | [.i m]=>.tup [.int .u64 (Wf m),.bool (Wg m)]
 | _=>.undef
abbrev root.Hw.ts:List AT:=[.i .u64]
def root.Hw.spec:Entry:=entry root.Hw.ts root.Hw.pre root.Hw.out
def root.Sqrt.pre:List Atom→Bool
 | [.i a]=>Af a
 | _=>false
def root.Sqrt.out:List Atom→DV
 | [.i a]=>.tup [.int .u64 (Ed a),.int .u8 (R9 a)]
 | _=>.undef
abbrev root.Sqrt.ts:List AT:=[.i .u64]
def root.Sqrt.spec:Entry:=entry root.Sqrt.ts root.Sqrt.pre root.Sqrt.out
def Ag.Sqrt.pre:List Atom→Bool
 | [.i a]=>Af a
 | _=>false
def Ag.Sqrt.out:List Atom→DV
 | [.i a]=>.int .u64 (Ed a)
 | _=>.undef
abbrev Ag.Sqrt.ts:List AT:=[.i .u64]
def Ag.Sqrt.spec:Entry:=entry Ag.Sqrt.ts Ag.Sqrt.pre Ag.Sqrt.out
def compare.K7.pre:List Atom→Bool
 | [.i a]=>Af a
 | _=>false
def compare.K7.out:List Atom→DV
 | [.i a]=>.int .i64 (B1 a)
 | _=>.undef
abbrev compare.K7.ts:List AT:=[.i .u64]
def compare.K7.spec:Entry:=entry compare.K7.ts compare.K7.pre compare.K7.out
def Ag.Norm.pre:List Atom→Bool
 | [.l x]=>Bs x&&B5 (length x≤64)
 | _=>false
def Ag.Norm.out:List Atom→DV
 | [.l x]=>.tup [.int .u64 (Bt x),.int .i64 (0:Int)]
 | _=>.undef
abbrev Ag.Norm.ts:List AT:=[.s .u64]
def Ag.Norm.spec:Entry:=entry Ag.Norm.ts Ag.Norm.pre Ag.Norm.out
def As.B2.pre:List Atom→Bool
 | [.l x]=>Bs x
 | _=>false
def As.B2.out:List Atom→DV
 | [.l x]=>.bool (E7 x)
 | _=>.undef
abbrev As.B2.ts:List AT:=[.s .u64]
def As.B2.spec:Entry:=entry As.B2.ts As.B2.pre As.B2.out
def As.lead.pre:List Atom→Bool
 | [.l x]=>Bs x
 | _=>false
def As.lead.out:List Atom→DV
 | [.l x]=>.int .u64 (Qm x)
 | _=>.undef
abbrev As.lead.ts:List AT:=[.s .u64]
def As.lead.spec:Entry:=entry As.lead.ts As.lead.pre As.lead.out
def As.Bf.pre:List Atom→Bool
 | [.l x,.i k]=>Bs x&&B5 (length x≤1000∧-2300≤k∧k≤2300)
 | _=>false
def As.Bf.out:List Atom→DV
 | [.l x,.i k]=>.ints .fresh .u64 (A9 x k)
 | _=>.undef
abbrev As.Bf.ts:List AT:=[.s .u64,.i .i64]
def As.Bf.spec:Entry:=entry As.Bf.ts As.Bf.pre As.Bf.out
def As.Gp.pre:List Atom→Bool
 | [.i _i]=>true
 | _=>false
def As.Gp.out:List Atom→DV
 | [.i _i]=>.int .u64 (0:Int)
 | _=>.undef
abbrev As.Gp.ts:List AT:=[.i .i64]
def As.Gp.spec:Entry:=entry As.Gp.ts As.Gp.pre As.Gp.out
def As.Gn.pre:List Atom→Bool
 | [.i i,.l y,.i d]=>(B5 (0≤i∧i<length y)&&Al y)&&Af d
 | _=>false
def As.Gn.out:List Atom→DV
 | [.i i,.l y,.i d]=>.int .u64 (Ey (getD y (toNat i) 0) d)
 | _=>.undef
abbrev As.Gn.ts:List AT:=[.i .i64,.cp [.s .u64],.cp [.i .u64]]
def As.Gn.spec:Entry:=entry As.Gn.ts As.Gn.pre As.Gn.out
def As.row.Zero.pre:List Atom→Bool
 | [.i n]=>B5 (1≤n∧n≤64)
 | _=>false
def As.row.Zero.out:List Atom→DV
 | [.i n]=>.ints .fresh .u64 (Kg (toNat n) (fun _=>0))
 | _=>.undef
abbrev As.row.Zero.ts:List AT:=[.i .i64,.fn 227 []]
def As.row.Zero.spec:Entry:=entry As.row.Zero.ts As.row.Zero.pre As.row.Zero.out
def As.row.Div.pre:List Atom→Bool
 | [.i n,.l y,.i d]=>(B5 (1≤n∧n≤64∧n=length y)&&Al y)&&Af d
 | _=>false
def As.row.Div.out:List Atom→DV
 | [.i n,.l y,.i d]=>.ints .fresh .u64 (Kg (toNat n) (fun j=>Ey (getD y j 0) d))
 | _=>.undef
abbrev As.row.Div.ts:List AT:=[.i .i64,.fn 230 [.cp [.s .u64],.cp [.i .u64]]]
def As.row.Div.spec:Entry:=entry As.row.Div.ts As.row.Div.pre As.row.Div.out
def As.Bn.pre:List Atom→Bool
 | [.l x]=>Bs x
 | _=>false
def As.Bn.out:List Atom→DV
 | [.l x]=>.tup [.ints .fresh .u64 ((C1 x).1),.int .u64 ((C1 x).2.1),.int .u64 ((C1 x).2.2.1),.int .i64 ((C1 x).2.2.2)]
 | _=>.undef
abbrev As.Bn.ts:List AT:=[.s .u64]
def As.Bn.spec:Entry:=entry As.Bn.ts As.Bn.pre As.Bn.out
def As.Apply.pre:List Atom→Bool
 | [.i r,.i c,.l l,.i i,.i k,.l v,.i t]=>((A0 r c l&&Ke r c i k v)&&(Al l&&Al v))&&Af t
 | _=>false
def As.Apply.out:List Atom→DV
 | [.i r,.i c,.l l,.i i,.i k,.l v,.i t]=>.tup [.agg [.int .i64 r,.int .i64 c,.ints (.own 114002 43) .u64 (Gj (toNat r) (toNat c) l i k v t)],.int .i64 (0:Int)]
 | _=>.undef
abbrev As.Apply.ts:List AT:=[.st [.i .i64,.i .i64,.s .u64],.i .i64,.i .i64,.s .u64,.i .u64]
def As.Apply.spec:Entry:=entry As.Apply.ts As.Apply.pre As.Apply.out
def qr.down.pre:List Atom→Bool
 | [.i r,.i c,.l l]=>(A0 r c l&&Dc l)&&Al l
 | _=>false
def qr.down.out:List Atom→DV
 | [.i r,.i c,.l l]=>.tup [.agg [.int .i64 ((Hv r c l).1),.int .i64 ((Hv r c l).2.1),.ints .arg .u64 ((Hv r c l).2.2.1)],.recs .fresh 2 (Ql r c l),.int .i64 ((Hv r c l).2.2.2)]
 | _=>.undef
abbrev qr.down.ts:List AT:=[.st [.i .i64,.i .i64,.s .u64]]
def qr.down.spec:Entry:=entry qr.down.ts qr.down.pre qr.down.out
def qr.B7.pre:List Atom→Bool
 | [.i _r,.i _c,.l l]=>Al l
 | _=>false
def qr.B7.out:List Atom→DV
 | [.i r,.i c,.l l]=>.tup [.agg [.int .i64 ((qX r c l).1),.int .i64 ((qX r c l).2.1),.ints .arg .u64 ((qX r c l).2.2.1)],.agg [.int .i64 ((rX r c l).1),.int .i64 ((rX r c l).2.1),.ints .arg .u64 ((rX r c l).2.2.1)],.int .i64 (Fa r c l)]
 | _=>.undef
abbrev qr.B7.ts:List AT:=[.st [.i .i64,.i .i64,.s .u64]]
def qr.B7.spec:Entry:=entry qr.B7.ts qr.B7.pre qr.B7.out
def qr.Gu.pre:List Atom→Bool
 | [.i _r,.i _c,.l l]=>Al l
 | _=>false
def qr.Gu.out:List Atom→DV
 | [.i r,.i c,.l l]=>.tup [.agg [.int .i64 ((Un r c l).1),.int .i64 ((Un r c l).2.1),.ints .fresh .u64 ((Un r c l).2.2.1)],.agg [.int .i64 ((Og r c l).1),.int .i64 ((Og r c l).2.1),.ints .fresh .u64 ((Og r c l).2.2.1)],.int .i64 (Fa r c l)]
 | _=>.undef
abbrev qr.Gu.ts:List AT:=[.st [.i .i64,.i .i64,.s .u64]]
def qr.Gu.spec:Entry:=entry qr.Gu.ts qr.Gu.pre qr.Gu.out
def Br.K7.pre:List Atom→Bool
 | [.i a]=>Af a
 | _=>false
def Br.K7.out:List Atom→DV
 | [.i a]=>.int .i64 (B1 a)
 | _=>.undef
abbrev Br.K7.ts:List AT:=[.i .u64]
def Br.K7.spec:Entry:=entry Br.K7.ts Br.K7.pre Br.K7.out
def Ah.Bx.pre:List Atom→Bool
 | [.l x]=>Bs x
 | _=>false
def Ah.Bx.out:List Atom→DV
 | [.l x]=>.int .u64 (Bk x)
 | _=>.undef
abbrev Ah.Bx.ts:List AT:=[.s .u64]
def Ah.Bx.spec:Entry:=entry Ah.Bx.ts Ah.Bx.pre Ah.Bx.out
def math.Sqrt.pre:List Atom→Bool
 | [.f _x]=>true
 | _=>false
def math.Sqrt.out:List Atom→DV
 | [.f x]=>.fl (((Ieee.double.sqrt x).getD nanBits))
 | _=>.undef
abbrev math.Sqrt.ts:List AT:=[.fl]
def math.Sqrt.spec:Entry:=entry math.Sqrt.ts math.Sqrt.pre math.Sqrt.out
def Ah.Sqrt.pre:List Atom→Bool
 | [.i a]=>Af a
 | _=>false
def Ah.Sqrt.out:List Atom→DV
 | [.i a]=>.int .u64 (Ed a)
 | _=>.undef
abbrev Ah.Sqrt.ts:List AT:=[.i .u64]
def Ah.Sqrt.spec:Entry:=entry Ah.Sqrt.ts Ah.Sqrt.pre Ah.Sqrt.out
def Ah.Norm.pre:List Atom→Bool
 | [.l x]=>Bs x
 | _=>false
def Ah.Norm.out:List Atom→DV
 | [.l x]=>.int .u64 (Bt x)
 | _=>.undef
abbrev Ah.Norm.ts:List AT:=[.s .u64]
def Ah.Norm.spec:Entry:=entry Ah.Norm.ts Ah.Norm.pre Ah.Norm.out
def Bh.B2.pre:List Atom→Bool
 | [.l x]=>Bs x
 | _=>false
def Bh.B2.out:List Atom→DV
 | [.l x]=>.bool (E7 (List.drop 1 x))
 | _=>.undef
abbrev Bh.B2.ts:List AT:=[.s .u64]
def Bh.B2.spec:Entry:=entry Bh.B2.ts Bh.B2.pre Bh.B2.out
def Bh.lead.pre:List Atom→Bool
 | [.l x]=>Bs x
 | _=>false
def Bh.lead.out:List Atom→DV
 | [.l x]=>.int .i64 (Rx x 0)
 | _=>.undef
abbrev Bh.lead.ts:List AT:=[.s .u64]
def Bh.lead.spec:Entry:=entry Bh.lead.ts Bh.lead.pre Bh.lead.out
def Bh.Bn.pre:List Atom→Bool
 | [.l x]=>Bs x&&B5 (1≤length x∧length x≤64)
 | _=>false
def Bh.Bn.out:List Atom→DV
 | [.l x]=>.tup [.agg [.ints .fresh .u64 ((Mz x).1),.int .u64 ((Mz x).2.1),.int .u64 ((Mz x).2.2.1)],.bool (decide ((Mz x).2.2.2=0))]
 | _=>.undef
abbrev Bh.Bn.ts:List AT:=[.s .u64]
def Bh.Bn.spec:Entry:=entry Bh.Bn.ts Bh.Bn.pre Bh.Bn.out
def Bh.Apply.pre:List Atom→Bool
 | [.i r,.i c,.l l,.i i,.i k,.l v,.i t]=>((A0 r c l&&Ke r c i k v)&&(Al l&&Al v))&&Af t
 | _=>false
def Bh.Apply.out:List Atom→DV
 | [.i r,.i c,.l l,.i i,.i k,.l v,.i t]=>.agg [.int .i64 r,.int .i64 c,.ints .arg .u64 (Gj (toNat r) (toNat c) l i k v t)]
 | _=>.undef
abbrev Bh.Apply.ts:List AT:=[.st [.i .i64,.i .i64,.s .u64],.i .i64,.i .i64,.s .u64,.i .u64]
def Bh.Apply.spec:Entry:=entry Bh.Apply.ts Bh.Apply.pre Bh.Apply.out
def Cb.D7.pre:List Atom→Bool
 | [.i r,.i c,.l l,.i j,.i _b]=>A0 r c l&&B5 (0≤j∧j<r∧j<c)
 | _=>false
def Cb.D7.out:List Atom→DV
 | [.i r,.i c,.l l,.i j,.i b]=>.agg [.int .i64 r,.int .i64 c,.ints .arg .u64 (Oz (toNat r) (toNat c) l (toNat j) b)]
 | _=>.undef
abbrev Cb.D7.ts:List AT:=[.st [.i .i64,.i .i64,.s .u64],.i .i64,.i .u64]
def Cb.D7.spec:Entry:=entry Cb.D7.ts Cb.D7.pre Cb.D7.out
def Cb.B7.pre:List Atom→Bool
 | [.i r,.i c,.l l]=>(A0 r c l&&Dc l)&&Al l
 | _=>false
def Cb.B7.out:List Atom→DV
 | [.i r,.i c,.l l]=>.agg [.int .i64 ((qX r c l).1),.int .i64 ((qX r c l).2.1),.ints .arg .u64 ((qX r c l).2.2.1),.int .i64 ((rX r c l).1),.int .i64 ((rX r c l).2.1),.ints .arg .u64 ((rX r c l).2.2.1),.bool (decide (Fa r c l=0))]
 | _=>.undef
abbrev Cb.B7.ts:List AT:=[.st [.i .i64,.i .i64,.s .u64]]
def Cb.B7.spec:Entry:=entry Cb.B7.ts Cb.B7.pre Cb.B7.out
def Cb.Gu.pre:List Atom→Bool
 | [.i r,.i c,.l l]=>(A0 r c l&&Dc l)&&Al l
 | _=>false
def Cb.Gu.out:List Atom→DV
 | [.i r,.i c,.l l]=>.agg [.int .i64 ((Un r c l).1),.int .i64 ((Un r c l).2.1),.ints .arg .u64 ((Un r c l).2.2.1),.int .i64 ((Og r c l).1),.int .i64 ((Og r c l).2.1),.ints .arg .u64 ((Og r c l).2.2.1),.bool (decide (Fa r c l=0))]
 | _=>.undef
abbrev Cb.Gu.ts:List AT:=[.st [.i .i64,.i .i64,.s .u64]]
def Cb.Gu.spec:Entry:=entry Cb.Gu.ts Cb.Gu.pre Cb.Gu.out
def Ae.Dm.own.pre:List Atom→Bool
 | [.i a,.i b]=>Cg a&&Cg b
 | _=>false
def Ae.Dm.own.out:List Atom→DV
 | [.i a,.i b]=>.agg [.int .i64 a,.int .i64 b,.ints (.own 10 43) .u64 (Cx (toNat a) (toNat b) (fun _ _=>0))]
 | _=>.undef
abbrev Ae.Dm.own.ts:List AT:=[.i .i64,.i .i64]
def Ae.Dm.own.spec:Entry:=entry Ae.Dm.own.ts Ae.Dm.own.pre Ae.Dm.own.out
def Ae.Stack.pre:List Atom→Bool
 | [.i r,.i c,.l l,.i p,.i q,.l m]=>(A0 r c l&&A0 p q m)&&decide (q=c)
 | _=>false
def Ae.Stack.out:List Atom→DV
 | [.i r,.i c,.l l,.i p,.i _q,.l m]=>.agg [.int .i64 (r+p),.int .i64 c,.ints .fresh .u64 (l++m)]
 | _=>.undef
abbrev Ae.Stack.ts:List AT:=[.st [.i .i64,.i .i64,.s .u64],.st [.i .i64,.i .i64,.s .u64]]
def Ae.Stack.spec:Entry:=entry Ae.Stack.ts Ae.Stack.pre Ae.Stack.out
def A30.Ib.pre:List Atom→Bool
 | []=>true
 | _=>false
def C0.Rows.pre:List Atom→Bool
 | [.i r,.i c,.l l,.i i,.i k,.i x,.i y]=>A0 r c l&&(Al l&&((Af x&&Af y)&&B5 (0≤i∧i<r∧0≤k∧k<r∧i≠k)))
 | _=>false
def C0.Rows.out:List Atom→DV
 | [.i r,.i c,.l l,.i i,.i k,.i x,.i y]=>.tup [.agg [.int .i64 r,.int .i64 c,.ints .fresh .u64 (Lh (toNat r) (toNat c) l (toNat i) (toNat k) x y)],.int .i64 (0:Int)]
 | _=>.undef
abbrev C0.Rows.ts:List AT:=[.st [.i .i64,.i .i64,.s .u64],.i .i64,.i .i64,.i .u64,.i .u64]
def C0.Rows.spec:Entry:=entry C0.Rows.ts C0.Rows.pre C0.Rows.out
def C0.G1.pre:List Atom→Bool
 | [.i r,.i c,.l l,.i i,.i k,.i x,.i y]=>A0 r c l&&(Al l&&((Af x&&Af y)&&B5 (0≤i∧i<c∧0≤k∧k<c∧i≠k)))
 | _=>false
def C0.G1.out:List Atom→DV
 | [.i r,.i c,.l l,.i i,.i k,.i x,.i y]=>.tup [.agg [.int .i64 r,.int .i64 c,.ints .arg .u64 (Oy (toNat r) (toNat c) l (toNat i) (toNat k) x y)],.int .i64 (0:Int)]
 | _=>.undef
abbrev C0.G1.ts:List AT:=[.st [.i .i64,.i .i64,.s .u64],.i .i64,.i .i64,.i .u64,.i .u64]
def C0.G1.spec:Entry:=entry C0.G1.ts C0.G1.pre C0.G1.out
def D4.Rows.pre:List Atom→Bool
 | [.i r,.i c,.l l,.i i,.i k,.i x,.i y]=>A0 r c l&&(Al l&&((Af x&&Af y)&&B5 (0≤i∧i<r∧0≤k∧k<r∧i≠k)))
 | _=>false
def D4.Rows.out:List Atom→DV
 | [.i r,.i c,.l l,.i i,.i k,.i x,.i y]=>.agg [.int .i64 r,.int .i64 c,.ints .arg .u64 (Lh (toNat r) (toNat c) l (toNat i) (toNat k) x y)]
 | _=>.undef
abbrev D4.Rows.ts:List AT:=[.st [.i .i64,.i .i64,.s .u64],.i .i64,.i .i64,.i .u64,.i .u64]
def D4.Rows.spec:Entry:=entry D4.Rows.ts D4.Rows.pre D4.Rows.out
def D4.G1.pre:List Atom→Bool
 | [.i r,.i c,.l l,.i i,.i k,.i x,.i y]=>A0 r c l&&(Al l&&((Af x&&Af y)&&B5 (0≤i∧i<c∧0≤k∧k<c∧i≠k)))
 | _=>false
def D4.G1.out:List Atom→DV
 | [.i r,.i c,.l l,.i i,.i k,.i x,.i y]=>.agg [.int .i64 r,.int .i64 c,.ints .arg .u64 (Oy (toNat r) (toNat c) l (toNat i) (toNat k) x y)]
 | _=>.undef
abbrev D4.G1.ts:List AT:=[.st [.i .i64,.i .i64,.s .u64],.i .i64,.i .i64,.i .u64,.i .u64]
def D4.G1.spec:Entry:=entry D4.G1.ts D4.G1.pre D4.G1.out
def B4.D8.pre:List Atom→Bool
 | [.i i,.i k,.l l]=>Bs l&&B5 (0≤i∧i<((length l:Nat):Int)∧0≤k∧k<((length l:Nat):Int))
 | _=>false
def B4.D8.out:List Atom→DV
 | [.i i,.i k,.l l]=>.int .i64 (Hq (Ll l k) (Ll l i))
 | _=>.undef
abbrev B4.D8.ts:List AT:=[.i .i64,.i .i64,.cp [.s .u64]]
def B4.D8.spec:Entry:=entry B4.D8.ts B4.D8.pre B4.D8.out
def Bl.Ap.pre:List Atom→Bool
 | [.l x,.i a,.i b,.l l]=>Bs l&&B5 (Jg (length l) x=true∧length x≤6∧a=0∧b=((length x:Nat):Int))
 | _=>false
def Bl.Ap.Aaj:List Atom→List Int
 | [.l x,.i _a,.i _b,.l l]=>E5 l x
 | _=>[]
abbrev Bl.Ap.ts:List AT:=[.i .i64,.i .i64,.fn 130 [.cp [.s .u64]]]
def Bl.A4.pre:List Atom→Bool
 | [.l x,.i n,.l l]=>Bs l&&B5 (Jg (length l) x=true∧length x≤6∧n=((length x:Nat):Int))
 | _=>false
def Bl.A4.Aaj:List Atom→List Int
 | [.l x,.i _n,.l l]=>E5 l x
 | _=>[]
abbrev Bl.A4.ts:List AT:=[.i .i64,.fn 130 [.cp [.s .u64]]]
def Bl.A7.pre:List Atom→Bool
 | [.l x,.l l]=>Bs l&&B5 (Jg (length l) x=true∧length x≤6)
 | _=>false
def Bl.A7.Aaj:List Atom→List Int
 | [.l x,.l l]=>E5 l x
 | _=>[]
abbrev Bl.A7.ts:List AT:=[.fn 130 [.cp [.s .u64]]]
def B4.Cs.pre:List Atom→Bool
 | [.i r,.i c,.l l,.i i,.i k,.i b]=>A0 r c l&&(Al l&&(Af b&&B5 (0≤i∧i<c∧0≤k∧k<c)))
 | _=>false
def B4.Cs.out:List Atom→DV
 | [.i r,.i c,.l l,.i i,.i k,.i b]=>.agg [.int .u64 (trC (Ev (toNat r) (toNat c) l (toNat i)) (Ev (toNat r) (toNat c) l (toNat k)) b),.int .u64 (trS (Ev (toNat r) (toNat c) l (toNat i)) (Ev (toNat r) (toNat c) l (toNat k)) b),.bool (W6 (Ev (toNat r) (toNat c) l (toNat i)) (Ev (toNat r) (toNat c) l (toNat k)) b)]
 | _=>.undef
abbrev B4.Cs.ts:List AT:=[.st [.i .i64,.i .i64,.s .u64],.i .i64,.i .i64,.i .u64]
def B4.Cs.spec:Entry:=entry B4.Cs.ts B4.Cs.pre B4.Cs.out
def B4.rounds.pre:List Atom→Bool
 | [.i r,.i c,.l l,.i p,.i q,.l m,.i b]=>(A0 r c l&&A0 p q m)&&((Al l&&Al m)&&(Af b&&B5 (p=c∧q=c)))
 | _=>false
def B4.rounds.out:List Atom→DV
 | [.i r,.i c,.l l,.i p,.i q,.l m,.i b]=>.tup [.agg [.int .i64 r,.int .i64 c,.ints .arg .u64 ((Ej (toNat r) (toNat c) b 60 l m).1)],.agg [.int .i64 p,.int .i64 q,.ints .arg .u64 ((Ej (toNat r) (toNat c) b 60 l m).2.1)],.int .i64 ((Ej (toNat r) (toNat c) b 60 l m).2.2)]
 | _=>.undef
abbrev B4.rounds.ts:List AT:=[.st [.i .i64,.i .i64,.s .u64],.st [.i .i64,.i .i64,.s .u64],.i .u64]
def B4.rounds.spec:Entry:=entry B4.rounds.ts B4.rounds.pre B4.rounds.out
def B4.Bf.pre:List Atom→Bool
 | [.i _r,.i _c,.l l,.i k]=>Bs l&&B5 (length l≤1000∧-2300≤k∧k≤2300)
 | _=>false
def B4.Bf.out:List Atom→DV
 | [.i r,.i c,.l l,.i k]=>.agg [.int .i64 r,.int .i64 c,.ints .arg .u64 (A9 l k)]
 | _=>.undef
abbrev B4.Bf.ts:List AT:=[.st [.i .i64,.i .i64,.s .u64],.i .i64]
def B4.Bf.spec:Entry:=entry B4.Bf.ts B4.Bf.pre B4.Bf.out
def B4.at.pre:List Atom→Bool
 | [.i r,.i c,.l l,.l x]=>A0 r c l&&B5 (((length x:Nat):Int)=c∧Jg (toNat c) x=true)
 | _=>false
def B4.at.out:List Atom→DV
 | [.i r,.i c,.l l,.l x]=>.agg [.int .i64 r,.int .i64 c,.ints .fresh .u64 (Cr (toNat r) (toNat c) l x)]
 | _=>.undef
abbrev B4.at.ts:List AT:=[.st [.i .i64,.i .i64,.s .u64],.s .i64]
def B4.at.spec:Entry:=entry B4.at.ts B4.at.pre B4.at.out
def B4.Gf.pre:List Atom→Bool
 | [.i r,.i c,.l l]=>A0 r c l&&Al l
 | _=>false
def B4.Gf.out:List Atom→DV
 | [.i r,.i c,.l l]=>.ints .fresh .u64 (Ca (toNat r) (toNat c) l)
 | _=>.undef
abbrev B4.Gf.ts:List AT:=[.st [.i .i64,.i .i64,.s .u64]]
def B4.Gf.spec:Entry:=entry B4.Gf.ts B4.Gf.pre B4.Gf.out
def B4.Az.pre:List Atom→Bool
 | [.i _r,.i _c,.l l]=>Al l
 | _=>false
def B4.Az.out:List Atom→DV
 | [.i r,.i c,.l l]=>.tup [.agg [.int .i64 ((Fq r c l).1),.int .i64 ((Fq r c l).2.1),.ints .arg .u64 ((Fq r c l).2.2.1)],.agg [.int .i64 ((Hg r c l).1),.int .i64 ((Hg r c l).2.1),.ints .fresh .u64 ((Hg r c l).2.2.1)],.ints .fresh .u64 (O5 r c l),.int .i64 (Ht r c l)]
 | _=>.undef
abbrev B4.Az.ts:List AT:=[.st [.i .i64,.i .i64,.s .u64]]
def B4.Az.spec:Entry:=entry B4.Az.ts B4.Az.pre B4.Az.out
def Ao.F6.pre:List Atom→Bool
 | [.i a,.i b]=>Af a&&Af b
 | _=>false
def Ao.F6.out:List Atom→DV
 | [.i a,.i b]=>.bool (F1 a b)
 | _=>.undef
abbrev Ao.F6.ts:List AT:=[.i .u64,.i .u64]
def Ao.F6.spec:Entry:=entry Ao.F6.ts Ao.F6.pre Ao.F6.out
def Ao.be.pre:List Atom→Bool
 | [.l x,.l y,.i b]=>(Bs x&&Bs y)&&(Af b&&B5 (length x=length y∧length x≤6))
 | _=>false
def Ao.be.out:List Atom→DV
 | [.l x,.l y,.i b]=>.bool (beR x y b)
 | _=>.undef
abbrev Ao.be.ts:List AT:=[.s .u64,.s .u64,.i .u64]
def Ao.be.spec:Entry:=entry Ao.be.ts Ao.be.pre Ao.be.out
def Ao.Cs.pre:List Atom→Bool
 | [.l x,.l y]=>(Bs x&&Bs y)&&B5 (length x=length y∧length x≤6)
 | _=>false
def Ao.Cs.out:List Atom→DV
 | [.l x,.l y]=>.tup [.int .u64 (Ms (G2 (Iy x y))),.int .u64 (Lz (G2 (Iy x y)))]
 | _=>.undef
abbrev Ao.Cs.ts:List AT:=[.s .u64,.s .u64]
def Ao.Cs.spec:Entry:=entry Ao.Cs.ts Ao.Cs.pre Ao.Cs.out
def Ao.round.pre:List Atom→Bool
 | [.i r,.i c,.l l,.i p,.i q,.l m,.i b]=>(A0 r c l&&A0 p q m)&&((Al l&&Al m)&&(Af b&&B5 (p=c∧q=c)))
 | _=>false
def Ao.round.out:List Atom→DV
 | [.i r,.i c,.l l,.i p,.i q,.l m,.i b]=>.tup [.agg [.int .i64 r,.int .i64 c,.ints .arg .u64 ((Sd (toNat r) (toNat c) b l m).1)],.agg [.int .i64 p,.int .i64 q,.ints .arg .u64 ((Sd (toNat r) (toNat c) b l m).2.1)],.bool ((Sd (toNat r) (toNat c) b l m).2.2)]
 | _=>.undef
abbrev Ao.round.ts:List AT:=[.st [.i .i64,.i .i64,.s .u64],.st [.i .i64,.i .i64,.s .u64],.i .u64]
def Ao.round.spec:Entry:=entry Ao.round.ts Ao.round.pre Ao.round.out
def Ao.Bf.pre:List Atom→Bool
 | [.i r,.i c,.l l,.i k]=>A0 r c l&&(Al l&&B5 (-2300≤k∧k≤2300))
 | _=>false
def Ao.Bf.out:List Atom→DV
 | [.i r,.i c,.l l,.i k]=>.agg [.int .i64 r,.int .i64 c,.ints .arg .u64 (A9 l k)]
 | _=>.undef
abbrev Ao.Bf.ts:List AT:=[.st [.i .i64,.i .i64,.s .u64],.i .i64]
def Ao.Bf.spec:Entry:=entry Ao.Bf.ts Ao.Bf.pre Ao.Bf.out
def Ao.F5.pre:List Atom→Bool
 | [.i r,.i c,.l l]=>A0 r c l&&Al l
 | _=>false
def Ao.F5.out:List Atom→DV
 | [.i r,.i c,.l l]=>.ints .fresh .u64 (Ca (toNat r) (toNat c) l)
 | _=>.undef
abbrev Ao.F5.ts:List AT:=[.st [.i .i64,.i .i64,.s .u64]]
def Ao.F5.spec:Entry:=entry Ao.F5.ts Ao.F5.pre Ao.F5.out
def Ao.order.pre:List Atom→Bool
 | [.l l]=>Bs l&&B5 (length l≤6)
 | _=>false
def Ao.order.out:List Atom→DV
 | [.l l]=>.ints .fresh .i64 (Fm l)
 | _=>.undef
abbrev Ao.order.ts:List AT:=[.s .u64]
def Ao.order.spec:Entry:=entry Ao.order.ts Ao.order.pre Ao.order.out
def Ez.Dj.pre:List Atom→Bool
 | [.i r,.i c,.l l,.l x]=>A0 r c l&&B5 (((length x:Nat):Int)=c∧Jg (toNat c) x=true)
 | _=>false
def Ez.Dj.out:List Atom→DV
 | [.i r,.i c,.l l,.l x]=>.agg [.int .i64 r,.int .i64 c,.ints .arg .u64 (Cr (toNat r) (toNat c) l x)]
 | _=>.undef
abbrev Ez.Dj.ts:List AT:=[.st [.i .i64,.i .i64,.s .u64],.s .i64]
def Ez.Dj.spec:Entry:=entry Ez.Dj.ts Ez.Dj.pre Ez.Dj.out
def Ao.Az.pre:List Atom→Bool
 | [.i r,.i c,.l l]=>A0 r c l&&(Al l&&decide (Dc l=true))
 | _=>false
def Ao.Az.out:List Atom→DV
 | [.i r,.i c,.l l]=>.agg [.int .i64 ((Fq r c l).1),.int .i64 ((Fq r c l).2.1),.ints .arg .u64 ((Fq r c l).2.2.1),.int .i64 ((Hg r c l).1),.int .i64 ((Hg r c l).2.1),.ints .arg .u64 ((Hg r c l).2.2.1),.ints .fresh .u64 (O5 r c l),.int .i64 (Ht r c l)]
 | _=>.undef
abbrev Ao.Az.ts:List AT:=[.st [.i .i64,.i .i64,.s .u64]]
def Ao.Az.spec:Entry:=entry Ao.Az.ts Ao.Az.pre Ao.Az.out
def Cf.Check.pre:List Atom→Bool
 | [.i _r,.i _c,.l l,.i _p,.i _q,.l m]=>Al l&&Al m
 | _=>false
def Cf.Check.out:List Atom→DV
 | [.i r,.i c,.l l,.i p,.i q,.l m]=>.int .i64 (Zj r c l p q m)
 | _=>.undef
abbrev Cf.Check.ts:List AT:=[.st [.i .i64,.i .i64,.s .u64],.st [.i .i64,.i .i64,.s .u64]]
def Cf.Check.spec:Entry:=entry Cf.Check.ts Cf.Check.pre Cf.Check.out
def Cf.Bn.pre:List Atom→Bool
 | [.i _r,.i _c,.l l,.i _p,.i _q,.l m]=>Al l&&Al m
 | _=>false
def Cf.Bn.out:List Atom→DV
 | [.i r,.i c,.l l,.i p,.i q,.l m]=>.tup [.agg [.int .i64 ((Cn r c l p q m).1),.int .i64 ((Cn r c l p q m).2.1),.ints .arg .u64 ((Cn r c l p q m).2.2.1),.int .i64 ((Dx r c l p q m).1),.int .i64 ((Dx r c l p q m).2.1),.ints .fresh .u64 ((Dx r c l p q m).2.2.1),.int .i64 ((Fw r c l p q m).1),.int .i64 ((Fw r c l p q m).2.1),.ints .fresh .u64 ((Fw r c l p q m).2.2.1),.int .i64 ((R4 r c l p q m).1),.int .i64 ((R4 r c l p q m).2.1),.ints .fresh .u64 ((R4 r c l p q m).2.2.1),.ints .fresh .u64 (Gs r c l p q m),.ints .fresh .u64 (O9 r c l p q m)],.int .i64 (Cj r c l p q m)]
 | _=>.undef
abbrev Cf.Bn.ts:List AT:=[.st [.i .i64,.i .i64,.s .u64],.st [.i .i64,.i .i64,.s .u64]]
def Cf.Bn.spec:Entry:=entry Cf.Bn.ts Cf.Bn.pre Cf.Bn.out
def Cf.Dn.pre:List Atom→Bool
 | [.i _a1,.i _b1,.l _l1,.i _a2,.i _b2,.l _l2,.i _a3,.i _b3,.l _l3,.i _a4,.i _b4,.l _l4,.l _x,.l y]=>Bs y
 | _=>false
def Cf.Dn.out:List Atom→DV
 | [.i _a1,.i _b1,.l _l1,.i _a2,.i _b2,.l _l2,.i _a3,.i _b3,.l _l3,.i _a4,.i _b4,.l _l4,.l _x,.l y]=>.int .i64 (Y4 y)
 | _=>.undef
abbrev Cf.Dn.ts:List AT:=[.st [.i .i64,.i .i64,.s .u64,.i .i64,.i .i64,.s .u64,.i .i64,.i .i64,.s .u64,.i .i64,.i .i64,.s .u64,.s .u64,.s .u64]]
def Cf.Dn.spec:Entry:=entry Cf.Dn.ts Cf.Dn.pre Cf.Dn.out
def Cu.Check.pre:List Atom→Bool
 | [.i _r,.i _c,.l l,.i _p,.i _q,.l m]=>Al l&&Al m
 | _=>false
def Cu.Check.out:List Atom→DV
 | [.i r,.i c,.l l,.i p,.i q,.l m]=>.int .i64 (Zj r c l p q m)
 | _=>.undef
abbrev Cu.Check.ts:List AT:=[.st [.i .i64,.i .i64,.s .u64],.st [.i .i64,.i .i64,.s .u64]]
def Cu.Check.spec:Entry:=entry Cu.Check.ts Cu.Check.pre Cu.Check.out
def Cu.Bn.pre:List Atom→Bool
 | [.i _r,.i _c,.l l,.i _p,.i _q,.l m]=>Al l&&Al m
 | _=>false
def Cu.Bn.out:List Atom→DV
 | [.i r,.i c,.l l,.i p,.i q,.l m]=>.agg [.int .i64 ((Cn r c l p q m).1),.int .i64 ((Cn r c l p q m).2.1),.ints .arg .u64 ((Cn r c l p q m).2.2.1),.int .i64 ((Dx r c l p q m).1),.int .i64 ((Dx r c l p q m).2.1),.ints .fresh .u64 ((Dx r c l p q m).2.2.1),.int .i64 ((Fw r c l p q m).1),.int .i64 ((Fw r c l p q m).2.1),.ints .arg .u64 ((Fw r c l p q m).2.2.1),.int .i64 ((R4 r c l p q m).1),.int .i64 ((R4 r c l p q m).2.1),.ints .arg .u64 ((R4 r c l p q m).2.2.1),.ints .fresh .u64 (Gs r c l p q m),.ints .fresh .u64 (O9 r c l p q m),.int .i64 (Cj r c l p q m)]
 | _=>.undef
abbrev Cu.Bn.ts:List AT:=[.st [.i .i64,.i .i64,.s .u64],.st [.i .i64,.i .i64,.s .u64]]
def Cu.Bn.spec:Entry:=entry Cu.Bn.ts Cu.Bn.pre Cu.Bn.out
def Dh.one.pre:List Atom→Bool
 | [.i _b]=>true
 | _=>false
def Dh.one.out:List Atom→DV
 | [.i b]=>.agg [.int .i64 (1:Int),.int .i64 (1:Int),.ints .fresh .u64 ([b])]
 | _=>.undef
abbrev Dh.one.ts:List AT:=[.i .u64]
def Dh.one.spec:Entry:=entry Dh.one.ts Dh.one.pre Dh.one.out
def Dh.Ib.pre:List Atom→Bool
 | []=>true
 | _=>false
def Dh.Ib.out:List Atom→DV
 | []=>.bool true
 | _=>.undef
abbrev Dh.Ib.ts:List AT:=[]
def Dh.Ib.spec:Entry:=entry Dh.Ib.ts Dh.Ib.pre Dh.Ib.out
def Dh.Eg.pre:List Atom→Bool
 | [.i _r,.i _c,.l l,.i _p,.i _q,.l m]=>(Al l&&Al m)&&(Hz l&&Hz m)
 | _=>false
def Dh.Eg.out:List Atom→DV
 | [.i _r,.i _c,.l _l,.i _p,.i _q,.l _m]=>.bool true
 | _=>.undef
abbrev Dh.Eg.ts:List AT:=[.st [.i .i64,.i .i64,.s .u64],.st [.i .i64,.i .i64,.s .u64]]
def Dh.Eg.spec:Entry:=entry Dh.Eg.ts Dh.Eg.pre Dh.Eg.out
def Ae.Part.m.pre:List Atom→Bool
 | [.i r,.i c,.l l,.i x,.i y,.i a,.i b]=>A0 r c l&&Ia r c x y a b
 | _=>false
def Ae.Part.m.out:List Atom→DV
 | [.i r,.i c,.l l,.i x,.i y,.i a,.i b]=>.agg [.int .i64 ((Cv r c l x y a b).1),.int .i64 ((Cv r c l x y a b).2.1),.ints .fresh .u64 ((Cv r c l x y a b).2.2.1)]
 | _=>.undef
abbrev Ae.Part.m.ts:List AT:=[.st [.i .i64,.i .i64,.s .u64],.i .i64,.i .i64,.i .i64,.i .i64]
def Ae.Part.m.spec:Entry:=entry Ae.Part.m.ts Ae.Part.m.pre Ae.Part.m.out
def Ae.Mul.m.pre:List Atom→Bool
 | [.i r,.i c,.l l,.i p,.i q,.l m]=>(A0 r c l&&A0 p q m)&&((Al l&&Al m)&&decide (c=p))
 | _=>false
def Ae.Mul.m.out:List Atom→DV
 | [.i r,.i c,.l l,.i p,.i q,.l m]=>.agg [.int .i64 ((O7 r c l p q m).1),.int .i64 ((O7 r c l p q m).2.1),.ints .fresh .u64 ((O7 r c l p q m).2.2.1)]
 | _=>.undef
abbrev Ae.Mul.m.ts:List AT:=[.st [.i .i64,.i .i64,.s .u64],.st [.i .i64,.i .i64,.s .u64]]
def Ae.Mul.m.spec:Entry:=entry Ae.Mul.m.ts Ae.Mul.m.pre Ae.Mul.m.out
def Ae.Gk.arg.pre:List Atom→Bool
 | [.i r,.i c,.l l,.i i,.i k,.i _b]=>En r c l i k
 | _=>false
def Ae.Gk.arg.out:List Atom→DV
 | [.i r,.i c,.l l,.i i,.i k,.i b]=>.agg [.int .i64 r,.int .i64 c,.ints .arg .u64 (List.set l (toNat (i*c+k)) b)]
 | _=>.undef
abbrev Ae.Gk.arg.ts:List AT:=[.st [.i .i64,.i .i64,.s .u64],.i .i64,.i .i64,.i .u64]
def Ae.Gk.arg.spec:Entry:=entry Ae.Gk.arg.ts Ae.Gk.arg.pre Ae.Gk.arg.out
def Ae.Dm.arg.pre:List Atom→Bool
 | [.i a,.i b]=>Cg a&&Cg b
 | _=>false
def Ae.Dm.arg.out:List Atom→DV
 | [.i a,.i b]=>.agg [.int .i64 a,.int .i64 b,.ints .arg .u64 (Cx (toNat a) (toNat b) (fun _ _=>0))]
 | _=>.undef
abbrev Ae.Dm.arg.ts:List AT:=[.i .i64,.i .i64]
def Ae.Dm.arg.spec:Entry:=entry Ae.Dm.arg.ts Ae.Dm.arg.pre Ae.Dm.arg.out
def Ae.E9.arg.pre:List Atom→Bool
 | [.i n]=>Cg n
 | _=>false
def Ae.E9.arg.out:List Atom→DV
 | [.i n]=>.agg [.int .i64 n,.int .i64 n,.ints .arg .u64 (Ic (toNat n))]
 | _=>.undef
abbrev Ae.E9.arg.ts:List AT:=[.i .i64]
def Ae.E9.arg.spec:Entry:=entry Ae.E9.arg.ts Ae.E9.arg.pre Ae.E9.arg.out
def Fc.Canon.nb.pre:List Atom→Bool
 | [.f _x]=>true
 | _=>false
def Fc.Canon.nb.out:List Atom→DV
 | [.f x]=>.int .u64 (Hf x)
 | _=>.undef
abbrev Fc.Canon.nb.ts:List AT:=[.nb]
def Fc.Canon.nb.spec:Entry:=entry Fc.Canon.nb.ts Fc.Canon.nb.pre Fc.Canon.nb.out
def Dk.Lu.pre:List Atom→Bool
 | [.i x]=>Af x
 | _=>false
def Dk.Lu.out:List Atom→DV
 | [.i x]=>.int .i64 (F2 x)
 | _=>.undef
abbrev Dk.Lu.ts:List AT:=[.i .u64]
def Dk.Lu.spec:Entry:=entry Dk.Lu.ts Dk.Lu.pre Dk.Lu.out
theorem tt0:∀ a b c:Bool,((a==a)&&(b&&(c&&true)))=(b&&c):=by decide
theorem tt1:∀ a b:Bool,(bif a then b else false)=(a&&b):=by decide
theorem W5:∀ a:Bool,(((!a)||(a==true))&&true)=true:=by decide
theorem No:∀ a:Bool,((!(a==true))||((((!(a==true))||(a==true))&&true)&&true))=true:=by decide
theorem R6:∀ a:Bool,((!(a==true))||true)=true:=by decide
theorem tt5:∀ a b:Bool,(bif a then true else b)=(a||b):=by decide
theorem tt6:∀ a:Bool,((!(!a))||(a==false))=true:=by decide
theorem T8:∀ a:Bool,((!(a==false))||((((!(a==false))||(a==false))&&true)&&true))=true:=by decide
theorem tt8:∀ a:Bool,((!(a==false))||((((!(a==false))||(a==false))&&(((!(a==false))||(a==false))&&true))&&true))=true:=by decide
theorem W4:∀ a:Bool,((!(a==false))||true)=true:=by decide
theorem Cy:∀ a:Bool,(a&&true)=a:=by decide
theorem A3h:∀ a b c d e:Bool,(bif a then (bif b then true else (bif c then (bif d then true else e) else false)) else false)=(a&&(b||(c&&(d||e)))):=by decide
theorem A3g:∀ a b:Bool,((!(a==true))||(((!(a==true))||(a==true))&&((!(!b))||((a==true)&&(b==false)))))=true:=by decide
theorem A3f:∀ a b c:Bool,((!((a==true)&&(b==false)))||(((!((a==true)&&(b==false)))||((a==true)&&(b==false)))&&(((!c)||(((a==true)&&(b==false))&&(c==true)))&&true)))=true:=by decide
theorem A3e:∀ a b c d:Bool,((!(((a==true)&&(b==false))&&(c==true)))||(((!(((a==true)&&(b==false))&&(c==true)))||(((a==true)&&(b==false))&&(c==true)))&&((!(!d))||((((a==true)&&(b==false))&&(c==true))&&(d==false)))))=true:=by decide
theorem A0u:∀ a b c d:Bool,((!((((a==true)&&(b==false))&&(c==true))&&(d==false)))||((((!((((a==true)&&(b==false))&&(c==true))&&(d==false)))||((((a==true)&&(b==false))&&(c==true))&&(d==false)))&&true)&&true))=true:=by decide
theorem A3d:∀ a b c d:Bool,((!((((a==true)&&(b==false))&&(c==true))&&(d==false)))||true)=true:=by decide
theorem A3c:∀ a b c:Bool,((!(((a==true)&&(b==false))&&(c==true)))||((((!(((a==true)&&(b==false))&&(c==true)))||(((a==true)&&(b==false))&&(c==true)))&&true)&&true))=true:=by decide
theorem A3b:∀ a b c:Bool,((!(((a==true)&&(b==false))&&(c==true)))||true)=true:=by decide
theorem A3a:∀ a b:Bool,((!((a==true)&&(b==false)))||((((!((a==true)&&(b==false)))||((a==true)&&(b==false)))&&true)&&true))=true:=by decide
theorem A29:∀ a b:Bool,((!((a==true)&&(b==false)))||((((!((a==true)&&(b==false)))||((a==true)&&(b==false)))&&(((!((a==true)&&(b==false)))||((a==true)&&(b==false)))&&true))&&true))=true:=by decide
theorem A0t:∀ a b:Bool,((!((a==true)&&(b==false)))||true)=true:=by decide
theorem Ang:∀ a:Bool,((!(a==true))||((((!(a==true))||(a==true))&&(((!(a==true))||(a==true))&&true))&&true))=true:=by decide
theorem Axz:∀ a b:Bool,(bif (!a) then true else b)=((!a)||b):=by decide
theorem Zu:∀ a:Bool,((!(!(!a)))||((!a)==false))=true:=by decide
theorem R3:∀ a:Bool,((!((!a)==false))||((((!((!a)==false))||((!a)==false))&&true)&&true))=true:=by decide
theorem W7:∀ a:Bool,((!((!a)==false))||true)=true:=by decide
theorem A0s:∀ a b:Bool,(bif a then (!b) else false)=(a&&(!b)):=by decide
theorem Aqo:∀ a b:Bool,(bif (!a) then true else (!b))=((!a)||(!b)):=by decide
theorem Ajt:∀ a b:Bool,((!((!a)==false))||((((!((!a)==false))||((!a)==false))&&true)&&b))=((!a)||b):=by decide
theorem A0r:∀ a b c d:Bool,(bif (bif a then b else false) then true else (bif c then d else false))=((a&&b)||(c&&d)):=by decide
theorem A0q:∀ a b:Bool,((!(!(bif a then b else false)))||((bif a then b else false)==false))=true:=by decide
theorem A0p:∀ a b c:Bool,((!((bif a then b else false)==false))||(((!((bif a then b else false)==false))||((bif a then b else false)==false))&&(((!c)||(((bif a then b else false)==false)&&(c==true)))&&true)))=true:=by decide
theorem A0o:∀ a b c:Bool,((!(((bif a then b else false)==false)&&(c==true)))||((((!(((bif a then b else false)==false)&&(c==true)))||(((bif a then b else false)==false)&&(c==true)))&&true)&&true))=true:=by decide
theorem A0n:∀ a b c:Bool,((!(((bif a then b else false)==false)&&(c==true)))||true)=true:=by decide
theorem Aux:∀ a b:Bool,((!((bif a then b else false)==false))||((((!((bif a then b else false)==false))||((bif a then b else false)==false))&&true)&&true))=true:=by decide
theorem A0m:∀ a b:Bool,((!((bif a then b else false)==false))||true)=true:=by decide
theorem J1:∀ a b:Bool,((a&&b)&&true)=(a&&b):=by decide
theorem A0l:∀ a b c:Bool,(bif (bif (!a) then true else (!b)) then true else c)=(((!a)||(!b))||c):=by decide
theorem Axy:∀ a b:Bool,((!(!(bif (!a) then true else (!b))))||((bif (!a) then true else (!b))==false))=true:=by decide
theorem A0k:∀ a b:Bool,((!((bif (!a) then true else (!b))==false))||((((!((bif (!a) then true else (!b))==false))||((bif (!a) then true else (!b))==false))&&(((!((bif (!a) then true else (!b))==false))||((bif (!a) then true else (!b))==false))&&true))&&true))=true:=by decide
theorem Anf:∀ a b:Bool,((!((bif (!a) then true else (!b))==false))||((((!((bif (!a) then true else (!b))==false))||((bif (!a) then true else (!b))==false))&&true)&&true))=true:=by decide
theorem Agq:∀ a b:Bool,((!((bif (!a) then true else (!b))==false))||true)=true:=by decide
theorem A0j:∀ a b c d:Bool,(((a&&b)&&(c&&d))&&true)=((a&&b)&&(c&&d)):=by decide
theorem A28:∀ a b c d e f g h:Bool,(bif (bif (bif (bif (bif (bif (bif a then true else b) then true else c) then true else d) then true else e) then true else f) then true else g) then true else h)=(((((((a||b)||c)||d)||e)||f)||g)||h):=by decide
theorem A27:∀ a b c d e f g:Bool,((!(!(bif (bif (bif (bif (bif (bif a then true else b) then true else c) then true else d) then true else e) then true else f) then true else g)))||((bif (bif (bif (bif (bif (bif a then true else b) then true else c) then true else d) then true else e) then true else f) then true else g)==false))=true:=by decide
theorem A0i:∀ a b c d e f g:Bool,((!((bif (bif (bif (bif (bif (bif a then true else b) then true else c) then true else d) then true else e) then true else f) then true else g)==false))||((((!((bif (bif (bif (bif (bif (bif a then true else b) then true else c) then true else d) then true else e) then true else f) then true else g)==false))||((bif (bif (bif (bif (bif (bif a then true else b) then true else c) then true else d) then true else e) then true else f) then true else g)==false))&&(((!((bif (bif (bif (bif (bif (bif a then true else b) then true else c) then true else d) then true else e) then true else f) then true else g)==false))||((bif (bif (bif (bif (bif (bif a then true else b) then true else c) then true else d) then true else e) then true else f) then true else g)==false))&&true))&&true))=true:=by decide
theorem Axx:∀ a b c d e f g:Bool,((!((bif (bif (bif (bif (bif (bif a then true else b) then true else c) then true else d) then true else e) then true else f) then true else g)==false))||true)=true:=by decide
theorem A26:∀ a b c d e f g:Bool,((!((bif (bif (bif (bif (bif (bif a then true else b) then true else c) then true else d) then true else e) then true else f) then true else g)==false))||((((!((bif (bif (bif (bif (bif (bif a then true else b) then true else c) then true else d) then true else e) then true else f) then true else g)==false))||((bif (bif (bif (bif (bif (bif a then true else b) then true else c) then true else d) then true else e) then true else f) then true else g)==false))&&true)&&true))=true:=by decide
theorem A25:∀ a b c d e f:Bool,((!(!(bif (bif (bif (bif (bif a then true else b) then true else c) then true else d) then true else e) then true else f)))||((bif (bif (bif (bif (bif a then true else b) then true else c) then true else d) then true else e) then true else f)==false))=true:=by decide
theorem A0h:∀ a b c d e f:Bool,((!((bif (bif (bif (bif (bif a then true else b) then true else c) then true else d) then true else e) then true else f)==false))||((((!((bif (bif (bif (bif (bif a then true else b) then true else c) then true else d) then true else e) then true else f)==false))||((bif (bif (bif (bif (bif a then true else b) then true else c) then true else d) then true else e) then true else f)==false))&&(((!((bif (bif (bif (bif (bif a then true else b) then true else c) then true else d) then true else e) then true else f)==false))||((bif (bif (bif (bif (bif a then true else b) then true else c) then true else d) then true else e) then true else f)==false))&&true))&&true))=true:=by decide
theorem Axw:∀ a b c d e f:Bool,((!((bif (bif (bif (bif (bif a then true else b) then true else c) then true else d) then true else e) then true else f)==false))||true)=true:=by decide
theorem A24:∀ a b c d e f:Bool,((!((bif (bif (bif (bif (bif a then true else b) then true else c) then true else d) then true else e) then true else f)==false))||((((!((bif (bif (bif (bif (bif a then true else b) then true else c) then true else d) then true else e) then true else f)==false))||((bif (bif (bif (bif (bif a then true else b) then true else c) then true else d) then true else e) then true else f)==false))&&true)&&true))=true:=by decide
theorem A23:∀ a b c d e:Bool,((!(!(bif (bif (bif (bif a then true else b) then true else c) then true else d) then true else e)))||((bif (bif (bif (bif a then true else b) then true else c) then true else d) then true else e)==false))=true:=by decide
theorem A22:∀ a b c d e:Bool,((!((bif (bif (bif (bif a then true else b) then true else c) then true else d) then true else e)==false))||((((!((bif (bif (bif (bif a then true else b) then true else c) then true else d) then true else e)==false))||((bif (bif (bif (bif a then true else b) then true else c) then true else d) then true else e)==false))&&(((!((bif (bif (bif (bif a then true else b) then true else c) then true else d) then true else e)==false))||((bif (bif (bif (bif a then true else b) then true else c) then true else d) then true else e)==false))&&true))&&true))=true:=by decide
theorem A21:∀ a b c d e:Bool,((!((bif (bif (bif (bif a then true else b) then true else c) then true else d) then true else e)==false))||((((!((bif (bif (bif (bif a then true else b) then true else c) then true else d) then true else e)==false))||((bif (bif (bif (bif a then true else b) then true else c) then true else d) then true else e)==false))&&true)&&true))=true:=by decide
theorem A0g:∀ a b c d e:Bool,((!((bif (bif (bif (bif a then true else b) then true else c) then true else d) then true else e)==false))||true)=true:=by decide
theorem Axv:∀ a b c d:Bool,((!(!(bif (bif (bif a then true else b) then true else c) then true else d)))||((bif (bif (bif a then true else b) then true else c) then true else d)==false))=true:=by decide
theorem Axu:∀ a b c d:Bool,((!((bif (bif (bif a then true else b) then true else c) then true else d)==false))||((((!((bif (bif (bif a then true else b) then true else c) then true else d)==false))||((bif (bif (bif a then true else b) then true else c) then true else d)==false))&&(((!((bif (bif (bif a then true else b) then true else c) then true else d)==false))||((bif (bif (bif a then true else b) then true else c) then true else d)==false))&&true))&&true))=true:=by decide
theorem A0f:∀ a b c d:Bool,((!((bif (bif (bif a then true else b) then true else c) then true else d)==false))||((((!((bif (bif (bif a then true else b) then true else c) then true else d)==false))||((bif (bif (bif a then true else b) then true else c) then true else d)==false))&&true)&&true))=true:=by decide
theorem Ane:∀ a b c d:Bool,((!((bif (bif (bif a then true else b) then true else c) then true else d)==false))||true)=true:=by decide
theorem Aqm:∀ a b c:Bool,((!(!(bif (bif a then true else b) then true else c)))||((bif (bif a then true else b) then true else c)==false))=true:=by decide
theorem Aeq:∀ a b c:Bool,((!((bif (bif a then true else b) then true else c)==false))||((((!((bif (bif a then true else b) then true else c)==false))||((bif (bif a then true else b) then true else c)==false))&&true)&&true))=true:=by decide
theorem Agp:∀ a b c:Bool,((!((bif (bif a then true else b) then true else c)==false))||true)=true:=by decide
theorem Aql:∀ a b:Bool,((!(!(bif a then true else b)))||((bif a then true else b)==false))=true:=by decide
theorem Ab7:∀ a b:Bool,((!((bif a then true else b)==false))||((((!((bif a then true else b)==false))||((bif a then true else b)==false))&&true)&&true))=true:=by decide
theorem Zt:∀ a b:Bool,((!((bif a then true else b)==false))||true)=true:=by decide
theorem A0e:∀ a b c d:Bool,(((!(bif (bif (bif a then b else false) then c else false) then d else false))||((bif (bif (bif a then b else false) then c else false) then d else false)==true))&&true)=true:=by decide
theorem A0d:∀ a b c d:Bool,((!((bif (bif (bif a then b else false) then c else false) then d else false)==true))||((((!((bif (bif (bif a then b else false) then c else false) then d else false)==true))||((bif (bif (bif a then b else false) then c else false) then d else false)==true))&&(((!((bif (bif (bif a then b else false) then c else false) then d else false)==true))||((bif (bif (bif a then b else false) then c else false) then d else false)==true))&&true))&&true))=true:=by decide
theorem Aqk:∀ a b c d:Bool,((!((bif (bif (bif a then b else false) then c else false) then d else false)==true))||((((!((bif (bif (bif a then b else false) then c else false) then d else false)==true))||((bif (bif (bif a then b else false) then c else false) then d else false)==true))&&true)&&true))=true:=by decide
theorem Auw:∀ a b c d:Bool,((!((bif (bif (bif a then b else false) then c else false) then d else false)==true))||true)=true:=by decide
theorem A0c:∀ a b c:Bool,(((!(bif (bif a then b else false) then c else false))||((bif (bif a then b else false) then c else false)==true))&&true)=true:=by decide
theorem Aqj:∀ a b c:Bool,((!((bif (bif a then b else false) then c else false)==true))||((((!((bif (bif a then b else false) then c else false)==true))||((bif (bif a then b else false) then c else false)==true))&&true)&&true))=true:=by decide
theorem A0b:∀ a b c:Bool,((!((bif (bif a then b else false) then c else false)==true))||true)=true:=by decide
theorem Auv:∀ a b:Bool,(((!(bif a then b else false))||((bif a then b else false)==true))&&true)=true:=by decide
theorem Ajs:∀ a b:Bool,((!((bif a then b else false)==true))||((((!((bif a then b else false)==true))||((bif a then b else false)==true))&&true)&&true))=true:=by decide
theorem Aqi:∀ a b:Bool,((!((bif a then b else false)==true))||true)=true:=by decide
theorem A20:∀ a b c:Bool,((!((bif a then b else false)==true))||((((!((bif a then b else false)==true))||((bif a then b else false)==true))&&(((!((bif a then b else false)==true))||((bif a then b else false)==true))&&true))&&c))=((!(a&&b))||c):=by decide
theorem A2z:∀ a b c:Bool,((!(a==true))||((((!(a==true))||(a==true))&&(((!(a==true))||(a==true))&&true))&&(b&&c)))=((!a)||(b&&c)):=by decide
theorem A0a:∀ a:Bool,(((a&&true)&&true)&&true)=a:=by decide
theorem A2y:∀ a b:Bool,((!(a==true))||((((!(a==true))||(a==true))&&true)&&b))=((!a)||b):=by decide
theorem Auu:∀ a b:Bool,((!(a==false))||((((!(a==false))||(a==false))&&true)&&b))=(a||b):=by decide
theorem Az8:∀ a b:Bool,(bif a then true else (!b))=(a||(!b)):=by decide
theorem Axt:∀ a b c:Bool,((a&&b)&&((a&&c)&&true))=((a&&b)&&(a&&c)):=by decide
theorem A2x:∀ a:Bool,((a&&true)&&true)=a:=by decide
theorem Az7:∀ a b c d e:Bool,(bif (bif (bif (bif a then true else b) then true else c) then true else d) then true else e)=((((a||b)||c)||d)||e):=by decide
theorem Anc:∀ a b:Bool,((!((bif a then true else b)==false))||((((!((bif a then true else b)==false))||((bif a then true else b)==false))&&(((!((bif a then true else b)==false))||((bif a then true else b)==false))&&true))&&true))=true:=by decide
theorem Az6:∀ a b c d:Bool,(bif (bif (bif a then true else b) then true else c) then true else d)=(((a||b)||c)||d):=by decide
theorem Axs:∀ a b c:Bool,((!((bif (bif a then true else b) then true else c)==false))||((((!((bif (bif a then true else b) then true else c)==false))||((bif (bif a then true else b) then true else c)==false))&&(((!((bif (bif a then true else b) then true else c)==false))||((bif (bif a then true else b) then true else c)==false))&&true))&&true))=true:=by decide
theorem A2w:∀ a b c:Bool,((!((bif a then b else false)==true))||((((!((bif a then b else false)==true))||((bif a then b else false)==true))&&true)&&c))=((!(a&&b))||c):=by decide
theorem A2v:∀ a b:Bool,((!(a==true))||((((!(a==true))||(a==true))&&(((!(a==true))||(a==true))&&true))&&b))=((!a)||b):=by decide
theorem A2u:∀ a b c:Bool,(((a&&b)&&c)&&true)=((a&&b)&&c):=by decide
theorem A2t:∀ a:Bool,((((!a)||(a==true))&&true)&&true)=true:=by decide
theorem Az5:∀ a:Bool,(((!(a==true))||((((!(a==true))||(a==true))&&true)&&true))&&true)=true:=by decide
theorem A2s:∀ a b:Bool,(((!(a==true))||((((!(a==true))||(a==true))&&(((!(a==true))||(a==true))&&(((!(a==true))||(a==true))&&true)))&&b))&&true)=((!a)||b):=by decide
theorem Az4:∀ a b:Bool,(((!(a==true))||((((!(a==true))||(a==true))&&true)&&b))&&true)=((!a)||b):=by decide
theorem Az3:∀ a b c:Bool,(((!(a==true))||((((!(a==true))||(a==true))&&(((!(a==true))||(a==true))&&true))&&(b&&c)))&&true)=((!a)||(b&&c)):=by decide
theorem Ags:∀ a:Bool,(((!(a==true))||true)&&true)=true:=by decide
theorem A1d:∀ a b c:Bool,(bif (bif (!a) then true else (!b)) then true else (!c))=(((!a)||(!b))||(!c)):=by decide
theorem Aqt:∀ a b c:Bool,((!((bif (!a) then true else (!b))==false))||((((!((bif (!a) then true else (!b))==false))||((bif (!a) then true else (!b))==false))&&(((!((bif (!a) then true else (!b))==false))||((bif (!a) then true else (!b))==false))&&true))&&c))=(((!a)||(!b))||c):=by decide
theorem Aw6:∀ a b c:Bool,((!((bif (!a) then true else (!b))==false))||((((!((bif (!a) then true else (!b))==false))||((bif (!a) then true else (!b))==false))&&true)&&c))=(((!a)||(!b))||c):=by decide
theorem Aw5:∀ a b:Bool,((!((!a)==false))||((((!((!a)==false))||((!a)==false))&&(((!((!a)==false))||((!a)==false))&&true))&&b))=((!a)||b):=by decide
theorem A1c:∀ a b:Bool,(bif (!a) then b else false)=((!a)&&b):=by decide
theorem A1b:∀ a:Bool,((((!(!a))||((!a)==true))&&true)&&true)=true:=by decide
theorem A1a:∀ a b:Bool,(((!((!a)==true))||((((!((!a)==true))||((!a)==true))&&(((!((!a)==true))||((!a)==true))&&true))&&b))&&true)=(a||b):=by decide
theorem Aw4:∀ a:Bool,(((!((!a)==true))||((((!((!a)==true))||((!a)==true))&&true)&&true))&&true)=true:=by decide
theorem Aqs:∀ a b c:Bool,(((!((!a)==true))||((((!((!a)==true))||((!a)==true))&&(((!((!a)==true))||((!a)==true))&&true))&&(b&&c)))&&true)=(a||(b&&c)):=by decide
theorem A09:∀ a b:Bool,(((!((!a)==true))||((((!((!a)==true))||((!a)==true))&&true)&&b))&&true)=(a||b):=by decide
theorem Agr:∀ a:Bool,(((!((!a)==true))||true)&&true)=true:=by decide
theorem A08:∀ a b c d e:Bool,((!((bif (bif (bif a then b else false) then c else false) then d else false)==true))||((((!((bif (bif (bif a then b else false) then c else false) then d else false)==true))||((bif (bif (bif a then b else false) then c else false) then d else false)==true))&&true)&&e))=((!(((a&&b)&&c)&&d))||e):=by decide
theorem A07:∀ a b c d e:Bool,(bif (bif (bif (bif a then true else (!b)) then true else (!c)) then true else (!d)) then true else (!e))=((((a||(!b))||(!c))||(!d))||(!e)):=by decide
theorem A06:∀ a b c d:Bool,((!(!(bif (bif (bif a then true else (!b)) then true else (!c)) then true else (!d))))||((bif (bif (bif a then true else (!b)) then true else (!c)) then true else (!d))==false))=true:=by decide
theorem Aqr:∀ a b c d:Bool,((!((bif (bif (bif a then true else (!b)) then true else (!c)) then true else (!d))==false))||((((!((bif (bif (bif a then true else (!b)) then true else (!c)) then true else (!d))==false))||((bif (bif (bif a then true else (!b)) then true else (!c)) then true else (!d))==false))&&true)&&true))=true:=by decide
theorem A05:∀ a b c d e:Bool,((!((bif (bif (bif a then true else (!b)) then true else (!c)) then true else (!d))==false))||((((!((bif (bif (bif a then true else (!b)) then true else (!c)) then true else (!d))==false))||((bif (bif (bif a then true else (!b)) then true else (!c)) then true else (!d))==false))&&(((!((bif (bif (bif a then true else (!b)) then true else (!c)) then true else (!d))==false))||((bif (bif (bif a then true else (!b)) then true else (!c)) then true else (!d))==false))&&true))&&e))=((((a||(!b))||(!c))||(!d))||e):=by decide
theorem Aw3:∀ a b c d:Bool,((!((bif (bif (bif a then true else (!b)) then true else (!c)) then true else (!d))==false))||true)=true:=by decide
theorem A04:∀ a b c:Bool,((!(!(bif (bif a then true else (!b)) then true else (!c))))||((bif (bif a then true else (!b)) then true else (!c))==false))=true:=by decide
theorem Aqq:∀ a b c:Bool,((!((bif (bif a then true else (!b)) then true else (!c))==false))||((((!((bif (bif a then true else (!b)) then true else (!c))==false))||((bif (bif a then true else (!b)) then true else (!c))==false))&&true)&&true))=true:=by decide
theorem A03:∀ a b c d:Bool,((!((bif (bif a then true else (!b)) then true else (!c))==false))||((((!((bif (bif a then true else (!b)) then true else (!c))==false))||((bif (bif a then true else (!b)) then true else (!c))==false))&&(((!((bif (bif a then true else (!b)) then true else (!c))==false))||((bif (bif a then true else (!b)) then true else (!c))==false))&&true))&&d))=(((a||(!b))||(!c))||d):=by decide
theorem Aw2:∀ a b c:Bool,((!((bif (bif a then true else (!b)) then true else (!c))==false))||true)=true:=by decide
theorem A02:∀ a b:Bool,((!(!(bif a then true else (!b))))||((bif a then true else (!b))==false))=true:=by decide
theorem Aqp:∀ a b:Bool,((!((bif a then true else (!b))==false))||((((!((bif a then true else (!b))==false))||((bif a then true else (!b))==false))&&true)&&true))=true:=by decide
theorem A01:∀ a b c:Bool,((!((bif a then true else (!b))==false))||((((!((bif a then true else (!b))==false))||((bif a then true else (!b))==false))&&(((!((bif a then true else (!b))==false))||((bif a then true else (!b))==false))&&true))&&c))=((a||(!b))||c):=by decide
theorem Aw1:∀ a b:Bool,((!((bif a then true else (!b))==false))||true)=true:=by decide
theorem A00:∀ a b:Bool,((!(a==false))||((((!(a==false))||(a==false))&&(((!(a==false))||(a==false))&&true))&&b))=(a||b):=by decide
theorem A0z:∀ a b:Bool,(((!(!(bif (!a) then true else (!b))))||((bif (!a) then true else (!b))==false))&&true)=true:=by decide
theorem A0y:∀ a b:Bool,(((!((bif (!a) then true else (!b))==false))||((((!((bif (!a) then true else (!b))==false))||((bif (!a) then true else (!b))==false))&&(((!((bif (!a) then true else (!b))==false))||((bif (!a) then true else (!b))==false))&&true))&&true))&&true)=true:=by decide
theorem Aw0:∀ a b c:Bool,(((!((bif (!a) then true else (!b))==false))||((((!((bif (!a) then true else (!b))==false))||((bif (!a) then true else (!b))==false))&&(((!((bif (!a) then true else (!b))==false))||((bif (!a) then true else (!b))==false))&&true))&&c))&&true)=(((!a)||(!b))||c):=by decide
theorem Als:∀ a b:Bool,(((!((bif (!a) then true else (!b))==false))||true)&&true)=true:=by decide
theorem A0x:∀ a:Bool,(((!(!(!a)))||((!a)==false))&&true)=true:=by decide
theorem A0w:∀ a:Bool,(((!((!a)==false))||((((!((!a)==false))||((!a)==false))&&true)&&true))&&true)=true:=by decide
theorem A0v:∀ a b:Bool,(((!((!a)==false))||((((!((!a)==false))||((!a)==false))&&(((!((!a)==false))||((!a)==false))&&true))&&b))&&true)=((!a)||b):=by decide
theorem Awz:∀ a:Bool,(((!((!a)==false))||true)&&true)=true:=by decide
open Go Go.Den Go.Rnd Go.Proofs
set_option maxRecDepth 100000
namespace EqSoft
def soft.Split.Bc:List (Nat × Entry):=[]
def soft.Split.E:Env:=Bi (Be soft.Split.Bc) (fun _=>false) (fun _=>none) (fun _=>none)
theorem soft.Split.ev (N:Nat) (x:Int):B0 soft.Split.E N f202 (Ak f202) [.int .u64 x]=some (.agg [.bool ((Ef .u64 x 63)==(1:Int)),.int .i64 (Ab (Fx .u64 (Ef .u64 x 52) 2047)),.int .u64 (Fx .u64 x 4503599627370495)]):=by kernel_rfl
abbrev _root_.Go.Proofs.S1.soft.Split.Kn:=A8 prog 202 soft.Split.spec
theorem soft.Split.Ad (hk:A2 prog soft.Split.Bc) (h:Hyp soft.Split.E f202 soft.Split.ts soft.Split.pre soft.Split.out):soft.Split.Kn :=
 Am (A5 hk _ _ _) func202 (by kernel_rfl) (by kernel_rfl) h
def soft.Kind.Bc:List (Nat × Entry):=[(202,soft.Split.spec)]
def soft.Kind.E:Env:=Bi (Be soft.Kind.Bc) (fun _=>false) (fun _=>none) (fun _=>none)
theorem soft.Kind.ev (N:Nat) (x:Int):B0 soft.Kind.E N f165 (Ak f165) [.int .u64 x]=bif (Af x) then bif (((Nt x)==(2047:Int))&&((Dw x)==(0:Int))) then some (.int .i64 3) else bif ((Nt x)==(2047:Int)) then some (.int .i64 4) else bif (Bb 0 (Nt x)) then some (.int .i64 2) else bif (Bb 0 (Dw x)) then some (.int .i64 1) else some (.int .i64 0) else none :=
 Eq.trans (by kernel_rfl)
 (E1 (Cw (tt0 (Eb x) _ _) rfl rfl) rfl)
abbrev _root_.Go.Proofs.S1.soft.Kind.Kn:=A8 prog 165 soft.Kind.spec
theorem soft.Kind.Ad (hk:A2 prog soft.Kind.Bc) (h:Hyp soft.Kind.E f165 soft.Kind.ts soft.Kind.pre soft.Kind.out):soft.Kind.Kn :=
 Am (A5 hk _ _ _) func165 (by kernel_rfl) (by kernel_rfl) h
def soft.Sign.Bc:List (Nat × Entry):=[]
def soft.Sign.E:Env:=Bi (Be soft.Sign.Bc) (fun _=>false) (fun _=>none) (fun _=>none)
theorem soft.Sign.ev (N:Nat) (x:Int):B0 soft.Sign.E N f181 (Ak f181) [.int .u64 x]=some (.bool ((Ef .u64 x 63)==(1:Int))):=by kernel_rfl
abbrev _root_.Go.Proofs.S1.soft.Sign.Kn:=A8 prog 181 soft.Sign.spec
theorem soft.Sign.Ad (hk:A2 prog soft.Sign.Bc) (h:Hyp soft.Sign.E f181 soft.Sign.ts soft.Sign.pre soft.Sign.out):soft.Sign.Kn :=
 Am (A5 hk _ _ _) func181 (by kernel_rfl) (by kernel_rfl) h
def soft.Finite.Bc:List (Nat × Entry):=[(165,soft.Kind.spec)]
def soft.Finite.E:Env:=Bi (Be soft.Finite.Bc) (fun _=>false) (fun _=>none) (fun _=>none)
theorem soft.Finite.ev (N:Nat) (x:Int):B0 soft.Finite.E N f136 (Ak f136) [.int .u64 x]=bif (Af x) then bif ((Bz x)==(3:Int)) then some (.bool false) else bif ((Bz x)==(4:Int)) then some (.bool false) else some (.bool true) else none:=by kernel_rfl
abbrev _root_.Go.Proofs.S1.soft.Finite.Kn:=A8 prog 136 soft.Finite.spec
theorem soft.Finite.Ad (hk:A2 prog soft.Finite.Bc) (h:Hyp soft.Finite.E f136 soft.Finite.ts soft.Finite.pre soft.Finite.out):soft.Finite.Kn :=
 Am (A5 hk _ _ _) func136 (by kernel_rfl) (by kernel_rfl) h
def soft.Du.Bc:List (Nat × Entry):=[]
def soft.Du.E:Env:=Bi (Be soft.Du.Bc) (fun _=>false) (fun _=>none) (fun _=>none)
theorem soft.Du.ev (N:Nat) (x:Int):B0 soft.Du.E N f81 (Ak f81) [.int .u64 x]=some (.int .u64 (Awr .u64 x 9223372036854775808)):=by kernel_rfl
abbrev _root_.Go.Proofs.S1.soft.Du.Kn:=A8 prog 81 soft.Du.spec
theorem soft.Du.Ad (hk:A2 prog soft.Du.Bc) (h:Hyp soft.Du.E f81 soft.Du.ts soft.Du.pre soft.Du.out):soft.Du.Kn :=
 Am (A5 hk _ _ _) func81 (by kernel_rfl) (by kernel_rfl) h
def soft.G0.Bc:List (Nat × Entry):=[(202,soft.Split.spec)]
def soft.G0.E:Env:=Bi (Be soft.G0.Bc) (fun _=>false) (fun _=>none) (fun _=>none)
theorem soft.G0.ev (N:Nat) (x:Int):B0 soft.G0.E N f166 (Ak f166) [.int .u64 x]=bif (Af x) then bif ((Nt x)==(0:Int)) then some (.tup [.int .u64 (Dw x),.int .i64 (-1074:Int)]) else some (.tup [.int .u64 (Jk .u64 (Dw x) 4503599627370496),.int .i64 (Ab ((Nt x)-1075))]) else none:=by kernel_rfl
abbrev _root_.Go.Proofs.S1.soft.G0.Kn:=A8 prog 166 soft.G0.spec
theorem soft.G0.Ad (hk:A2 prog soft.G0.Bc) (h:Hyp soft.G0.E f166 soft.G0.ts soft.G0.pre soft.G0.out):soft.G0.Kn :=
 Am (A5 hk _ _ _) func166 (by kernel_rfl) (by kernel_rfl) h
def soft.Pack.Bc:List (Nat × Entry):=[(81,soft.Du.spec)]
def soft.Pack.E (rk:Nat):Env:=Bi (Be ((214,An7 [.b,.i .u64,.i .i64] soft.Pack.pre soft.Pack.out soft.Pack.mu rk)::soft.Pack.Bc)) (fun _=>false) (fun _=>none) (fun _=>none)
theorem soft.Pack.ev (N rk:Nat) (n:Bool) (m e:Int):B0 (soft.Pack.E rk) N f214 (Ak f214) [.bool n,.int .u64 m,.int .i64 e]=bif (m==(0:Int)) then bif n then bif (Af 0) then some (.int .u64 (Cz 0)) else none else some (.int .u64 0) else bif (Ex 9007199254740992 m) then bif ((Mi (Ef .u64 m 1) (Ab (e+1)))&&(B5 ((Q7 (Ef .u64 m 1) (Ab (e+1)))<rk))) then some (.int .u64 (Vy n (Ef .u64 m 1) (Ab (e+1)))) else none else bif ((Bb m 4503599627370496)&&(Bb (-1074:Int) e)) then bif ((Mi (Ch .u64 m 1) (Ab (e-1)))&&(B5 ((Q7 (Ch .u64 m 1) (Ab (e-1)))<rk))) then some (.int .u64 (Vy n (Ch .u64 m 1) (Ab (e-1)))) else none else bif (Bb m 4503599627370496) then bif n then bif (Af m) then some (.int .u64 (Cz m)) else none else some (.int .u64 m) else bif (Ex 2047 (Ab (e+1075))) then bif n then bif (Af 9218868437227405312) then some (.int .u64 (Cz 9218868437227405312)) else none else some (.int .u64 9218868437227405312) else bif n then bif (Af (Jk .u64 (Ch .u64 (Bq (Ab (e+1075))) 52) (Fx .u64 m 4503599627370495))) then some (.int .u64 (Cz (Jk .u64 (Ch .u64 (Bq (Ab (e+1075))) 52) (Fx .u64 m 4503599627370495)))) else none else some (.int .u64 (Jk .u64 (Ch .u64 (Bq (Ab (e+1075))) 52) (Fx .u64 m 4503599627370495))) :=
 Eq.trans (by kernel_rfl)
 (E1 rfl (E1 rfl (Ax (R6 (Bb m 4503599627370496)) (Ax (No (Bb m 4503599627370496)) (Ax (W5 (Bb m 4503599627370496)) (Cw (tt1 _ _) rfl rfl))))))
theorem soft.Pack.Ad (hk:A2 prog soft.Pack.Bc) (h:∀ (rk:Nat) (n:Bool) (m e:Int),soft.Pack.pre [.b n,.i m,.i e]=true→soft.Pack.mu [.b n,.i m,.i e]<rk+1→∃ N dv drops,B0 (soft.Pack.E rk) N f214 (Ak f214) [.bool n,.int .u64 m,.int .i64 e]=some dv∧Wk drops dv (soft.Pack.out [.b n,.i m,.i e])):A8 prog 214 soft.Pack.spec:=by
 have call:=Mf (f:=214) func214 (by kernel_rfl) (show f214.body=some (Ak f214) by kernel_rfl)
 refine ⟨Akr (E:=soft.Pack.E) func214 (show f214.body=some (Ak f214) by kernel_rfl) soft.Pack.mu (fun rk hm=>A5 (.cons ⟨hm,call⟩ hk) _ _ _) fun rk ats dvs he hp hr=>?_,call⟩
 obtain ⟨n,_,_,rfl,rfl,he0⟩:=he.A1y
 obtain ⟨m,_,_,rfl,rfl,he1⟩:=he0.Adu
 obtain ⟨e,_,_,rfl,rfl,he2⟩:=he1.Adu
 obtain ⟨rfl,rfl⟩:=he2.Kp
 exact h rk n m e hp hr
abbrev _root_.Go.Proofs.S1.soft.Pack.Kn:Prop:=A8 prog 214 soft.Pack.spec
def soft.D9.hint:Nat→Option Ba
 | 0=>some { keep:=[0,1,2,3,10],objs:=[],boxes:=[] }
 | _=>none
def soft.D9.Bc:List (Nat × Entry):=[(165,soft.Kind.spec),(214,soft.Pack.spec)]
def soft.D9.live:Nat→Option (List Nat)
 | 7=>some [0,1,2,3,10]
 | 12=>some [0,2,3,10,11,12,13,14]
 | 14=>some [0,2,10,11,14]
 | 16=>some [0,2,10,11,14]
 | 18=>some [14,15,16]
 | _=>none
def soft.D9.E:Env:=Bi (Be soft.D9.Bc) (fun _=>false) soft.D9.hint soft.D9.live
section
variable (N:Nat) (p14_3:Bool) (p15:Int) (M:Nat) (n:Bool) (m e p11 p10_4:Int) (p14_2:Bool) (p10_3 p11_2:Int) (p14_1 r:Bool) (p10_2 p11_1 p12 p13:Int) (p14:Bool) (p10_1 p10:Int)
def soft.D9.L0:Option DV:=B8 soft.D9.E N f180 (Ak f180) [1,1,1,0,0] [] M ⟨Ff 111 [(0,.bool n),(1,.int .u64 m),(2,.int .i64 e),(3,.bool r),(10,.int .i64 p10)],[]⟩
def soft.D9.C7:Option DV:=cutAt soft.D9.E N f180 (Ak f180) [1,1,1,1] [] ⟨Ff 111 [(0,.bool n),(1,.int .u64 m),(2,.int .i64 e),(3,.bool r),(10,.int .i64 p10_1)],[]⟩
def soft.D9.C12:Option DV:=cutAt soft.D9.E N f180 (Ak f180) [1,1,1,1,1,1,1,1,0] [] ⟨Ff 111 [(0,.bool n),(2,.int .i64 e),(3,.bool r),(10,.int .i64 p10_2),(11,.int .u64 p11_1),(12,.int .u64 p12),(13,.int .u64 p13),(14,.bool p14)],[]⟩
def soft.D9.C14:Option DV:=cutAt soft.D9.E N f180 (Ak f180) [1,1,1,1,1,1,1,1,1,0] [] ⟨Ff 111 [(0,.bool n),(2,.int .i64 e),(10,.int .i64 p10_3),(11,.int .u64 p11_2),(14,.bool p14_1)],[]⟩
def soft.D9.C16:Option DV:=cutAt soft.D9.E N f180 (Ak f180) [1,1,1,1,1,1,1,1,1,1] [] ⟨Ff 111 [(0,.bool n),(2,.int .i64 e),(10,.int .i64 p10_4),(11,.int .u64 p11),(14,.bool p14_2)],[]⟩
def soft.D9.C18:Option DV:=cutAt soft.D9.E N f180 (Ak f180) [1,1,1,1,1,1,1,1,1,1,1,1,0] [] ⟨Ff 111 [(14,.bool p14_3),(15,.int .u64 p15),(16,.int .u8 0)],[]⟩
theorem soft.D9.Ar:soft.D9.L0 N (M+1) n m e r p10=bif (decide (0≤p10)) then bif ((Ex 9007199254740992 (Ef .u64 m p10))||(Bb (Ab (e+p10)) (-1074:Int))) then bif ((Ab (p10+1))==(63:Int)) then soft.D9.C7 N n m e r (Ab (p10+1)) else soft.D9.L0 N M n m e r (Ab (p10+1)) else soft.D9.C7 N n m e r p10 else none :=
 Eq.trans (by kernel_rfl)
 (E1 (Ax (W4 (Ex 9007199254740992 (Ef .u64 m p10))) (Ax (W4 (Ex 9007199254740992 (Ef .u64 m p10))) (Ax (tt8 (Ex 9007199254740992 (Ef .u64 m p10))) (Ax (T8 (Ex 9007199254740992 (Ef .u64 m p10))) (Ax (tt6 (Ex 9007199254740992 (Ef .u64 m p10))) (Cw (tt5 _ _) rfl rfl)))))) rfl)
theorem soft.D9.Aeg:soft.D9.C7 N n m e r p10_1=bif (decide (0≤p10_1)) then bif (decide (0≤p10_1)) then bif (Bb 0 p10_1) then bif (decide (0≤(Ab (p10_1-1)))) then soft.D9.C12 N n e r p10_1 (Ef .u64 m p10_1) (Fx .u64 m (Bq ((Ch .u64 1 p10_1)-1))) (Ch .u64 1 (Ab (p10_1-1))) (bif ((Fx .u64 m (Bq ((Ch .u64 1 p10_1)-1)))==(0:Int)) then (!r) else false) else none else soft.D9.C12 N n e r p10_1 (Ef .u64 m p10_1) (Fx .u64 m (Bq ((Ch .u64 1 p10_1)-1))) 0 (bif ((Fx .u64 m (Bq ((Ch .u64 1 p10_1)-1)))==(0:Int)) then (!r) else false) else none else none :=
 Eq.trans ((Di _ _ _ _ _ _ _).trans (by kernel_rfl))
 (Cw (Cy _) (Cw (Cy _) (E1 (E1 (Ax (R6 ((Fx .u64 m (Bq ((Ch .u64 1 p10_1)-1)))==(0:Int))) (Ax (No ((Fx .u64 m (Bq ((Ch .u64 1 p10_1)-1)))==(0:Int))) (Ax (W5 ((Fx .u64 m (Bq ((Ch .u64 1 p10_1)-1)))==(0:Int))) rfl))) rfl) (Ax (R6 ((Fx .u64 m (Bq ((Ch .u64 1 p10_1)-1)))==(0:Int))) (Ax (No ((Fx .u64 m (Bq ((Ch .u64 1 p10_1)-1)))==(0:Int))) (Ax (W5 ((Fx .u64 m (Bq ((Ch .u64 1 p10_1)-1)))==(0:Int))) rfl)))) rfl) rfl)
theorem soft.D9.Ve:soft.D9.C12 N n e r p10_2 p11_1 p12 p13 p14=bif ((Bb 0 p10_2)&&((Bb p13 p12)||((p12==p13)&&(r||((Fx .u64 p11_1 1)==(1:Int)))))) then soft.D9.C14 N n e p10_2 (Bq (p11_1+1)) p14 else soft.D9.C14 N n e p10_2 p11_1 p14 :=
 Eq.trans ((Di _ _ _ _ _ _ _).trans (by kernel_rfl))
 (Ax (R6 (Bb 0 p10_2)) (Ax (R6 (Bb 0 p10_2)) (Ax (Ang (Bb 0 p10_2)) (Ax (No (Bb 0 p10_2)) (Ax (A0t (Bb 0 p10_2) (Bb p13 p12)) (Ax (A0t (Bb 0 p10_2) (Bb p13 p12)) (Ax (A29 (Bb 0 p10_2) (Bb p13 p12)) (Ax (A3a (Bb 0 p10_2) (Bb p13 p12)) (Ax (A3b (Bb 0 p10_2) (Bb p13 p12) (p12==p13)) (Ax (A3c (Bb 0 p10_2) (Bb p13 p12) (p12==p13)) (Ax (A3d (Bb 0 p10_2) (Bb p13 p12) (p12==p13) r) (Ax (A0u (Bb 0 p10_2) (Bb p13 p12) (p12==p13) r) (Ax (A0u (Bb 0 p10_2) (Bb p13 p12) (p12==p13) r) (Ax (A3e (Bb 0 p10_2) (Bb p13 p12) (p12==p13) r) (Ax (A3f (Bb 0 p10_2) (Bb p13 p12) (p12==p13)) (Ax (A3g (Bb 0 p10_2) (Bb p13 p12)) (Ax (W5 (Bb 0 p10_2)) (Cw (A3h _ _ _ _ _) rfl rfl))))))))))))))))))
theorem soft.D9.Azc:soft.D9.C14 N n e p10_3 p11_2 p14_1=bif (Bb (Ab (e+p10_3)) (-1074:Int)) then soft.D9.C16 N n e 0 p10_3 p14_1 else soft.D9.C16 N n e p11_2 p10_3 p14_1:=(Di _ _ _ _ _ _ _).trans (by kernel_rfl)
theorem soft.D9.Alk:soft.D9.C16 N n e p11 p10_4 p14_2=bif (Mi p11 (max (Ab (e+p10_4)) (-1074:Int))) then soft.D9.C18 N p14_2 (Vy n p11 (max (Ab (e+p10_4)) (-1074:Int))) else none:=(Di _ _ _ _ _ _ _).trans (by kernel_rfl)
theorem soft.D9.Alj:soft.D9.C18 N p14_3 p15=bif ((!p14_3)||((Ie .u64 p15 9223372036854775808)==(9218868437227405312:Int))) then bif (Af p15) then bif ((Bz p15)==(3:Int)) then some (.tup [.int .u64 p15,.int .u8 5]) else bif ((Bz p15)==(0:Int)) then bif ((Bz p15)==(0:Int)) then some (.tup [.int .u64 p15,.int .u8 3]) else some (.tup [.int .u64 p15,.int .u8 1]) else bif ((Bz p15)==(1:Int)) then some (.tup [.int .u64 p15,.int .u8 3]) else some (.tup [.int .u64 p15,.int .u8 1]) else none else some (.tup [.int .u64 p15,.int .u8 0]) :=
 Eq.trans ((Di _ _ _ _ _ _ _).trans (by kernel_rfl))
 (Ax (W7 p14_3) (Ax (R3 p14_3) (Ax (R3 p14_3) (Ax (Zu p14_3) (Cw (Axz _ _) rfl rfl)))))
theorem soft.D9.ev:B0 soft.D9.E N f180 (Ak f180) [.bool n,.int .u64 m,.int .i64 e,.bool r]=bif ((m==(0:Int))&&(!r)) then bif (Mi 0 (-1074:Int)) then some (.tup [.int .u64 (Vy n 0 (-1074:Int)),.int .u8 0]) else none else soft.D9.L0 N N n m e r 0 :=
 Eq.trans (by kernel_rfl)
 (Ax (R6 (m==(0:Int))) (Ax (No (m==(0:Int))) (Ax (W5 (m==(0:Int))) (Cw (A0s _ _) rfl rfl))))
end
abbrev _root_.Go.Proofs.S1.soft.D9.Kn:=A8 prog 180 soft.D9.spec
theorem soft.D9.Ad (hk:A2 prog soft.D9.Bc) (h:Hyp soft.D9.E f180 soft.D9.ts soft.D9.pre soft.D9.out):soft.D9.Kn :=
 Am (A5 hk _ _ _) func180 (by kernel_rfl) (by kernel_rfl) h
end EqSoft
end Go.Proofs.S1
end
