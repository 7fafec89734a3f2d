/- A verified evaluator of the program's form and its use for this seat: MagL, RootM, NorL, BndL, RatV, DyQ, QuoW, S1Specs, S1Tt, S1EqSoft, S1PSoft. -/
import Derived.Test.YtjbokjpbiobjpaaGreatTE
set_option linter.unusedVariables false
set_option linter.unusedSimpArgs false
noncomputable section
open Int (toNat)
open List (length getD)
open Go.Proofs.Tryz
namespace Go.Cv
open Go.Den
def pw (k:Nat):Nat:=(k+1023)*2^52
theorem Py {k:Nat} (h:k≤1023):An (pw k)=2^52∧Av (pw k)=(k:Int)-52∧Aj (pw k)=2∧pw k%2^63=pw k∧pw k<Eo:=by
 have hp:Dx (pw k)=k+1023:=by unfold Dx pw; omega
 have hf:C2 (pw k)=0:=by unfold C2 pw; omega
 refine ⟨?_,?_,?_,?_,?_⟩
 ·unfold An; rw [hp,hf,A57 (by omega)]
 ·unfold Av; rw [hp,A57 (by omega)]; omega
 ·unfold Aj; rw [hp,A57 (by omega),A58 (by omega)]
 ·unfold pw; omega
 ·rw [Fc]; unfold pw; omega
def Jr (a:Nat):Nat:=Fb a (-1074)
theorem Al4 {k:Nat} (h:k≤1023):Jr (pw k)=2^(k+1074):=by
 obtain ⟨h1,h2,_⟩:=Py h
 unfold Jr Fb
 rw [h1,h2,← A6a]
 congr 1; omega
theorem Zc {k:Nat} (h:k≤1023):B1 (2^(k+1074)) (-1074)=pw k:=by
 obtain ⟨h1,h2,h3,h4,_⟩:=Py h
 have:=Ml (b:=pw k) (f:=-1074) (by omega) (by omega)
 rw [h4] at this
 rw [← this,← Al4 h]; rfl
def Bd (k:Nat) (a:Nat):Prop:=Aj a≠3∧Aj a≠4∧Jr a≤2^(k+1074)
theorem Bd.mono {j k a:Nat} (h:Bd j a) (hk:j≤k):Bd k a:=⟨h.1,h.2.1,A6s h.2.2 (A50 (by decide) (by omega))⟩
theorem Bd.O2 {k a:Nat} (hk:k≤1023) (h4:Aj a≠4) (h:a%2^63≤pw k):Bd k a:=by
 obtain ⟨p1,p2,p3,p4,p5⟩:=Py hk
 have h3:Aj a≠3:=fun e=>by have:=Qw e; omega
 refine ⟨h3,h4,?_⟩
 have ha:=Cq a
 rcases A6i (Jr (pw k)) (Jr a) with g | g
 ·have:=(Aa5 (f:=-1074) (by omega) h4 (by omega) ha.1).1 g
  omega
 ·rw [Al4 hk] at g; exact g
theorem P8 (s:Bool) (V:Nat) (E:Int):Aj (B3 s (B1 V E))≠4:=by
 have h:=Tc V E
 rw [Fc] at h
 have hp:=Xc s (r:=B1 V E) (by omega)
 have hf:=Uw s (B1 V E)
 unfold Aj
 rw [hp,hf]
 split
 ·split
  ·omega
  ·omega
 ·split
  ·omega
  ·split<;>omega
theorem Bd.B1 {k:Nat} (s:Bool) {V:Nat} {E:Int} (hk:k≤1023) (h:B1 V E≤pw k):Bd k (B3 s (B1 V E)):=by
 refine .O2 hk (P8 s V E) ?_
 have:=I1 V E
 have e:B3 s (Go.Cv.B1 V E)%2^63=Go.Cv.B1 V E:=by unfold B3; split<;>omega
 rw [e]; exact h
theorem Bd.zero (s:Bool) (k:Nat):Bd k (B3 s 0):=by
 have:Aj (B3 s 0)=0∧Jr (B3 s 0)=0:=by cases s<;>decide +kernel
 exact ⟨by omega,by omega,by rw [this.2]; exact Nat.zero_le _⟩
theorem K5 (a:Nat):(E9 a (-1074)).natAbs=Jr a:=by
 unfold E9 Jr Fb
 rw [Y9]
theorem Bd.add {k a b:Nat} (hk:k+1≤1023) (ha:Bd k a) (hb:Bd k b):Bd (k+1) (Fz a b).1:=by
 obtain ⟨a3,a4,am⟩:=ha
 obtain ⟨b3,b4,bm⟩:=hb
 have pa:=Cq a
 have pb:=Cq b
 have ek:=Zt a3 a4 b3 b4 (g:=-1074) (by omega)
 have e4:Aj (Fz a b).1≠4:=by
  rw [Ss (by omega) a3 b3]
  unfold Ky
  split
  ·have:Aj (B3 (Br a&&Br b) 0)=0:=by cases (Br a&&Br b)<;>decide
   show Aj (B3 (Br a&&Br b) 0)≠4
   omega
  ·exact P8 _ _ _
 refine .O2 hk e4 ?_
 have hs:(E9 a (-1074)+E9 b (-1074)).natAbs≤2^(k+1+1074):=by
  have h1:=K5 a
  have h2:=K5 b
  have:2^(k+1+1074)=2^(k+1074)+2^(k+1074):=by rw [show k+1+1074=k+1074+1 by omega,Nat.pow_succ]; omega
  omega
 have hr:=F5 (E:=-1074) hs
 rw [Zc hk] at hr
 have hn:(It (Fz a b).1).natAbs=(Fz a b).1%2^63:=by unfold It; rw [Y9]
 rw [← hn,ek]
 unfold Acf
 split<;>omega
theorem Bd.mul {j k a b:Nat} (hk:j+k≤1023) (ha:Bd j a) (hb:Bd k b):Bd (j+k) (H7 a b).1:=by
 obtain ⟨a3,a4,am⟩:=ha
 obtain ⟨b3,b4,bm⟩:=hb
 have pa:=Cq a
 have pb:=Cq b
 unfold H7
 rw [A57 (by omega),A57 (by omega)]
 refine .B1 _ hk ?_
 obtain ⟨u,hu⟩:∃ u:Nat,Av a=(u:Int)-1074:=⟨(Av a+1074).toNat,by omega⟩
 obtain ⟨v,hv⟩:∃ v:Nat,Av b=(v:Int)-1074:=⟨(Av b+1074).toNat,by omega⟩
 have ea:Jr a=An a*2^u:=by unfold Jr Fb; congr 2; omega
 have eb:Jr b=An b*2^v:=by unfold Jr Fb; congr 2; omega
 have s1:=(Db (An a*An b) (u+v) (Av a+Av b)).1
 obtain ⟨t,ht⟩:∃ t:Nat,t=1074:=⟨1074,rfl⟩
 rw [← s1,← Zc hk,← (Db (2^(j+k+1074)) t (-1074)).1]
 rw [← ht] at am bm ⊢
 have ee:Av a+Av b-((u+v:Nat):Int)=-1074-(t:Int):=by omega
 rw [ee]
 refine F5 ?_
 have:An a*An b*2^(u+v)=Jr a*Jr b:=by
  rw [ea,eb,A6a,Nat.mul_mul_mul_comm]
 rw [this,← A6a,show j+k+t+t=(j+t)+(k+t) by omega,A6a]
 exact A6h am bm
theorem Aa3 {k b:Nat} (hb:b<2^64) (h:Bd k b):Bd k (D5 b):=by
 obtain ⟨h3,h4,hm⟩:=h
 obtain ⟨v1,v2,v3⟩:=Acp hb (-1074)
 have hf:H0 b=true:=by rw [Kh]; simp [h3,h4]
 have k':=Iu (v3.trans hf)
 refine ⟨k'.2,k'.1,?_⟩
 rw [← K5,v1,Int.natAbs_neg,K5]; exact hm
theorem Bd.sub {k a b:Nat} (hk:k+1≤1023) (hb64:b<2^64) (ha:Bd k a) (hb:Bd k b):Bd (k+1) (Z5 a b).1:=Bd.add hk ha (Aa3 hb64 hb)
theorem Bd.fin {k a:Nat} (h:Bd k a):H0 a=true:=by rw [Kh]; simp [h.1,h.2.1]
theorem Bd.Azj {k a:Nat} (hf:H0 a=true) (h:An a≠0→((An a).log2:Int)+Av a<(k:Int)):Bd k a:=by
 refine ⟨(Iu hf).2,(Iu hf).1,?_⟩
 have pa:=Cq a
 unfold Jr Fb
 by_cases h0:An a=0
 ·rw [h0,Nat.zero_mul]; exact Nat.zero_le _
 ·have hl:=h h0
  have h1:=Nat.lt_log2_self (n:=An a)
  have h2:An a*2^(Av a - -1074).toNat≤2^((An a).log2+1)*2^(Av a - -1074).toNat:=A5x _ (by omega)
  rw [← A6a] at h2
  exact A6s h2 (A50 (by decide) (by omega))
end Go.Cv
namespace Go.Cv
open Go.Den
theorem Ak0 {P root rest two:Nat} (h1:P=root*root+rest) (h2:rest≤2*root) (h3:two<4) :
 (4*root+1≤4*rest+two→4*P+two=(2*root+1)*(2*root+1)+(4*rest+two-(4*root+1))∧4*rest+two-(4*root+1)≤2*(2*root+1)) ∧
 (4*rest+two<4*root+1→4*P+two=(2*root)*(2*root)+(4*rest+two)∧4*rest+two≤2*(2*root)):=by
 have e1:(2*root+1)*(2*root+1)=4*(root*root)+(4*root+1):=by
  rw [A6p,Nat.mul_add,Nat.mul_add]
  have:2*root*(2*root)=4*(root*root):=by rw [Nat.mul_mul_mul_comm]
  omega
 have e2:(2*root)*(2*root)=4*(root*root):=by rw [Nat.mul_mul_mul_comm]
 constructor
 ·intro h; rw [e1]; omega
 ·intro h; rw [e2]; omega
theorem Av5 {P root rest:Nat} (h1:P=root*root+rest) (h2:rest≤2*root):root=Lj P:=by
 refine Abl (by omega) ?_
 have:(root+1)*(root+1)=root*root+2*root+1:=by rw [A6p,Nat.mul_add]; omega
 omega
end Go.Cv
namespace Go.Cv
open Go.Den
theorem Amk {M a b:Nat} {E:Int} (h:2^a≤M) (g:(b:Int)-1074≤a+E):B1 (2^b) (-1074)≤B1 M E:=by
 by_cases k:-1074≤E
 ·have s:=(Db M (E+1074).toNat E).1
  rw [show E-((E+1074).toNat:Int)=-1074 by omega] at s
  rw [← s]
  refine F5 (A6s (m:=2^(a+(E+1074).toNat)) (A50 (by decide) (by omega)) ?_)
  rw [A6a]; exact A5x _ h
 ·have s:=(Db (2^b) (-1074-E).toNat (-1074)).1
  rw [show (-1074:Int)-((-1074-E).toNat:Int)=E by omega,← A6a] at s
  rw [← s]
  exact F5 (A6s (A50 (by decide) (by omega)) h)
theorem Mj {M a:Nat} {E:Int} (h:2^a≤M) (g:0≤a+E):pw 0≤B1 M E:=by
 obtain ⟨t,ht⟩:∃ t:Nat,t=1074:=⟨1074,rfl⟩
 rw [← Zc (k:=0) (by decide),A6v,← ht]
 exact Amk h (by omega)
def Nn (a:Nat):Prop:=a≤Sw
def Big (a:Nat):Prop:=pw 0≤a∧a≤Sw
theorem Je:Sw=9221120237041090560:=rfl
theorem Afb:pw 0=4607182418800017408:=by unfold pw; omega
theorem Agd:Big Sw:=⟨by rw [Afb,Je]; omega,A6f _⟩
theorem Age:Big Eo:=⟨by rw [Afb,Fc]; omega,by rw [Je,Fc]; omega⟩
theorem Qv (V:Nat) (E:Int):Nn (B1 V E):=by
 have:=Tc V E
 rw [Fc] at this
 unfold Nn; rw [Je]; omega
theorem Ar9:Nn Sw:=A6f _
theorem Asa:Nn Eo:=Age.2
theorem Qg {z:Nat} (h:pw 0≤z%2^63):2^52≤An z∧-52≤Av z:=by
 have h1:1023≤Dx z:=by unfold Dx; rw [Afb] at h; omega
 unfold An Av
 rw [A57 (by omega),A57 (by omega)]
 omega
theorem M6 {a:Nat} (h:Nn a):Br a=false:=by
 unfold Nn at h; rw [Je] at h
 exact A5q (by omega)
theorem Ay3 {z:Nat}:Nn (H7 z z).1∧(pw 0≤z%2^63→Big (H7 z z).1):=by
 have hp:(Br z !=Br z)=false:=by cases Br z<;>rfl
 unfold H7
 by_cases k4:Aj z=4
 ·rw [A58 (.inl k4)]; exact ⟨Ar9,fun _=>Agd⟩
 rw [A57 (by omega)]
 by_cases k3:Aj z=3
 ·rw [A58 (.inl k3),A57 (by omega),hp,H5]; exact ⟨Asa,fun _=>Age⟩
 rw [A57 (by omega),hp,H5]
 refine ⟨Qv _ _,fun h=>⟨?_,Qv _ _⟩⟩
 obtain ⟨h1,h2⟩:=Qg h
 refine Mj (a:=104) ?_ (by omega)
 rw [show (104:Nat)=52+52 from rfl,A6a]
 exact A6h h1 h1
theorem Akp {a:Nat} (h:Nn a) (k3:Aj a=3):a=Eo:=by
 have:=Agr (b:=a) (by unfold Nn at h; rw [Je] at h; omega) k3
 rw [M6 h] at this
 exact this.symm
theorem Aej {a:Nat} (h:Nn a) (g:Int):E9 a g=Fb a g:=by
 unfold E9 Fb; rw [M6 h]; rfl
theorem A0b {s t:Nat} (hs:Nn s) (ht:Nn t):Nn (Fz s t).1∧(Big s∨Big t→Big (Fz s t).1):=by
 have hN:Nn Sw∧(Big s∨Big t→Big Sw):=⟨Ar9,fun _=>Agd⟩
 have hI:Nn Eo∧(Big s∨Big t→Big Eo):=⟨Asa,fun _=>Age⟩
 by_cases k:Aj s=4∨Aj t=4
 ·have:(Fz s t).1=Sw:=by unfold Fz; rw [A58 k]
  rw [this]; exact hN
 by_cases s3:Aj s=3
 ·rw [Aur k s3]
  split
  ·exact hN
  ·obtain rfl:=Akp hs s3; exact hI
 by_cases t3:Aj t=3
 ·rw [Ap1 k s3 t3]
  obtain rfl:=Akp ht t3; exact hI
 have ek:=Zt s3 (by omega) t3 (by omega) (g:=min (Av s) (Av t)) (Int.le_refl _)
 generalize hg:min (Av s) (Av t)=g at ek
 rw [Aej hs,Aej ht] at ek
 have e0:¬ ((Fb s g:Int)+(Fb t g:Int)<0):=by omega
 unfold Acf at ek
 rw [A57 e0] at ek
 have n2:(Fz s t).1=B1 ((Fb s g:Int)+(Fb t g:Int)).natAbs g:=by
  have hn:Br (Fz s t).1=false∨(Fz s t).1%2^63=0:=by
   unfold It at ek
   cases hh:Br (Fz s t).1
   ·exact .inl rfl
   ·rw [hh] at ek
    have ek:-(((Fz s t).1%2^63:Nat):Int)=_:=ek
    exact .inr (by omega)
  have hlt:(Fz s t).1<2^64:=(Wu (by unfold Nn at hs; rw [Je] at hs; omega) (by unfold Nn at ht; rw [Je] at ht; omega)).1
  have hnf:Br (Fz s t).1=false:=by
   rw [Ss k s3 t3]
   unfold Ky
   have hh:(Br s&&Br t)=false:=by rw [M6 hs]; rfl
   split
   ·show Br (B3 (Br s&&Br t) 0)=false
    rw [hh]; rfl
   ·rename_i h0
    rw [hg,Aej hs,Aej ht]
    rw [A5q e0,H5]
    exact M6 (Qv _ _)
  unfold It at ek
  rw [hnf] at ek
  have ek:(((Fz s t).1%2^63:Nat):Int)=_:=ek
  unfold Br at hnf
  have:=of_decide_eq_false hnf
  omega
 rw [n2]
 refine ⟨Qv _ _,fun h=>⟨?_,Qv _ _⟩⟩
 have ms:=Ml (b:=s) (f:=g) (by omega) (by omega)
 have mt:=Ml (b:=t) (f:=g) (by omega) (by omega)
 rcases h with h | h
 ·have:=F5 (V:=Fb s g) (W:=((Fb s g:Int)+(Fb t g:Int)).natAbs) (E:=g) (by omega)
  have h1:=h.1
  unfold Nn at hs; rw [Je] at hs
  rw [ms] at this; omega
 ·have:=F5 (V:=Fb t g) (W:=((Fb s g:Int)+(Fb t g:Int)).natAbs) (E:=g) (by omega)
  have h1:=h.1
  unfold Nn at ht; rw [Je] at ht
  rw [mt] at this; omega
theorem Ajh (k:Int):∀ (l:List Int) (s:Nat),Nn s→∃ t:Nat,Ph k s l=t∧Nn t∧((Big s∨∃ x∈l,pw 0≤(Cc x k).toNat%2^63)→Big t)
 | [],s,h=>⟨s,rfl,h,fun g=>by
  rcases g with g | ⟨x,hx,_⟩
  ·exact g
  ·cases hx⟩
 | x::l,s,h=>by
   obtain ⟨q1,q2⟩:=Ay3 (z:=(Cc x k).toNat)
   obtain ⟨a1,a2⟩:=A0b h q1
   obtain ⟨t,e,t1,t2⟩:=Ajh k l _ a1
   refine ⟨t,?_,t1,fun g=>t2 ?_⟩
   ·unfold Ph
    rw [← e]
    unfold Le Em
    rw [A5n,A5n]
   ·rcases g with g | ⟨y,hy,g⟩
    ·exact .inl (a2 (.inl g))
    ·rcases List.mem_cons.1 hy with rfl | hy
     ·exact .inl (a2 (.inr (q2 g)))
     ·exact .inr ⟨y,hy,g⟩
theorem Aws {n:Nat} (h:n≠0):1≤Lj n:=Afq (by omega)
theorem Arp {b:Nat} (h:Big b):Big (Hg b).1:=by
 have hn:=M6 h.2
 by_cases k4:Aj b=4
 ·rw [Z9 k4]; exact Agd
 by_cases k0:Aj b=0∨b=Eo
 ·rw [Nu k4 k0]; exact h
 rw [Vd k4 k0 hn]
 refine ⟨?_,Qv _ _⟩
 have k3:Aj b≠3:=fun e=>k0 (.inr (Akp h.2 e))
 have hm:b%2^63=b:=by have:=h.2; rw [Je] at this; omega
 obtain ⟨p1,p2⟩:=Qg (z:=b) (by rw [hm]; exact h.1)
 have hK:=(Vm (b:=b) (by omega)).2
 generalize hr:(Av b-(Fh b:Int)) / 2-1=r at hK ⊢
 have hst:2*Lj (An b*2^Fh b)≤Ek (An b*2^Fh b):=by unfold Ek; omega
 by_cases hr0:0≤r
 ·have:=Aws (n:=An b*2^Fh b) (by have:=Nat.mul_pos (show 0<An b by omega) (B4 (Fh b)); omega)
  exact Mj (a:=0) (by omega) (by omega)
 ·have h2:2^((-1-r).toNat+(-1-r).toNat)≤An b*2^Fh b:=by
   refine A6s (m:=2^(52+Fh b)) (A50 (by decide) (by omega)) ?_
   rw [A6a]
   exact A5x _ p1
  have h3:=V8 h2
  refine Mj (a:=(-1-r).toNat+1) ?_ (by omega)
  rw [Nat.pow_succ]; omega
theorem Ia {b:Nat} (h:Aj b=0):b%2^63=0:=by
 unfold Aj Dx C2 at h
 split at h
 ·split at h<;>omega
 ·split at h
  ·omega
  ·split at h<;>omega
theorem Tr {b:Nat} (k3:Aj b≠3) (k4:Aj b≠4) (k0:Aj b≠0):Eu b=((An b).log2:Int)+Av b∧-1074≤Eu b:=by
 have:=Cq b
 have hf:H0 b=true:=by rw [Kh]; simp [k3,k4]
 unfold Eu
 rw [A58 ⟨hf,k0⟩]
 exact ⟨rfl,by omega⟩
theorem Wg (b:Nat):Eu b=Eu (b%2^63):=by
 have h1:Dx (b%2^63)=Dx b:=by unfold Dx; omega
 have h2:C2 (b%2^63)=C2 b:=by unfold C2; omega
 unfold Eu H0 Aj An Av
 rw [h1,h2]
theorem Ug {b:Nat} (k3:Aj b≠3) (k4:Aj b≠4) (k0:Aj b≠0):pw 0≤(Cg b (-Eu b)).1%2^63:=by
 obtain ⟨e,_⟩:=Tr k3 k4 k0
 rw [Iz k4 (by omega)]
 have m0:An b≠0:=fun h=>k0 ((Dc k3 k4).1 h)
 have:=Mj (M:=An b) (a:=(An b).log2) (E:=Av b+-Eu b) (Nat.log2_self_le m0) (by omega)
 have hl:=I1 (An b) (Av b+-Eu b)
 have e2:B3 (Br b) (B1 (An b) (Av b+-Eu b))%2^63=B1 (An b) (Av b+-Eu b):=by unfold B3; split<;>omega
 show pw 0≤B3 (Br b) (B1 (An b) (Av b+-Eu b))%2^63
 rw [e2]; exact this
theorem Aiu {x:Int} {l:List Int} {m:Nat} (k:Aj x.toNat=4):M8 (x::l) m=Sw:=A58 k
theorem Ab5 {x:Int} {l:List Int} {m:Nat} (k:Aj x.toNat≠4):M8 (x::l) m=M8 l (max m (Dn x.toNat)):=A57 k
theorem Am6:∀ (l:List Int) (m:Nat),M8 l m=Sw∨M8 l m=m∨∃ x∈l,Aj x.toNat≠4∧M8 l m=Dn x.toNat
 | [],_=>.inr (.inl rfl)
 | x::l,m=>by
   by_cases k4:Aj x.toNat=4
   ·exact .inl (Aiu k4)
   rw [Ab5 k4]
   rcases Am6 l (max m (Dn x.toNat)) with g | g | ⟨y,hy,g,g'⟩
   ·exact .inl g
   ·rw [g]
    rcases Nat.le_total m (Dn x.toNat) with k | k
    ·exact .inr (.inr ⟨x,A60,k4,Nat.max_eq_right k⟩)
    ·exact .inr (.inl (Nat.max_eq_left k))
   ·exact .inr (.inr ⟨y,A6q _ hy,g,g'⟩)
theorem Alb:∀ (l:List Int) (m:Nat),M8 l m=Sw∨(m≤M8 l m∧∀ x∈l,Dn x.toNat≤M8 l m)
 | [],_=>.inr ⟨A6f _,fun _ h=>by cases h⟩
 | x::l,m=>by
   by_cases k4:Aj x.toNat=4
   ·exact .inl (Aiu k4)
   rw [Ab5 k4]
   rcases Alb l (max m (Dn x.toNat)) with g | ⟨g1,g2⟩
   ·exact .inl g
   ·refine .inr ⟨by omega,fun y hy=>?_⟩
    rcases List.mem_cons.1 hy with rfl | hy
    ·omega
    ·exact g2 y hy
theorem Xo (b:Nat):Aj (Dn b)=Aj b:=by
 have h1:Dx (Dn b)=Dx b:=by unfold Dx Dn; omega
 have h2:C2 (Dn b)=C2 b:=by unfold C2 Dn; omega
 unfold Aj; rw [h1,h2]
theorem abs_zero {b:Nat} (h:Dn b=0):Aj b=0:=by
 rw [← Xo,h]; decide
theorem Aug {y:List Int} (h:∃ x∈y,A3 x≠0):M8 y 0=Sw∨∃ z∈y,Aj z.toNat≠4∧Aj z.toNat≠0∧M8 y 0=Dn z.toNat:=by
 obtain ⟨x,hx,hk⟩:=h
 rcases Alb y 0 with g | ⟨_,g⟩
 ·exact .inl g
 have g:=g x hx
 have x0:Dn x.toNat≠0:=fun e=>hk (by unfold A3; rw [abs_zero e]; rfl)
 rcases Am6 y 0 with e | e | ⟨z,hz,k,e⟩
 ·exact .inl e
 ·omega
 ·refine .inr ⟨z,hz,k,fun k0=>?_,e⟩
  have:=Ia k0
  unfold Dn at e g x0; omega
theorem Ako (b:Nat):Aj (D5 b)=Aj b:=by
 have h1:Dx (D5 b)=Dx b:=by unfold Dx D5; split<;>omega
 have h2:C2 (D5 b)=C2 b:=by unfold C2 D5; split<;>omega
 unfold Aj; rw [h1,h2]
end Go.Cv
namespace Go.Cv
open Go.Den
theorem Za {V u k:Nat} {E:Int} (hk:k≤1023) (h:V≤2^u) (g:(u:Int)+E≤k):B1 V E≤pw k:=by
 refine A6s (F5 h) ?_
 obtain ⟨t,ht⟩:∃ t:Nat,t=1074:=⟨1074,rfl⟩
 rw [← Zc hk,← ht]
 by_cases hE:-1074≤E
 ·have s:=(Db (2^u) (E+1074).toNat E).1
  rw [show E-((E+1074).toNat:Int)=-1074 by omega,← A6a] at s
  rw [← s]
  exact F5 (A50 (by decide) (by omega))
 ·have s:=(Db (2^(k+t)) (-1074-E).toNat (-1074)).1
  rw [show (-1074:Int)-((-1074-E).toNat:Int)=E by omega,← A6a] at s
  rw [← s]
  exact F5 (A50 (by decide) (by omega))
theorem Bd.Tg {k V u:Nat} {E:Int} (s:Bool) (hk:k≤1023) (h:V≤2^u) (g:(u:Int)+E≤k):Bd k (B3 s (Go.Cv.B1 V E)):=Bd.B1 s hk (Za hk h g)
theorem Bd.log {k a:Nat} (h:Bd k a) (h0:An a≠0):((An a).log2:Int)+Av a≤k:=by
 have pa:=Cq a
 have hm:=h.2.2
 obtain ⟨t,ht⟩:∃ t:Nat,t=1074:=⟨1074,rfl⟩
 have e:Jr a=An a*2^(Av a+1074).toNat:=by unfold Jr Fb; congr 2
 rw [e,← ht] at hm
 have h1:=A5x (2^(Av a+1074).toNat) (Nat.log2_self_le h0)
 rw [← A6a] at h1
 have:=(Nat.pow_le_pow_iff_right (a:=2) (by decide)).1 (A6s h1 hm)
 omega
theorem Bd.part {k a:Nat} (h:Bd k a) (h0:An a≠0):An a≤2^((k:Int)-Av a).toNat∧Av a≤k:=by
 have pa:=Cq a
 have hm:=h.2.2
 have hl:=h.log h0
 obtain ⟨t,ht⟩:∃ t:Nat,t=1074:=⟨1074,rfl⟩
 have e:Jr a=An a*2^(Av a+1074).toNat:=by unfold Jr Fb; congr 2
 refine ⟨?_,by omega⟩
 rw [e,← ht,show k+t=((k:Int)-Av a).toNat+(Av a+1074).toNat by omega,A6a] at hm
 exact Nat.le_of_mul_le_mul_right hm (B4 _)
theorem Bd.scale {k j a:Nat} {n:Int} (hj:j≤1023) (h:Bd k a) (g:(k:Int)+n≤j):Bd j (Cg a n).1:=by
 by_cases k0:Aj a=0
 ·unfold Cg
  rw [A57 h.2.1,A58 (.inr k0)]
  refine .O2 hj h.2.1 ?_
  rw [Ia k0]; exact Nat.zero_le _
 have h0:An a≠0:=fun e=>k0 ((Dc h.1 h.2.1).1 e)
 rw [Iz h.2.1 (by have:=h.1; omega)]
 obtain ⟨p1,p2⟩:=h.part h0
 exact .Tg _ hj p1 (by omega)
theorem Ain {a b:Nat} (a3:Aj a≠3) (a4:Aj a≠4) (b3:Aj b≠3) (b4:Aj b≠4) (h:Dn a≤Dn b) (h0:An a≠0):((An a).log2:Int)+Av a≤((An b).log2:Int)+Av b:=by
 have pa:=Cq a
 have pb:=Cq b
 have hm:Fb a (-1074)≤Fb b (-1074):=by
  rcases A6i (Fb b (-1074)) (Fb a (-1074)) with g | g
  ·have:=(Aa5 (f:=-1074) b4 a4 pb.1 pa.1).1 g
   unfold Dn at h; omega
  ·exact g
 unfold Fb at hm
 have hb0:An b≠0:=fun e=>by
  rw [e,Nat.zero_mul] at hm
  have:=Nat.mul_pos (show 0<An a by omega) (B4 (Av a - -1074).toNat)
  omega
 have h1:=A5x (2^(Av a - -1074).toNat) (Nat.log2_self_le h0)
 have h2:=Nat.mul_lt_mul_of_pos_right (Nat.lt_log2_self (n:=An b)) (B4 (Av b - -1074).toNat)
 rw [← A6a] at h1 h2
 have:=(Nat.pow_lt_pow_iff_right (a:=2) (by decide)).1 (A6n (A6s h1 hm) h2)
 omega
theorem Bd.down {a b:Nat} (a3:Aj a≠3) (a4:Aj a≠4) (b3:Aj b≠3) (b4:Aj b≠4) (h:Dn a≤Dn b):Bd 1 (Cg a (-Eu b)).1:=by
 by_cases k0:Aj a=0
 ·unfold Cg
  rw [A57 a4,A58 (.inr k0)]
  refine .O2 (by decide) a4 ?_
  rw [Ia k0]; exact Nat.zero_le _
 have h0:An a≠0:=fun e=>k0 ((Dc a3 a4).1 e)
 have hb0:Aj b≠0:=fun e=>by
  have:=Ia e
  have hh:Aj a=0:=abs_zero (by unfold Dn at h ⊢; omega)
  exact k0 hh
 have hl:=Ain a3 a4 b3 b4 h h0
 obtain ⟨ee,_⟩:=Tr b3 b4 hb0
 rw [Iz a4 (by omega)]
 exact .Tg _ (by decide) (Nat.le_of_lt (Nat.lt_log2_self (n:=An a))) (by omega)
structure Lo (t:Nat) (a:Nat):Prop where
 k3:Aj a≠3
 k4:Aj a≠4
 m0:An a≠0
 log:-(t:Int)≤((An a).log2:Int)+Av a
theorem Lo.k0 {t a:Nat} (h:Lo t a):Aj a≠0:=fun e=>h.m0 ((Dc h.k3 h.k4).2 e)
theorem Lo.mono {s t a:Nat} (h:Lo s a) (g:s≤t):Lo t a:=⟨h.k3,h.k4,h.m0,by have:=h.log; omega⟩
theorem Lo.Aau {a:Nat} (k3:Aj a≠3) (k4:Aj a≠4) (h:pw 0≤a%2^63):Lo 0 a:=by
 obtain ⟨h1,h2⟩:=Qg h
 have h0:An a≠0:=by omega
 refine ⟨k3,k4,h0,?_⟩
 have:=(Nat.le_log2 h0).2 h1
 omega
theorem Lo.Aj3 {t a b:Nat} (h:Lo t a) (b3:Aj b≠3) (b4:Aj b≠4) (g:Dn a≤Dn b):Lo t b:=by
 have hl:=Ain h.k3 h.k4 b3 b4 g h.m0
 refine ⟨b3,b4,fun e=>?_,by have:=h.log; omega⟩
 have k0:=Ia ((Dc b3 b4).1 e)
 exact h.k0 (abs_zero (by unfold Dn at g ⊢; omega))
theorem Aq3 {X Y K u:Nat} (hY:0<Y) (h:X*2^K≤Y*2^u):Fg X Y K≤2^(u+1):=by
 unfold Fg
 have hd:=Nat.div_add_mod (X*2^K) Y
 have hq:X*2^K / Y≤2^u:=Nat.div_le_of_le_mul h
 rw [Nat.pow_succ]
 split
 ·omega
 ·rename_i hr
  have:X*2^K / Y≠2^u:=fun e=>by
   rw [e] at hd
   omega
  omega
theorem Bd.div {j t a b:Nat} (hk:j+t≤1023) (ha:Bd j a) (hb:Lo t b):Bd (j+t) (Rl a b).1:=by
 have b0:=hb.k0
 have a3:=ha.1
 have a4:=ha.2.1
 have b3:=hb.k3
 have b4:=hb.k4
 unfold Rl
 rw [A57 (by omega),A57 (by omega),A57 a3]
 by_cases k0:Aj a=0
 ·rw [A58 (.inr k0)]; exact .zero _ _
 rw [A57 (by omega),A57 b0]
 have m0:An a≠0:=fun e=>k0 ((Dc a3 a4).1 e)
 obtain ⟨p1,p2⟩:=ha.part m0
 have hl:=hb.log
 have l52:=Ahx hb.m0
 obtain ⟨u,hu⟩:∃ u:Nat,(u:Int)=(j:Int)+t-Av a+Av b+120:=⟨((j:Int)+t-Av a+Av b+120).toNat,by omega⟩
 refine .Tg _ hk (Aq3 (u:=u) (by have:=hb.m0; omega) ?_) (by omega)
 refine A6s (A5x _ p1) (A6s ?_ (A5x _ (Nat.log2_self_le hb.m0)))
 rw [← A6a,← A6a]
 exact A50 (by decide) (by omega)
theorem Ans {n u:Nat} (h:n≤2^(u+u)):Ek n≤2^(u+1):=by
 obtain ⟨h1,_⟩:=Mo n
 rw [A6a] at h
 have hq:Lj n≤2^u:=by
  rcases A6i (2^u) (Lj n) with g | g
  ·have:=Nat.mul_lt_mul'' g g
   omega
  ·exact g
 unfold Ek
 rw [Nat.pow_succ]
 split
 ·omega
 ·rename_i hr
  have:Lj n≠2^u:=fun e=>by
   rw [e] at h1 hr
   omega
  omega
theorem Bd.root {j b:Nat} (hj:j≤1000) (hb:Bd (j+j) b) (hn:Br b=false):Bd j (Hg b).1:=by
 by_cases k0:Aj b=0
 ·rw [Nu hb.2.1 (.inl k0)]
  refine .O2 (by omega) hb.2.1 ?_
  rw [Ia k0]; exact Nat.zero_le _
 have m0:An b≠0:=fun e=>k0 ((Dc hb.1 hb.2.1).1 e)
 have hi:b≠Eo:=fun e=>hb.1 (by rw [e]; exact Aia)
 rw [Vd hb.2.1 (fun h=>h.elim k0 hi) hn]
 obtain ⟨p1,p2⟩:=hb.part m0
 obtain ⟨r1,r2⟩:=Vm m0
 generalize hr:(Av b-(Fh b:Int)) / 2-1=r at r2 ⊢
 have hrk:128≤Fh b:=by unfold Fh; omega
 obtain ⟨u,hu⟩:∃ u:Nat,(u:Int)=(j:Int)-r-1:=⟨((j:Int)-r-1).toNat,by omega⟩
 have h2:An b*2^Fh b≤2^(u+u):=by
  refine A6s (A5x _ p1) ?_
  rw [← A6a]
  exact A50 (by decide) (by omega)
 have:=Bd.Tg (k:=j) (E:=r) false (by omega) (Ans h2) (by omega)
 rw [H5] at this
 exact this
def Bm (m k:Nat) (a:Nat):Prop:=Aj a≠3∧Aj a≠4∧Jr a≤m*2^(k+1074)
theorem Bd.bm {k a:Nat} (h:Bd k a):Bm 1 k a:=⟨h.1,h.2.1,by rw [Nat.one_mul]; exact h.2.2⟩
theorem Bm.bd {m k a j:Nat} (h:Bm m k a) (hm:m≤2^j):Bd (k+j) a:=by
 refine ⟨h.1,h.2.1,A6s h.2.2 ?_⟩
 obtain ⟨t,ht⟩:∃ t:Nat,t=1074:=⟨1074,rfl⟩
 rw [← ht,show k+j+t=j+(k+t) by omega,A6a 2 j]
 exact A5x _ hm
theorem Atm {m k:Nat} (h0:m≠0) (hm:m≤1024) (hk:k≤1000):∃ z:Nat,z=B1 (m*2^(k+1074)) (-1074)∧z%2^63=z∧Aj z≠4∧Jr z=m*2^(k+1074):=by
 obtain ⟨t,ht⟩:∃ t:Nat,t=1074:=⟨1074,rfl⟩
 have s:=(Db m (k+t) k).1
 rw [show (k:Int)-((k+t:Nat):Int)=-1074 by omega] at s
 have hu:B1 m k≤pw (k+10):=Za (by omega) (u:=10) (by omega) (by omega)
 have hi:B1 m k<Eo:=A6n hu (Py (by omega)).2.2.2.2
 obtain ⟨_,d,e1,e2⟩:=Abt false h0 (Yg (V:=m) (E:=(k:Int)) (by omega) (by omega)) hi
 rw [H5] at e1 e2
 have hl:=I1 m k
 have pe:=Cq (B1 m k)
 have k4:=P8 false m k
 rw [H5] at k4
 refine ⟨B1 m k,?_,A5y hl,k4,?_⟩
 ·rw [← ht]; exact s.symm
 ·unfold Jr Fb
  rw [e1,e2,A6c,← A6a]
  congr 2
  omega
theorem Bm.O2 {m k a z:Nat} (hz:Jr z=m*2^(k+1074)) (z4:Aj z≠4) (zi:z%2^63<Eo) (a4:Aj a≠4) (h:a%2^63≤z%2^63):Bm m k a:=by
 have a3:Aj a≠3:=fun e=>by have:=Qw e; omega
 refine ⟨a3,a4,?_⟩
 rw [← hz]
 have pa:=Cq a
 have pz:=Cq z
 rcases A6i (Jr z) (Jr a) with g | g
 ·have:=(Aa5 (f:=-1074) z4 a4 pz.1 pa.1).1 g
  omega
 ·exact g
theorem Bm.add {m n k a b:Nat} (h0:m+n≠0) (hmn:m+n≤1024) (hk:k≤1000) (ha:Bm m k a) (hb:Bm n k b):Bm (m+n) k (Fz a b).1:=by
 obtain ⟨a3,a4,am⟩:=ha
 obtain ⟨b3,b4,bm⟩:=hb
 have pa:=Cq a
 have pb:=Cq b
 have ek:=Zt a3 a4 b3 b4 (g:=-1074) (by omega)
 have e4:Aj (Fz a b).1≠4:=by
  rw [Ss (by omega) a3 b3]
  unfold Ky
  split
  ·have:Aj (B3 (Br a&&Br b) 0)=0:=by cases (Br a&&Br b)<;>decide
   show Aj (B3 (Br a&&Br b) 0)≠4
   omega
  ·exact P8 _ _ _
 obtain ⟨z,ez,z63,z4,zm⟩:=Atm h0 hmn hk
 have zi:z%2^63<Eo:=by
  have hu:z≤pw (k+10):=by
   rw [ez]
   refine Za (u:=k+1074+10) (by omega) ?_ (by omega)
   rw [A6a 2 (k+1074),A59]
   exact Nat.mul_le_mul_left _ hmn
  have:=(Py (k:=k+10) (by omega)).2.2.2.2
  omega
 refine .O2 zm z4 zi e4 ?_
 have hs:(E9 a (-1074)+E9 b (-1074)).natAbs≤(m+n)*2^(k+1074):=by
  have h1:=K5 a
  have h2:=K5 b
  have:(m+n)*2^(k+1074)=m*2^(k+1074)+n*2^(k+1074):=A6p _ _ _
  omega
 have hr:=F5 (E:=-1074) hs
 rw [← ez] at hr
 have hn:(It (Fz a b).1).natAbs=(Fz a b).1%2^63:=by unfold It; rw [Y9]
 rw [← hn,ek,z63]
 unfold Acf
 split<;>omega
theorem Bm.minus {m k b:Nat} (hb:b<2^64) (h:Bm m k b):Bm m k (D5 b):=by
 obtain ⟨h3,h4,hm⟩:=h
 obtain ⟨v1,v2,v3⟩:=Acp hb (-1074)
 have hf:H0 b=true:=by rw [Kh]; simp [h3,h4]
 have k':=Iu (v3.trans hf)
 refine ⟨k'.2,k'.1,?_⟩
 rw [← K5,v1,Int.natAbs_neg,K5]; exact hm
def Bl (k:Nat) (l:List Int):Prop:=∀ x∈l,Bd k x.toNat
theorem Bl.mono {j k:Nat} {l:List Int} (h:Bl j l) (g:j≤k):Bl k l:=fun x hx=>(h x hx).mono g
theorem Axn {k:Nat} {x:Int} {l:List Int} (h1:Bd k x.toNat) (h2:Bl k l):Bl k (x::l):=fun y hy=>by
 rcases List.mem_cons.1 hy with rfl | hy
 ·exact h1
 ·exact h2 y hy
theorem Xv {α:Type} {k:Nat} {l:List α} {f:α→Int} (h:∀ j,Bd k (f j).toNat):Bl k (l.map f):=fun x hx=>by
 obtain ⟨j,_,rfl⟩:=List.mem_map.1 hx
 exact h j
theorem Q5 {k:Nat} {l:List Int} (h:Bl k l) (j:Nat):Bd k (l.getD j 0).toNat:=by
 by_cases hj:j<l.length
 ·rw [A5v,A52 hj]; exact h _ (List.getElem_mem hj)
 ·rw [A5v,A63 (by omega)]; exact Bd.zero false k
theorem Agb {k r c:Nat} {f:Nat→Nat→Int} (h:∀ i j,Bd k (f i j).toNat):Bl k (Di r c f):=fun x hx=>by
 unfold Di at hx
 obtain ⟨j,_,rfl⟩:=List.mem_map.1 hx
 exact h _ _
theorem Am0 {j k:Nat} (hjk:j+k≤1000):∀ (x y:List Int) (s t:Nat),Bl j x→Bl k y→Bm t (j+k) s→0<t→t+x.length≤1024→Bm (t+x.length) (j+k) (Tz s x y)
 | [],_,s,t,_,_,hs,_,_=>hs
 | a::x,[],s,t,_,_,hs,_,_=>⟨hs.1,hs.2.1,A6s hs.2.2 (A5x _ (by omega))⟩
 | a::x,b::y,s,t,hx,hy,hs,h0,ht=>by
   simp only [List.length_cons] at ht ⊢
   have h1:Bm (t+1) (j+k) (Fz s (H7 a.toNat b.toNat).1).1:=Bm.add (by omega) (by omega) hjk hs (Bd.mul (by omega) (hx a A60) (hy b A60)).bm
   have:=Am0 hjk x y _ (t+1) (fun z hz=>hx z (A6q _ hz)) (fun z hz=>hy z (A6q _ hz)) h1 (by omega) (by omega)
   rw [show t+(x.length+1)=t+1+x.length by omega]
   exact this
theorem Af7 {j k:Nat} {x y:List Int} (hjk:j+k≤1000) (hx:Bl j x) (hy:Bl k y) (hl:x.length≤7):Bd (j+k+3) (Lx x y).toNat:=by
 have z:Bm 1 (j+k) 0:=(Bd.zero false (j+k)).bm
 have:=Am0 hjk x y 0 1 hx hy z (by decide) (by omega)
 show Bd (j+k+3) (toNat ((Tz 0 x y:Nat):Int))
 rw [A5n]
 exact this.bd (by omega)
end Go.Cv
namespace Go.Cv
open Go.Den
def tw (e:Int):Rat:=(2:Rat)^e
theorem Zz:(2:Rat)≠0:=by decide
theorem Ep (a b:Int):tw (a+b)=tw a*tw b:=Rat.zpow_add Zz a b
theorem S3:tw 0=1:=Rat.zpow_zero 2
theorem Dp (e:Int):0<tw e:=Rat.zpow_pos (by decide)
theorem Jb (n:Nat):tw (n:Int)=((2^n:Nat):Rat):=by
 unfold tw
 rw [Rat.zpow_natCast]
 induction n with
 | zero=>rfl
 | succ n ih=>rw [Rat.pow_succ,ih,Nat.pow_succ]; exact (Rat.natCast_mul _ _).symm
theorem Ang (n:Nat):1≤tw (n:Int):=by
 rw [Jb]
 have:=B4 n
 exact Rat.natCast_le_natCast.2 (show 1≤2^n from this)
theorem Acu {a b:Int} (h:a≤b):tw a≤tw b:=by
 have e:b=a+((b-a).toNat:Int):=by omega
 rw [e,Ep]
 have h1:=Ang (b-a).toNat
 have h2:=Dp a
 have:=Rat.mul_le_mul_of_nonneg_left h1 (Rat.le_of_lt h2)
 rw [Rat.mul_one] at this
 exact this
theorem Y3 (e:Int):tw (e+1)=2*tw e:=by
 have:tw 1=2:=by
  have:=Jb 1
  exact this
 rw [Ep,this]; grind
theorem A1a (e:Int):tw e≠0:=fun h=>by have:=Dp e; grind
theorem Rs (V k:Nat) (E:Int):((V*2^k:Nat):Rat)*tw (E-k)=(V:Rat)*tw E:=by
 have e:tw E=tw (E-k)*tw (k:Int):=by rw [← Ep]; congr 1; omega
 rw [e,Rat.natCast_mul,← Jb]
 grind
def Nr (x y d:Rat):Prop:=x≤y+d∧y≤x+d
theorem Nr.mono {x y d e:Rat} (h:Nr x y d) (g:d≤e):Nr x y e:=by unfold Nr at *; grind
theorem Nr.symm {x y d:Rat} (h:Nr x y d):Nr y x d:=⟨h.2,h.1⟩
theorem Nr.trans {x y z d e:Rat} (h:Nr x y d) (g:Nr y z e):Nr x z (d+e):=by unfold Nr at *; grind
theorem Nr.neg {x y d:Rat} (h:Nr x y d):Nr (-x) (-y) d:=by unfold Nr at *; grind
theorem Arr (V k:Nat):2*(Jq V k*2^k)≤2*V+2^k∧2*V≤2*(Jq V k*2^k)+2^k:=by
 have hd:=Nat.div_add_mod V (2^k)
 have hm:=Nat.mod_lt V (B4 k)
 unfold Jq
 rw [A6p,A59 (V / 2^k)]
 split
 ·rw [Nat.one_mul]; omega
 ·rw [Nat.zero_mul]; omega
theorem An9 (V k:Nat):Nr ((Jq V k*2^k:Nat):Rat) (V:Rat) (tw ((k:Int)-1)):=by
 obtain ⟨h1,h2⟩:=Arr V k
 have e:((2^k:Nat):Rat)=2*tw ((k:Int)-1):=by
  rw [← Jb,← Y3]; congr 1; omega
 have h1:((2*(Jq V k*2^k):Nat):Rat)≤((2*V+2^k:Nat):Rat):=Rat.natCast_le_natCast.2 h1
 have h2:((2*V:Nat):Rat)≤((2*(Jq V k*2^k)+2^k:Nat):Rat):=Rat.natCast_le_natCast.2 h2
 rw [Rat.natCast_add,Rat.natCast_mul 2,Rat.natCast_mul 2,e] at h1 h2
 have t:((2:Nat):Rat)=2:=rfl
 rw [t] at h1 h2
 unfold Nr
 grind
theorem Nr.scale {x y d c:Rat} (h:Nr x y d) (hc:0≤c):Nr (x*c) (y*c) (d*c):=by
 have h1:=Rat.mul_le_mul_of_nonneg_right h.1 hc
 have h2:=Rat.mul_le_mul_of_nonneg_right h.2 hc
 unfold Nr
 grind
theorem Ao8 (M:Nat) (E:Int):Nr ((kept M E:Rat)*tw (Bz M E)) ((M:Rat)*tw E) (if Bz M E≤E then 0 else tw (Bz M E-1)):=by
 unfold kept Jp
 generalize Bz M E=L
 by_cases h:L≤E
 ·rw [A58 h]
  have e1:(L-E).toNat=0:=by omega
  have e2:tw L=tw (E-((-(L-E)).toNat:Int)):=by congr 1; omega
  rw [e1,Nx,e2,Rs]
  unfold Nr; grind
 ·rw [A57 h]
  have e1:(-(L-E)).toNat=0:=by omega
  rw [e1,A6j,A6u]
  have h1:=(An9 M (L-E).toNat).scale (c:=tw E) (Rat.le_of_lt (Dp E))
  have e2:((Jq M (L-E).toNat*2^(L-E).toNat:Nat):Rat)*tw E=(Jq M (L-E).toNat:Rat)*tw L:=by
   have:=Rs (Jq M (L-E).toNat) (L-E).toNat L
   rw [show L-((L-E).toNat:Int)=E by omega] at this
   exact this
  have e3:tw (((L-E).toNat:Int)-1)*tw E=tw (L-1):=by rw [← Ep]; congr 1; omega
  rw [e2,e3] at h1
  exact h1
def Ps (s:Bool):Rat:=if s then -1 else 1
def vR (a:Nat):Rat:=Ps (Br a)*((An a:Nat):Rat)*tw (Av a)
theorem Ae5 (s:Bool) (m:Nat):((H3 s m:Int):Rat)=Ps s*(m:Rat):=by
 unfold H3 Ps
 cases s
 ·simp; rfl
 ·show (((-(m:Int)):Int):Rat)=-1*(m:Rat)
  rw [Rat.intCast_neg]
  have e:((m:Int):Rat)=(m:Rat):=rfl
  rw [e]; grind
theorem Aly (s t:Bool):Ps (s !=t)=Ps s*Ps t:=by
 cases s<;>cases t<;>decide +kernel
theorem Aqe {a:Nat} {g:Int} (h:g≤Av a):((E9 a g:Int):Rat)*tw g=vR a:=by
 unfold E9 vR
 rw [Ae5]
 have:=Rs (An a) (Av a-g).toNat (Av a)
 rw [show Av a-((Av a-g).toNat:Int)=g by omega] at this
 rw [Rat.mul_assoc,this,Rat.mul_assoc]
theorem Arl (s:Bool) {V:Nat} {E:Int} (hi:B1 V E<Eo):vR (B3 s (B1 V E))=Ps s*((kept V E:Rat)*tw (Bz V E)):=by
 by_cases h0:V=0
 ·subst h0
  have e1:B1 0 E=0:=by unfold B1; rw [A58 rfl]
  have e2:kept 0 E=0:=by
   unfold kept Jp Jq
   rw [Nat.zero_mul,Nat.zero_div,Nat.zero_mod]
   have:=B4 (Bz 0 E-E).toNat
   rw [A57 (by omega)]
  have e3:An (B3 s 0)=0:=by cases s<;>decide
  rw [e1,e2]
  unfold vR
  rw [e3]
  have z:((0:Nat):Rat)=0:=rfl
  rw [z]
  grind
 have er:B1 V E=(Bz V E+1074).toNat*2^52+kept V E:=by
  unfold B1 at hi ⊢
  rw [A57 h0] at hi ⊢
  omega
 have hl:-1074≤Bz V E:=by unfold Bz; omega
 have hk:=Amn (V:=V) (E:=E)
 have hlt:=I1 V E
 rw [er] at hi hlt
 rw [er]
 by_cases hq:kept V E<2^53
 ·have hc:2^52≤kept V E∨Bz V E=-1074:=by
   by_cases h:Bz V E=E+V.log2-52
   ·exact .inl (Afp h0 h)
   ·refine .inr ?_
    unfold Bz at h ⊢; omega
  obtain ⟨p1,p2⟩:=Ud s hq hl hc hi
  unfold vR
  rw [p1,p2,sign_neg s hlt,Rat.mul_assoc]
 ·have hq:kept V E=2^53:=by omega
  rw [hq] at hi hlt ⊢
  have e:(Bz V E+1074).toNat*2^52+2^53=(Bz V E+1+1074).toNat*2^52+2^52:=by omega
  rw [e] at hi hlt ⊢
  obtain ⟨p1,p2⟩:=Ud s (q:=2^52) (L:=Bz V E+1) (by decide) (by omega) (.inl (A6f _)) hi
  unfold vR
  rw [p1,p2,sign_neg s hlt,Rat.mul_assoc,Y3]
  have t:((2^53:Nat):Rat)=2*((2^52:Nat):Rat):=by decide +kernel
  rw [t]
  grind
def uR:Rat:=tw (-53)
def B7:Rat:=tw (-1075)
theorem Ey:0<uR:=Dp _
theorem Ej:0<B7:=Dp _
theorem Arf {s:Bool} {x y d:Rat} (h:Nr x y d):Nr (Ps s*x) (Ps s*y) d:=by
 unfold Ps
 unfold Nr at *
 cases s<;>simp<;>grind
theorem Asv {V:Nat} (h:V≠0):tw (V.log2:Int)≤(V:Rat):=by
 rw [Jb]
 exact Rat.natCast_le_natCast.2 (Nat.log2_self_le h)
theorem Lt (V:Nat):(0:Rat)≤(V:Rat):=by
 have:((0:Nat):Rat)≤(V:Rat):=Rat.natCast_le_natCast.2 (Nat.zero_le V)
 exact this
theorem Pl (V:Nat) (E:Int):0≤(V:Rat)*tw E:=Rat.mul_nonneg (Lt V) (Rat.le_of_lt (Dp E))
theorem Awu {V:Nat} {E:Int} (h0:V≠0):(if Bz V E≤E then 0 else tw (Bz V E-1))≤uR*((V:Rat)*tw E)+B7∧(-1074≤E→(if Bz V E≤E then 0 else tw (Bz V E-1))≤uR*((V:Rat)*tw E))∧(V<2^53→(if Bz V E≤E then 0 else tw (Bz V E-1))≤B7):=by
 have hn:=Pl V E
 have hu:=Rat.mul_nonneg (Rat.le_of_lt Ey) hn
 have he:=Ej
 by_cases h:Bz V E≤E
 ·rw [A58 h]
  exact ⟨by grind,fun _=>hu,fun _=>by grind⟩
 rw [A57 h]
 by_cases h1:Bz V E=E+V.log2-52
 ·have e:tw (Bz V E-1)=uR*(tw (V.log2:Int)*tw E):=by
   unfold uR
   rw [h1,← Ep,← Ep]; congr 1; omega
  have hl:=Rat.mul_le_mul_of_nonneg_right (Asv h0) (Rat.le_of_lt (Dp E))
  have hl:=Rat.mul_le_mul_of_nonneg_left hl (Rat.le_of_lt Ey)
  rw [e]
  refine ⟨by grind,fun _=>hl,fun hv=>?_⟩
  have:=Ao0 hv
  omega
 ·have e:Bz V E=-1074:=by unfold Bz at h1 ⊢; omega
  have e2:tw (Bz V E-1)=B7:=by unfold B7; rw [e]; rfl
  rw [e2]
  exact ⟨by grind,fun _=>by omega,fun _=>Rat.le_refl⟩
theorem R3 (s:Bool) {V:Nat} {E:Int} (hi:B1 V E<Eo):Nr (vR (B3 s (B1 V E))) (Ps s*((V:Rat)*tw E)) (uR*((V:Rat)*tw E)+B7)∧(-1074≤E→Nr (vR (B3 s (B1 V E))) (Ps s*((V:Rat)*tw E)) (uR*((V:Rat)*tw E)))∧(V<2^53→Nr (vR (B3 s (B1 V E))) (Ps s*((V:Rat)*tw E)) B7):=by
 rw [Arl s hi]
 by_cases h0:V=0
 ·subst h0
  have e2:kept 0 E=0:=by
   unfold kept Jp Jq
   rw [Nat.zero_mul,Nat.zero_div,Nat.zero_mod]
   have:=B4 (Bz 0 E-E).toNat
   rw [A57 (by omega)]
  rw [e2]
  have z:((0:Nat):Rat)=0:=rfl
  have he:=Ej
  rw [z]
  unfold Nr
  refine ⟨by grind,fun _=>by grind,fun _=>by grind⟩
 have h:=Arf (s:=s) (Ao8 V E)
 obtain ⟨g1,g2,g3⟩:=Awu (E:=E) h0
 exact ⟨h.mono g1,fun k=>h.mono (g2 k),fun k=>h.mono (g3 k)⟩
def Ab (x B:Rat):Prop:=-B≤x∧x≤B
theorem Ab.nn {x B:Rat} (h:Ab x B):0≤B:=by unfold Ab at h; grind
theorem Ae6 {s:Bool} {x B:Rat} (hx:0≤x):Ab (Ps s*x) B↔x≤B:=by
 unfold Ab Ps
 cases s<;>simp<;>grind
end Go.Cv
namespace Go.Cv
open Go.Den
theorem Aw5 {v e w f:Int} (h:(v:Rat)*tw e=(w:Rat)*tw f):mD v=mD w∧eD v e=eD w f:=by
 have key:∀ {v e w f:Int},e≤f→(v:Rat)*tw e=(w:Rat)*tw f→mD v=mD w∧eD v e=eD w f:=by
  intro v e w f hef h
  have e1:tw f=((2^(f-e).toNat:Nat):Rat)*tw e:=by
   rw [← Jb,← Ep]; congr 1; omega
  have h2:((v:Rat)-(w:Rat)*((2^(f-e).toNat:Nat):Rat))*tw e=0:=by rw [e1] at h; grind
  have h3:(v:Rat)=(w:Rat)*((2^(f-e).toNat:Nat):Rat):=by
   rcases Rat.mul_eq_zero.1 h2 with k | k
   ·grind
   ·exact absurd k (A1a e)
  have h4:((v:Int):Rat)=((w*((2^(f-e).toNat:Nat):Int):Int):Rat):=by
   rw [Rat.intCast_mul]; exact h3
  have h5:v=w*((2^(f-e).toNat:Nat):Int):=Rat.intCast_inj.1 h4
  refine ⟨by rw [h5,Azr],?_⟩
  have h6:=Az2 w f (f-e).toNat
  rw [← h5,show f-((f-e).toNat:Int)=e by omega] at h6
  exact h6
 rcases Int.le_total e f with k | k
 ·exact key k h
 ·obtain ⟨h1,h2⟩:=key k h.symm
  exact ⟨h1.symm,h2.symm⟩
open Classical in
def dyP (x:Rat):Int × Int:=if h:∃ p:Int × Int,x=(p.1:Rat)*tw p.2 then Classical.choose h else (0,0)
def mQ (x:Rat):Int:=mD (dyP x).1
def eQ (x:Rat):Int:=eD (dyP x).1 (dyP x).2
theorem Adq {x:Rat} {v e:Int} (h:x=(v:Rat)*tw e):mQ x=mD v∧eQ x=eD v e:=by
 have hx:∃ p:Int × Int,x=(p.1:Rat)*tw p.2:=⟨(v,e),h⟩
 have e1:dyP x=Classical.choose hx:=by unfold dyP; rw [dif_pos hx]
 have h1:=Classical.choose_spec hx
 rw [← e1] at h1
 exact Aw5 (h1.symm.trans h)
theorem Asq (v e:Int):((mD v:Int):Rat)*tw (eD v e)=(v:Rat)*tw e:=by
 by_cases h:v=0
 ·subst h
  rw [O4.2 rfl]
  have:((0:Int):Rat)=0:=rfl
  rw [this]; grind
 ·have e1:=Zi v
  have e2:eD v e=e+Sz v.natAbs:=by unfold eD; rw [A57 h]
  have e3:(v:Rat)=((mD v:Int):Rat)*((2^Sz v.natAbs:Nat):Rat):=by
   have h2:((v:Int):Rat)=((mD v*((2^Sz v.natAbs:Nat):Int):Int):Rat):=Rat.intCast_inj.2 e1
   rw [Rat.intCast_mul] at h2
   exact h2
  rw [e2,Ep,Jb,e3,← e3]
  grind
structure Dg (g t n:Nat) (x:Rat):Prop where
 ex:∃ v:Int,x=(v:Rat)*tw (-(g:Int))∧v.natAbs≤n*2^t
theorem Dg.add {g t n m:Nat} {x y:Rat} (h:Dg g t n x) (k:Dg g t m y):Dg g t (n+m) (x+y):=by
 obtain ⟨⟨v,rfl,h⟩⟩:=h
 obtain ⟨⟨w,rfl,k⟩⟩:=k
 refine ⟨v+w,?_,?_⟩
 ·rw [Rat.intCast_add]; grind
 ·rw [A6p]; omega
theorem Dg.neg {g t n:Nat} {x:Rat} (h:Dg g t n x):Dg g t n (-x):=by
 obtain ⟨⟨v,rfl,h⟩⟩:=h
 refine ⟨-v,?_,by omega⟩
 rw [Rat.intCast_neg]; grind
theorem Dg.sub {g t n m:Nat} {x y:Rat} (h:Dg g t n x) (k:Dg g t m y):Dg g t (n+m) (x-y):=by
 have:=h.add k.neg
 rw [Rat.sub_eq_add_neg]; exact this
theorem Dg.mul {g t n h s m:Nat} {x y:Rat} (a:Dg g t n x) (b:Dg h s m y):Dg (g+h) (t+s) (n*m) (x*y):=by
 obtain ⟨⟨v,rfl,a⟩⟩:=a
 obtain ⟨⟨w,rfl,b⟩⟩:=b
 refine ⟨v*w,?_,?_⟩
 ·have e:tw (-((g+h:Nat):Int))=tw (-(g:Int))*tw (-(h:Int)):=by rw [← Ep]; congr 1; omega
  rw [Rat.intCast_mul,e]; grind
 ·rw [Int.natAbs_mul,A6a]
  have:=A6h a b
  have e:n*m*(2^t*2^s)=n*2^t*(m*2^s):=by
   rw [A6c,Nat.mul_left_comm m,← A6c]
  rw [e]; exact this
theorem Dg.up {g t n:Nat} {x:Rat} (h:Dg g t n x) (k:Nat):Dg (g+k) (t+k) n x:=by
 obtain ⟨⟨v,rfl,h⟩⟩:=h
 refine ⟨v*((2^k:Nat):Int),?_,?_⟩
 ·have e:tw (-(g:Int))=((2^k:Nat):Rat)*tw (-((g+k:Nat):Int)):=by
   rw [← Jb,← Ep]; congr 1; omega
  have e2:(((2^k:Nat):Int):Rat)=((2^k:Nat):Rat):=rfl
  rw [Rat.intCast_mul,e2,e]; grind
 ·rw [Int.natAbs_mul,Int.natAbs_natCast,A6a,← A6c]
  exact A5x _ h
theorem Dg.mono {g t n m:Nat} {x:Rat} (h:Dg g t n x) (k:n≤m):Dg g t m x:=by
 obtain ⟨⟨v,e,h⟩⟩:=h
 exact ⟨v,e,A6s h (A5x _ k)⟩
theorem Dg.wide {g t n s:Nat} {x:Rat} (h:Dg g t n x) (k:t≤s):Dg g s n x:=by
 obtain ⟨⟨v,e,h⟩⟩:=h
 exact ⟨v,e,A6s h (Nat.mul_le_mul_left _ (A50 (by decide) k))⟩
theorem Dg.scale {g t n:Nat} {x:Rat} (h:Dg g t n x) (k:Nat):Dg (g+k) t n (x*tw (-(k:Int))):=by
 obtain ⟨⟨v,rfl,h⟩⟩:=h
 refine ⟨v,?_,h⟩
 have e:tw (-((g+k:Nat):Int))=tw (-(g:Int))*tw (-(k:Int)):=by rw [← Ep]; congr 1; omega
 rw [e]; grind
theorem Dg.zero (g t n:Nat):Dg g t n 0:=⟨0,by
 have:((0:Int):Rat)=0:=rfl
 rw [this]; grind,Nat.zero_le _⟩
theorem Dg.tw (g:Nat):Dg g 0 1 (tw (-(g:Int))):=⟨1,by
 have:((1:Int):Rat)=1:=rfl
 rw [this]; grind,by decide⟩
theorem Dg.word (a:Nat) {t:Nat} (ht:2099≤t):Dg 1074 t 1 (vR a):=by
 obtain ⟨p1,p2⟩:=Cq a
 refine ⟨E9 a (-1074),(Aqe p1).symm,?_⟩
 have e:(E9 a (-1074)).natAbs=An a*2^(Av a-(-1074)).toNat:=K5 a
 have h1:An a≤2^53:=by have:=Fi a; omega
 have h3:=A6h h1 (A6f (2^(Av a-(-1074)).toNat))
 rw [← A6a] at h3
 rw [e,Nat.one_mul]
 exact A6s h3 (A50 (by decide) (by omega))
def Dq (x:Rat):Prop:=∃ g t n:Nat,g≤40000∧t≤40000∧n≤1073741824∧Dg g t n x
theorem Dg.dq {g t n:Nat} {x:Rat} (h:Dg g t n x) (hg:g≤40000) (ht:t≤40000) (hn:n≤1073741824):Dq x:=⟨g,t,n,hg,ht,hn,h⟩
theorem Dq.parts {x:Rat} (h:Dq x):x=((mQ x:Int):Rat)*tw (eQ x)∧Dk (mQ x).natAbs<10000∧-50000≤eQ x∧eQ x≤50000∧mD (mQ x)=mQ x:=by
 obtain ⟨g,t,n,hg,ht,hn,⟨v,e,hv⟩⟩:=h
 obtain ⟨h1,h2⟩:=Adq e
 have b1:v.natAbs≤2^(t+30):=by
  refine A6s hv ?_
  rw [A6a,A59]
  exact Nat.mul_le_mul_left _ hn
 have b2:v.natAbs<2^(t+31):=A6n b1 (Nat.pow_lt_pow_right (by decide) (by omega))
 refine ⟨?_,?_,?_⟩
 ·rw [h1,h2,Asq]; exact e
 ·rw [h1]
  have l1:=Xk v
  have l2:Dk (mD v).natAbs≤(t+31) / 32+1:=Ma (A6w (A6n l1 b2) (A50 (by decide) (by omega)))
  omega
 ·rw [h1,h2]
  by_cases h0:v=0
  ·rw [show eD v (-(g:Int))=0 by unfold eD; rw [A58 h0],O4.2 h0]
   exact ⟨by decide,by decide,O4.2 rfl⟩
  ·have e2:eD v (-(g:Int))=-(g:Int)+Sz v.natAbs:=by unfold eD; rw [A57 h0]
   have l:=Aqq (n:=v.natAbs) (by omega)
   have l2:=(A61 (n:=v.natAbs) (by omega)).2 b2
   refine ⟨by omega,by omega,?_⟩
   have:=Adq (x:=((mD v:Int):Rat)*tw (eD v (-(g:Int)))) rfl
   rw [Asq,← e,h1] at this
   exact this.1.symm
theorem Dq.Yc {x:Rat} (h:Dq x):Yc (Az (mQ x)) (Ah (mQ x))=true:=Aj2 (by have:=h.parts.2.1; omega)
theorem Dq.Ks {x:Rat} (h:Dq x):Ks (Az (mQ x)) (Ah (mQ x))=true:=Ie (by have:=h.parts.2.1; omega)
theorem Dq.okM {x:Rat} (h:Dq x):okM (Az (mQ x)) (Ah (mQ x))=true:=As.2 ⟨by unfold Ah; rw [G5]; have:=h.parts.2.1; omega,Ab2 _⟩
theorem Dq.Rk {x:Rat} (h:Dq x):Rk (eQ x)=true:=As.2 (by have:=h.parts.2.2; omega)
def vQ (n:Bool) (a:List Int) (e:Int):Rat:=((wv n a:Int):Rat)*tw e
def Yk (n:Bool) (a:List Int) (e:Int):Bool:=Cz (∃ x,Dq x∧n=Az (mQ x)∧a=Ah (mQ x)∧e=eQ x)
theorem Af3 {x:Rat} (h:Dq x):Yk (Az (mQ x)) (Ah (mQ x)) (eQ x)=true:=As.2 ⟨x,h,rfl,rfl,rfl⟩
theorem Oy {x:Rat} (h:Dq x):vQ (Az (mQ x)) (Ah (mQ x)) (eQ x)=x:=by
 unfold vQ
 rw [Ff]; exact h.parts.1.symm
theorem Nq {n:Bool} {a:List Int} {e:Int} (h:Yk n a e=true):∃ x,Dq x∧n=Az (mQ x)∧a=Ah (mQ x)∧e=eQ x:=As.1 h
theorem Aen {v e l:Int} (h:l≤e):((vAt v e l:Int):Rat)*tw l=(v:Rat)*tw e:=by
 unfold vAt
 have e1:tw e=((2^(e-l).toNat:Nat):Rat)*tw l:=by
  rw [← Jb,← Ep]; congr 1; omega
 have e2:(((2^(e-l).toNat:Nat):Int):Rat)=((2^(e-l).toNat:Nat):Rat):=rfl
 rw [Rat.intCast_mul,e2,e1]; grind
theorem Alv {v e l:Int} (h:v≠0→l≤e):((Io v (e-l):Int):Rat)*tw l=(v:Rat)*tw e:=by
 rw [Ae3 h]
 by_cases h0:v=0
 ·subst h0
  rw [Ji]
  have:((0:Int):Rat)=0:=rfl
  rw [this]; grind
 ·exact Aen (h h0)
theorem Auq (v e w f:Int):((Alf v e w f:Int):Rat)*tw (Dj v e w f)=(v:Rat)*tw e+(w:Rat)*tw f:=by
 obtain ⟨l1,l2⟩:=Asr (v:=v) (e:=e) (w:=w) (f:=f)
 unfold Alf
 have h1:=Alv l1
 have h2:=Alv l2
 rw [Rat.intCast_add,← h1,← h2]; grind
theorem A22 (v e w f:Int):Ow v e w f=mQ ((v:Rat)*tw e+(w:Rat)*tw f)∧Ai1 v e w f=eQ ((v:Rat)*tw e+(w:Rat)*tw f):=by
 obtain ⟨h1,h2⟩:=Adq (Auq v e w f).symm
 exact ⟨h1.symm,h2.symm⟩
theorem Azh (v e:Int):mD v=mQ ((v:Rat)*tw e)∧eD v e=eQ ((v:Rat)*tw e):=by
 obtain ⟨h1,h2⟩:=Adq (x:=(v:Rat)*tw e) rfl
 exact ⟨h1.symm,h2.symm⟩
theorem A4s (v e w f:Int):mD (v*w)=mQ ((v:Rat)*tw e*((w:Rat)*tw f))∧eD (v*w) (e+f)=eQ ((v:Rat)*tw e*((w:Rat)*tw f)):=by
 have h:(v:Rat)*tw e*((w:Rat)*tw f)=((v*w:Int):Rat)*tw (e+f):=by
  rw [Rat.intCast_mul,Ep]; grind
 obtain ⟨h1,h2⟩:=Adq h
 exact ⟨h1.symm,h2.symm⟩
def Ak5 (x y:Rat):Int:=if x<y then -1 else if y<x then 1 else 0
theorem A4w {x y:Rat} (hx:Dq x) (hy:Dq y):Yx (mQ x) (eQ x) (mQ y) (eQ y)=Ak5 x y:=by
 obtain ⟨x1,_,x3,_⟩:=hx.parts
 obtain ⟨y1,_,y3,_⟩:=hy.parts
 have h:=Axe (v:=mQ x) (e:=eQ x) (w:=mQ y) (f:=eQ y) (g:=-50000) (fun _=>x3) (fun _=>y3)
 have e1:=Aen (v:=mQ x) x3
 have e2:=Aen (v:=mQ y) y3
 rw [← x1] at e1
 rw [← y1] at e2
 have key:∀ a b:Int,a<b↔(a:Rat)*tw (-50000)<(b:Rat)*tw (-50000):=fun a b=>by
  have p:=Dp (-50000)
  constructor
  ·intro h
   exact Rat.mul_lt_mul_of_pos_right (Rat.intCast_lt_intCast.2 h) p
  ·intro h
   rcases Int.lt_or_le a b with k | k
   ·exact k
   ·have:=Rat.mul_le_mul_of_nonneg_right (Rat.intCast_le_intCast.2 k) (Rat.le_of_lt p)
    grind
 rw [h]
 unfold Yw Ak5
 have k1:=key (vAt (mQ x) (eQ x) (-50000)) (vAt (mQ y) (eQ y) (-50000))
 have k2:=key (vAt (mQ y) (eQ y) (-50000)) (vAt (mQ x) (eQ x) (-50000))
 rw [e1,e2] at k1 k2
 simp only [k1,k2]
theorem Axh (x y:Rat):Ak5 x y≤0↔x≤y:=by
 unfold Ak5
 split
 ·rename_i h
  exact ⟨fun _=>Rat.le_of_lt h,fun _=>by decide⟩
 ·split
  ·rename_i h
   exact ⟨fun k=>absurd k (by decide),fun k=>by grind⟩
  ·exact ⟨fun _=>by grind,fun _=>by decide⟩
end Go.Cv
namespace Go.Cv
open Go.Den
def Ds (x:Rat):Prop:=∃ g t n:Nat,g≤15000∧t≤15000∧n≤536870912∧Dg g t n x
def dsB (n:Bool) (a:List Int) (e:Int):Bool:=Cz (∃ x,Ds x∧n=Az (mQ x)∧a=Ah (mQ x)∧e=eQ x)
noncomputable abbrev D9 (x:Rat):Rat:=vQ (Az (mQ x)) (Ah (mQ x)) (eQ x)
noncomputable abbrev Q2 (x:Rat):Bool:=Yk (Az (mQ x)) (Ah (mQ x)) (eQ x)
noncomputable abbrev dSo (x:Rat):Bool:=dsB (Az (mQ x)) (Ah (mQ x)) (eQ x)
def D8 (x:Int):Rat:=vR x.toNat
def Gq:Nat→(Nat→Rat)→Rat
 | 0,_=>0
 | n+1,f=>Gq n f+f n
def J7 (x:List Int):Rat:=Gq x.length fun i=>D8 (x.getD i 0)*D8 (x.getD i 0)
def dtL (x y:List Int):Rat:=Gq x.length fun i=>D8 (x.getD i 0)*D8 (y.getD i 0)
def dyR (x:Rat):List DV:=[.bool (Az (mQ x)),.ints .arg .u32 (Ah (mQ x)),.int .i64 (eQ x)]
def Tx:List DV→Rat
 | [.bool n,.ints _ _ a,.int _ e]=>vQ n a e
 | _=>0
def Qd (x:List Int) (y:List (List DV)):Rat:=Gq x.length fun i=>D8 (x.getD i 0)*Tx (y.getD i [])
def Re (y:List (List DV)) (n:Nat):Bool:=Cz (n≤64∧y.length=n∧∀ r∈y,∃ x,Dg 2148 4300 100 x∧r=dyR x)
def Zk (c:Nat) (l m h:List Int) (q:Nat) (i k:Nat):Rat:=(Gq c fun j=>D8 (Co (c:Int) l (i:Int) (j:Int))*D8 (Co (q:Int) m (j:Int) (k:Int)))-D8 (Co (q:Int) h (i:Int) (k:Int))
def Oi (r c q:Nat) (l m h:List Int):Rat:=Gq q fun k=>Gq c fun j=>(Gq r fun i=>D8 (Co (c:Int) l (i:Int) (j:Int))*Zk c l m h q i k)*(Gq r fun i=>D8 (Co (c:Int) l (i:Int) (j:Int))*Zk c l m h q i k)
end Go.Cv
namespace Go.Proofs.S1
open Go Go.Den Go.Cv
def soft.Split.pre:List Atom→Bool
 | [.i x]=>Ao x
 | _=>false
def soft.Split.out:List Atom→DV
 | [.i x]=>.agg [.bool (Ea x),.int .i64 (Nj x),.int .u64 (C1 x)]
 | _=>.undef
abbrev soft.Split.ts:List AT:=[.i .u64]
def soft.Split.spec:Entry:=entry soft.Split.ts soft.Split.pre soft.Split.out
def soft.Kind.pre:List Atom→Bool
 | [.i x]=>Ao x
 | _=>false
def soft.Kind.out:List Atom→DV
 | [.i x]=>.int .i64 (A3 x)
 | _=>.undef
abbrev soft.Kind.ts:List AT:=[.i .u64]
def soft.Kind.spec:Entry:=entry soft.Kind.ts soft.Kind.pre soft.Kind.out
def soft.Sign.pre:List Atom→Bool
 | [.i x]=>Ao x
 | _=>false
def soft.Sign.out:List Atom→DV
 | [.i x]=>.bool (Ea x)
 | _=>.undef
abbrev soft.Sign.ts:List AT:=[.i .u64]
def soft.Sign.spec:Entry:=entry soft.Sign.ts soft.Sign.pre soft.Sign.out
def soft.Finite.pre:List Atom→Bool
 | [.i x]=>Ao x
 | _=>false
def soft.Finite.out:List Atom→DV
 | [.i x]=>.bool (Dm x)
 | _=>.undef
abbrev soft.Finite.ts:List AT:=[.i .u64]
def soft.Finite.spec:Entry:=entry soft.Finite.ts soft.Finite.pre soft.Finite.out
def soft.Gh.pre:List Atom→Bool
 | [.i x]=>Ao x
 | _=>false
def soft.Gh.out:List Atom→DV
 | [.i x]=>.int .u64 (D6 x)
 | _=>.undef
abbrev soft.Gh.ts:List AT:=[.i .u64]
def soft.Gh.spec:Entry:=entry soft.Gh.ts soft.Gh.pre soft.Gh.out
def soft.F1.pre:List Atom→Bool
 | [.i x]=>Ao x
 | _=>false
def soft.F1.out:List Atom→DV
 | [.i x]=>.tup [.int .u64 (Bt x),.int .i64 (Bb x)]
 | _=>.undef
abbrev soft.F1.ts:List AT:=[.i .u64]
def soft.F1.spec:Entry:=entry soft.F1.ts soft.F1.pre soft.F1.out
def soft.Pack.mu:List Atom→Nat
 | [.b _n,.i m,.i e]=>Qq m e
 | _=>0
def soft.Pack.pre:List Atom→Bool
 | [.b _n,.i m,.i e]=>L9 m e
 | _=>false
def soft.Pack.out:List Atom→DV
 | [.b n,.i m,.i e]=>.int .u64 (Vp n m e)
 | _=>.undef
abbrev soft.Pack.ts:List AT:=[.b,.i .u64,.i .i64]
def soft.Pack.spec:Entry:=entry soft.Pack.ts soft.Pack.pre soft.Pack.out
def soft.Df.pre:List Atom→Bool
 | [.b _n,.i m,.i e,.b r]=>El m e r
 | _=>false
def soft.Df.out:List Atom→DV
 | [.b n,.i m,.i e,.b r]=>.tup [.int .u64 (E6 n m e r),.int .u8 (E5 n m e r)]
 | _=>.undef
abbrev soft.Df.ts:List AT:=[.b,.i .u64,.i .i64,.b]
def soft.Df.spec:Entry:=entry soft.Df.ts soft.Df.pre soft.Df.out
def sum.right.pre:List Atom→Bool
 | [.i m,.i d]=>Ao m&&Cz (0≤d∧d<1000000)
 | _=>false
def sum.right.out:List Atom→DV
 | [.i m,.i d]=>.int .u64 (Fk m d)
 | _=>.undef
abbrev sum.right.ts:List AT:=[.i .u64,.i .i64]
def sum.right.spec:Entry:=entry sum.right.ts sum.right.pre sum.right.out
def sum.Ee.pre:List Atom→Bool
 | [.i a,.i b]=>(Ao a&&Ao b)&&(!(Dm a)||!(Dm b))
 | _=>false
def sum.Ee.out:List Atom→DV
 | [.i a,.i b]=>.tup [.int .u64 (Le a b),.int .u8 (Yr a b)]
 | _=>.undef
abbrev sum.Ee.ts:List AT:=[.i .u64,.i .u64]
def sum.Ee.spec:Entry:=entry sum.Ee.ts sum.Ee.pre sum.Ee.out
def sum.Add.pre:List Atom→Bool
 | [.i a,.i b]=>Ao a&&Ao b
 | _=>false
def sum.Add.out:List Atom→DV
 | [.i a,.i b]=>.tup [.int .u64 (Le a b),.int .u8 (Yr a b)]
 | _=>.undef
abbrev sum.Add.ts:List AT:=[.i .u64,.i .u64]
def sum.Add.spec:Entry:=entry sum.Add.ts sum.Add.pre sum.Add.out
def sum.Sub.pre:List Atom→Bool
 | [.i a,.i b]=>Ao a&&Ao b
 | _=>false
def sum.Sub.out:List Atom→DV
 | [.i a,.i b]=>.tup [.int .u64 (Eh a b),.int .u8 (A2d a b)]
 | _=>.undef
abbrev sum.Sub.ts:List AT:=[.i .u64,.i .u64]
def sum.Sub.spec:Entry:=entry sum.Sub.ts sum.Sub.pre sum.Sub.out
def A1.Neg.pre:List Atom→Bool
 | [.i x]=>Ao x
 | _=>false
def A1.Neg.out:List Atom→DV
 | [.i x]=>.bool (Ea x)
 | _=>.undef
abbrev A1.Neg.ts:List AT:=[.i .u64]
def A1.Neg.spec:Entry:=entry A1.Neg.ts A1.Neg.pre A1.Neg.out
def A1.Power.pre:List Atom→Bool
 | [.i x]=>R9 x
 | _=>false
def A1.Power.out:List Atom→DV
 | [.i x]=>.int .i64 (Nj x)
 | _=>.undef
abbrev A1.Power.ts:List AT:=[.i .u64]
def A1.Power.spec:Entry:=entry A1.Power.ts A1.Power.pre A1.Power.out
def A1.Li.pre:List Atom→Bool
 | [.i x]=>R9 x
 | _=>false
def A1.Li.out:List Atom→DV
 | [.i x]=>.int .u64 (C1 x)
 | _=>.undef
abbrev A1.Li.ts:List AT:=[.i .u64]
def A1.Li.spec:Entry:=entry A1.Li.ts A1.Li.pre A1.Li.out
def A1.Kind.pre:List Atom→Bool
 | [.i x]=>R9 x
 | _=>false
def A1.Kind.out:List Atom→DV
 | [.i x]=>.int .i64 (A3 x)
 | _=>.undef
abbrev A1.Kind.ts:List AT:=[.i .u64]
def A1.Kind.spec:Entry:=entry A1.Kind.ts A1.Kind.pre A1.Kind.out
def A1.Finite.pre:List Atom→Bool
 | [.i x]=>Ao x
 | _=>false
def A1.Finite.out:List Atom→DV
 | [.i x]=>.bool (Dm x)
 | _=>.undef
abbrev A1.Finite.ts:List AT:=[.i .u64]
def A1.Finite.spec:Entry:=entry A1.Finite.ts A1.Finite.pre A1.Finite.out
def Cu.Bv.pre:List Atom→Bool
 | [.i x]=>Ao x
 | _=>false
def Cu.Bv.out:List Atom→DV
 | [.i x]=>.int .i64 (64-E7 x)
 | _=>.undef
abbrev Cu.Bv.ts:List AT:=[.i .u64]
def Cu.Bv.spec:Entry:=entry Cu.Bv.ts Cu.Bv.pre Cu.Bv.out
def Cu.Hm.pre:List Atom→Bool
 | [.i x,.i y]=>Ao x&&Ao y
 | _=>false
def Cu.Hm.out:List Atom→DV
 | [.i x,.i y]=>.tup [.int .u64 (T5 x y),.int .u64 (O3 x y)]
 | _=>.undef
abbrev Cu.Hm.ts:List AT:=[.i .u64,.i .u64]
def Cu.Hm.spec:Entry:=entry Cu.Hm.ts Cu.Hm.pre Cu.Hm.out
def times.signed.pre:List Atom→Bool
 | [.i b,.b _n]=>Ao b
 | _=>false
def times.signed.out:List Atom→DV
 | [.i b,.b n]=>.int .u64 (T2 n b)
 | _=>.undef
abbrev times.signed.ts:List AT:=[.i .u64,.b]
def times.signed.spec:Entry:=entry times.signed.ts times.signed.pre times.signed.out
def times.nan.pre:List Atom→Bool
 | [.i a,.i b]=>Ao a&&Ao b
 | _=>false
def times.nan.out:List Atom→DV
 | [.i a,.i b]=>.bool (Asg a b)
 | _=>.undef
abbrev times.nan.ts:List AT:=[.i .u64,.i .u64]
def times.nan.spec:Entry:=entry times.nan.ts times.nan.pre times.nan.out
def times.norm.pre:List Atom→Bool
 | [.i b]=>Ao b&&Nl b
 | _=>false
def times.norm.out:List Atom→DV
 | [.i b]=>.tup [.int .u64 (C3 b),.int .i64 (Hu b)]
 | _=>.undef
abbrev times.norm.ts:List AT:=[.i .u64]
def times.norm.spec:Entry:=entry times.norm.ts times.norm.pre times.norm.out
def times.wide.pre:List Atom→Bool
 | [.b _n,.i m,.i e,.b _r]=>Qj m e
 | _=>false
def times.wide.out:List Atom→DV
 | [.b n,.i m,.i e,.b r]=>.tup [.int .u64 (E6 n m e r),.int .u8 (E5 n m e r)]
 | _=>.undef
abbrev times.wide.ts:List AT:=[.b,.i .u64,.i .i64,.b]
def times.wide.spec:Entry:=entry times.wide.ts times.wide.pre times.wide.out
def times.Mul.pre:List Atom→Bool
 | [.i a,.i b]=>Ao a&&Ao b
 | _=>false
def times.Mul.out:List Atom→DV
 | [.i a,.i b]=>.tup [.int .u64 (Em a b),.int .u8 (A2p a b)]
 | _=>.undef
abbrev times.Mul.ts:List AT:=[.i .u64,.i .u64]
def times.Mul.spec:Entry:=entry times.Mul.ts times.Mul.pre times.Mul.out
def times.Div.pre:List Atom→Bool
 | [.i a,.i b]=>Ao a&&Ao b
 | _=>false
def times.Div.out:List Atom→DV
 | [.i a,.i b]=>.tup [.int .u64 (Hc a b),.int .u8 (A2z a b)]
 | _=>.undef
abbrev times.Div.ts:List AT:=[.i .u64,.i .u64]
def times.Div.spec:Entry:=entry times.Div.ts times.Div.pre times.Div.out
def Af.Add.pre:List Atom→Bool
 | [.i a,.i b]=>Ao a&&Ao b
 | _=>false
def Af.Add.out:List Atom→DV
 | [.i a,.i b]=>.int .u64 (Le a b)
 | _=>.undef
abbrev Af.Add.ts:List AT:=[.i .u64,.i .u64]
def Af.Add.spec:Entry:=entry Af.Add.ts Af.Add.pre Af.Add.out
def Af.Sub.pre:List Atom→Bool
 | [.i a,.i b]=>Ao a&&Ao b
 | _=>false
def Af.Sub.out:List Atom→DV
 | [.i a,.i b]=>.int .u64 (Eh a b)
 | _=>.undef
abbrev Af.Sub.ts:List AT:=[.i .u64,.i .u64]
def Af.Sub.spec:Entry:=entry Af.Sub.ts Af.Sub.pre Af.Sub.out
def Af.Mul.pre:List Atom→Bool
 | [.i a,.i b]=>Ao a&&Ao b
 | _=>false
def Af.Mul.out:List Atom→DV
 | [.i a,.i b]=>.int .u64 (Em a b)
 | _=>.undef
abbrev Af.Mul.ts:List AT:=[.i .u64,.i .u64]
def Af.Mul.spec:Entry:=entry Af.Mul.ts Af.Mul.pre Af.Mul.out
def Af.fit.pre:List Atom→Bool
 | [.l _x,.l _y]=>true
 | _=>false
def Af.fit.out:List Atom→DV
 | [.l x,.l y]=>.bool (Yv x y)
 | _=>.undef
abbrev Af.fit.ts:List AT:=[.s .u64,.s .u64]
def Af.fit.spec:Entry:=entry Af.fit.ts Af.fit.pre Af.fit.out
def Af.G9.pre:List Atom→Bool
 | [.l x,.l y]=>(Yv x y&&Ak x)&&Ak y
 | _=>false
def Af.G9.out:List Atom→DV
 | [.l x,.l y]=>.tup [.int .u64 (Lx x y),.int .i64 (0:Int)]
 | _=>.undef
abbrev Af.G9.ts:List AT:=[.s .u64,.s .u64]
def Af.G9.spec:Entry:=entry Af.G9.ts Af.G9.pre Af.G9.out
def Aa.size.pre:List Atom→Bool
 | [.i _n]=>true
 | _=>false
def Aa.size.out:List Atom→DV
 | [.i n]=>.bool (Cd n)
 | _=>.undef
abbrev Aa.size.ts:List AT:=[.i .i64]
def Aa.size.spec:Entry:=entry Aa.size.ts Aa.size.pre Aa.size.out
def Aa.Check.pre:List Atom→Bool
 | [.i _r,.i _c,.l _l]=>true
 | _=>false
def Aa.Check.out:List Atom→DV
 | [.i r,.i c,.l l]=>.int .i64 (M7 r c l)
 | _=>.undef
abbrev Aa.Check.ts:List AT:=[.st [.i .i64,.i .i64,.s .u64]]
def Aa.Check.spec:Entry:=entry Aa.Check.ts Aa.Check.pre Aa.Check.out
def Aa.get.pre:List Atom→Bool
 | [.i r,.i c,.l l,.i i,.i k]=>Hi r c l i k
 | _=>false
def Aa.get.out:List Atom→DV
 | [.i _r,.i c,.l l,.i i,.i k]=>.int .u64 (Co c l i k)
 | _=>.undef
abbrev Aa.get.ts:List AT:=[.st [.i .i64,.i .i64,.s .u64],.i .i64,.i .i64]
def Aa.get.spec:Entry:=entry Aa.get.ts Aa.get.pre Aa.get.out
def Aa.two.pre:List Atom→Bool
 | [.i _r,.i _c,.l _l,.i _p,.i _q,.l _m]=>true
 | _=>false
def Aa.two.out:List Atom→DV
 | [.i r,.i c,.l l,.i p,.i q,.l m]=>.int .i64 (Aeq r c l p q m)
 | _=>.undef
abbrev Aa.two.ts:List AT:=[.st [.i .i64,.i .i64,.s .u64],.st [.i .i64,.i .i64,.s .u64]]
def Aa.two.spec:Entry:=entry Aa.two.ts Aa.two.pre Aa.two.out
def Aa.Row.pre:List Atom→Bool
 | [.i r,.i c,.l l,.i i,.i f]=>Qo r c l i&&decide (f=0)
 | _=>false
def Aa.Row.out:List Atom→DV
 | [.i _r,.i c,.l l,.i i,.i _f]=>.ints .fresh .u64 (Gt c l i)
 | _=>.undef
abbrev Aa.Row.ts:List AT:=[.st [.i .i64,.i .i64,.s .u64],.i .i64,.i .i64]
def Aa.Row.spec:Entry:=entry Aa.Row.ts Aa.Row.pre Aa.Row.out
def Aa.Dt.pre:List Atom→Bool
 | [.i r,.i c,.l l,.i k,.i f]=>Gw r c l k&&Cz (0≤f∧f≤r)
 | _=>false
def Aa.Dt.out:List Atom→DV
 | [.i r,.i c,.l l,.i k,.i f]=>.ints .fresh .u64 (By c l k f (toNat (r-f)))
 | _=>.undef
abbrev Aa.Dt.ts:List AT:=[.st [.i .i64,.i .i64,.s .u64],.i .i64,.i .i64]
def Aa.Dt.spec:Entry:=entry Aa.Dt.ts Aa.Dt.pre Aa.Dt.out
def Aa.Eb.pre:List Atom→Bool
 | [.i _i,.i _k]=>true
 | _=>false
def Aa.Eb.out:List Atom→DV
 | [.i _i,.i _k]=>.int .u64 (0:Int)
 | _=>.undef
abbrev Aa.Eb.ts:List AT:=[.i .i64,.i .i64]
def Aa.Eb.spec:Entry:=entry Aa.Eb.ts Aa.Eb.pre Aa.Eb.out
def Aa.Hn.pre:List Atom→Bool
 | [.i _i,.i _k]=>true
 | _=>false
def Aa.Hn.out:List Atom→DV
 | [.i i,.i k]=>.int .u64 (Uy i k)
 | _=>.undef
abbrev Aa.Hn.ts:List AT:=[.i .i64,.i .i64]
def Aa.Hn.spec:Entry:=entry Aa.Hn.ts Aa.Hn.pre Aa.Hn.out
def Aa.Fq.pre:List Atom→Bool
 | [.i i,.i k,.i r,.i c,.l l]=>Hi r c l k i
 | _=>false
def Aa.Fq.out:List Atom→DV
 | [.i i,.i k,.i _r,.i c,.l l]=>.int .u64 (Co c l k i)
 | _=>.undef
abbrev Aa.Fq.ts:List AT:=[.i .i64,.i .i64,.cp [.i .i64,.i .i64,.s .u64]]
def Aa.Fq.spec:Entry:=entry Aa.Fq.ts Aa.Fq.pre Aa.Fq.out
def Aa.Fs.pre:List Atom→Bool
 | [.i i,.i k,.i r,.i c,.l l,.i x,.i y]=>Hi r c l (x+i) (y+k)&&Aaa x y i k
 | _=>false
def Aa.Fs.out:List Atom→DV
 | [.i i,.i k,.i _r,.i c,.l l,.i x,.i y]=>.int .u64 (Co c l (x+i) (y+k))
 | _=>.undef
abbrev Aa.Fs.ts:List AT:=[.i .i64,.i .i64,.cp [.i .i64,.i .i64,.s .u64],.cp [.i .i64],.cp [.i .i64]]
def Aa.Fs.spec:Entry:=entry Aa.Fs.ts Aa.Fs.pre Aa.Fs.out
def Aa.A47.pre:List Atom→Bool
 | [.i i,.i k,.i r,.i c,.l l,.i p,.i q,.l m]=>((Hi r c l i k&&Hi p q m i k)&&Ak l)&&Ak m
 | _=>false
def Aa.Hl.pre:List Atom→Bool
 | [.i i,.i k,.i r,.i c,.l l,.i p,.i q,.l m]=>Xh r c l p q m i k
 | _=>false
def Aa.Hl.out:List Atom→DV
 | [.i i,.i k,.i _r,.i c,.l l,.i p,.i q,.l m]=>.int .u64 (Lx (Gt c l i) (Rm p q m k))
 | _=>.undef
abbrev Aa.Hl.ts:List AT:=[.i .i64,.i .i64,.cp [.i .i64,.i .i64,.s .u64],.cp [.i .i64,.i .i64,.s .u64]]
def Aa.Hl.spec:Entry:=entry Aa.Hl.ts Aa.Hl.pre Aa.Hl.out
def Aa.of.Hw.pre:List Atom→Bool
 | [.i a,.i b]=>(Cd a&&Cd b)
 | _=>false
def Aa.of.Hw.out:List Atom→DV
 | [.i a,.i b]=>.agg [.int .i64 a,.int .i64 b,.ints .fresh .u64 (Di (toNat a) (toNat b) (fun j1 j2=>Uy j1 j2))]
 | _=>.undef
abbrev Aa.of.Hw.ts:List AT:=[.i .i64,.i .i64,.fn 246 []]
def Aa.of.Hw.spec:Entry:=entry Aa.of.Hw.ts Aa.of.Hw.pre Aa.of.Hw.out
def Aa.of.Dz.pre:List Atom→Bool
 | [.i a,.i b,.i r,.i c,.l l]=>(Cd a&&Cd b)&&Be r c l&&decide (a=c∧b=r)
 | _=>false
def Aa.of.Dz.out:List Atom→DV
 | [.i a,.i b,.i _r,.i c,.l l]=>.agg [.int .i64 a,.int .i64 b,.ints .fresh .u64 (Di (toNat a) (toNat b) (fun j1 j2=>Co c l j2 j1))]
 | _=>.undef
abbrev Aa.of.Dz.ts:List AT:=[.i .i64,.i .i64,.fn 220 [.cp [.i .i64,.i .i64,.s .u64]]]
def Aa.of.Dz.spec:Entry:=entry Aa.of.Dz.ts Aa.of.Dz.pre Aa.of.Dz.out
def Aa.of.Part.pre:List Atom→Bool
 | [.i a,.i b,.i r,.i c,.l l,.i x,.i y]=>(Cd a&&Cd b)&&Be r c l&&Pz r c x y a b
 | _=>false
def Aa.of.Part.out:List Atom→DV
 | [.i a,.i b,.i _r,.i c,.l l,.i x,.i y]=>.agg [.int .i64 a,.int .i64 b,.ints .fresh .u64 (Di (toNat a) (toNat b) (fun j1 j2=>Co c l (x+j1) (y+j2)))]
 | _=>.undef
abbrev Aa.of.Part.ts:List AT:=[.i .i64,.i .i64,.fn 192 [.cp [.i .i64,.i .i64,.s .u64],.cp [.i .i64],.cp [.i .i64]]]
def Aa.of.Part.spec:Entry:=entry Aa.of.Part.ts Aa.of.Part.pre Aa.of.Part.out
def Aa.of.Mul.pre:List Atom→Bool
 | [.i a,.i b,.i r,.i c,.l l,.i p,.i q,.l m]=>(Cd a&&Cd b)&&((Be r c l&&Be p q m)&&(Ak l&&Ak m))&&decide (a=r∧b=q∧c=p)
 | _=>false
def Aa.of.Mul.out:List Atom→DV
 | [.i a,.i b,.i _r,.i c,.l l,.i p,.i q,.l m]=>.agg [.int .i64 a,.int .i64 b,.ints .fresh .u64 (Di (toNat a) (toNat b) (fun j1 j2=>Lx (Gt c l j1) (Rm p q m j2)))]
 | _=>.undef
abbrev Aa.of.Mul.ts:List AT:=[.i .i64,.i .i64,.fn 188 [.cp [.i .i64,.i .i64,.s .u64],.cp [.i .i64,.i .i64,.s .u64]]]
def Aa.of.Mul.spec:Entry:=entry Aa.of.Mul.ts Aa.of.Mul.pre Aa.of.Mul.out
def Aa.Hw.pre:List Atom→Bool
 | [.i _n]=>true
 | _=>false
def Aa.Hw.out:List Atom→DV
 | [.i n]=>.tup [.agg [.int .i64 ((Q0 n).1),.int .i64 ((Q0 n).2.1),.ints .fresh .u64 ((Q0 n).2.2.1)],.int .i64 ((Q0 n).2.2.2)]
 | _=>.undef
abbrev Aa.Hw.ts:List AT:=[.i .i64]
def Aa.Hw.spec:Entry:=entry Aa.Hw.ts Aa.Hw.pre Aa.Hw.out
def Aa.Dz.pre:List Atom→Bool
 | [.i _r,.i _c,.l _l]=>true
 | _=>false
def Aa.Dz.out:List Atom→DV
 | [.i r,.i c,.l l]=>.tup [.agg [.int .i64 ((Gc r c l).1),.int .i64 ((Gc r c l).2.1),.ints .fresh .u64 ((Gc r c l).2.2.1)],.int .i64 ((Gc r c l).2.2.2)]
 | _=>.undef
abbrev Aa.Dz.ts:List AT:=[.st [.i .i64,.i .i64,.s .u64]]
def Aa.Dz.spec:Entry:=entry Aa.Dz.ts Aa.Dz.pre Aa.Dz.out
def Aa.Part.pre:List Atom→Bool
 | [.i _r,.i _c,.l _l,.i _x,.i _y,.i _a,.i _b]=>true
 | _=>false
def Aa.Part.out:List Atom→DV
 | [.i r,.i c,.l l,.i x,.i y,.i a,.i b]=>.tup [.agg [.int .i64 ((Ir r c l x y a b).1),.int .i64 ((Ir r c l x y a b).2.1),.ints .fresh .u64 ((Ir r c l x y a b).2.2.1)],.int .i64 ((Ir r c l x y a b).2.2.2)]
 | _=>.undef
abbrev Aa.Part.ts:List AT:=[.st [.i .i64,.i .i64,.s .u64],.i .i64,.i .i64,.i .i64,.i .i64]
def Aa.Part.spec:Entry:=entry Aa.Part.ts Aa.Part.pre Aa.Part.out
def Aa.Mul.pre:List Atom→Bool
 | [.i _r,.i _c,.l l,.i _p,.i _q,.l m]=>Ak l&&Ak m
 | _=>false
def Aa.Mul.out:List Atom→DV
 | [.i r,.i c,.l l,.i p,.i q,.l m]=>.tup [.agg [.int .i64 ((Uq r c l p q m).1),.int .i64 ((Uq r c l p q m).2.1),.ints .fresh .u64 ((Uq r c l p q m).2.2.1)],.int .i64 ((Uq r c l p q m).2.2.2)]
 | _=>.undef
abbrev Aa.Mul.ts:List AT:=[.st [.i .i64,.i .i64,.s .u64],.st [.i .i64,.i .i64,.s .u64]]
def Aa.Mul.spec:Entry:=entry Aa.Mul.ts Aa.Mul.pre Aa.Mul.out
def Bo.G7.pre:List Atom→Bool
 | [.i _r,.i _c,.l _l]=>true
 | _=>false
def Bo.G7.out:List Atom→DV
 | [.i r,.i c,.l l]=>.bool (Be r c l)
 | _=>.undef
abbrev Bo.G7.ts:List AT:=[.st [.i .i64,.i .i64,.s .u64]]
def Bo.G7.spec:Entry:=entry Bo.G7.ts Bo.G7.pre Bo.G7.out
def Bo.At.pre:List Atom→Bool
 | [.i r,.i c,.l l,.i i,.i k]=>Hi r c l i k
 | _=>false
def Bo.At.out:List Atom→DV
 | [.i _r,.i c,.l l,.i i,.i k]=>.int .u64 (Co c l i k)
 | _=>.undef
abbrev Bo.At.ts:List AT:=[.st [.i .i64,.i .i64,.s .u64],.i .i64,.i .i64]
def Bo.At.spec:Entry:=entry Bo.At.ts Bo.At.pre Bo.At.out
def Bo.Row.pre:List Atom→Bool
 | [.i r,.i c,.l l,.i i]=>Qo r c l i
 | _=>false
def Bo.Row.out:List Atom→DV
 | [.i _r,.i c,.l l,.i i]=>.ints .arg .u64 (Gt c l i)
 | _=>.undef
abbrev Bo.Row.ts:List AT:=[.st [.i .i64,.i .i64,.s .u64],.i .i64]
def Bo.Row.spec:Entry:=entry Bo.Row.ts Bo.Row.pre Bo.Row.out
def Bo.Rn.pre:List Atom→Bool
 | [.i r,.i c,.l l,.i k,.i f]=>Gw r c l k&&Cz (0≤f∧f≤r)
 | _=>false
def Bo.Rn.out:List Atom→DV
 | [.i r,.i c,.l l,.i k,.i f]=>.ints .fresh .u64 (By c l k f (toNat (r-f)))
 | _=>.undef
abbrev Bo.Rn.ts:List AT:=[.st [.i .i64,.i .i64,.s .u64],.i .i64,.i .i64]
def Bo.Rn.spec:Entry:=entry Bo.Rn.ts Bo.Rn.pre Bo.Rn.out
def Ad.I4.pre:List Atom→Bool
 | [.l l,.i _i]=>Ig l
 | _=>false
def Ad.I4.out:List Atom→DV
 | [.l l,.i i]=>.int .u64 (Hh l i)
 | _=>.undef
abbrev Ad.I4.ts:List AT:=[.s .u32,.i .i64]
def Ad.I4.spec:Entry:=entry Ad.I4.ts Ad.I4.pre Ad.I4.out
def Ad.Made.pre:List Atom→Bool
 | [.b _n,.l l]=>Ig l
 | _=>false
def Ad.Made.out:List Atom→DV
 | [.b n,.l l]=>.agg [.bool (Az (wv n l)),.ints .arg .u32 (Ah (wv n l))]
 | _=>.undef
abbrev Ad.Made.ts:List AT:=[.b,.s .u32]
def Ad.Made.spec:Entry:=entry Ad.Made.ts Ad.Made.pre Ad.Made.out
def Ad.Of.pre:List Atom→Bool
 | [.i n]=>Adw n
 | _=>false
def Ad.Of.out:List Atom→DV
 | [.i n]=>.agg [.bool (Az (n)),.ints .arg .u32 (Ah (n))]
 | _=>.undef
abbrev Ad.Of.ts:List AT:=[.i .i64]
def Ad.Of.spec:Entry:=entry Ad.Of.ts Ad.Of.pre Ad.Of.out
def Ad.H9.pre:List Atom→Bool
 | [.l a,.l b]=>Ig a&&Ig b
 | _=>false
def Ad.H9.out:List Atom→DV
 | [.l a,.l b]=>.int .i64 (Xs (B9 a) (B9 b))
 | _=>.undef
abbrev Ad.H9.ts:List AT:=[.s .u32,.s .u32]
def Ad.H9.spec:Entry:=entry Ad.H9.ts Ad.H9.pre Ad.H9.out
def Ad.plus.pre:List Atom→Bool
 | [.l a,.l b]=>Ig a&&Ig b
 | _=>false
def Ad.plus.out:List Atom→DV
 | [.l a,.l b]=>.ints .arg .u32 (Kb a b)
 | _=>.undef
abbrev Ad.plus.ts:List AT:=[.s .u32,.s .u32]
def Ad.plus.spec:Entry:=entry Ad.plus.ts Ad.plus.pre Ad.plus.out
def Ad.minus.pre:List Atom→Bool
 | [.l a,.l b]=>(Ig a&&Ig b)&&leL b a
 | _=>false
def Ad.minus.out:List Atom→DV
 | [.l a,.l b]=>.ints .arg .u32 (Is a b)
 | _=>.undef
abbrev Ad.minus.ts:List AT:=[.s .u32,.s .u32]
def Ad.minus.spec:Entry:=entry Ad.minus.ts Ad.minus.pre Ad.minus.out
def Ad.Add.pre:List Atom→Bool
 | [.b n,.l a,.b m,.l b]=>Ks n a&&Ks m b
 | _=>false
def Ad.Add.out:List Atom→DV
 | [.b n,.l a,.b m,.l b]=>.agg [.bool (Az (wv n a+wv m b)),.ints .arg .u32 (Ah (wv n a+wv m b))]
 | _=>.undef
abbrev Ad.Add.ts:List AT:=[.st [.b,.s .u32],.st [.b,.s .u32]]
def Ad.Add.spec:Entry:=entry Ad.Add.ts Ad.Add.pre Ad.Add.out
def Ad.Neg.pre:List Atom→Bool
 | [.b n,.l a]=>Ks n a
 | _=>false
def Ad.Neg.out:List Atom→DV
 | [.b n,.l a]=>.agg [.bool (Az (- wv n a)),.ints .arg .u32 (Ah (- wv n a))]
 | _=>.undef
abbrev Ad.Neg.ts:List AT:=[.st [.b,.s .u32]]
def Ad.Neg.spec:Entry:=entry Ad.Neg.ts Ad.Neg.pre Ad.Neg.out
def Ad.Fv.pre:List Atom→Bool
 | [.b n,.l a]=>Ks n a
 | _=>false
def Ad.Fv.out:List Atom→DV
 | [.b n,.l a]=>.agg [.bool (Az (2*wv n a)),.ints .arg .u32 (Ah (2*wv n a))]
 | _=>.undef
abbrev Ad.Fv.ts:List AT:=[.st [.b,.s .u32]]
def Ad.Fv.spec:Entry:=entry Ad.Fv.ts Ad.Fv.pre Ad.Fv.out
def Ad.Hr.pre:List Atom→Bool
 | [.b n,.l a]=>Ks n a
 | _=>false
def Ad.Hr.out:List Atom→DV
 | [.b n,.l a]=>.agg [.bool (Az (Lk (wv n a) 1)),.ints .arg .u32 (Ah (Lk (wv n a) 1))]
 | _=>.undef
abbrev Ad.Hr.ts:List AT:=[.st [.b,.s .u32]]
def Ad.Hr.spec:Entry:=entry Ad.Hr.ts Ad.Hr.pre Ad.Hr.out
def Ad.B6.pre:List Atom→Bool
 | [.b n,.l a,.i k]=>Yc n a&&Azi k
 | _=>false
def Ad.B6.out:List Atom→DV
 | [.b n,.l a,.i k]=>.agg [.bool (Az (Io (wv n a) k)),.ints .arg .u32 (Ah (Io (wv n a) k))]
 | _=>.undef
abbrev Ad.B6.ts:List AT:=[.st [.b,.s .u32],.i .i64]
def Ad.B6.spec:Entry:=entry Ad.B6.ts Ad.B6.pre Ad.B6.out
def Ad.Ri.pre:List Atom→Bool
 | [.b n,.l a]=>Ks n a
 | _=>false
def Ad.Ri.out:List Atom→DV
 | [.b n,.l a]=>.int .i64 (Abe (wv n a))
 | _=>.undef
abbrev Ad.Ri.ts:List AT:=[.st [.b,.s .u32]]
def Ad.Ri.spec:Entry:=entry Ad.Ri.ts Ad.Ri.pre Ad.Ri.out
def Ad.Xz.pre:List Atom→Bool
 | [.b n,.l a]=>Ks n a
 | _=>false
def Ad.Xz.out:List Atom→DV
 | [.b n,.l a]=>.bool (Aog (wv n a))
 | _=>.undef
abbrev Ad.Xz.ts:List AT:=[.st [.b,.s .u32]]
def Ad.Xz.spec:Entry:=entry Ad.Xz.ts Ad.Xz.pre Ad.Xz.out
def Ai.Of.pre:List Atom→Bool
 | [.b n,.l a,.i e]=>Ks n a&&Un e
 | _=>false
def Ai.Of.out:List Atom→DV
 | [.b n,.l a,.i e]=>.agg [.bool (Az (mD (wv n a))),.ints .arg .u32 (Ah (mD (wv n a))),.int .i64 (eD (wv n a) e)]
 | _=>.undef
abbrev Ai.Of.ts:List AT:=[.st [.b,.s .u32],.i .i64]
def Ai.Of.spec:Entry:=entry Ai.Of.ts Ai.Of.pre Ai.Of.out
def Ai.Neg.pre:List Atom→Bool
 | [.b n,.l a,.i _e]=>Ks n a
 | _=>false
def Ai.Neg.out:List Atom→DV
 | [.b n,.l a,.i e]=>.agg [.bool (Az (- wv n a)),.ints .arg .u32 (Ah (- wv n a)),.int .i64 e]
 | _=>.undef
abbrev Ai.Neg.ts:List AT:=[.st [.b,.s .u32,.i .i64]]
def Ai.Neg.spec:Entry:=entry Ai.Neg.ts Ai.Neg.pre Ai.Neg.out
def Ai.X1.pre:List Atom→Bool
 | [.b n,.l a,.i _e,.b m,.l b,.i _f]=>Ks n a&&Ks m b
 | _=>false
def Ai.X1.out:List Atom→DV
 | [.b n,.l a,.i e,.b m,.l b,.i f]=>.int .i64 (Dj (wv n a) e (wv m b) f)
 | _=>.undef
abbrev Ai.X1.ts:List AT:=[.st [.b,.s .u32,.i .i64],.st [.b,.s .u32,.i .i64]]
def Ai.X1.spec:Entry:=entry Ai.X1.ts Ai.X1.pre Ai.X1.out
def Ai.Level.pre:List Atom→Bool
 | [.b n,.l a,.i e,.i f]=>Yc n a&&Aof (wv n a) e f
 | _=>false
def Ai.Level.out:List Atom→DV
 | [.b n,.l a,.i e,.i f]=>.agg [.bool (Az (Io (wv n a) (e-f))),.ints .arg .u32 (Ah (Io (wv n a) (e-f)))]
 | _=>.undef
abbrev Ai.Level.ts:List AT:=[.st [.b,.s .u32,.i .i64],.i .i64]
def Ai.Level.spec:Entry:=entry Ai.Level.ts Ai.Level.pre Ai.Level.out
def Ai.Add.pre:List Atom→Bool
 | [.b n,.l a,.i e,.b m,.l b,.i f]=>((Yc n a&&Yc m b)&&Rk e)&&Rk f
 | _=>false
def Ai.Add.out:List Atom→DV
 | [.b n,.l a,.i e,.b m,.l b,.i f]=>.agg [.bool (Az (Ow (wv n a) e (wv m b) f)),.ints .arg .u32 (Ah (Ow (wv n a) e (wv m b) f)),.int .i64 (Ai1 (wv n a) e (wv m b) f)]
 | _=>.undef
abbrev Ai.Add.ts:List AT:=[.st [.b,.s .u32,.i .i64],.st [.b,.s .u32,.i .i64]]
def Ai.Add.spec:Entry:=entry Ai.Add.ts Ai.Add.pre Ai.Add.out
def Ai.Sub.pre:List Atom→Bool
 | [.b n,.l a,.i e,.b m,.l b,.i f]=>((Yc n a&&Yc m b)&&Rk e)&&Rk f
 | _=>false
def Ai.Sub.out:List Atom→DV
 | [.b n,.l a,.i e,.b m,.l b,.i f]=>.agg [.bool (Az (Ow (wv n a) e (- wv m b) f)),.ints .arg .u32 (Ah (Ow (wv n a) e (- wv m b) f)),.int .i64 (Ai1 (wv n a) e (- wv m b) f)]
 | _=>.undef
abbrev Ai.Sub.ts:List AT:=[.st [.b,.s .u32,.i .i64],.st [.b,.s .u32,.i .i64]]
def Ai.Sub.spec:Entry:=entry Ai.Sub.ts Ai.Sub.pre Ai.Sub.out
def Ai.Cn.pre:List Atom→Bool
 | [.b n,.l a,.i e,.i k]=>(Ks n a&&Rk e)&&Rk k
 | _=>false
def Ai.Cn.out:List Atom→DV
 | [.b n,.l a,.i e,.i k]=>.agg [.bool (Az (mD (wv n a))),.ints .arg .u32 (Ah (mD (wv n a))),.int .i64 (eD (wv n a) (e+k))]
 | _=>.undef
abbrev Ai.Cn.ts:List AT:=[.st [.b,.s .u32,.i .i64],.i .i64]
def Ai.Cn.spec:Entry:=entry Ai.Cn.ts Ai.Cn.pre Ai.Cn.out
def Ai.Ww.pre:List Atom→Bool
 | [.b n,.l a,.i e]=>Ks n a&&Rk e
 | _=>false
def Ai.Ww.out:List Atom→DV
 | [.b n,.l a,.i e]=>.int .i64 (Ip (wv n a) e)
 | _=>.undef
abbrev Ai.Ww.ts:List AT:=[.st [.b,.s .u32,.i .i64]]
def Ai.Ww.spec:Entry:=entry Ai.Ww.ts Ai.Ww.pre Ai.Ww.out
def Ai.Sign.pre:List Atom→Bool
 | [.b n,.l a,.i _e]=>Ks n a
 | _=>false
def Ai.Sign.out:List Atom→DV
 | [.b n,.l a,.i _e]=>.int .i64 (Ou (wv n a))
 | _=>.undef
abbrev Ai.Sign.ts:List AT:=[.st [.b,.s .u32,.i .i64]]
def Ai.Sign.spec:Entry:=entry Ai.Sign.ts Ai.Sign.pre Ai.Sign.out
def Ai.Compare.pre:List Atom→Bool
 | [.b n,.l a,.i e,.b m,.l b,.i f]=>((Yc n a&&Yc m b)&&Rk e)&&Rk f
 | _=>false
def Ai.Compare.out:List Atom→DV
 | [.b n,.l a,.i e,.b m,.l b,.i f]=>.int .i64 (Yx (wv n a) e (wv m b) f)
 | _=>.undef
abbrev Ai.Compare.ts:List AT:=[.st [.b,.s .u32,.i .i64],.st [.b,.s .u32,.i .i64]]
def Ai.Compare.spec:Entry:=entry Ai.Compare.ts Ai.Compare.pre Ai.Compare.out
def A1.Value.pre:List Atom→Bool
 | [.i x]=>Ao x
 | _=>false
def A1.Value.out:List Atom→DV
 | [.i x]=>.agg [.bool (Az (mD (Ho x))),.ints .arg .u32 (Ah (mD (Ho x))),.int .i64 (eD (Ho x) (Bb x))]
 | _=>.undef
abbrev A1.Value.ts:List AT:=[.i .u64]
def A1.Value.spec:Entry:=entry A1.Value.ts A1.Value.pre A1.Value.out
def Ad.single.pre:List Atom→Bool
 | [.l a,.i x]=>Ig a&&As9 x
 | _=>false
def Ad.single.out:List Atom→DV
 | [.l a,.i x]=>.ints .arg .u32 (singleL a x)
 | _=>.undef
abbrev Ad.single.ts:List AT:=[.s .u32,.i .u32]
def Ad.single.spec:Entry:=entry Ad.single.ts Ad.single.pre Ad.single.out
def Ad.Mul.pre:List Atom→Bool
 | [.b n,.l a,.b m,.l b]=>okM n a&&okM m b
 | _=>false
def Ad.Mul.out:List Atom→DV
 | [.b n,.l a,.b m,.l b]=>.agg [.bool (Az (wv n a*wv m b)),.ints .arg .u32 (Ah (wv n a*wv m b))]
 | _=>.undef
abbrev Ad.Mul.ts:List AT:=[.st [.b,.s .u32],.st [.b,.s .u32]]
def Ad.Mul.spec:Entry:=entry Ad.Mul.ts Ad.Mul.pre Ad.Mul.out
def Ai.Mul.pre:List Atom→Bool
 | [.b n,.l a,.i e,.b m,.l b,.i f]=>(okM n a&&okM m b)&&(Rk e&&Rk f)
 | _=>false
def Ai.Mul.out:List Atom→DV
 | [.b n,.l a,.i e,.b m,.l b,.i f]=>.agg [.bool (Az (mD (wv n a*wv m b))),.ints .arg .u32 (Ah (mD (wv n a*wv m b))),.int .i64 (eD (wv n a*wv m b) (e+f))]
 | _=>.undef
abbrev Ai.Mul.ts:List AT:=[.st [.b,.s .u32,.i .i64],.st [.b,.s .u32,.i .i64]]
def Ai.Mul.spec:Entry:=entry Ai.Mul.ts Ai.Mul.pre Ai.Mul.out
def compare.Lr.pre:List Atom→Bool
 | [.i b]=>Ao b
 | _=>false
def compare.Lr.out:List Atom→DV
 | [.i b]=>.int .i64 (Adc b)
 | _=>.undef
abbrev compare.Lr.ts:List AT:=[.i .u64]
def compare.Lr.spec:Entry:=entry compare.Lr.ts compare.Lr.pre compare.Lr.out
def compare.Order.pre:List Atom→Bool
 | [.i a,.i b]=>Ao a&&Ao b
 | _=>false
def compare.Order.out:List Atom→DV
 | [.i a,.i b]=>.tup [.int .i64 (Xf a b),.bool (A2j a b)]
 | _=>.undef
abbrev compare.Order.ts:List AT:=[.i .u64,.i .u64]
def compare.Order.spec:Entry:=entry compare.Order.ts compare.Order.pre compare.Order.out
def compare.L7.pre:List Atom→Bool
 | [.i a,.i b]=>Ao a&&Ao b
 | _=>false
def compare.L7.out:List Atom→DV
 | [.i a,.i b]=>.bool (decide (Xf a b<0))
 | _=>.undef
abbrev compare.L7.ts:List AT:=[.i .u64,.i .u64]
def compare.L7.spec:Entry:=entry compare.L7.ts compare.L7.pre compare.L7.out
def compare.Wy.pre:List Atom→Bool
 | [.i a]=>Ao a
 | _=>false
def compare.Wy.out:List Atom→DV
 | [.i a]=>.int .u64 (Sc a)
 | _=>.undef
abbrev compare.Wy.ts:List AT:=[.i .u64]
def compare.Wy.spec:Entry:=entry compare.Wy.ts compare.Wy.pre compare.Wy.out
def compare.Cn.pre:List Atom→Bool
 | [.i a,.i n]=>Gf a n
 | _=>false
def compare.Cn.out:List Atom→DV
 | [.i a,.i n]=>.tup [.int .u64 (Cc a n),.int .u8 (Avz a n)]
 | _=>.undef
abbrev compare.Cn.ts:List AT:=[.i .u64,.i .i64]
def compare.Cn.spec:Entry:=entry compare.Cn.ts compare.Cn.pre compare.Cn.out
def Af.B6.pre:List Atom→Bool
 | [.i a,.i n]=>Gf a n
 | _=>false
def Af.B6.out:List Atom→DV
 | [.i a,.i n]=>.int .u64 (Cc a n)
 | _=>.undef
abbrev Af.B6.ts:List AT:=[.i .u64,.i .i64]
def Af.B6.spec:Entry:=entry Af.B6.ts Af.B6.pre Af.B6.out
def Af.Div.pre:List Atom→Bool
 | [.i a,.i b]=>Ao a&&Ao b
 | _=>false
def Af.Div.out:List Atom→DV
 | [.i a,.i b]=>.int .u64 (Hc a b)
 | _=>.undef
abbrev Af.Div.ts:List AT:=[.i .u64,.i .u64]
def Af.Div.spec:Entry:=entry Af.Div.ts Af.Div.pre Af.Div.out
def Af.C0.pre:List Atom→Bool
 | [.l x]=>D7 x
 | _=>false
def Af.C0.out:List Atom→DV
 | [.l x]=>.int .u64 (A9 x)
 | _=>.undef
abbrev Af.C0.ts:List AT:=[.s .u64]
def Af.C0.spec:Entry:=entry Af.C0.ts Af.C0.pre Af.C0.out
def Af.Finite.pre:List Atom→Bool
 | [.l x]=>D7 x
 | _=>false
def Af.Finite.out:List Atom→DV
 | [.l x]=>.bool (Fm x)
 | _=>.undef
abbrev Af.Finite.ts:List AT:=[.s .u64]
def Af.Finite.spec:Entry:=entry Af.Finite.ts Af.Finite.pre Af.Finite.out
def Cx.Check.pre:List Atom→Bool
 | [.i _r,.i _c,.l l]=>Ak l
 | _=>false
def Cx.Check.out:List Atom→DV
 | [.i r,.i c,.l l]=>.int .i64 (Da r c l)
 | _=>.undef
abbrev Cx.Check.ts:List AT:=[.st [.i .i64,.i .i64,.s .u64]]
def Cx.Check.spec:Entry:=entry Cx.Check.ts Cx.Check.pre Cx.Check.out
def solve.check.pre:List Atom→Bool
 | [.i _r,.i _c,.l l,.i _p,.i _q,.l m]=>Ak l&&Ak m
 | _=>false
def solve.check.out:List Atom→DV
 | [.i r,.i c,.l l,.i p,.i q,.l m]=>.int .i64 (Wn r c l p q m)
 | _=>.undef
abbrev solve.check.ts:List AT:=[.st [.i .i64,.i .i64,.s .u64],.st [.i .i64,.i .i64,.s .u64]]
def solve.check.spec:Entry:=entry solve.check.ts solve.check.pre solve.check.out
def Gb.F8.up.pre:List Atom→Bool
 | [.i n,.i k]=>Cz (0≤k∧k<n∧n≤10)
 | _=>false
def Gb.F8.up.out:List Atom→DV
 | [.i n,.i k]=>.int .i64 (n-1-k)
 | _=>.undef
abbrev Gb.F8.up.ts:List AT:=[.i .i64,.i .i64]
def Gb.F8.up.spec:Entry:=entry Gb.F8.up.ts Gb.F8.up.pre Gb.F8.up.out
def solve.Eg.pre:List Atom→Bool
 | [.i _i,.i _k]=>true
 | _=>false
def solve.Eg.out:List Atom→DV
 | [.i i,.i k]=>.bool (decide (i<k))
 | _=>.undef
abbrev solve.Eg.ts:List AT:=[.i .i64,.i .i64]
def solve.Eg.spec:Entry:=entry solve.Eg.ts solve.Eg.pre solve.Eg.out
def Aa.of.Cm.own.pre:List Atom→Bool
 | [.i a,.i b]=>Cd a&&Cd b
 | _=>false
def Aa.of.Cm.own.out:List Atom→DV
 | [.i a,.i b]=>.agg [.int .i64 a,.int .i64 b,.ints (.own 108002 37) .u64 (Di (toNat a) (toNat b) (fun _ _=>0))]
 | _=>.undef
abbrev Aa.of.Cm.own.ts:List AT:=[.i .i64,.i .i64,.fn 205 []]
def Aa.of.Cm.own.spec:Entry:=entry Aa.of.Cm.own.ts Aa.of.Cm.own.pre Aa.of.Cm.own.out
def Aa.Cm.own.pre:List Atom→Bool
 | [.i a,.i b]=>Cd a&&Cd b
 | _=>false
def Aa.Cm.own.out:List Atom→DV
 | [.i a,.i b]=>.tup [.agg [.int .i64 a,.int .i64 b,.ints (.own 1136 37) .u64 (Di (toNat a) (toNat b) (fun _ _=>0))],.int .i64 (0:Int)]
 | _=>.undef
abbrev Aa.Cm.own.ts:List AT:=[.i .i64,.i .i64]
def Aa.Cm.own.spec:Entry:=entry Aa.Cm.own.ts Aa.Cm.own.pre Aa.Cm.own.out
def solve.Bp.Up.pre:List Atom→Bool
 | [.i r,.i c,.l l,.i p,.i q,.l m,.i n]=>Aer r c l p q m&&decide (n=r)
 | _=>false
def solve.Bp.Up.out:List Atom→DV
 | [.i r,.i c,.l l,.i _p,.i q,.l m,.i _n]=>.tup [.agg [.int .i64 ((Ux r q (Y1 c l q m (toNat r) (toNat q))).1),.int .i64 ((Ux r q (Y1 c l q m (toNat r) (toNat q))).2.1),.ints .fresh .u64 ((Ux r q (Y1 c l q m (toNat r) (toNat q))).2.2.1)],.int .i64 ((Ux r q (Y1 c l q m (toNat r) (toNat q))).2.2.2)]
 | _=>.undef
abbrev solve.Bp.Up.ts:List AT:=[.st [.i .i64,.i .i64,.s .u64],.st [.i .i64,.i .i64,.s .u64],.fm 103 [.i .i64],.fn 104 []]
def solve.Bp.Up.spec:Entry:=entry solve.Bp.Up.ts solve.Bp.Up.pre solve.Bp.Up.out
def solve.Hk.pre:List Atom→Bool
 | [.i _r,.i _c,.l l,.i _p,.i _q,.l m]=>Ak l&&Ak m
 | _=>false
def solve.Hk.out:List Atom→DV
 | [.i r,.i c,.l l,.i p,.i q,.l m]=>.tup [.agg [.int .i64 ((upX r c l p q m).1),.int .i64 ((upX r c l p q m).2.1),.ints .fresh .u64 ((upX r c l p q m).2.2.1)],.int .i64 ((upX r c l p q m).2.2.2)]
 | _=>.undef
abbrev solve.Hk.ts:List AT:=[.st [.i .i64,.i .i64,.s .u64],.st [.i .i64,.i .i64,.s .u64]]
def solve.Hk.spec:Entry:=entry solve.Hk.ts solve.Hk.pre solve.Hk.out
def solve.Flat.pre:List Atom→Bool
 | [.i _r,.i _c,.l l]=>Ak l
 | _=>false
def solve.Flat.out:List Atom→DV
 | [.i r,.i c,.l l]=>.tup [.bool ((Ok r c l).1),.int .i64 ((Ok r c l).2)]
 | _=>.undef
abbrev solve.Flat.ts:List AT:=[.st [.i .i64,.i .i64,.s .u64]]
def solve.Flat.spec:Entry:=entry solve.Flat.ts solve.Flat.pre solve.Flat.out
def qr.Fp.pre:List Atom→Bool
 | [.i _r,.i _c,.l l,.i _p,.i _q,.l m]=>Ak l&&Ak m
 | _=>false
def qr.Fp.out:List Atom→DV
 | [.i r,.i c,.l l,.i p,.i q,.l m]=>.tup [.agg [.int .i64 ((Dw r c l p q m).1),.int .i64 ((Dw r c l p q m).2.1),.ints .fresh .u64 ((Dw r c l p q m).2.2.1)],.int .i64 ((Dw r c l p q m).2.2.2)]
 | _=>.undef
abbrev qr.Fp.ts:List AT:=[.st [.i .i64,.i .i64,.s .u64],.st [.i .i64,.i .i64,.s .u64]]
def qr.Fp.spec:Entry:=entry qr.Fp.ts qr.Fp.pre qr.Fp.out
def Bq.Finite.pre:List Atom→Bool
 | [.l x]=>D7 x
 | _=>false
def Bq.Finite.out:List Atom→DV
 | [.l x]=>.bool (Fm x)
 | _=>.undef
abbrev Bq.Finite.ts:List AT:=[.s .u64]
def Bq.Finite.spec:Entry:=entry Bq.Finite.ts Bq.Finite.pre Bq.Finite.out
def Aq.Check.pre:List Atom→Bool
 | [.i _r,.i _c,.l l]=>Ak l
 | _=>false
def Aq.Check.out:List Atom→DV
 | [.i r,.i c,.l l]=>.int .i64 (Da r c l)
 | _=>.undef
abbrev Aq.Check.ts:List AT:=[.st [.i .i64,.i .i64,.s .u64]]
def Aq.Check.spec:Entry:=entry Aq.Check.ts Aq.Check.pre Aq.Check.out
def root.G2.pre:List Atom→Bool
 | [.i m]=>Cz (0≤m∧m<9223372036854775808)
 | _=>false
def root.G2.out:List Atom→DV
 | [.i m]=>.tup [.int .u64 (Vz m),.bool (V0 m)]
 | _=>.undef
abbrev root.G2.ts:List AT:=[.i .u64]
def root.G2.spec:Entry:=entry root.G2.ts root.G2.pre root.G2.out
def root.Sqrt.pre:List Atom→Bool
 | [.i a]=>Ao a
 | _=>false
def root.Sqrt.out:List Atom→DV
 | [.i a]=>.tup [.int .u64 (Hx a),.int .u8 (Ru a)]
 | _=>.undef
abbrev root.Sqrt.ts:List AT:=[.i .u64]
def root.Sqrt.spec:Entry:=entry root.Sqrt.ts root.Sqrt.pre root.Sqrt.out
def Af.Sqrt.pre:List Atom→Bool
 | [.i a]=>Ao a
 | _=>false
def Af.Sqrt.out:List Atom→DV
 | [.i a]=>.int .u64 (Hx a)
 | _=>.undef
abbrev Af.Sqrt.ts:List AT:=[.i .u64]
def Af.Sqrt.spec:Entry:=entry Af.Sqrt.ts Af.Sqrt.pre Af.Sqrt.out
def compare.Ll.pre:List Atom→Bool
 | [.i a]=>Ao a
 | _=>false
def compare.Ll.out:List Atom→DV
 | [.i a]=>.int .i64 (Bj a)
 | _=>.undef
abbrev compare.Ll.ts:List AT:=[.i .u64]
def compare.Ll.spec:Entry:=entry compare.Ll.ts compare.Ll.pre compare.Ll.out
def Af.Norm.pre:List Atom→Bool
 | [.l x]=>D7 x&&Cz (length x≤64)
 | _=>false
def Af.Norm.out:List Atom→DV
 | [.l x]=>.tup [.int .u64 (Dh x),.int .i64 (0:Int)]
 | _=>.undef
abbrev Af.Norm.ts:List AT:=[.s .u64]
def Af.Norm.spec:Entry:=entry Af.Norm.ts Af.Norm.pre Af.Norm.out
def Al.C9.pre:List Atom→Bool
 | [.l x]=>D7 x
 | _=>false
def Al.C9.out:List Atom→DV
 | [.l x]=>.bool (Fx x)
 | _=>.undef
abbrev Al.C9.ts:List AT:=[.s .u64]
def Al.C9.spec:Entry:=entry Al.C9.ts Al.C9.pre Al.C9.out
def Al.lead.pre:List Atom→Bool
 | [.l x]=>D7 x
 | _=>false
def Al.lead.out:List Atom→DV
 | [.l x]=>.int .u64 (O6 x)
 | _=>.undef
abbrev Al.lead.ts:List AT:=[.s .u64]
def Al.lead.spec:Entry:=entry Al.lead.ts Al.lead.pre Al.lead.out
def Al.Dd.pre:List Atom→Bool
 | [.l x,.i k]=>D7 x&&Cz (length x≤1000∧-2300≤k∧k≤2300)
 | _=>false
def Al.Dd.out:List Atom→DV
 | [.l x,.i k]=>.ints .fresh .u64 (Bg x k)
 | _=>.undef
abbrev Al.Dd.ts:List AT:=[.s .u64,.i .i64]
def Al.Dd.spec:Entry:=entry Al.Dd.ts Al.Dd.pre Al.Dd.out
def Al.Fu.pre:List Atom→Bool
 | [.i _i]=>true
 | _=>false
def Al.Fu.out:List Atom→DV
 | [.i _i]=>.int .u64 (0:Int)
 | _=>.undef
abbrev Al.Fu.ts:List AT:=[.i .i64]
def Al.Fu.spec:Entry:=entry Al.Fu.ts Al.Fu.pre Al.Fu.out
def Al.Ft.pre:List Atom→Bool
 | [.i i,.l y,.i d]=>(Cz (0≤i∧i<length y)&&Ak y)&&Ao d
 | _=>false
def Al.Ft.out:List Atom→DV
 | [.i i,.l y,.i d]=>.int .u64 (Hc (getD y (toNat i) 0) d)
 | _=>.undef
abbrev Al.Ft.ts:List AT:=[.i .i64,.cp [.s .u64],.cp [.i .u64]]
def Al.Ft.spec:Entry:=entry Al.Ft.ts Al.Ft.pre Al.Ft.out
def Al.row.Zero.pre:List Atom→Bool
 | [.i n]=>Cz (1≤n∧n≤64)
 | _=>false
def Al.row.Zero.out:List Atom→DV
 | [.i n]=>.ints .fresh .u64 (Ic (toNat n) (fun _=>0))
 | _=>.undef
abbrev Al.row.Zero.ts:List AT:=[.i .i64,.fn 254 []]
def Al.row.Zero.spec:Entry:=entry Al.row.Zero.ts Al.row.Zero.pre Al.row.Zero.out
def Al.row.Div.pre:List Atom→Bool
 | [.i n,.l y,.i d]=>(Cz (1≤n∧n≤64∧n=length y)&&Ak y)&&Ao d
 | _=>false
def Al.row.Div.out:List Atom→DV
 | [.i n,.l y,.i d]=>.ints .fresh .u64 (Ic (toNat n) (fun j=>Hc (getD y j 0) d))
 | _=>.undef
abbrev Al.row.Div.ts:List AT:=[.i .i64,.fn 259 [.cp [.s .u64],.cp [.i .u64]]]
def Al.row.Div.spec:Entry:=entry Al.row.Div.ts Al.row.Div.pre Al.row.Div.out
def Al.Kq.pre:List Atom→Bool
 | [.l x]=>D7 x
 | _=>false
def Al.Kq.out:List Atom→DV
 | [.l x]=>.tup [.ints .fresh .u64 ((Bu x).1),.int .u64 ((Bu x).2.1),.int .u64 ((Bu x).2.2.1),.int .i64 ((Bu x).2.2.2)]
 | _=>.undef
abbrev Al.Kq.ts:List AT:=[.s .u64]
def Al.Kq.spec:Entry:=entry Al.Kq.ts Al.Kq.pre Al.Kq.out
def Al.Apply.pre:List Atom→Bool
 | [.i r,.i c,.l l,.i i,.i k,.l v,.i t]=>((Be r c l&&Q8 r c i k v)&&(Ak l&&Ak v))&&Ao t
 | _=>false
def Al.Apply.out:List Atom→DV
 | [.i r,.i c,.l l,.i i,.i k,.l v,.i t]=>.tup [.agg [.int .i64 r,.int .i64 c,.ints (.own 114002 37) .u64 (Ga (toNat r) (toNat c) l i k v t)],.int .i64 (0:Int)]
 | _=>.undef
abbrev Al.Apply.ts:List AT:=[.st [.i .i64,.i .i64,.s .u64],.i .i64,.i .i64,.s .u64,.i .u64]
def Al.Apply.spec:Entry:=entry Al.Apply.ts Al.Apply.pre Al.Apply.out
def qr.down.pre:List Atom→Bool
 | [.i r,.i c,.l l]=>(Be r c l&&Fm l)&&Ak l
 | _=>false
def qr.down.out:List Atom→DV
 | [.i r,.i c,.l l]=>.tup [.agg [.int .i64 ((G0 r c l).1),.int .i64 ((G0 r c l).2.1),.ints .arg .u64 ((G0 r c l).2.2.1)],.recs .fresh 2 (P4 r c l),.int .i64 ((G0 r c l).2.2.2)]
 | _=>.undef
abbrev qr.down.ts:List AT:=[.st [.i .i64,.i .i64,.s .u64]]
def qr.down.spec:Entry:=entry qr.down.ts qr.down.pre qr.down.out
def qr.Du.pre:List Atom→Bool
 | [.i _r,.i _c,.l l]=>Ak l
 | _=>false
def qr.Du.out:List Atom→DV
 | [.i r,.i c,.l l]=>.tup [.agg [.int .i64 ((qX r c l).1),.int .i64 ((qX r c l).2.1),.ints .arg .u64 ((qX r c l).2.2.1)],.agg [.int .i64 ((rX r c l).1),.int .i64 ((rX r c l).2.1),.ints .arg .u64 ((rX r c l).2.2.1)],.int .i64 (Hb r c l)]
 | _=>.undef
abbrev qr.Du.ts:List AT:=[.st [.i .i64,.i .i64,.s .u64]]
def qr.Du.spec:Entry:=entry qr.Du.ts qr.Du.pre qr.Du.out
def qr.Lz.pre:List Atom→Bool
 | [.i _r,.i _c,.l l]=>Ak l
 | _=>false
def qr.Lz.out:List Atom→DV
 | [.i r,.i c,.l l]=>.tup [.agg [.int .i64 ((Jd r c l).1),.int .i64 ((Jd r c l).2.1),.ints .fresh .u64 ((Jd r c l).2.2.1)],.agg [.int .i64 ((N7 r c l).1),.int .i64 ((N7 r c l).2.1),.ints .fresh .u64 ((N7 r c l).2.2.1)],.int .i64 (Hb r c l)]
 | _=>.undef
abbrev qr.Lz.ts:List AT:=[.st [.i .i64,.i .i64,.s .u64]]
def qr.Lz.spec:Entry:=entry qr.Lz.ts qr.Lz.pre qr.Lz.out
def solve.G1.pre:List Atom→Bool
 | [.i _r,.i _c,.l l,.i _p,.i _q,.l m]=>Ak l&&Ak m
 | _=>false
def solve.G1.out:List Atom→DV
 | [.i r,.i c,.l l,.i p,.i q,.l m]=>.tup [.agg [.int .i64 ((A7 r c l p q m).1),.int .i64 ((A7 r c l p q m).2.1),.ints .fresh .u64 ((A7 r c l p q m).2.2.1)],.int .i64 ((A7 r c l p q m).2.2.2)]
 | _=>.undef
abbrev solve.G1.ts:List AT:=[.st [.i .i64,.i .i64,.s .u64],.st [.i .i64,.i .i64,.s .u64]]
def solve.G1.spec:Entry:=entry solve.G1.ts solve.G1.pre solve.G1.out
def Hs.Ll.pre:List Atom→Bool
 | [.i a]=>Ao a
 | _=>false
def Hs.Ll.out:List Atom→DV
 | [.i a]=>.int .i64 (Bj a)
 | _=>.undef
abbrev Hs.Ll.ts:List AT:=[.i .u64]
def Hs.Ll.spec:Entry:=entry Hs.Ll.ts Hs.Ll.pre Hs.Ll.out
def A45.Hd.pre:List Atom→Bool
 | []=>true
 | _=>false
def A5i.Check.pre:List Atom→Bool
 | [.i _r,.i _c,.l l,.i _p,.i _q,.l m,.i _u,.i _v,.l h]=>A4x l m h
 | _=>false
def Bq.Ew.pre:List Atom→Bool
 | [.l x,.i k]=>D7 x&&Cz (0≤k∧k≤1000)
 | _=>false
def Bq.Ew.out:List Atom→DV
 | [.l x,.i k]=>.bool (Mb x k)
 | _=>.undef
abbrev Bq.Ew.ts:List AT:=[.s .u64,.i .i64]
def Bq.Ew.spec:Entry:=entry Bq.Ew.ts Bq.Ew.pre Bq.Ew.out
def Aq.Ew.pre:List Atom→Bool
 | [.i _r,.i _c,.l l,.i k]=>Ak l&&Cz (0≤k∧k≤1000)
 | _=>false
def Aq.Ew.out:List Atom→DV
 | [.i r,.i c,.l l,.i k]=>.bool (Be r c l&&Mb l k)
 | _=>.undef
abbrev Aq.Ew.ts:List AT:=[.st [.i .i64,.i .i64,.s .u64],.i .i64]
def Aq.Ew.spec:Entry:=entry Aq.Ew.ts Aq.Ew.pre Aq.Ew.out
def Bq.Cs.q.pre:List Atom→Bool
 | [.l x]=>D7 x&&Cz (length x≤64)
 | _=>false
def Bq.Cs.q.out:List Atom→DV
 | [.l x]=>.agg [.bool (Az (mQ (J7 x))),.ints .arg .u32 (Ah (mQ (J7 x))),.int .i64 (eQ (J7 x))]
 | _=>.undef
abbrev Bq.Cs.q.ts:List AT:=[.s .u64]
def Bq.Cs.q.spec:Entry:=entry Bq.Cs.q.ts Bq.Cs.q.pre Bq.Cs.q.out
def Aq.F0.pre:List Atom→Bool
 | [.i r,.i c,.l l]=>Ak l&&Be r c l
 | _=>false
def Aq.F0.out:List Atom→DV
 | [.i _r,.i _c,.l l]=>.agg [.bool (Az (mQ (J7 l))),.ints .arg .u32 (Ah (mQ (J7 l))),.int .i64 (eQ (J7 l))]
 | _=>.undef
abbrev Aq.F0.ts:List AT:=[.st [.i .i64,.i .i64,.s .u64]]
def Aq.F0.spec:Entry:=entry Aq.F0.ts Aq.F0.pre Aq.F0.out
def Aq.G9.q.pre:List Atom→Bool
 | [.l x,.l y]=>(Ak x&&Ak y)&&Cz (length x=length y∧length x≤64)
 | _=>false
def Aq.G9.q.out:List Atom→DV
 | [.l x,.l y]=>.agg [.bool (Az (mQ (dtL x y))),.ints .arg .u32 (Ah (mQ (dtL x y))),.int .i64 (eQ (dtL x y))]
 | _=>.undef
abbrev Aq.G9.q.ts:List AT:=[.s .u64,.s .u64]
def Aq.G9.q.spec:Entry:=entry Aq.G9.q.ts Aq.G9.q.pre Aq.G9.q.out
def Aq.Gs.pre:List Atom→Bool
 | [.l x,.r y]=>Ak x&&Re y (length x)
 | _=>false
def Aq.Gs.out:List Atom→DV
 | [.l x,.r y]=>.agg [.bool (Az (mQ (Qd x y))),.ints .arg .u32 (Ah (mQ (Qd x y))),.int .i64 (eQ (Qd x y))]
 | _=>.undef
abbrev Aq.Gs.ts:List AT:=[.s .u64,.rl 3]
def Aq.Gs.spec:Entry:=entry Aq.Gs.ts Aq.Gs.pre Aq.Gs.out
def Aq.A2.pre:List Atom→Bool
 | [.i r,.i c,.l l,.i p,.i q,.l m,.i u,.i v,.l h]=>((Be r c l&&Be p q m)&&(Be u v h&&(Ak l&&(Ak m&&Ak h))))&&decide (p=c∧u=r∧v=q)
 | _=>false
def Aq.A2.out:List Atom→DV
 | [.i r,.i c,.l l,.i _p,.i q,.l m,.i _u,.i _v,.l h]=>.agg [.bool (Az (mQ (Oi (toNat r) (toNat c) (toNat q) l m h))),.ints .arg .u32 (Ah (mQ (Oi (toNat r) (toNat c) (toNat q) l m h))),.int .i64 (eQ (Oi (toNat r) (toNat c) (toNat q) l m h))]
 | _=>.undef
abbrev Aq.A2.ts:List AT:=[.st [.i .i64,.i .i64,.s .u64],.st [.i .i64,.i .i64,.s .u64],.st [.i .i64,.i .i64,.s .u64]]
def Aq.A2.spec:Entry:=entry Aq.A2.ts Aq.A2.pre Aq.A2.out
def Aq.Fo.pre:List Atom→Bool
 | [.b n,.l a,.i e,.b m,.l b,.i f,.i k]=>(dsB n a e&&dsB m b f)&&Cz (0≤k∧k≤1000)
 | _=>false
def Aq.Fo.out:List Atom→DV
 | [.b n,.l a,.i e,.b m,.l b,.i f,.i k]=>.bool (decide (vQ n a e≤vQ m b f*tw (-2*k)+tw (-4000)))
 | _=>.undef
abbrev Aq.Fo.ts:List AT:=[.st [.b,.s .u32,.i .i64],.st [.b,.s .u32,.i .i64],.i .i64]
def Aq.Fo.spec:Entry:=entry Aq.Fo.ts Aq.Fo.pre Aq.Fo.out
def D0.Cp.pre:List Atom→Bool
 | [.i _r,.i _c,.l l,.i _p,.i _q,.l m]=>Ak l&&Ak m
 | _=>false
def D0.Cp.out:List Atom→DV
 | [.i _r,.i _c,.l _l,.i _p,.i _q,.l _m]=>.bool true
 | _=>.undef
abbrev D0.Cp.ts:List AT:=[.st [.i .i64,.i .i64,.s .u64],.st [.i .i64,.i .i64,.s .u64]]
def D0.Cp.spec:Entry:=entry D0.Cp.ts D0.Cp.pre D0.Cp.out
def D0.Hd.pre:List Atom→Bool
 | []=>true
 | _=>false
def D0.Hd.out:List Atom→DV
 | []=>.bool true
 | _=>.undef
abbrev D0.Hd.ts:List AT:=[]
def D0.Hd.spec:Entry:=entry D0.Hd.ts D0.Hd.pre D0.Hd.out
def Ai.Add.q.pre:List Atom→Bool
 | [.b n,.l a,.i e,.b m,.l b,.i f]=>Yk n a e&&Yk m b f
 | _=>false
def Ai.Add.q.out:List Atom→DV
 | [.b n,.l a,.i e,.b m,.l b,.i f]=>.agg [.bool (Az (mQ (vQ n a e+vQ m b f))),.ints .arg .u32 (Ah (mQ (vQ n a e+vQ m b f))),.int .i64 (eQ (vQ n a e+vQ m b f))]
 | _=>.undef
abbrev Ai.Add.q.ts:List AT:=[.st [.b,.s .u32,.i .i64],.st [.b,.s .u32,.i .i64]]
def Ai.Add.q.spec:Entry:=entry Ai.Add.q.ts Ai.Add.q.pre Ai.Add.q.out
def Ai.Sub.q.pre:List Atom→Bool
 | [.b n,.l a,.i e,.b m,.l b,.i f]=>Yk n a e&&Yk m b f
 | _=>false
def Ai.Sub.q.out:List Atom→DV
 | [.b n,.l a,.i e,.b m,.l b,.i f]=>.agg [.bool (Az (mQ (vQ n a e-vQ m b f))),.ints .arg .u32 (Ah (mQ (vQ n a e-vQ m b f))),.int .i64 (eQ (vQ n a e-vQ m b f))]
 | _=>.undef
abbrev Ai.Sub.q.ts:List AT:=[.st [.b,.s .u32,.i .i64],.st [.b,.s .u32,.i .i64]]
def Ai.Sub.q.spec:Entry:=entry Ai.Sub.q.ts Ai.Sub.q.pre Ai.Sub.q.out
def Ai.Mul.q.pre:List Atom→Bool
 | [.b n,.l a,.i e,.b m,.l b,.i f]=>Yk n a e&&Yk m b f
 | _=>false
def Ai.Mul.q.out:List Atom→DV
 | [.b n,.l a,.i e,.b m,.l b,.i f]=>.agg [.bool (Az (mQ (vQ n a e*vQ m b f))),.ints .arg .u32 (Ah (mQ (vQ n a e*vQ m b f))),.int .i64 (eQ (vQ n a e*vQ m b f))]
 | _=>.undef
abbrev Ai.Mul.q.ts:List AT:=[.st [.b,.s .u32,.i .i64],.st [.b,.s .u32,.i .i64]]
def Ai.Mul.q.spec:Entry:=entry Ai.Mul.q.ts Ai.Mul.q.pre Ai.Mul.q.out
def Ai.Cn.q.pre:List Atom→Bool
 | [.b n,.l a,.i e,.i k]=>Yk n a e&&Cz (-2000≤k∧k≤2000)
 | _=>false
def Ai.Cn.q.out:List Atom→DV
 | [.b n,.l a,.i e,.i k]=>.agg [.bool (Az (mQ (vQ n a e*tw k))),.ints .arg .u32 (Ah (mQ (vQ n a e*tw k))),.int .i64 (eQ (vQ n a e*tw k))]
 | _=>.undef
abbrev Ai.Cn.q.ts:List AT:=[.st [.b,.s .u32,.i .i64],.i .i64]
def Ai.Cn.q.spec:Entry:=entry Ai.Cn.q.ts Ai.Cn.q.pre Ai.Cn.q.out
def Ai.Compare.q.pre:List Atom→Bool
 | [.b n,.l a,.i e,.b m,.l b,.i f]=>Yk n a e&&Yk m b f
 | _=>false
def Ai.Compare.q.out:List Atom→DV
 | [.b n,.l a,.i e,.b m,.l b,.i f]=>.int .i64 (Ak5 (vQ n a e) (vQ m b f))
 | _=>.undef
abbrev Ai.Compare.q.ts:List AT:=[.st [.b,.s .u32,.i .i64],.st [.b,.s .u32,.i .i64]]
def Ai.Compare.q.spec:Entry:=entry Ai.Compare.q.ts Ai.Compare.q.pre Ai.Compare.q.out
def Ai.Of.q.pre:List Atom→Bool
 | [.b n,.l a,.i e]=>Ks n a&&Cz (-5000≤e∧e≤5000)
 | _=>false
def Ai.Of.q.out:List Atom→DV
 | [.b n,.l a,.i e]=>.agg [.bool (Az (mQ (vQ n a e))),.ints .arg .u32 (Ah (mQ (vQ n a e))),.int .i64 (eQ (vQ n a e))]
 | _=>.undef
abbrev Ai.Of.q.ts:List AT:=[.st [.b,.s .u32],.i .i64]
def Ai.Of.q.spec:Entry:=entry Ai.Of.q.ts Ai.Of.q.pre Ai.Of.q.out
def A1.Value.q.pre:List Atom→Bool
 | [.i x]=>Ao x
 | _=>false
def A1.Value.q.out:List Atom→DV
 | [.i x]=>.agg [.bool (Az (mQ (D8 x))),.ints .arg .u32 (Ah (mQ (D8 x))),.int .i64 (eQ (D8 x))]
 | _=>.undef
abbrev A1.Value.q.ts:List AT:=[.i .u64]
def A1.Value.q.spec:Entry:=entry A1.Value.q.ts A1.Value.q.pre A1.Value.q.out
def Cu.Lh.pre:List Atom→Bool
 | [.i x]=>Ao x
 | _=>false
def Cu.Lh.out:List Atom→DV
 | [.i x]=>.int .i64 (E7 x)
 | _=>.undef
abbrev Cu.Lh.ts:List AT:=[.i .u64]
def Cu.Lh.spec:Entry:=entry Cu.Lh.ts Cu.Lh.pre Cu.Lh.out
def Ad.plus.own.pre:List Atom→Bool
 | [.l a,.l b]=>Ig a&&Ig b
 | _=>false
def Ad.plus.own.out:List Atom→DV
 | [.l a,.l b]=>.ints (.own 100005 173) .u32 (Kb a b)
 | _=>.undef
abbrev Ad.plus.own.ts:List AT:=[.s .u32,.s .u32]
def Ad.plus.own.spec:Entry:=entry Ad.plus.own.ts Ad.plus.own.pre Ad.plus.own.out
theorem tt0:∀ a b c:Bool,((a==a)&&(b&&(c&&true)))=(b&&c):=by decide
theorem tt1:∀ a b:Bool,(bif a then b else false)=(a&&b):=by decide
theorem X5:∀ a:Bool,(((!a)||(a==true))&&true)=true:=by decide
theorem N6:∀ a:Bool,((!(a==true))||((((!(a==true))||(a==true))&&true)&&true))=true:=by decide
theorem Rt:∀ a:Bool,((!(a==true))||true)=true:=by decide
theorem tt5:∀ a b:Bool,(bif a then true else b)=(a||b):=by decide
theorem tt6:∀ a:Bool,((!(!a))||(a==false))=true:=by decide
theorem Yt:∀ a:Bool,((!(a==false))||((((!(a==false))||(a==false))&&true)&&true))=true:=by decide
theorem tt8:∀ a:Bool,((!(a==false))||((((!(a==false))||(a==false))&&(((!(a==false))||(a==false))&&true))&&true))=true:=by decide
theorem Z0:∀ a:Bool,((!(a==false))||true)=true:=by decide
theorem Cr:∀ a:Bool,(a&&true)=a:=by decide
theorem A4l:∀ a b c d e:Bool,(bif a then (bif b then true else (bif c then (bif d then true else e) else false)) else false)=(a&&(b||(c&&(d||e)))):=by decide
theorem A19:∀ a b:Bool,((!(a==true))||(((!(a==true))||(a==true))&&((!(!b))||((a==true)&&(b==false)))))=true:=by decide
theorem A4k:∀ a b c:Bool,((!((a==true)&&(b==false)))||(((!((a==true)&&(b==false)))||((a==true)&&(b==false)))&&(((!c)||(((a==true)&&(b==false))&&(c==true)))&&true)))=true:=by decide
theorem A4j:∀ a b c d:Bool,((!(((a==true)&&(b==false))&&(c==true)))||(((!(((a==true)&&(b==false))&&(c==true)))||(((a==true)&&(b==false))&&(c==true)))&&((!(!d))||((((a==true)&&(b==false))&&(c==true))&&(d==false)))))=true:=by decide
theorem A15:∀ a b c d:Bool,((!((((a==true)&&(b==false))&&(c==true))&&(d==false)))||((((!((((a==true)&&(b==false))&&(c==true))&&(d==false)))||((((a==true)&&(b==false))&&(c==true))&&(d==false)))&&true)&&true))=true:=by decide
theorem A4i:∀ a b c d:Bool,((!((((a==true)&&(b==false))&&(c==true))&&(d==false)))||true)=true:=by decide
theorem A4h:∀ a b c:Bool,((!(((a==true)&&(b==false))&&(c==true)))||((((!(((a==true)&&(b==false))&&(c==true)))||(((a==true)&&(b==false))&&(c==true)))&&true)&&true))=true:=by decide
theorem A4g:∀ a b c:Bool,((!(((a==true)&&(b==false))&&(c==true)))||true)=true:=by decide
theorem A11:∀ a b:Bool,((!((a==true)&&(b==false)))||((((!((a==true)&&(b==false)))||((a==true)&&(b==false)))&&true)&&true))=true:=by decide
theorem A10:∀ a b:Bool,((!((a==true)&&(b==false)))||((((!((a==true)&&(b==false)))||((a==true)&&(b==false)))&&(((!((a==true)&&(b==false)))||((a==true)&&(b==false)))&&true))&&true))=true:=by decide
theorem Aqz:∀ a b:Bool,((!((a==true)&&(b==false)))||true)=true:=by decide
theorem Ank:∀ a:Bool,((!(a==true))||((((!(a==true))||(a==true))&&(((!(a==true))||(a==true))&&true))&&true))=true:=by decide
theorem Ayz:∀ a b:Bool,(bif (!a) then true else b)=((!a)||b):=by decide
theorem Agy:∀ a:Bool,((!(!(!a)))||((!a)==false))=true:=by decide
theorem Wz:∀ a:Bool,((!((!a)==false))||((((!((!a)==false))||((!a)==false))&&true)&&true))=true:=by decide
theorem Agx:∀ a:Bool,((!((!a)==false))||true)=true:=by decide
theorem A4f:∀ a b:Bool,(bif a then (!b) else false)=(a&&(!b)):=by decide
theorem Avh:∀ a b:Bool,(bif (!a) then true else (!b))=((!a)||(!b)):=by decide
theorem Aqy:∀ a b:Bool,((!((!a)==false))||((((!((!a)==false))||((!a)==false))&&true)&&b))=((!a)||b):=by decide
theorem A1z:∀ a b c d:Bool,(bif (bif a then b else false) then true else (bif c then d else false))=((a&&b)||(c&&d)):=by decide
theorem A1y:∀ a b:Bool,((!(!(bif a then b else false)))||((bif a then b else false)==false))=true:=by decide
theorem A1x:∀ a b c:Bool,((!((bif a then b else false)==false))||(((!((bif a then b else false)==false))||((bif a then b else false)==false))&&(((!c)||(((bif a then b else false)==false)&&(c==true)))&&true)))=true:=by decide
theorem A1w:∀ a b c:Bool,((!(((bif a then b else false)==false)&&(c==true)))||((((!(((bif a then b else false)==false)&&(c==true)))||(((bif a then b else false)==false)&&(c==true)))&&true)&&true))=true:=by decide
theorem A1v:∀ a b c:Bool,((!(((bif a then b else false)==false)&&(c==true)))||true)=true:=by decide
theorem Avg:∀ a b:Bool,((!((bif a then b else false)==false))||((((!((bif a then b else false)==false))||((bif a then b else false)==false))&&true)&&true))=true:=by decide
theorem A1u:∀ a b:Bool,((!((bif a then b else false)==false))||true)=true:=by decide
theorem Rj:∀ a b:Bool,((a&&b)&&true)=(a&&b):=by decide
theorem A4e:∀ a b c:Bool,(bif (bif (!a) then true else (!b)) then true else c)=(((!a)||(!b))||c):=by decide
theorem A4d:∀ a b:Bool,((!(!(bif (!a) then true else (!b))))||((bif (!a) then true else (!b))==false))=true:=by decide
theorem A1t:∀ a b:Bool,((!((bif (!a) then true else (!b))==false))||((((!((bif (!a) then true else (!b))==false))||((bif (!a) then true else (!b))==false))&&(((!((bif (!a) then true else (!b))==false))||((bif (!a) then true else (!b))==false))&&true))&&true))=true:=by decide
theorem Avf:∀ a b:Bool,((!((bif (!a) then true else (!b))==false))||((((!((bif (!a) then true else (!b))==false))||((bif (!a) then true else (!b))==false))&&true)&&true))=true:=by decide
theorem Ayy:∀ a b:Bool,((!((bif (!a) then true else (!b))==false))||true)=true:=by decide
theorem A1s:∀ a b c d:Bool,(((a&&b)&&(c&&d))&&true)=((a&&b)&&(c&&d)):=by decide
theorem A4c:∀ a b c d e f g h:Bool,(bif (bif (bif (bif (bif (bif (bif a then true else b) then true else c) then true else d) then true else e) then true else f) then true else g) then true else h)=(((((((a||b)||c)||d)||e)||f)||g)||h):=by decide
theorem A4b:∀ a b c d e f g:Bool,((!(!(bif (bif (bif (bif (bif (bif a then true else b) then true else c) then true else d) then true else e) then true else f) then true else g)))||((bif (bif (bif (bif (bif (bif a then true else b) then true else c) then true else d) then true else e) then true else f) then true else g)==false))=true:=by decide
theorem A1r:∀ a b c d e f g:Bool,((!((bif (bif (bif (bif (bif (bif a then true else b) then true else c) then true else d) then true else e) then true else f) then true else g)==false))||((((!((bif (bif (bif (bif (bif (bif a then true else b) then true else c) then true else d) then true else e) then true else f) then true else g)==false))||((bif (bif (bif (bif (bif (bif a then true else b) then true else c) then true else d) then true else e) then true else f) then true else g)==false))&&(((!((bif (bif (bif (bif (bif (bif a then true else b) then true else c) then true else d) then true else e) then true else f) then true else g)==false))||((bif (bif (bif (bif (bif (bif a then true else b) then true else c) then true else d) then true else e) then true else f) then true else g)==false))&&true))&&true))=true:=by decide
theorem Ayx:∀ a b c d e f g:Bool,((!((bif (bif (bif (bif (bif (bif a then true else b) then true else c) then true else d) then true else e) then true else f) then true else g)==false))||true)=true:=by decide
theorem A4a:∀ a b c d e f g:Bool,((!((bif (bif (bif (bif (bif (bif a then true else b) then true else c) then true else d) then true else e) then true else f) then true else g)==false))||((((!((bif (bif (bif (bif (bif (bif a then true else b) then true else c) then true else d) then true else e) then true else f) then true else g)==false))||((bif (bif (bif (bif (bif (bif a then true else b) then true else c) then true else d) then true else e) then true else f) then true else g)==false))&&true)&&true))=true:=by decide
theorem A39:∀ a b c d e f:Bool,((!(!(bif (bif (bif (bif (bif a then true else b) then true else c) then true else d) then true else e) then true else f)))||((bif (bif (bif (bif (bif a then true else b) then true else c) then true else d) then true else e) then true else f)==false))=true:=by decide
theorem A1q:∀ a b c d e f:Bool,((!((bif (bif (bif (bif (bif a then true else b) then true else c) then true else d) then true else e) then true else f)==false))||((((!((bif (bif (bif (bif (bif a then true else b) then true else c) then true else d) then true else e) then true else f)==false))||((bif (bif (bif (bif (bif a then true else b) then true else c) then true else d) then true else e) then true else f)==false))&&(((!((bif (bif (bif (bif (bif a then true else b) then true else c) then true else d) then true else e) then true else f)==false))||((bif (bif (bif (bif (bif a then true else b) then true else c) then true else d) then true else e) then true else f)==false))&&true))&&true))=true:=by decide
theorem Ayw:∀ a b c d e f:Bool,((!((bif (bif (bif (bif (bif a then true else b) then true else c) then true else d) then true else e) then true else f)==false))||true)=true:=by decide
theorem A38:∀ a b c d e f:Bool,((!((bif (bif (bif (bif (bif a then true else b) then true else c) then true else d) then true else e) then true else f)==false))||((((!((bif (bif (bif (bif (bif a then true else b) then true else c) then true else d) then true else e) then true else f)==false))||((bif (bif (bif (bif (bif a then true else b) then true else c) then true else d) then true else e) then true else f)==false))&&true)&&true))=true:=by decide
theorem A37:∀ a b c d e:Bool,((!(!(bif (bif (bif (bif a then true else b) then true else c) then true else d) then true else e)))||((bif (bif (bif (bif a then true else b) then true else c) then true else d) then true else e)==false))=true:=by decide
theorem A36:∀ a b c d e:Bool,((!((bif (bif (bif (bif a then true else b) then true else c) then true else d) then true else e)==false))||((((!((bif (bif (bif (bif a then true else b) then true else c) then true else d) then true else e)==false))||((bif (bif (bif (bif a then true else b) then true else c) then true else d) then true else e)==false))&&(((!((bif (bif (bif (bif a then true else b) then true else c) then true else d) then true else e)==false))||((bif (bif (bif (bif a then true else b) then true else c) then true else d) then true else e)==false))&&true))&&true))=true:=by decide
theorem A35:∀ a b c d e:Bool,((!((bif (bif (bif (bif a then true else b) then true else c) then true else d) then true else e)==false))||((((!((bif (bif (bif (bif a then true else b) then true else c) then true else d) then true else e)==false))||((bif (bif (bif (bif a then true else b) then true else c) then true else d) then true else e)==false))&&true)&&true))=true:=by decide
theorem A1p:∀ a b c d e:Bool,((!((bif (bif (bif (bif a then true else b) then true else c) then true else d) then true else e)==false))||true)=true:=by decide
theorem A1o:∀ a b c d:Bool,((!(!(bif (bif (bif a then true else b) then true else c) then true else d)))||((bif (bif (bif a then true else b) then true else c) then true else d)==false))=true:=by decide
theorem A1n:∀ a b c d:Bool,((!((bif (bif (bif a then true else b) then true else c) then true else d)==false))||((((!((bif (bif (bif a then true else b) then true else c) then true else d)==false))||((bif (bif (bif a then true else b) then true else c) then true else d)==false))&&(((!((bif (bif (bif a then true else b) then true else c) then true else d)==false))||((bif (bif (bif a then true else b) then true else c) then true else d)==false))&&true))&&true))=true:=by decide
theorem A1m:∀ a b c d:Bool,((!((bif (bif (bif a then true else b) then true else c) then true else d)==false))||((((!((bif (bif (bif a then true else b) then true else c) then true else d)==false))||((bif (bif (bif a then true else b) then true else c) then true else d)==false))&&true)&&true))=true:=by decide
theorem Avd:∀ a b c d:Bool,((!((bif (bif (bif a then true else b) then true else c) then true else d)==false))||true)=true:=by decide
theorem A1l:∀ a b c:Bool,((!(!(bif (bif a then true else b) then true else c)))||((bif (bif a then true else b) then true else c)==false))=true:=by decide
theorem A1k:∀ a b c:Bool,((!((bif (bif a then true else b) then true else c)==false))||((((!((bif (bif a then true else b) then true else c)==false))||((bif (bif a then true else b) then true else c)==false))&&true)&&true))=true:=by decide
theorem A1j:∀ a b c:Bool,((!((bif (bif a then true else b) then true else c)==false))||true)=true:=by decide
theorem Ayv:∀ a b:Bool,((!(!(bif a then true else b)))||((bif a then true else b)==false))=true:=by decide
theorem Aqx:∀ a b:Bool,((!((bif a then true else b)==false))||((((!((bif a then true else b)==false))||((bif a then true else b)==false))&&true)&&true))=true:=by decide
theorem Anj:∀ a b:Bool,((!((bif a then true else b)==false))||true)=true:=by decide
theorem A34:∀ a b c d:Bool,(((!(bif (bif (bif a then b else false) then c else false) then d else false))||((bif (bif (bif a then b else false) then c else false) then d else false)==true))&&true)=true:=by decide
theorem A1i:∀ a b c d:Bool,((!((bif (bif (bif a then b else false) then c else false) then d else false)==true))||((((!((bif (bif (bif a then b else false) then c else false) then d else false)==true))||((bif (bif (bif a then b else false) then c else false) then d else false)==true))&&(((!((bif (bif (bif a then b else false) then c else false) then d else false)==true))||((bif (bif (bif a then b else false) then c else false) then d else false)==true))&&true))&&true))=true:=by decide
theorem Avc:∀ a b c d:Bool,((!((bif (bif (bif a then b else false) then c else false) then d else false)==true))||((((!((bif (bif (bif a then b else false) then c else false) then d else false)==true))||((bif (bif (bif a then b else false) then c else false) then d else false)==true))&&true)&&true))=true:=by decide
theorem Ayu:∀ a b c d:Bool,((!((bif (bif (bif a then b else false) then c else false) then d else false)==true))||true)=true:=by decide
theorem A33:∀ a b c:Bool,(((!(bif (bif a then b else false) then c else false))||((bif (bif a then b else false) then c else false)==true))&&true)=true:=by decide
theorem A1h:∀ a b c:Bool,((!((bif (bif a then b else false) then c else false)==true))||((((!((bif (bif a then b else false) then c else false)==true))||((bif (bif a then b else false) then c else false)==true))&&true)&&true))=true:=by decide
theorem A32:∀ a b c:Bool,((!((bif (bif a then b else false) then c else false)==true))||true)=true:=by decide
theorem A1g:∀ a b:Bool,(((!(bif a then b else false))||((bif a then b else false)==true))&&true)=true:=by decide
theorem Aqw:∀ a b:Bool,((!((bif a then b else false)==true))||((((!((bif a then b else false)==true))||((bif a then b else false)==true))&&true)&&true))=true:=by decide
theorem A1f:∀ a b:Bool,((!((bif a then b else false)==true))||true)=true:=by decide
theorem A1e:∀ a b c:Bool,((!(a==true))||((((!(a==true))||(a==true))&&(((!(a==true))||(a==true))&&true))&&(b&&c)))=((!a)||(b&&c)):=by decide
theorem A1d:∀ a:Bool,(((a&&true)&&true)&&true)=a:=by decide
theorem A1c:∀ a b:Bool,((!(a==true))||((((!(a==true))||(a==true))&&true)&&b))=((!a)||b):=by decide
theorem A31:∀ a b:Bool,((!(a==true))||((((!(a==true))||(a==true))&&(((!(a==true))||(a==true))&&true))&&b))=((!a)||b):=by decide
theorem A30:∀ a b:Bool,((!(a==false))||((((!(a==false))||(a==false))&&true)&&b))=(a||b):=by decide
theorem A3z:∀ a b:Bool,(bif a then true else (!b))=(a||(!b)):=by decide
theorem Ayt:∀ a b c:Bool,((a&&b)&&((a&&c)&&true))=((a&&b)&&(a&&c)):=by decide
theorem A3y:∀ a:Bool,((a&&true)&&true)=a:=by decide
theorem A3x:∀ a b c d e:Bool,(bif (bif (bif (bif a then true else b) then true else c) then true else d) then true else e)=((((a||b)||c)||d)||e):=by decide
theorem Ays:∀ a b:Bool,((!((bif a then true else b)==false))||((((!((bif a then true else b)==false))||((bif a then true else b)==false))&&(((!((bif a then true else b)==false))||((bif a then true else b)==false))&&true))&&true))=true:=by decide
theorem A3w:∀ a b c:Bool,((!((bif a then b else false)==true))||((((!((bif a then b else false)==true))||((bif a then b else false)==true))&&true)&&c))=((!(a&&b))||c):=by decide
theorem A2b:∀ a:Bool,((((!a)||(a==true))&&true)&&true)=true:=by decide
theorem A2a:∀ a:Bool,(((!(a==true))||true)&&true)=true:=by decide
theorem A18:∀ a b c:Bool,(bif a then (bif b then true else c) else false)=(a&&(b||c)):=by decide
theorem A17:∀ a b c:Bool,((!((a==true)&&(b==false)))||((((!((a==true)&&(b==false)))||((a==true)&&(b==false)))&&true)&&c))=((!(a&&(!b)))||c):=by decide
theorem A16:∀ a b c d:Bool,((!((a==true)&&(b==false)))||((((!((a==true)&&(b==false)))||((a==true)&&(b==false)))&&(((!((a==true)&&(b==false)))||((a==true)&&(b==false)))&&true))&&(c&&d)))=((!(a&&(!b)))||(c&&d)):=by decide
theorem Ax5:∀ a b c:Bool,((a&&(b&&(c&&true)))&&true)=(a&&(b&&c)):=by decide
theorem A14:∀ a b:Bool,(((!(bif a then true else b))||((bif a then true else b)==true))&&true)=true:=by decide
theorem A13:∀ a b:Bool,((!((bif a then true else b)==true))||true)=true:=by decide
theorem A12:∀ a b c:Bool,(bif (bif a then true else b) then true else c)=((a||b)||c):=by decide
open Go Go.Den Go.Cv Go.Proofs
set_option maxRecDepth 100000
namespace EqSoft
def soft.Split.Bi:List (Nat × Entry):=[]
def soft.Split.E:Env:=Bn (Bh soft.Split.Bi) (fun _=>false) (fun _=>none) (fun _=>none)
theorem soft.Split.ev (N:Nat) (x:Int):Ci soft.Split.E N f206 (Au f206) [.int .u64 x]=some (.agg [.bool ((D1 .u64 x 63)==(1:Int)),.int .i64 (Ac (Gy .u64 (D1 .u64 x 52) 2047)),.int .u64 (Gy .u64 x 4503599627370495)]):=by kernel_rfl
abbrev _root_.Go.Proofs.S1.soft.Split.Kn:=A8 prog 206 soft.Split.spec
theorem soft.Split.Ae (hk:A4 prog soft.Split.Bi) (h:Hyp soft.Split.E f206 soft.Split.ts soft.Split.pre soft.Split.out):soft.Split.Kn :=
 Ar (A5 hk _ _ _) func206 (by kernel_rfl) (by kernel_rfl) h
def soft.Kind.Bi:List (Nat × Entry):=[(206,soft.Split.spec)]
def soft.Kind.E:Env:=Bn (Bh soft.Kind.Bi) (fun _=>false) (fun _=>none) (fun _=>none)
theorem soft.Kind.ev (N:Nat) (x:Int):Ci soft.Kind.E N f155 (Au f155) [.int .u64 x]=bif (Ao x) then bif (((Nj x)==(2047:Int))&&((C1 x)==(0:Int))) then some (.int .i64 3) else bif ((Nj x)==(2047:Int)) then some (.int .i64 4) else bif (Ba 0 (Nj x)) then some (.int .i64 2) else bif (Ba 0 (C1 x)) then some (.int .i64 1) else some (.int .i64 0) else none :=
 Eq.trans (by kernel_rfl)
 (Fe (C4 (tt0 (Ea x) _ _) rfl rfl) rfl)
abbrev _root_.Go.Proofs.S1.soft.Kind.Kn:=A8 prog 155 soft.Kind.spec
theorem soft.Kind.Ae (hk:A4 prog soft.Kind.Bi) (h:Hyp soft.Kind.E f155 soft.Kind.ts soft.Kind.pre soft.Kind.out):soft.Kind.Kn :=
 Ar (A5 hk _ _ _) func155 (by kernel_rfl) (by kernel_rfl) h
def soft.Sign.Bi:List (Nat × Entry):=[]
def soft.Sign.E:Env:=Bn (Bh soft.Sign.Bi) (fun _=>false) (fun _=>none) (fun _=>none)
theorem soft.Sign.ev (N:Nat) (x:Int):Ci soft.Sign.E N f213 (Au f213) [.int .u64 x]=some (.bool ((D1 .u64 x 63)==(1:Int))):=by kernel_rfl
abbrev _root_.Go.Proofs.S1.soft.Sign.Kn:=A8 prog 213 soft.Sign.spec
theorem soft.Sign.Ae (hk:A4 prog soft.Sign.Bi) (h:Hyp soft.Sign.E f213 soft.Sign.ts soft.Sign.pre soft.Sign.out):soft.Sign.Kn :=
 Ar (A5 hk _ _ _) func213 (by kernel_rfl) (by kernel_rfl) h
def soft.Finite.Bi:List (Nat × Entry):=[(155,soft.Kind.spec)]
def soft.Finite.E:Env:=Bn (Bh soft.Finite.Bi) (fun _=>false) (fun _=>none) (fun _=>none)
theorem soft.Finite.ev (N:Nat) (x:Int):Ci soft.Finite.E N f148 (Au f148) [.int .u64 x]=bif (Ao x) then bif ((A3 x)==(3:Int)) then some (.bool false) else bif ((A3 x)==(4:Int)) then some (.bool false) else some (.bool true) else none:=by kernel_rfl
abbrev _root_.Go.Proofs.S1.soft.Finite.Kn:=A8 prog 148 soft.Finite.spec
theorem soft.Finite.Ae (hk:A4 prog soft.Finite.Bi) (h:Hyp soft.Finite.E f148 soft.Finite.ts soft.Finite.pre soft.Finite.out):soft.Finite.Kn :=
 Ar (A5 hk _ _ _) func148 (by kernel_rfl) (by kernel_rfl) h
def soft.Gh.Bi:List (Nat × Entry):=[]
def soft.Gh.E:Env:=Bn (Bh soft.Gh.Bi) (fun _=>false) (fun _=>none) (fun _=>none)
theorem soft.Gh.ev (N:Nat) (x:Int):Ci soft.Gh.E N f233 (Au f233) [.int .u64 x]=some (.int .u64 (Axr .u64 x 9223372036854775808)):=by kernel_rfl
abbrev _root_.Go.Proofs.S1.soft.Gh.Kn:=A8 prog 233 soft.Gh.spec
theorem soft.Gh.Ae (hk:A4 prog soft.Gh.Bi) (h:Hyp soft.Gh.E f233 soft.Gh.ts soft.Gh.pre soft.Gh.out):soft.Gh.Kn :=
 Ar (A5 hk _ _ _) func233 (by kernel_rfl) (by kernel_rfl) h
def soft.F1.Bi:List (Nat × Entry):=[(206,soft.Split.spec)]
def soft.F1.E:Env:=Bn (Bh soft.F1.Bi) (fun _=>false) (fun _=>none) (fun _=>none)
theorem soft.F1.ev (N:Nat) (x:Int):Ci soft.F1.E N f211 (Au f211) [.int .u64 x]=bif (Ao x) then bif ((Nj x)==(0:Int)) then some (.tup [.int .u64 (C1 x),.int .i64 (-1074:Int)]) else some (.tup [.int .u64 (Jf .u64 (C1 x) 4503599627370496),.int .i64 (Ac ((Nj x)-1075))]) else none:=by kernel_rfl
abbrev _root_.Go.Proofs.S1.soft.F1.Kn:=A8 prog 211 soft.F1.spec
theorem soft.F1.Ae (hk:A4 prog soft.F1.Bi) (h:Hyp soft.F1.E f211 soft.F1.ts soft.F1.pre soft.F1.out):soft.F1.Kn :=
 Ar (A5 hk _ _ _) func211 (by kernel_rfl) (by kernel_rfl) h
def soft.Pack.Bi:List (Nat × Entry):=[(233,soft.Gh.spec)]
def soft.Pack.E (rk:Nat):Env:=Bn (Bh ((239,An8 [.b,.i .u64,.i .i64] soft.Pack.pre soft.Pack.out soft.Pack.mu rk)::soft.Pack.Bi)) (fun _=>false) (fun _=>none) (fun _=>none)
theorem soft.Pack.ev (N rk:Nat) (n:Bool) (m e:Int):Ci (soft.Pack.E rk) N f239 (Au f239) [.bool n,.int .u64 m,.int .i64 e]=bif (m==(0:Int)) then bif n then bif (Ao 0) then some (.int .u64 (D6 0)) else none else some (.int .u64 0) else bif (Ev 9007199254740992 m) then bif ((L9 (D1 .u64 m 1) (Ac (e+1)))&&(Cz ((Qq (D1 .u64 m 1) (Ac (e+1)))<rk))) then some (.int .u64 (Vp n (D1 .u64 m 1) (Ac (e+1)))) else none else bif ((Ba m 4503599627370496)&&(Ba (-1074:Int) e)) then bif ((L9 (B5 .u64 m 1) (Ac (e-1)))&&(Cz ((Qq (B5 .u64 m 1) (Ac (e-1)))<rk))) then some (.int .u64 (Vp n (B5 .u64 m 1) (Ac (e-1)))) else none else bif (Ba m 4503599627370496) then bif n then bif (Ao m) then some (.int .u64 (D6 m)) else none else some (.int .u64 m) else bif (Ev 2047 (Ac (e+1075))) then bif n then bif (Ao 9218868437227405312) then some (.int .u64 (D6 9218868437227405312)) else none else some (.int .u64 9218868437227405312) else bif n then bif (Ao (Jf .u64 (B5 .u64 (Bc (Ac (e+1075))) 52) (Gy .u64 m 4503599627370495))) then some (.int .u64 (D6 (Jf .u64 (B5 .u64 (Bc (Ac (e+1075))) 52) (Gy .u64 m 4503599627370495)))) else none else some (.int .u64 (Jf .u64 (B5 .u64 (Bc (Ac (e+1075))) 52) (Gy .u64 m 4503599627370495))) :=
 Eq.trans (by kernel_rfl)
 (Fe rfl (Fe rfl (Ay (Rt (Ba m 4503599627370496)) (Ay (N6 (Ba m 4503599627370496)) (Ay (X5 (Ba m 4503599627370496)) (C4 (tt1 _ _) rfl rfl))))))
theorem soft.Pack.Ae (hk:A4 prog soft.Pack.Bi) (h:∀ (rk:Nat) (n:Bool) (m e:Int),soft.Pack.pre [.b n,.i m,.i e]=true→soft.Pack.mu [.b n,.i m,.i e]<rk+1→∃ N dv drops,Ci (soft.Pack.E rk) N f239 (Au f239) [.bool n,.int .u64 m,.int .i64 e]=some dv∧Wk drops dv (soft.Pack.out [.b n,.i m,.i e])):A8 prog 239 soft.Pack.spec:=by
 have call:=Q4 (f:=239) func239 (by kernel_rfl) (show f239.body=some (Au f239) by kernel_rfl)
 refine ⟨Akd (E:=soft.Pack.E) func239 (show f239.body=some (Au f239) by kernel_rfl) soft.Pack.mu (fun rk hm=>A5 (.cons ⟨hm,call⟩ hk) _ _ _) fun rk ats dvs he hp hr=>?_,call⟩
 obtain ⟨n,_,_,rfl,rfl,he0⟩:=he.A21
 obtain ⟨m,_,_,rfl,rfl,he1⟩:=he0.Ata
 obtain ⟨e,_,_,rfl,rfl,he2⟩:=he1.Ata
 obtain ⟨rfl,rfl⟩:=he2.Afi
 exact h rk n m e hp hr
abbrev _root_.Go.Proofs.S1.soft.Pack.Kn:Prop:=A8 prog 239 soft.Pack.spec
def soft.Df.hint:Nat→Option Bf
 | 0=>some { keep:=[0,1,2,3,10],objs:=[],boxes:=[] }
 | _=>none
def soft.Df.Bi:List (Nat × Entry):=[(155,soft.Kind.spec),(239,soft.Pack.spec)]
def soft.Df.live:Nat→Option (List Nat)
 | 7=>some [0,1,2,3,10]
 | 12=>some [0,2,3,10,11,12,13,14]
 | 14=>some [0,2,10,11,14]
 | 16=>some [0,2,10,11,14]
 | 18=>some [14,15,16]
 | _=>none
def soft.Df.E:Env:=Bn (Bh soft.Df.Bi) (fun _=>false) soft.Df.hint soft.Df.live
section
variable (N:Nat) (p14_3:Bool) (p15:Int) (M:Nat) (n:Bool) (m e p11 p10_4:Int) (p14_2:Bool) (p10_3 p11_2:Int) (p14_1 r:Bool) (p10_2 p11_1 p12 p13:Int) (p14:Bool) (p10_1 p10:Int)
def soft.Df.L0:Option DV:=Ce soft.Df.E N f212 (Au f212) [1,1,1,0,0] [] M ⟨Ik 111 [(0,.bool n),(1,.int .u64 m),(2,.int .i64 e),(3,.bool r),(10,.int .i64 p10)],[]⟩
def soft.Df.C7:Option DV:=cutAt soft.Df.E N f212 (Au f212) [1,1,1,1] [] ⟨Ik 111 [(0,.bool n),(1,.int .u64 m),(2,.int .i64 e),(3,.bool r),(10,.int .i64 p10_1)],[]⟩
def soft.Df.C12:Option DV:=cutAt soft.Df.E N f212 (Au f212) [1,1,1,1,1,1,1,1,0] [] ⟨Ik 111 [(0,.bool n),(2,.int .i64 e),(3,.bool r),(10,.int .i64 p10_2),(11,.int .u64 p11_1),(12,.int .u64 p12),(13,.int .u64 p13),(14,.bool p14)],[]⟩
def soft.Df.C14:Option DV:=cutAt soft.Df.E N f212 (Au f212) [1,1,1,1,1,1,1,1,1,0] [] ⟨Ik 111 [(0,.bool n),(2,.int .i64 e),(10,.int .i64 p10_3),(11,.int .u64 p11_2),(14,.bool p14_1)],[]⟩
def soft.Df.C16:Option DV:=cutAt soft.Df.E N f212 (Au f212) [1,1,1,1,1,1,1,1,1,1] [] ⟨Ik 111 [(0,.bool n),(2,.int .i64 e),(10,.int .i64 p10_4),(11,.int .u64 p11),(14,.bool p14_2)],[]⟩
def soft.Df.C18:Option DV:=cutAt soft.Df.E N f212 (Au f212) [1,1,1,1,1,1,1,1,1,1,1,1,0] [] ⟨Ik 111 [(14,.bool p14_3),(15,.int .u64 p15),(16,.int .u8 0)],[]⟩
theorem soft.Df.Ax:soft.Df.L0 N (M+1) n m e r p10=bif (decide (0≤p10)) then bif ((Ev 9007199254740992 (D1 .u64 m p10))||(Ba (Ac (e+p10)) (-1074:Int))) then bif ((Ac (p10+1))==(63:Int)) then soft.Df.C7 N n m e r (Ac (p10+1)) else soft.Df.L0 N M n m e r (Ac (p10+1)) else soft.Df.C7 N n m e r p10 else none :=
 Eq.trans (by kernel_rfl)
 (Fe (Ay (Z0 (Ev 9007199254740992 (D1 .u64 m p10))) (Ay (Z0 (Ev 9007199254740992 (D1 .u64 m p10))) (Ay (tt8 (Ev 9007199254740992 (D1 .u64 m p10))) (Ay (Yt (Ev 9007199254740992 (D1 .u64 m p10))) (Ay (tt6 (Ev 9007199254740992 (D1 .u64 m p10))) (C4 (tt5 _ _) rfl rfl)))))) rfl)
theorem soft.Df.A24:soft.Df.C7 N n m e r p10_1=bif (decide (0≤p10_1)) then bif (decide (0≤p10_1)) then bif (Ba 0 p10_1) then bif (decide (0≤(Ac (p10_1-1)))) then soft.Df.C12 N n e r p10_1 (D1 .u64 m p10_1) (Gy .u64 m (Bc ((B5 .u64 1 p10_1)-1))) (B5 .u64 1 (Ac (p10_1-1))) (bif ((Gy .u64 m (Bc ((B5 .u64 1 p10_1)-1)))==(0:Int)) then (!r) else false) else none else soft.Df.C12 N n e r p10_1 (D1 .u64 m p10_1) (Gy .u64 m (Bc ((B5 .u64 1 p10_1)-1))) 0 (bif ((Gy .u64 m (Bc ((B5 .u64 1 p10_1)-1)))==(0:Int)) then (!r) else false) else none else none :=
 Eq.trans ((Sm _ _ _ _ _ _ _).trans (by kernel_rfl))
 (C4 (Cr _) (C4 (Cr _) (Fe (Fe (Ay (Rt ((Gy .u64 m (Bc ((B5 .u64 1 p10_1)-1)))==(0:Int))) (Ay (N6 ((Gy .u64 m (Bc ((B5 .u64 1 p10_1)-1)))==(0:Int))) (Ay (X5 ((Gy .u64 m (Bc ((B5 .u64 1 p10_1)-1)))==(0:Int))) rfl))) rfl) (Ay (Rt ((Gy .u64 m (Bc ((B5 .u64 1 p10_1)-1)))==(0:Int))) (Ay (N6 ((Gy .u64 m (Bc ((B5 .u64 1 p10_1)-1)))==(0:Int))) (Ay (X5 ((Gy .u64 m (Bc ((B5 .u64 1 p10_1)-1)))==(0:Int))) rfl)))) rfl) rfl)
theorem soft.Df.A0h:soft.Df.C12 N n e r p10_2 p11_1 p12 p13 p14=bif ((Ba 0 p10_2)&&((Ba p13 p12)||((p12==p13)&&(r||((Gy .u64 p11_1 1)==(1:Int)))))) then soft.Df.C14 N n e p10_2 (Bc (p11_1+1)) p14 else soft.Df.C14 N n e p10_2 p11_1 p14 :=
 Eq.trans ((Sm _ _ _ _ _ _ _).trans (by kernel_rfl))
 (Ay (Rt (Ba 0 p10_2)) (Ay (Rt (Ba 0 p10_2)) (Ay (Ank (Ba 0 p10_2)) (Ay (N6 (Ba 0 p10_2)) (Ay (Aqz (Ba 0 p10_2) (Ba p13 p12)) (Ay (Aqz (Ba 0 p10_2) (Ba p13 p12)) (Ay (A10 (Ba 0 p10_2) (Ba p13 p12)) (Ay (A11 (Ba 0 p10_2) (Ba p13 p12)) (Ay (A4g (Ba 0 p10_2) (Ba p13 p12) (p12==p13)) (Ay (A4h (Ba 0 p10_2) (Ba p13 p12) (p12==p13)) (Ay (A4i (Ba 0 p10_2) (Ba p13 p12) (p12==p13) r) (Ay (A15 (Ba 0 p10_2) (Ba p13 p12) (p12==p13) r) (Ay (A15 (Ba 0 p10_2) (Ba p13 p12) (p12==p13) r) (Ay (A4j (Ba 0 p10_2) (Ba p13 p12) (p12==p13) r) (Ay (A4k (Ba 0 p10_2) (Ba p13 p12) (p12==p13)) (Ay (A19 (Ba 0 p10_2) (Ba p13 p12)) (Ay (X5 (Ba 0 p10_2)) (C4 (A4l _ _ _ _ _) rfl rfl))))))))))))))))))
theorem soft.Df.A0g:soft.Df.C14 N n e p10_3 p11_2 p14_1=bif (Ba (Ac (e+p10_3)) (-1074:Int)) then soft.Df.C16 N n e 0 p10_3 p14_1 else soft.Df.C16 N n e p11_2 p10_3 p14_1:=(Sm _ _ _ _ _ _ _).trans (by kernel_rfl)
theorem soft.Df.A0f:soft.Df.C16 N n e p11 p10_4 p14_2=bif (L9 p11 (max (Ac (e+p10_4)) (-1074:Int))) then soft.Df.C18 N p14_2 (Vp n p11 (max (Ac (e+p10_4)) (-1074:Int))) else none:=(Sm _ _ _ _ _ _ _).trans (by kernel_rfl)
theorem soft.Df.A0d:soft.Df.C18 N p14_3 p15=bif ((!p14_3)||((Tt .u64 p15 9223372036854775808)==(9218868437227405312:Int))) then bif (Ao p15) then bif ((A3 p15)==(3:Int)) then some (.tup [.int .u64 p15,.int .u8 5]) else bif ((A3 p15)==(0:Int)) then bif ((A3 p15)==(0:Int)) then some (.tup [.int .u64 p15,.int .u8 3]) else some (.tup [.int .u64 p15,.int .u8 1]) else bif ((A3 p15)==(1:Int)) then some (.tup [.int .u64 p15,.int .u8 3]) else some (.tup [.int .u64 p15,.int .u8 1]) else none else some (.tup [.int .u64 p15,.int .u8 0]) :=
 Eq.trans ((Sm _ _ _ _ _ _ _).trans (by kernel_rfl))
 (Ay (Agx p14_3) (Ay (Wz p14_3) (Ay (Wz p14_3) (Ay (Agy p14_3) (C4 (Ayz _ _) rfl rfl)))))
theorem soft.Df.ev:Ci soft.Df.E N f212 (Au f212) [.bool n,.int .u64 m,.int .i64 e,.bool r]=bif ((m==(0:Int))&&(!r)) then bif (L9 0 (-1074:Int)) then some (.tup [.int .u64 (Vp n 0 (-1074:Int)),.int .u8 0]) else none else soft.Df.L0 N N n m e r 0 :=
 Eq.trans (by kernel_rfl)
 (Ay (Rt (m==(0:Int))) (Ay (N6 (m==(0:Int))) (Ay (X5 (m==(0:Int))) (C4 (A4f _ _) rfl rfl))))
end
abbrev _root_.Go.Proofs.S1.soft.Df.Kn:=A8 prog 212 soft.Df.spec
theorem soft.Df.Ae (hk:A4 prog soft.Df.Bi) (h:Hyp soft.Df.E f212 soft.Df.ts soft.Df.pre soft.Df.out):soft.Df.Kn :=
 Ar (A5 hk _ _ _) func212 (by kernel_rfl) (by kernel_rfl) h
end EqSoft
open Go Go.Den Go.Cv Go.Proofs
theorem Ag {a b:Bool}:(a&&b)=true↔a=true∧b=true:=by simp
theorem Ame {n:Nat} (hn:n<2^64):((D1 .u64 (n:Int) (63:Int))==(1:Int))=Ea n:=by
 rw [show (63:Int)=((63:Nat):Int) from rfl,H8 .u64 n 63 (by decide)]
 unfold Ea Br
 rw [A5n,A51]
 simp only [beq_iff_eq,A5s]
 omega
theorem Av7 {n:Nat} (hn:n<2^64):Ac (Gy .u64 (D1 .u64 (n:Int) (52:Int)) (2047:Int))=Nj n:=by
 rw [show (52:Int)=((52:Nat):Int) from rfl,H8 .u64 n 52 (by decide),show (2047:Int)=((2^11-1:Nat):Int) from rfl,I7 11 (by omega) (by decide)]
 unfold Nj Dx
 rw [A5n,Ap (by omega) (by omega)]
theorem Atj {n:Nat} (hn:n<2^64):Gy .u64 (n:Int) (4503599627370495:Int)=C1 n:=by
 rw [show (4503599627370495:Int)=((2^52-1:Nat):Int) from rfl,I7 52 hn (by decide)]
 unfold C1 C2
 rw [A5n]
theorem soft.Split.known:soft.Split.Kn:=EqSoft.soft.Split.Ae .nil fun x hp=>by
 obtain ⟨n,rfl,hn⟩:=Cb (x:=x) hp
 refine ⟨0,soft.Split.out [.i n],[],?_,Wk.M9 (.cons .bool (.cons .int (.cons .int .nil)))⟩
 rw [EqSoft.soft.Split.ev,Ame hn,Av7 hn,Atj hn]
 rfl
theorem soft.Kind.known:soft.Kind.Kn:=EqSoft.soft.Kind.Ae (.cons soft.Split.known .nil) fun x hp=>by
 obtain ⟨n,rfl,hn⟩:=Cb (x:=x) hp
 refine ⟨0,soft.Kind.out [.i n],[],?_,.int⟩
 rw [EqSoft.soft.Kind.ev,Ck hn]
 show _=some (DV.int .i64 (A3 n))
 unfold A3 Aj Nj C1
 simp only [A5n,A5l,Aw]
 have:=Kz n
 by_cases h1:Dx n=2047
 ·by_cases h2:C2 n=0
  ·simp [h1,h2]
  ·have:((C2 n:Int)==0)=false:=by simp; exact h2
   simp [h1,this,h2]
 ·have h1':((Dx n:Int)==2047)=false:=by simp; omega
  rw [h1']
  by_cases h3:0<Dx n
  ·simp [h1,h3]
  ·by_cases h4:0<C2 n
   ·simp [h1,h3,h4]
   ·simp [h1,h3,h4]
theorem soft.Sign.known:soft.Sign.Kn:=EqSoft.soft.Sign.Ae .nil fun x hp=>by
 obtain ⟨n,rfl,hn⟩:=Cb (x:=x) hp
 refine ⟨0,soft.Sign.out [.i n],[],?_,.bool⟩
 rw [EqSoft.soft.Sign.ev,Ame hn]
 rfl
theorem Abi (n:Nat):H0 n=!(decide (Aj n=3)||decide (Aj n=4)):=by
 have:=Kz n
 unfold H0 Aj
 by_cases h1:Dx n=2047
 ·by_cases h2:C2 n=0<;>simp [h1,h2]
 ·have:Dx n<2047:=by omega
  by_cases h3:0<Dx n
  ·simp [h1,h3,this]
  ·by_cases h4:0<C2 n<;>simp [h1,h3,h4,this]
theorem soft.Finite.known:soft.Finite.Kn:=EqSoft.soft.Finite.Ae (.cons soft.Kind.known .nil) fun x hp=>by
 obtain ⟨n,rfl,hn⟩:=Cb (x:=x) hp
 refine ⟨0,soft.Finite.out [.i n],[],?_,.bool⟩
 rw [EqSoft.soft.Finite.ev,Ck hn]
 show _=some (DV.bool (Dm n))
 unfold Dm A3
 rw [A5n,Abi]
 by_cases h3:Aj n=3
 ·simp [h3]
 ·by_cases h4:Aj n=4
  ·simp [h4]
  ·have e3:((Aj n:Int)==3)=false:=by simp; omega
   have e4:((Aj n:Int)==4)=false:=by simp; omega
   simp [h3,h4,e3,e4]
theorem Aou {n:Nat} (hn:n<2^64):Axr .u64 (n:Int) (9223372036854775808:Int)=D6 n:=by
 rw [show (9223372036854775808:Int)=((2^63:Nat):Int) from rfl,Auh hn (by decide),Au0 hn]
 unfold D6 D5
 rw [A5n]
theorem soft.Gh.known:soft.Gh.Kn:=EqSoft.soft.Gh.Ae .nil fun x hp=>by
 obtain ⟨n,rfl,hn⟩:=Cb (x:=x) hp
 refine ⟨0,soft.Gh.out [.i n],[],?_,.int⟩
 rw [EqSoft.soft.Gh.ev,Aou hn]
 rfl
theorem soft.F1.known:soft.F1.Kn:=EqSoft.soft.F1.Ae (.cons soft.Split.known .nil) fun x hp=>by
 obtain ⟨n,rfl,hn⟩:=Cb (x:=x) hp
 refine ⟨0,soft.F1.out [.i n],[],?_,Wk.Jc (.cons .int (.cons .int .nil))⟩
 rw [EqSoft.soft.F1.ev,Ck hn]
 show _=some (DV.tup [.int .u64 (Bt n),.int .i64 (Bb n)])
 have hf:=Mq n
 have hp:=Kz n
 unfold Bt Bb Nj C1 An Av
 rw [A5n]
 by_cases h:Dx n=0
 ·simp [h]
 ·have e:((Dx n:Int)==0)=false:=by simp; omega
  have e2:Jf .u64 ((C2 n:Nat):Int) (4503599627370496:Int)=((C2 n+2^52:Nat):Int):=by
   rw [show (4503599627370496:Int)=((1*2^52:Nat):Int) from rfl,Apw (by omega) (by omega)]
   congr 1; omega
  rw [e,e2,Ap (by omega) (by omega)]
  simp [h]
end Go.Proofs.S1
end
