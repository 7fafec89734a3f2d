/- A verified evaluator of the program's form and its use for this seat: RootL, ScaleL, SolW, TriL, HouW, HouL, ExaL, SimL, RootM, NorL, SimM. -/
import Derived.Test.YtjbokjpbiobjpaaGreatTD
set_option linter.unusedVariables false
set_option linter.unusedSimpArgs false
noncomputable section
open Int (toNat)
open List (length getD)
namespace Go.Rnd
def S5 (n:Nat):Nat:=Ieee.Datum.rootFrom n (n.log2 / 2+1) 0
theorem As8 (k:Nat):1 <<< k=2^k:=by rw [Nat.shiftLeft_eq,Nat.one_mul]
theorem V5 {n:Nat}:∀ (todo root:Nat),root*root≤n→n<(root+2^todo)*(root+2^todo) →
 Ieee.Datum.rootFrom n todo root*Ieee.Datum.rootFrom n todo root≤n∧n<(Ieee.Datum.rootFrom n todo root+1)*(Ieee.Datum.rootFrom n todo root+1)
 | 0,root,h1,h2=>⟨h1,h2⟩
 | todo+1,root,h1,h2=>by
   unfold Ieee.Datum.rootFrom
   simp only [As8]
   have hp:2^(todo+1)=2^todo+2^todo:=by rw [Nat.pow_succ]; omega
   rw [hp] at h2
   by_cases h:(root+2^todo)*(root+2^todo)≤n
   ·rw [A14 h]
    exact V5 todo _ h (by rw [Nat.add_assoc]; exact h2)
   ·rw [A13 h]
    exact V5 todo _ h1 (by omega)
theorem Re (n:Nat):S5 n*S5 n≤n∧n<(S5 n+1)*(S5 n+1):=by
 refine V5 _ _ (by simp) ?_
 rw [A2r,← A16]
 rcases Nat.eq_zero_or_pos n with rfl | hn
 ·decide
 ·refine (A2x (by omega)).1 ?_
  omega
theorem Afs {a b:Nat} (h:a*a<b*b):a<b:=by
 rcases A2e a b with h1 | h1
 ·exact h1
 ·have:=A2d h1 h1; omega
theorem Z8 {n w:Nat} (h1:w*w≤n) (h2:n<(w+1)*(w+1)):w=S5 n:=by
 obtain ⟨a,b⟩:=Re n
 have c1:=Afs (A2j h1 b)
 have c2:=Afs (A2j a h2)
 omega
theorem Ajh {n w:Nat} (h:w*w≤n):w≤S5 n:=by
 have:=Afs (A2j h (Re n).2)
 omega
def F8 (n:Nat):Nat:=2*S5 n+(if S5 n*S5 n=n then 0 else 1)
theorem V2 (a c:Nat):a*c*(a*c)=a*a*(c*c):=by
 rw [A18,Nat.mul_left_comm c,← A18 a a]
theorem Abw {n:Nat} (d:Nat) (E:Int) (h:2^53≤S5 n) :
 Ca (F8 (n*(2^d*2^d))) (E-d)=Ca (F8 n) E∧flagsOf (F8 (n*(2^d*2^d))) (E-d)=flagsOf (F8 n) E:=by
 have hA:=Cg d
 obtain ⟨h1,h2⟩:=Re n
 unfold F8
 generalize hw:S5 n=w at *
 generalize hc:2^d=c at *
 have hcc:0<c*c:=Nat.mul_pos hA hA
 by_cases h0:w*w=n
 ·have e1:S5 (n*(c*c))=w*c:=by
   refine (Z8 ?_ ?_).symm
   ·rw [V2,h0]; exact A2b _
   ·have:=V2 w c
    rw [h0] at this
    rw [A2l,Nat.mul_add,this]; omega
  rw [e1,V2,h0,A14 rfl,A14 rfl]
  have:=Du (2*w+0) d E
  rw [hc,show (2*w+0)*c=2*(w*c)+0 by rw [A2p,A2p,A18]] at this
  exact this
 ·rw [A13 h0]
  obtain ⟨g1,g2⟩:=Re (n*(c*c))
  have q1:w*c≤S5 (n*(c*c)):=Ajh (by rw [V2]; exact A1t _ h1)
  have q2:S5 (n*(c*c))<(w+1)*c:=by
   refine Afs (A2j g1 ?_)
   rw [V2]
   exact (Nat.mul_lt_mul_right hcc).2 h2
  have q3:S5 (n*(c*c))=w*c→S5 (n*(c*c))*S5 (n*(c*c))≠n*(c*c):=fun h5 h6=>by
   rw [h5,V2] at h6
   exact h0 (Nat.eq_of_mul_eq_mul_right hcc h6)
  generalize hQ:S5 (n*(c*c))=Q at *
  have p1:(2*w+1-1)*c=2*(w*c):=by rw [Nat.add_sub_cancel,A18]
  have p2:(2*w+1+1)*c=2*((w+1)*c):=by rw [show 2*w+1+1=2*(w+1) by omega,A18]
  have od:(2*w+1)%2=1:=by omega
  generalize hV:2*Q+(if Q*Q=n*(c*c) then 0 else 1)=V
  have v1:(2*w+1-1)*2^d<V:=by
   rw [hc,p1,← hV]
   by_cases h5:Q=w*c
   ·rw [A13 (q3 h5)]; omega
   ·split<;>omega
  have v2:V<(2*w+1+1)*2^d:=by
   rw [hc,p2,← hV]
   split<;>omega
  have lV:=Q9 od (by omega) v1 v2
  have hs:54≤(2*w+1).log2:=by rw [Nat.le_log2 (by omega)]; omega
  have ee:E-(d:Int)+d=E:=by omega
  have:=Q2 (E:=E-d) od v1 v2 (by unfold Cj; rw [lV]; omega) (by unfold Cj; omega)
  rw [ee] at this
  exact this
theorem Yg {n t:Nat} (h:2^(t+t)≤n):2^t≤S5 n:=Ajh (by rw [← A16]; exact h)
theorem pow_two (k d:Nat):2^(k+2*d)=2^k*(2^d*2^d):=by rw [A16,Nat.two_mul,A16]
theorem Abx {m k l:Nat} {E F:Int} (h1:2^106≤m*2^k) (h2:2^106≤m*2^l) (he:2*E+k=2*F+l) :
 Ca (F8 (m*2^k)) E=Ca (F8 (m*2^l)) F∧flagsOf (F8 (m*2^k)) E=flagsOf (F8 (m*2^l)) F:=by
 rcases Nat.le_total k l with h | h
 ·obtain ⟨d,rfl⟩:∃ d,l=k+2*d:=⟨(l-k) / 2,by omega⟩
  have:=Abw (n:=m*2^k) d E (Yg (t:=53) h1)
  rw [A18,← pow_two,show E-(d:Int)=F by omega] at this
  exact ⟨this.1.symm,this.2.symm⟩
 ·obtain ⟨d,rfl⟩:∃ d,k=l+2*d:=⟨(k-l) / 2,by omega⟩
  have:=Abw (n:=m*2^l) d F (Yg (t:=53) h2)
  rw [A18,← pow_two,show F-(d:Int)=E by omega] at this
  exact this
def Iy (b:Nat):Nat:=128+(Ay b%2).toNat
def N7 (b:Nat):Nat × Nat :=
 if Ah b=4 then (Le,0)
 else if Ah b=0∨b=Dz then (b,0)
 else if Bk b=true then (Le,16)
 else (Ca (F8 (As b*2^Iy b)) ((Ay b-Iy b) / 2-1),flagsOf (F8 (As b*2^Iy b)) ((Ay b-Iy b) / 2-1))
theorem G2 {b:Nat} (h3:Ah b≠3) (h4:Ah b≠4):As b=0↔Ah b=0:=by
 have:=Kh b
 have:=I9 b
 unfold As
 unfold Ah at *
 split at h3<;>split<;>(try split)<;>(try split)<;>simp_all<;>omega
theorem Uk {b:Nat} (h:Ah b=4):N7 b=(Le,0):=A14 h
theorem M6 {b:Nat} (h4:Ah b≠4) (h:Ah b=0∨b=Dz):N7 b=(b,0):=by unfold N7; rw [A13 h4,A14 h]
theorem Uj {b:Nat} (h4:Ah b≠4) (h:¬ (Ah b=0∨b=Dz)) (hn:Bk b=true):N7 b=(Le,16):=by unfold N7; rw [A13 h4,A13 h,A14 hn]
theorem Yx {b:Nat} (h4:Ah b≠4) (h:¬ (Ah b=0∨b=Dz)) (hn:Bk b=false) :
 N7 b=(Ca (F8 (As b*2^Iy b)) ((Ay b-Iy b) / 2-1),flagsOf (F8 (As b*2^Iy b)) ((Ay b-Iy b) / 2-1)):=by
 unfold N7; rw [A13 h4,A13 h,A13 (by rw [hn]; decide)]
theorem Aua:Bk Dz=false:=by decide
theorem Aq6:Ah Dz=3:=by decide
theorem Lc:D3 Dz=Dz:=by decide
theorem An7 {d:Nat} (h:Ah d=4):D3 d=Le:=A14 h
theorem Afr (b d:Nat) (x:Ieee.Datum) (h:Ieee.double.read b=x):(Ieee.double.sqrt b).getD d=((x.root 54).map Ieee.double.write).getD d:=by
 rw [← h]; rfl
theorem Lp (r:Nat):Bc false r=r:=rfl
def Pe (m:Nat) (i:Int):Nat:=2*54-m.log2+((i-((2*54-m.log2:Nat):Int))%2).toNat
theorem Api {m:Nat} {i:Int} (h:m≠0):(Ieee.Datum.number false m i).root 54=some (.number false (2*Ieee.Datum.rootFrom (m <<< Pe m i) ((m <<< Pe m i).log2 / 2+1) 0+(Ieee.Datum.rootFrom (m <<< Pe m i) ((m <<< Pe m i).log2 / 2+1) 0*Ieee.Datum.rootFrom (m <<< Pe m i) ((m <<< Pe m i).log2 / 2+1) 0 !=m <<< Pe m i).toNat) ((i-Pe m i) / 2-1)):=by
 unfold Ieee.Datum.root Pe
 dsimp only
 rw [A13 h,A13 (by decide)]
theorem Awe {m:Nat} {i:Int} {d:Nat} (h:m≠0) (hlog:m.log2≤52) (r:Int) (k:Nat) (hk:2^106≤m*2^k) (hr:2*r+k=i-2) :
 D3 ((((Ieee.Datum.number false m i).root 54).map Ieee.double.write).getD d)=Ca (F8 (m*2^k)) r:=by
 have hpow:2^m.log2≤m:=Nat.log2_self_le h
 have hmo:108≤m.log2+Pe m i∧(i-Pe m i)%2=0:=by unfold Pe; omega
 rw [Api h,Option.map_some,A21,M4,G3 _ (Jq _ _),Lp]
 generalize Pe m i=more at *
 have g1:2^106≤m*2^more:=by
  have:2^108≤2^(m.log2+more):=A1w (by decide) hmo.1
  rw [A16] at this
  have h5:=A1t (2^more) hpow
  omega
 have pe2:2*((i-(more:Int)) / 2-1)+more=i-2:=by omega
 rw [← (Abx g1 hk (E:=(i-(more:Int)) / 2-1) (F:=r) (by omega)).1,Nat.shiftLeft_eq]
 have e:∀ w:Nat,2*w+(w*w !=m*2^more).toNat=2*w+(if w*w=m*2^more then 0 else 1):=fun w=>by
  by_cases hww:w*w=m*2^more
  ·rw [A14 hww,hww]; simp
  ·rw [A13 hww]
   have:(w*w !=m*2^more)=true:=by simpa using hww
   rw [this]; rfl
 rw [e]
 unfold F8 S5
 rfl
theorem Y6 {b:Nat} (hm:As b≠0):2^106≤As b*2^Iy b∧2*((Ay b-(Iy b:Int)) / 2-1)+Iy b=Ay b-2:=by
 refine ⟨?_,by unfold Iy; omega⟩
 have:2^128≤2^Iy b:=A1w (by decide) (by unfold Iy; omega)
 have h5:=A2d (show 1≤As b by omega) this
 omega
theorem Agp {b:Nat} (hm:As b≠0):(As b).log2≤52:=by
 have:=(A2x hm).2 (show As b<2^53 from Ff b)
 omega
theorem Apj (s:Bool) (f:Nat):(Ieee.Datum.nan s f).root 54=none:=rfl
theorem Amg:(Ieee.Datum.infinity true).root 54=none:=rfl
theorem Amh:(Ieee.Datum.infinity false).root 54=some (.infinity false):=rfl
theorem Amf (s:Bool) (i:Int):(Ieee.Datum.number s 0 i).root 54=some (.number s 0 i):=rfl
theorem Aio {m:Nat} (i:Int) (h:m≠0):(Ieee.Datum.number true m i).root 54=none:=by
 unfold Ieee.Datum.root
 dsimp only
 rw [A13 h,A14 rfl]
theorem T4 {d:Nat} (hd:Ah d=4):D3 ((Option.map Ieee.double.write none).getD d)=Le:=An7 hd
theorem Ami {b:Nat} (hb:b<2^64) {d:Nat} (hd:Ah d=4):D3 ((Ieee.double.sqrt b).getD d)=(N7 b).1:=by
 rw [Afr b d _ (I8 hb)]
 by_cases h4:Ah b=4
 ·rw [Uk h4,Hf h4,Apj,T4 hd]
 by_cases h3:Ah b=3
 ·rw [Eo h3]
  have hw:=Ll hb h3
  cases hn:Bk b with
  | true =>
    have hne:¬ (Ah b=0∨b=Dz):=by
     intro h
     rcases h with h | h
     ·omega
     ·rw [h,Aua] at hn; cases hn
    rw [Uj h4 hne hn,Amg,T4 hd]
  | false =>
    rw [hn,Lp] at hw
    rw [M6 h4 (.inr hw.symm),Amh,Option.map_some,A21,Al1,Lp,Lc]
    exact hw
 rw [En h3 h4]
 have hz:=G2 h3 h4
 by_cases h0:Ah b=0
 ·have hm:=hz.2 h0
  have:=Aag hb h4
  rw [hm] at this
  rw [M6 h4 (.inl h0),hm,Amf,Option.map_some,A21,M4,G3 _ (Jq _ _),this]
 have hi:¬ (Ah b=0∨b=Dz):=by
  intro h
  rcases h with h | h
  ·exact h0 h
  ·rw [h,Aq6] at h3; exact h3 rfl
 have hm:As b≠0:=fun h=>h0 (hz.1 h)
 cases hn:Bk b with
 | true=>rw [Uj h4 hi hn,Aio _ hm,T4 hd]
 | false =>
   obtain ⟨k1,k2⟩:=Y6 hm
   rw [Yx h4 hi hn,Awe hm (Agp hm) _ _ k1 k2]
end Go.Rnd
namespace Go.Rnd
def E5 (b:Nat) (n:Int):Nat × Nat :=
 if Ah b=4 then (Le,0)
 else if Ah b=3∨Ah b=0 then (b,0)
 else (Bc (Bk b) (Ca (As b) (Ay b+n)),flagsOf (As b) (Ay b+n))
theorem Al6 {V:Nat} {E:Int} (h0:V≠0) (h:E+V.log2+1≤-1075):Ca V E=0∧flagsOf V E=3:=by
 have hl:Cj V E=-1074:=by unfold Cj; omega
 obtain ⟨k,hk⟩:∃ k:Nat,(-1074:Int)-E=((k:Nat):Int):=⟨(-1074-E).toNat,by omega⟩
 have hV:V<2^(V.log2+1):=(A2x h0).1 (by omega)
 have hp:2^(V.log2+1)*2≤2^k:=by rw [← Nat.pow_succ]; exact A1w (by decide) (by omega)
 have e1:V*2^(-((-1074:Int)-E)).toNat=V:=by rw [hk]; simp
 have e2:((-1074:Int)-E).toNat=k:=by rw [hk]; rfl
 have hk2:kept V E=0:=by
  unfold kept Ke
  rw [hl,e1,e2]
  unfold Nm
  rw [Nat.div_eq_of_lt (by omega),A1u (by omega),A13 (by omega)]
 have hx:exact V E=false:=by
  unfold exact Nd
  rw [hl,e1,e2,A1u (by omega)]
  exact A1m h0
 have hr:Ca V E=0:=by
  unfold Ca
  rw [A13 h0,hl,hk2]
  rfl
 refine ⟨hr,?_⟩
 unfold flagsOf
 rw [A13 h0,hr,hx]
 rfl
theorem Am1 (n:Bool) {m:Nat} {e:Int} {more:Bool} (hm:m<2^53) (h0:m≠0∨more=true) (he:e≤-1130) :
 Gr n m e more=(Bc n 0,3):=by
 have h1:more.toNat≤1:=by cases more<;>decide
 have hV:4*m+more.toNat≠0:=by
  rcases h0 with h | h
  ·omega
  ·rw [h]; simp
 have hl:(4*m+more.toNat).log2≤54:=by
  have:=(A2x hV).2 (show 4*m+more.toNat<2^55 by omega); omega
 have:=Al6 hV (E:=e-2) (by omega)
 unfold Gr
 rw [this.1,this.2]
theorem Aqb (n:Bool):Gr n 0 (-1074) true=(Bc n 0,3):=by
 cases n<;>decide +kernel
theorem Aij {b:Nat} {n:Int} (h4:Ah b≠4) (h:¬ (Ah b=3∨Ah b=0)) (hn:Ay b+n≤-1130):E5 b n=(Bc (Bk b) 0,3):=by
 have hm:As b≠0:=fun h5=>h (.inr ((G2 (by omega) h4).1 h5))
 have:=Al6 hm (E:=Ay b+n) (by have:=Agp hm; omega)
 unfold E5
 rw [A13 h4,A13 h,this.1,this.2]
theorem V4 {b:Nat} {n:Int} (h4:Ah b≠4) (h:¬ (Ah b=3∨Ah b=0)):E5 b n=(Bc (Bk b) (Ca (As b) (Ay b+n)),flagsOf (As b) (Ay b+n)):=by
 unfold E5; rw [A13 h4,A13 h]
def Me (b:Nat):Int:=if Ig b=true∧Ah b≠0 then ((As b).log2:Int)+Ay b else 0
def E3 (b:Nat):Nat:=b%2^63
def Agd (a b:Nat):Int:=if Ah a=4∨Ah b=4 then 0 else if Gw a<Gw b then -1 else if Gw b<Gw a then 1 else 0
def Aba (a b:Nat):Bool:=!(decide (Ah a=4∨Ah b=4))
def Ai8 (a b:Nat):Nat:=if Aba a b=true then (if Agd a b<0 then b else a) else Le
end Go.Rnd
namespace Go.Rnd
open Go.Den
def Abz (b:Int):Int:=Gw b.toNat
def Tp (a b:Int):Int:=Agd a.toNat b.toNat
def Ab3 (a b:Int):Bool:=Aba a.toNat b.toNat
def It (x:Int):Int:=E3 x.toNat
def Pf (a b:Int):Int:=Ai8 a.toNat b.toNat
def Bp (x n:Int):Int:=(E5 x.toNat n).1
def Ata (x n:Int):Int:=(E5 x.toNat n).2
def Di (x n:Int):Bool:=Af x&&Cz (-2300≤n∧n≤2300)
def Bs (x:Int):Int:=Me x.toNat
def Ld:List Int→Nat→Nat
 | [],m=>m
 | x::l,m=>if Ah x.toNat=4 then Le else Ld l (max m (E3 x.toNat))
def Bg (l:List Int):Int:=Ld l 0
def C2 (l:List Int):Bool:=l.all Ck
def B9 (r c:Int) (l:List Int):Int:=if A2 r c l=true then (if C2 l=true then 0 else 4) else 1
def Mr (c:Int) (l:List Int) (n:Nat):Bool:=(List.range n).any fun i:Nat=>decide (A5 (Eb c l (i:Int) (i:Int))=0)
def Mg (r c:Int) (l:List Int) (p q:Int) (m:List Int):Int :=
 if B9 r c l≠0 then B9 r c l else if B9 p q m≠0 then B9 p q m
 else if r≠c∨r≠p then 3 else if Mr c l r.toNat=true then 5 else 0
def Oe (c:Int) (l:List Int) (i:Int):Int→Int→List Int→Int
 | s,_,[]=>s
 | s,j,x::xs=>Oe c l i (Ec s (C5 (Eb c l i j) x)) (j+1) xs
def Yn (c:Int) (l:List Int) (b:Nat→Int) (n:Nat):Nat→List Int
 | 0=>[]
 | k+1=>E4 (Oe c l ((n-1-k:Nat):Int) (b (n-1-k)) ((n-k:Nat):Int) (Yn c l b n k)) (Eb c l ((n-1-k:Nat):Int) ((n-1-k:Nat):Int))::Yn c l b n k
def loL (c:Int) (l:List Int) (b:Nat→Int):Nat→List Int
 | 0=>[]
 | k+1=>loL c l b k++[E4 (Oe c l (k:Int) (b k) 0 (loL c l b k)) (Eb c l (k:Int) (k:Int))]
def upG (c:Int) (l:List Int) (q:Int) (m:List Int) (n w:Nat):List Int:=Bv n w fun i j=>(Yn c l (fun i=>Eb q m (i:Int) (j:Int)) n n).getD i 0
def loG (c:Int) (l:List Int) (q:Int) (m:List Int) (n w:Nat):List Int:=Bv n w fun i j=>(loL c l (fun i=>Eb q m (i:Int) (j:Int)) n).getD i 0
def Kj (r c:Int) (l:List Int):MX:=if C2 l=true then (r,c,l,0) else Ls 2
def Ua (r c:Int) (l:List Int) (p q:Int) (m:List Int):MX :=
 if Mg r c l p q m≠0 then Ls (Mg r c l p q m) else Kj r q (upG c l q m r.toNat q.toNat)
def loX (r c:Int) (l:List Int) (p q:Int) (m:List Int):MX :=
 if Mg r c l p q m≠0 then Ls (Mg r c l p q m) else Kj r q (loG c l q m r.toNat q.toNat)
def J5 (c:Int) (l:List Int) (n:Nat):List Int:=(List.range n).map fun i:Nat=>It (Eb c l (i:Int) (i:Int))
def Ard (d:List Int):Bool:=d.any fun x=>!(decide (Tp (Bp (Bg d) (-40)) x<0))
def Qd (r c:Int) (l:List Int):Bool:=Ard (J5 c l (min r.toNat c.toNat))
def Lz (r c:Int) (l:List Int):Bool × Int:=if B9 r c l≠0 then (false,B9 r c l) else (Qd r c l,0)
def Adg (r c:Int) (l:List Int) (p q:Int) (m:List Int):Bool:=(A2 r c l&&A2 p q m)&&((Ai l&&Ai m)&&Cz (r=c∧r=p))
def Jd (n:Nat):List Int:=Bv n n fun i k=>N3 (i:Int) (k:Int)
def C8 (r c:Int) (l:List Int) (p q:Int) (m:List Int):MX :=
 if (Fe r c l).2.2.2≠0 then Ls (Fe r c l).2.2.2 else N2 (Fe r c l).1 (Fe r c l).2.1 (Fe r c l).2.2.1 p q m
end Go.Rnd
namespace Go.Rnd
open Go.Den
theorem Aum {a b:Nat}:(T0 a b).1<2^64:=by
 have h1:Dz<2^63:=by decide
 have hs:∀ (s:Bool) {r:Nat},r<2^63→Bc s r<2^64:=by
  intro s r h
  unfold Bc
  cases s
  ·rw [A13 (by decide)]; omega
  ·rw [A14 rfl]; omega
 have hN:Le<2^64:=by decide
 unfold T0
 by_cases c1:Ah a=4∨Ah b=4
 ·rw [A14 c1]; exact hN
 rw [A13 c1]
 by_cases c2:Ah a=Ah b∧(Ah a=3∨Ah a=0)
 ·rw [A14 c2]; exact hN
 rw [A13 c2]
 by_cases c3:Ah a=3
 ·rw [A14 c3]; exact hs _ h1
 rw [A13 c3]
 by_cases c4:Ah b=3∨Ah a=0
 ·rw [A14 c4]; exact hs _ (by decide)
 rw [A13 c4]
 by_cases c5:Ah b=0
 ·rw [A14 c5]; exact hs _ h1
 rw [A13 c5]
 exact hs _ (Ps _ _)
theorem Aep (a b:Int):Af (E4 a b)=true:=B5 Aum
theorem Oq {a b:Int} (ha:Af a=true) (hb:Af b=true):Af (Ec a b)=true:=by
 obtain ⟨x,rfl,hx⟩:=Bm ha
 obtain ⟨y,rfl,hy⟩:=Bm hb
 exact B5 (Qp (by rw [A1j]; exact hx) (Sa (by rw [A1j]; exact hy))).1
theorem Gq {r c:Nat} {f:Nat→Nat→Int} (h:∀ i k,Af (f i k)=true):Ai (Bv r c f)=true:=Ar.2 fun x hx=>by
 obtain ⟨j,_,rfl⟩:=List.mem_map.1 hx
 exact h _ _
theorem Io (a b:Int):Af (C5 a b)=true:=B5 Oa
theorem Nf (c:Int) (l:List Int) (b:Nat→Int) (n:Nat):∀ k,(Yn c l b n k).length=k
 | 0=>rfl
 | k+1=>by rw [Yn,List.length_cons,Nf c l b n k]
theorem Ah7 (c:Int) (l:List Int) (b:Nat→Int) (n:Nat):∀ k,∀ x∈Yn c l b n k,Af x=true
 | 0,x,h=>by cases h
 | k+1,x,h=>by
   rw [Yn] at h
   rcases List.mem_cons.1 h with rfl | h
   ·exact Aep _ _
   ·exact Ah7 c l b n k x h
theorem Aff (c:Int) (l:List Int) (b:Nat→Int) (n k:Nat):∀ d,(Yn c l b n (k+d)).drop d=Yn c l b n k
 | 0=>rfl
 | d+1=>by
   rw [← Nat.add_assoc,Yn,List.drop_succ_cons]
   exact Aff c l b n k d
theorem Afe {c:Int} {l:List Int} {b:Nat→Int} {n k:Nat} (h:k≤n):(Yn c l b n n).drop (n-k)=Yn c l b n k:=by
 have:=Aff c l b n k (n-k)
 rw [Nat.add_sub_cancel' h] at this
 exact this
theorem Akc {c:Int} {l:List Int} {b:Nat→Int} {n i:Nat} (h:i<n) :
 (Yn c l b n n).getD i 0=E4 (Oe c l (i:Int) (b i) ((i+1:Nat):Int) ((Yn c l b n n).drop (i+1))) (Eb c l (i:Int) (i:Int)):=by
 have e1:=Afe (c:=c) (l:=l) (b:=b) (n:=n) (k:=n-i) (by omega)
 have e2:=Afe (c:=c) (l:=l) (b:=b) (n:=n) (k:=n-i-1) (by omega)
 rw [show n-(n-i)=i by omega] at e1
 rw [show n-(n-i-1)=i+1 by omega] at e2
 rw [e2]
 have e3:(Yn c l b n n).getD i 0=((Yn c l b n n).drop i).getD 0 0:=by
  rw [A1r,A1r,List.getElem?_drop,A2p]
 rw [e3,e1,show n-i=(n-i-1)+1 by omega,Yn]
 have e4:n-1-(n-i-1)=i:=by omega
 have e5:n-(n-i-1)=i+1:=by omega
 rw [e4,e5]
 rfl
theorem Yh {l:List Int} (h:∀ x∈l,Af x=true) (i:Nat):Af (l.getD i 0)=true:=by
 rw [A1r]
 cases hi:l[i]? with
 | none=>exact B5 (n:=0) (by decide)
 | some x=>exact h x (List.mem_of_getElem? hi)
theorem Ace {c:Int} {l:List Int} {i s j:Int} {xs:List Int} {t:Nat} (h:t<xs.length):Oe c l i s j (xs.drop t)=Oe c l i (Ec s (C5 (Eb c l i j) (xs.getD t 0))) (j+1) (xs.drop (t+1)):=by
 rw [List.drop_eq_getElem_cons h,Oe,A1r,A1y h]; rfl
theorem Aqu (c:Int) (l:List Int) (b:Nat→Int):∀ k,∀ x∈loL c l b k,Af x=true
 | 0,x,h=>by cases h
 | k+1,x,h=>by
   rw [loL] at h
   rcases List.mem_append.1 h with h | h
   ·exact Aqu c l b k x h
   ·rw [List.mem_singleton.1 h]; exact Aep _ _
end Go.Rnd
namespace Go.Rnd
open Go.Den
def Awi:Int:=4607182418800017408
def F3 (x:Int):Int:=(N7 x.toNat).1
def Q1 (x:Int):Int:=(N7 x.toNat).2
def Ui (k:Int):Int→List Int→Int
 | s,[]=>s
 | s,x::l=>Ui k (Fg s (C5 (Bp x k) (Bp x k))) l
def Da (x:List Int):Int :=
 if Bg x=0∨Ck (Bg x)=false then Bg x else Bp (F3 (Ui (-Bs (Bg x)) 0 x)) (Bs (Bg x))
def Dr (l:List Int):Bool:=l.all fun x=>decide (A5 x=0)
def Mj:List Int→Int
 | []=>0
 | x::l=>if A5 x=0 then Mj l else x
def Bo (l:List Int) (k:Int):List Int:=l.map fun x=>Bp x k
def I7 (n:Nat) (f:Nat→Int):List Int:=Awi::(List.range (n-1)).map fun j=>f (j+1)
def Xv (x:List Int):Int:=if D0 (Mj x)=true then Da (Bo x (-Bs (Bg x))) else Cr (Da (Bo x (-Bs (Bg x))))
def Eu (x:List Int):Int:=Bp (Xv x) (Bs (Bg x))
def Tx (x:List Int):Int:=Bp (x.getD 0 0) (-Bs (Bg x))
def P6 (x:List Int):List Int:=I7 x.length fun j=>E4 (Bp (x.getD j 0) (-Bs (Bg x))) (Ec (Tx x) (Xv x))
def Qv (x:List Int):Int:=E4 (Ec (Xv x) (Tx x)) (Xv x)
def Jm (x:List Int):List Int × Int × Int × Int :=
 if Dr (x.drop 1)=true then (I7 x.length fun _=>0,0,x.getD 0 0,0)
 else if Ck (Eu x)=true then (P6 x,Qv x,Eu x,0) else ([],0,0,2)
def Cf (x:List Int):List Int × Int × Int × Int :=
 if x.length=0∨64<x.length then ([],0,0,3) else if C2 x=true then Jm x else ([],0,0,4)
def Ct (c:Int) (l:List Int) (b i:Int) (n:Nat):List Int:=(List.range n).map fun j:Nat=>Eb c l (i+(j:Int)) b
def Rp (c:Int) (l:List Int) (i:Int) (v:List Int) (t b:Int):Int:=C5 t (Je v (Ct c l b i v.length))
def Mh (c:Int) (l:List Int) (i k:Int) (v:List Int) (t a b:Int):Int :=
 if k≤b∧i≤a∧a<i+v.length then Ec (Eb c l a b) (C5 (Rp c l i v t b) (v.getD (a-i).toNat 0)) else Eb c l a b
def E2 (r c:Nat) (l:List Int) (i k:Int) (v:List Int) (t:Int):List Int:=Bv r c fun a b=>Mh (c:Int) l i k v t (a:Int) (b:Int)
def H5 (r c i k:Int) (v:List Int):Bool:=decide (0≤i∧(v.length:Int)≤r∧i≤r-v.length∧0≤k∧k≤c)
def La (r c:Nat) (l:List Int) (j:Nat) (x:Int):List Int:=Bv r c fun a b=>if b=j∧j≤a then (if a=j then x else 0) else Eb (c:Int) l (a:Int) (b:Int)
def Ev (r c:Nat) (l:List Int) (j:Nat):List Int:=Ct (c:Int) l (j:Int) (j:Int) (r-j)
def Wj (r c:Nat) (l:List Int) (j:Nat):List Int:=La r c (E2 r c l (j:Int) (j:Int) (Cf (Ev r c l j)).1 (Cf (Ev r c l j)).2.1) j (Cf (Ev r c l j)).2.2.1
def J4 (r c:Nat):Nat→Nat→List Int→Option (List Int × List (List Int × Int))
 | 0,_,l=>some (l,[])
 | n+1,j,l=>if (Cf (Ev r c l j)).2.2.2=0 then
  (J4 r c n (j+1) (Wj r c l j)).map fun x=>(x.1,((Cf (Ev r c l j)).1,(Cf (Ev r c l j)).2.1)::x.2) else none
def Ih (r c:Nat):Nat:=min c (r-1)
def Gs (n:Nat):Nat→List (List Int × Int)→List Int→List Int
 | _,[],q=>q
 | j,m::ms,q=>E2 n n (Gs n (j+1) ms q) (j:Int) 0 m.1 m.2
def Jg (r c:Nat) (l:List Int):Option (List Int × List (List Int × Int)):=J4 r c (Ih r c) 0 l
def K9 (r c:Nat) (l:List Int):List Int:=match Jg r c l with
 | some x=>Gs r 0 x.2 (Jd r)
 | none=>[]
def Jo (r c:Nat) (l:List Int):List Int:=match Jg r c l with
 | some x=>x.1
 | none=>[]
def Gj (r c:Int) (l:List Int):MX:=if (Jg r.toNat c.toNat l).isSome=true then (r,c,Jo r.toNat c.toNat l,0) else Ls 2
def Zu (ms:List (List Int × Int)):List (List DV):=ms.map fun m=>[.ints .arg .u64 m.1,.int .u64 m.2]
def K6 (r c:Int) (l:List Int):List (List DV):=match Jg r.toNat c.toNat l with
 | some x=>Zu x.2
 | none=>[]
def Vd (m:Int):Int:=S5 (m.toNat*2^64)
def Ve (m:Int):Bool:=decide (S5 (m.toNat*2^64)*S5 (m.toNat*2^64)=m.toNat*2^64)
def Qs:List Int→Int→Int
 | [],_=>0
 | x::l,i=>if A5 x=0 then Qs l (i+1) else i
def Kk (r c:Nat) (l:List Int):Bool:=(Jg r c l).isSome&&(C2 (K9 r c l)&&C2 (Jo r c l))
def E0 (r c:Int) (l:List Int):Int:=if B9 r c l≠0 then B9 r c l else if Kk r.toNat c.toNat l=true then 0 else 2
def qX (r c:Int) (l:List Int):MX:=if E0 r c l≠0 then Ls (E0 r c l) else (r,r,K9 r.toNat c.toNat l,0)
def rX (r c:Int) (l:List Int):MX:=if E0 r c l≠0 then Ls (E0 r c l) else (r,c,Jo r.toNat c.toNat l,0)
def D8 (r c:Int) (l:List Int):MX:=if E0 r c l≠0 then Ls (E0 r c l) else (r,min r c,(Hu r r (K9 r.toNat c.toNat l) 0 0 r (min r c)).2.2.1,0)
def H8 (r c:Int) (l:List Int):MX:=if E0 r c l≠0 then Ls (E0 r c l) else (min r c,c,(Hu r c (Jo r.toNat c.toNat l) 0 0 (min r c) c).2.2.1,0)
def Aoq (a b:MX) (p q:Int) (m:List Int):MX :=
 if (C8 a.1 a.2.1 a.2.2.1 p q m).2.2.2≠0 then Ls (C8 a.1 a.2.1 a.2.2.1 p q m).2.2.2
 else Ua b.1 b.2.1 b.2.2.1 (C8 a.1 a.2.1 a.2.2.1 p q m).1 (C8 a.1 a.2.1 a.2.2.1 p q m).2.1 (C8 a.1 a.2.1 a.2.2.1 p q m).2.2.1
def Dt (r c:Int) (l:List Int) (p q:Int) (m:List Int):MX :=
 if B9 r c l≠0 then Ls (B9 r c l) else if B9 p q m≠0 then Ls (B9 p q m) else if r<c∨r≠p then Ls 3
 else if E0 r c l≠0 then Ls (E0 r c l)
 else if (Lz (H8 r c l).1 (H8 r c l).2.1 (H8 r c l).2.2.1).1=true then Ls 5
 else Aoq (D8 r c l) (H8 r c l) p q m
def T7 (x:Nat):Bool:=Cz (x<2^64)
def Ag9 (x:Nat):Bool:=Cz (x<2^64∧Ah x≠3∧Ah x≠4)
def I2 (x:Nat) (k:Int):Nat:=if Ah x=4 then x else (E5 x k).1
def Mq (x:Nat):Nat:=if E3 x<4503599627370496 then (Jk x 4841369599423283200).1 else x
def Jc (x:Nat):Int:=if E3 x<4503599627370496 then -52 else 0
def Rh (b:Int):Int:=if Ck b=true then 0 else if D0 b=true then -1 else 1
end Go.Rnd
namespace Go.Rnd
open Go.Den
theorem G7:Af (0:Int)=true:=B5 (n:=0) (by decide)
theorem Apz:Af Awi=true:=B5 (n:=4607182418800017408) (by decide)
theorem Amc {b:Nat} {n:Int} (h:b<2^64):(E5 b n).1<2^64:=by
 unfold E5
 by_cases h4:Ah b=4
 ·rw [A14 h4]; exact (by decide:Le<2^64)
 rw [A13 h4]
 by_cases h3:Ah b=3∨Ah b=0
 ·rw [A14 h3]; exact h
 rw [A13 h3]
 exact Ul _ _ _
theorem Hd {b n:Int} (h:Af b=true):Af (Bp b n)=true:=by
 obtain ⟨x,rfl,hx⟩:=Bm h
 exact B5 (Amc (by rw [A1j]; exact hx))
theorem Sw (b:Nat):E3 b<2^63:=Nat.mod_lt _ (by decide)
theorem Aax:∀ (l:List Int) (m:Nat),m<2^64→Ld l m<2^64
 | [],m,h=>h
 | x::l,m,h=>by
   unfold Ld
   split
   ·exact (by decide:Le<2^64)
   ·have h2:=Sw x.toNat
    exact Aax l _ (by omega)
theorem Oy (l:List Int):Af (Bg l)=true:=B5 (Aax l 0 (by decide))
theorem Tv (x:Int):Af (It x)=true:=B5 (Nat.lt_trans (Sw x.toNat) (by decide))
theorem Aj4 {a b:Int} (ha:Af a=true) (hb:Af b=true):Af (Fg a b)=true:=by
 obtain ⟨x,rfl,hx⟩:=Bm ha
 obtain ⟨y,rfl,hy⟩:=Bm hb
 exact B5 (Qp (by rw [A1j]; exact hx) (by rw [A1j]; exact hy)).1
theorem Zw {a:Int} (ha:Af a=true):Af (Cr a)=true:=by
 obtain ⟨x,rfl,hx⟩:=Bm ha
 exact B5 (Sa (by rw [A1j]; exact hx))
theorem Ao8 {b:Nat} (h:b<2^64):(N7 b).1<2^64:=by
 by_cases h4:Ah b=4
 ·rw [Uk h4]; exact (by decide:Le<2^64)
 by_cases h0:Ah b=0∨b=Dz
 ·rw [M6 h4 h0]; exact h
 cases hn:Bk b with
 | true=>rw [Uj h4 h0 hn]; exact (by decide:Le<2^64)
 | false =>
   unfold N7
   rw [A13 h4,A13 h0,hn,A13 (by decide)]
   exact Nat.lt_trans (Ps _ _) (by decide)
theorem Adm {a:Int} (ha:Af a=true):Af (F3 a)=true:=by
 obtain ⟨x,rfl,hx⟩:=Bm ha
 exact B5 (Ao8 (by rw [A1j]; exact hx))
theorem Ao7 (k:Int):∀ (l:List Int) {s:Int},Af s=true→Af (Ui k s l)=true
 | [],_,h=>h
 | _::l,_,h=>Ao7 k l (Aj4 h (Io _ _))
theorem Yb (x:List Int):Af (Da x)=true:=by
 unfold Da
 split
 ·exact Oy x
 ·exact Hd (Adm (Ao7 _ _ G7))
theorem Aqj (x:List Int):Af (Xv x)=true:=by
 unfold Xv
 split
 ·exact Yb _
 ·exact Zw (Yb _)
theorem Auw (x:List Int):Af (Eu x)=true:=Hd (Aqj x)
theorem Anv (b:Nat):-1100≤Me b∧Me b≤1100:=by
 unfold Me
 split
 ·have h1:=D6 b
  have h2:=Ff b
  rename_i h
  have h3:(As b).log2<53:=by
   by_cases h0:As b=0
   ·rw [h0]; decide
   ·exact (A2x h0).2 h2
  omega
 ·omega
theorem Aam (x:Int):-1100≤Bs x∧Bs x≤1100:=Anv x.toNat
theorem Ij {l:List Int} (h:Ai l=true) (j:Nat):Af (l.getD j 0)=true:=Yh (Ar.1 h) j
theorem Ss {l:List Int} (h:∀ x∈l,Af x=true):Ai l=true:=Ar.2 h
theorem I6:Ai []=true:=Ss fun _ h=>by cases h
theorem Ahw {α:Type} {l:List α} {f:α→Int} (h:∀ j,Af (f j)=true):Ai (l.map f)=true:=Ss fun x hx=>by
 obtain ⟨j,_,rfl⟩:=List.mem_map.1 hx
 exact h j
theorem Aoe {x:Int} {l:List Int} (h1:Af x=true) (h2:Ai l=true):Ai (x::l)=true:=Ss fun y hy=>by
 rcases List.mem_cons.1 hy with rfl | hy
 ·exact h1
 ·exact Ar.1 h2 y hy
theorem Ol {c i k:Int} {l:List Int} (h:Ai l=true):Af (Eb c l i k)=true:=Ij h _
theorem Afx (c b i:Int) (n:Nat) (l:List Int):(Ct c l b i n).length=n:=by unfold Ct; rw [A2n,A2k]
theorem Nk {c b i:Int} {n:Nat} {l:List Int} (h:Ai l=true):Ai (Ct c l b i n)=true:=Ahw fun _=>Ol h
theorem Aph (n:Nat) {f:Nat→Int} (h:∀ j,Af (f j)=true):Ai (I7 n f)=true:=Aoe Apz (Ahw fun _=>h _)
theorem Pv {n:Nat} (h:n≠0) (f:Nat→Int):(I7 n f).length=n:=by
 unfold I7
 rw [List.length_cons,A2n,A2k]
 omega
theorem Vc {x:List Int} (h:Ai x=true):Ai (Cf x).1=true∧Af (Cf x).2.1=true∧Af (Cf x).2.2.1=true:=by
 have hz:Ai []=true∧Af (0:Int)=true∧Af (0:Int)=true:=⟨I6,G7,G7⟩
 unfold Cf
 split
 ·exact hz
 split
 ·unfold Jm
  split
  ·dsimp only
   exact ⟨Aph _ fun _=>G7,G7,Ij h 0⟩
  ·split
   ·dsimp only
    exact ⟨Aph _ fun _=>Aep _ _,Aep _ _,Auw x⟩
   ·exact hz
 ·exact hz
theorem Vb {x:List Int} (h:(Cf x).2.2.2=0):(Cf x).1.length=x.length:=by
 unfold Cf at h ⊢
 by_cases h1:x.length=0∨64<x.length
 ·rw [A14 h1] at h; exact absurd h (by decide)
 rw [A13 h1] at h ⊢
 by_cases h2:C2 x=true
 ·rw [A14 h2] at h ⊢
  unfold Jm at h ⊢
  by_cases h3:Dr (x.drop 1)=true
  ·rw [A14 h3]; dsimp only; exact Pv (n:=x.length) (by omega) _
  ·rw [A13 h3] at h ⊢
   by_cases h4:Ck (Eu x)=true
   ·rw [A14 h4]; dsimp only [P6]; exact Pv (n:=x.length) (by omega) _
   ·rw [A13 h4] at h; exact absurd h (by decide)
 ·rw [A13 h2] at h; exact absurd h (by decide)
theorem Sn (x y:List Int):Af (Je x y)=true:=B5 (Aen x y 0 (by decide))
theorem Aod {c i k t a b:Int} {l v:List Int} (h:Ai l=true):Af (Mh c l i k v t a b)=true:=by
 unfold Mh
 split
 ·exact Oq (Ol h) (Io _ _)
 ·exact Ol h
theorem W1 {r c:Nat} {l:List Int} (h:Ai l=true) (i k:Int) (v:List Int) (t:Int):Ai (E2 r c l i k v t)=true:=Gq fun _ _=>Aod h
theorem Lk (r c:Nat) (l:List Int) (i k:Int) (v:List Int) (t:Int):(E2 r c l i k v t).length=r*c:=Cc _ _ _
theorem An3 {r c:Nat} {l:List Int} (h:Ai l=true) (j:Nat) {x:Int} (hx:Af x=true):Ai (La r c l j x)=true:=Gq fun a b=>by
 split
 ·split
  ·exact hx
  ·exact G7
 ·exact Ol h
theorem Oc (r c:Nat) (l:List Int) (j:Nat):(Wj r c l j).length=r*c:=by unfold Wj La; exact Cc _ _ _
theorem Va {r c:Nat} {l:List Int} (h:Ai l=true) (j:Nat):Ai (Wj r c l j)=true:=An3 (W1 h _ _ _ _) _ (Vc (Nk h)).2.2
def Ab7 (r:Nat):Nat→List (List Int × Int)→Prop
 | _,[]=>True
 | j,m::ms=>(Ai m.1=true∧Af m.2=true∧m.1.length+j=r)∧Ab7 r (j+1) ms
theorem Aaq (r c:Nat):∀ (n j:Nat) (l:List Int) (x:List Int × List (List Int × Int)),Ai l=true→l.length=r*c→j+n≤r→J4 r c n j l=some x→Ai x.1=true∧x.1.length=r*c∧x.2.length=n∧Ab7 r j x.2
 | 0,j,l,x,ha,hl,_,h=>by
   cases h
   exact ⟨ha,hl,rfl,trivial⟩
 | n+1,j,l,x,ha,hl,hj,h=>by
   unfold J4 at h
   by_cases h1:(Cf (Ev r c l j)).2.2.2=0
   ·rw [A14 h1,Option.map_eq_some_iff] at h
    obtain ⟨y,hy,rfl⟩:=h
    obtain ⟨a1,a2,a3,a4⟩:=Aaq r c n (j+1) _ y (Va ha j) (Oc r c l j) (by omega) hy
    have hm:=Vc (x:=Ev r c l j) (Nk ha)
    have hlen:=Vb h1
    refine ⟨a1,a2,by rw [List.length_cons,a3],⟨hm.1,hm.2.1,?_⟩,a4⟩
    show (Cf (Ev r c l j)).1.length+j=r
    rw [hlen]
    unfold Ev
    rw [Afx]
    omega
   ·rw [A13 h1] at h; cases h
theorem Sm (n:Nat):Ai (Jd n)=true:=Gq fun i k=>by
 unfold N3
 split
 ·exact Apz
 ·exact G7
theorem Sp (n:Nat):∀ (ms:List (List Int × Int)) (j:Nat) (q:List Int),Ai q=true→q.length=n*n→Ai (Gs n j ms q)=true∧(Gs n j ms q).length=n*n
 | [],_,_,h1,h2=>⟨h1,h2⟩
 | m::ms,j,q,h1,h2=>by
   unfold Gs
   exact ⟨W1 (Sp n ms (j+1) q h1 h2).1 _ _ _ _,Lk _ _ _ _ _ _ _⟩
theorem Auh {r c:Nat} {l:List Int} (h:(Jg r c l).isSome=true):Ai (K9 r c l)=true∧(K9 r c l).length=r*r:=by
 unfold K9
 cases hd:Jg r c l with
 | none=>rw [hd] at h; cases h
 | some x=>exact Sp r x.2 0 _ (Sm r) (by unfold Jd; exact Cc _ _ _)
theorem Aug {r c:Nat} {l:List Int} (ha:Ai l=true) (hl:l.length=r*c) (h:(Jg r c l).isSome=true):Ai (Jo r c l)=true∧(Jo r c l).length=r*c:=by
 unfold Jo
 cases hd:Jg r c l with
 | none=>rw [hd] at h; cases h
 | some x =>
   have hn:Ih r c≤r:=by unfold Ih; omega
   have:=Aaq r c (Ih r c) 0 l x ha hl (by omega) hd
   exact ⟨this.1,this.2.1⟩
end Go.Rnd
namespace Go.Rnd
open Go.Den
structure Fw (x:Int):Prop where
 word:Af x=true
 fin:Ck x=true
theorem Fw.k {x:Int} (h:Fw x):Ah x.toNat≠3∧Ah x.toNat≠4:=⟨(I3 h.fin).2,(I3 h.fin).1⟩
theorem Fw.Ay3 {x:Int} (h:Fw x) (hn:x≠9223372036854775808):Good x:=⟨h.word,h.k.1,h.k.2,fun e=>hn (by have:=Ar.1 h.word; omega)⟩
theorem Good.fn {x:Int} (h:Good x):Fw x:=⟨h.word,by
 show Ig x.toNat=true
 rw [Wp]; simp [h.k3,h.k4]⟩
def Zr (x:Int):Prop:=x=0∨x=9223372036854775808
def J7 (x y:Int):Prop:=x=y∨(Zr x∧Zr y)
theorem J7.refl (x:Int):J7 x x:=.inl rfl
theorem J7.trans {x y z:Int} (h:J7 x y) (g:J7 y z):J7 x z:=by
 rcases h with rfl | ⟨h1,h2⟩
 ·exact g
 ·rcases g with rfl | ⟨g1,g2⟩
  ·exact .inr ⟨h1,h2⟩
  ·exact .inr ⟨h1,g2⟩
theorem Au5 {x:Int} (h:Zr x):Fw x:=by
 rcases h with rfl | rfl
 ·exact ⟨Ar.2 (by decide),by decide⟩
 ·exact ⟨Ar.2 (by decide),by decide⟩
theorem J7.fn {x y:Int} (h:J7 x y) (g:Fw y):Fw x:=by
 rcases h with rfl | ⟨h1,h2⟩
 ·exact g
 ·exact Au5 h1
theorem Avj {x:Int} (h:Fw x):Zr (C5 0 x):=by
 unfold C5
 rw [show (0:Int).toNat=0 from rfl,Ai2 h.k.1 h.k.2]
 cases Bk x.toNat
 ·exact .inl (by decide)
 ·exact .inr (by decide)
end Go.Rnd
namespace Go.Rnd
open Go.Den
theorem J7.symm {x y:Int} (h:J7 x y):J7 y x:=by
 rcases h with rfl | ⟨h1,h2⟩
 ·exact .inl rfl
 ·exact .inr ⟨h2,h1⟩
theorem N4 {z:Int} (h:Zr z):∃ n:Bool,z.toNat=Bc n 0∧z=((Bc n 0:Nat):Int):=by
 rcases h with rfl | rfl
 ·exact ⟨false,rfl,rfl⟩
 ·exact ⟨true,rfl,rfl⟩
theorem X1 (n:Bool):Zr ((Bc n 0:Nat):Int):=by
 cases n
 ·exact .inl rfl
 ·exact .inr rfl
theorem Sv {a b:Nat} (k3:Ah a=3) (k0:Ah b=0):Gd a b=(a,0):=by
 unfold Gd; rw [A13 (by omega),A14 k3,A13 (by omega)]
theorem Su {a b:Nat} (k4:Ah a=4):Gd a b=(Le,0):=by unfold Gd; rw [A14 (.inl k4)]
theorem Agf {a b:Nat} (k4:Ah b=4):Jk a b=(Le,0):=by unfold Jk; rw [A14 (.inr k4)]
theorem Ab6 {a b:Nat} (k0:Ah a=0) (k3:Ah b=3):Jk a b=(Le,16):=by
 unfold Jk; rw [A13 (by omega),A14 (.inr k3),A14 (.inl k0)]
theorem Ab5 {a b:Nat} (k0:Ah a=0) (m0:As a=0) (k3:Ah b≠3) (k4:Ah b≠4):(Jk a b).1=Bc (Bk a !=Bk b) 0:=by
 unfold Jk; rw [A13 (by omega),A13 (by omega),m0,Nat.zero_mul,Ky]
theorem Ahk {a b:Nat} (k4:Ah b=4):T0 a b=(Le,0):=by unfold T0; rw [A14 (.inr k4)]
theorem Ali {a b:Nat} (k0:Ah a=0) (k0':Ah b=0):T0 a b=(Le,16):=by
 unfold T0; rw [A13 (by omega),A14 ⟨by omega,by omega⟩]
theorem Aco {a b:Nat} (k0:Ah a=0) (k4:Ah b≠4) (kb:Ah b≠0):(T0 a b).1=Bc (Bk a !=Bk b) 0:=by
 unfold T0; rw [A13 (by omega),A13 (by omega),A13 (by omega),A14 (.inr k0)]
theorem Ar9 {a z z':Int} (ha:Af a=true) (h:Zr z) (h':Zr z'):J7 (Fg a z) (Fg a z'):=by
 obtain ⟨n,e,_⟩:=N4 h
 obtain ⟨n',e',_⟩:=N4 h'
 unfold Fg
 rw [e,e']
 obtain ⟨z1,_,_⟩:=Ga n
 obtain ⟨z1',_,_⟩:=Ga n'
 by_cases k4:Ah a.toNat=4
 ·rw [Su k4,Su k4]; exact .inl rfl
 ·by_cases k3:Ah a.toNat=3
  ·rw [Sv k3 z1,Sv k3 z1']; exact .inl rfl
  ·by_cases hz:a.toNat=2^63
   ·rw [hz]; cases n<;>cases n'<;>(unfold J7 Zr; decide +kernel)
   ·rw [Qn (Ub ha) k3 k4 hz,Qn (Ub ha) k3 k4 hz]; exact .inl rfl
theorem Qo (a b:Int):Fg a b=Fg b a:=by unfold Fg; rw [Ac3]
theorem Av5 {a b:Int} (h:J7 a b) (ha:Af a=true):Af b=true:=by
 rcases h with rfl | ⟨_,h⟩
 ·exact ha
 ·exact (Au5 h).word
theorem Alx {a a' b b':Int} (ia:Af a=true) (ib:Af b=true) (ha:J7 a a') (hb:J7 b b'):J7 (Fg a b) (Fg a' b'):=by
 have h1:J7 (Fg a b) (Fg a b'):=by
  rcases hb with rfl | ⟨h1,h2⟩
  ·exact .inl rfl
  ·exact Ar9 ia h1 h2
 have h2:J7 (Fg a b') (Fg a' b'):=by
  rcases ha with rfl | ⟨h1,h2⟩
  ·exact .inl rfl
  ·rw [Qo a,Qo a']; exact Ar9 (Av5 hb ib) h1 h2
 exact h1.trans h2
theorem Aqg {b z z':Int} (h:Zr z) (h':Zr z'):J7 (C5 z b) (C5 z' b):=by
 obtain ⟨n,e,_⟩:=N4 h
 obtain ⟨n',e',_⟩:=N4 h'
 unfold C5
 rw [e,e']
 obtain ⟨z1,z2,_⟩:=Ga n
 obtain ⟨z1',z2',_⟩:=Ga n'
 by_cases k4:Ah b.toNat=4
 ·rw [Agf k4,Agf k4]; exact .inl rfl
 ·by_cases k3:Ah b.toNat=3
  ·rw [Ab6 z1 k3,Ab6 z1' k3]; exact .inl rfl
  ·rw [Ab5 z1 z2 k3 k4,Ab5 z1' z2' k3 k4]
   exact .inr ⟨X1 _,X1 _⟩
theorem Zs (a b:Int):C5 a b=C5 b a:=by unfold C5; rw [Wh]
theorem Yc {a a' b b':Int} (ha:J7 a a') (hb:J7 b b'):J7 (C5 a b) (C5 a' b'):=by
 have h1:J7 (C5 a b) (C5 a b'):=by
  rcases hb with rfl | ⟨h1,h2⟩
  ·exact .inl rfl
  ·rw [Zs a,Zs a]; exact Aqg h1 h2
 have h2:J7 (C5 a b') (C5 a' b'):=by
  rcases ha with rfl | ⟨h1,h2⟩
  ·exact .inl rfl
  ·exact Aqg h1 h2
 exact h1.trans h2
theorem Am9 {a a':Int} (h:J7 a a'):J7 (Cr a) (Cr a'):=by
 rcases h with rfl | ⟨h1,h2⟩
 ·exact .inl rfl
 ·refine .inr ⟨?_,?_⟩
  ·rcases h1 with rfl | rfl
   ·exact .inr rfl
   ·exact .inl rfl
  ·rcases h2 with rfl | rfl
   ·exact .inr rfl
   ·exact .inl rfl
theorem R1 (a b:Int):Ec a b=Fg a (Cr b):=by unfold Ec As6 Fg Cr; rw [A1j]
theorem Ab9 {b:Int} (h:Af b=true):Af (Cr b)=true:=B5 (Sa (Ub h))
theorem Adj {a a' b b':Int} (ia:Af a=true) (ib:Af b=true) (ha:J7 a a') (hb:J7 b b'):J7 (Ec a b) (Ec a' b'):=by
 rw [R1,R1]; exact Alx ia (Ab9 ib) ha (Am9 hb)
theorem R7 {a a':Int} (n:Int) (h:J7 a a'):J7 (Bp a n) (Bp a' n):=by
 have z:∀ {x:Int},Zr x→Zr (Bp x n):=fun h=>by
  rcases h with rfl | rfl
  ·exact .inl (by unfold Bp E5; rw [A13 (by decide),A14 (by decide)]; rfl)
  ·exact .inr (by unfold Bp E5; rw [A13 (by decide),A14 (by decide)]; rfl)
 rcases h with rfl | ⟨h1,h2⟩
 ·exact .inl rfl
 ·exact .inr ⟨z h1,z h2⟩
theorem Aeo {a a':Int} (d:Int) (h:J7 a a'):J7 (E4 a d) (E4 a' d):=by
 rcases h with rfl | ⟨h1,h2⟩
 ·exact .inl rfl
 ·obtain ⟨n,e,_⟩:=N4 h1
  obtain ⟨n',e',_⟩:=N4 h2
  unfold E4
  rw [e,e']
  obtain ⟨z1,_,_⟩:=Ga n
  obtain ⟨z1',_,_⟩:=Ga n'
  by_cases k4:Ah d.toNat=4
  ·rw [Ahk k4,Ahk k4]; exact .inl rfl
  ·by_cases k0:Ah d.toNat=0
   ·rw [Ali z1 k0,Ali z1' k0]; exact .inl rfl
   ·rw [Aco z1 k4 k0,Aco z1' k4 k0]
    exact .inr ⟨X1 _,X1 _⟩
theorem As7 {a a':Int} (h:J7 a a'):C5 a a=C5 a' a':=by
 have z:∀ {x:Int},Zr x→C5 x x=0:=fun h=>by
  rcases h with rfl | rfl<;>decide +kernel
 rcases h with rfl | ⟨h1,h2⟩
 ·rfl
 ·rw [z h1,z h2]
theorem P7 {a a':Int} (h:J7 a a'):It a=It a'∧A5 a=A5 a'∧Ck a=Ck a'∧Bs a=Bs a':=by
 have z:∀ {x:Int},Zr x→It x=0∧A5 x=0∧Ck x=true∧Bs x=0:=fun h=>by
  rcases h with rfl | rfl<;>decide +kernel
 rcases h with rfl | ⟨h1,h2⟩
 ·exact ⟨rfl,rfl,rfl,rfl⟩
 ·obtain ⟨a1,a2,a3,a4⟩:=z h1
  obtain ⟨b1,b2,b3,b4⟩:=z h2
  exact ⟨a1.trans b1.symm,a2.trans b2.symm,a3.trans b3.symm,a4.trans b4.symm⟩
theorem Apa {a a':Int} (h:J7 a a') (k:A5 a≠0):a=a':=by
 rcases h with rfl | ⟨h1,_⟩
 ·rfl
 ·rcases h1 with rfl | rfl<;>exact absurd (by decide) k
inductive SL:List Int→List Int→Prop
 | nil:SL [] []
 | cons {x y:Int} {l m:List Int} (h:J7 x y) (t:SL l m):SL (x::l) (y::m)
theorem SL.refl:∀ l,SL l l
 | []=>.nil
 | x::l=>.cons (.refl x) (SL.refl l)
theorem SL.len {l m:List Int} (h:SL l m):l.length=m.length:=by
 induction h with
 | nil=>rfl
 | cons _ _ ih=>rw [List.length_cons,List.length_cons,ih]
theorem SL.get {l m:List Int} (h:SL l m) (i:Nat):J7 (l.getD i 0) (m.getD i 0):=by
 induction h generalizing i with
 | nil=>exact .refl _
 | cons h _ ih =>
   cases i with
   | zero=>exact h
   | succ i=>exact ih i
theorem SL.Wl {f g:Nat→Int} (n:Nat) (h:∀ i,i<n→J7 (f i) (g i)):SL ((List.range n).map f) ((List.range n).map g):=by
 have:∀ (l:List Nat),(∀ i∈l,i<n)→SL (l.map f) (l.map g):=fun l=>by
  induction l with
  | nil=>intro _; exact .nil
  | cons i l ih=>intro hl; exact .cons (h i (hl i A2w)) (ih fun j hj=>hl j (A2m _ hj))
 exact this _ fun i hi=>List.mem_range.1 hi
theorem SL.Bv {r c:Nat} {f g:Nat→Nat→Int} (h:∀ i k,i<r→k<c→J7 (f i k) (g i k)):SL (Go.Rnd.Bv r c f) (Go.Rnd.Bv r c g):=by
 unfold Go.Rnd.Bv
 refine SL.Wl _ fun j hj=>?_
 have hc:0<c:=Nat.pos_of_ne_zero fun e=>by rw [e,Nat.mul_zero] at hj; omega
 exact h _ _ (Nat.div_lt_of_lt_mul (by rw [A15]; exact hj)) (Nat.mod_lt _ hc)
theorem SL.fin {l m:List Int} (h:SL l m):C2 l=C2 m:=by
 induction h with
 | nil=>rfl
 | cons h _ ih =>
   show (Ck _&&C2 _)=(Ck _&&C2 _)
   rw [(P7 h).2.2.1,ih]
theorem SL.at {c i k:Int} {l m:List Int} (h:SL l m):J7 (Eb c l i k) (Eb c m i k):=by
 unfold Eb; exact h.get _
theorem SL.drop {l m:List Int} (h:SL l m) (n:Nat):SL (l.drop n) (m.drop n):=by
 induction h generalizing n with
 | nil=>rw [List.drop_nil]; exact .nil
 | cons h t ih =>
   cases n with
   | zero=>exact .cons h t
   | succ n=>exact ih n
theorem SL.take {l m:List Int} (h:SL l m) (n:Nat):SL (l.take n) (m.take n):=by
 induction h generalizing n with
 | nil=>rw [List.take_nil]; exact .nil
 | cons h t ih =>
   cases n with
   | zero=>exact .nil
   | succ n=>exact .cons h (ih n)
theorem Auk {x x' y y':List Int} (hx:SL x x') (hy:SL y y'):∀ s s':Nat,s<2^64→J7 (s:Int) (s':Int)→J7 (Aar s x y:Int) (Aar s' x' y':Int):=by
 induction hx generalizing y y' with
 | nil=>intro s s' _ h; cases y<;>cases y'<;>exact h
 | cons h t ih =>
   intro s s' hs hss
   cases hy with
   | nil=>exact hss
   | cons g u =>
     refine ih u _ _ (Qp hs Oa).1 ?_
     have:=Alx (B5 hs) (B5 (Oa (a:=_) (b:=_))) hss (Yc h g)
     unfold Fg C5 at this
     simpa only [A1j] using this
theorem Ahi {x x' y y':List Int} (hx:SL x x') (hy:SL y y'):J7 (Je x y) (Je x' y'):=Auk hx hy 0 0 (by decide) (.refl _)
theorem SL.row {c i:Int} {l m:List Int} (h:SL l m):SL (G6 c l i) (G6 c m i):=(h.take _).drop _
end Go.Rnd
namespace Go.Rnd
open Go.Den
theorem Ajr {P root rest two:Nat} (h1:P=root*root+rest) (h2:rest≤2*root) (h3:two<4) :
 (4*root+1≤4*rest+two→4*P+two=(2*root+1)*(2*root+1)+(4*rest+two-(4*root+1))∧4*rest+two-(4*root+1)≤2*(2*root+1)) ∧
 (4*rest+two<4*root+1→4*P+two=(2*root)*(2*root)+(4*rest+two)∧4*rest+two≤2*(2*root)):=by
 have e1:(2*root+1)*(2*root+1)=4*(root*root)+(4*root+1):=by
  rw [A2l,Nat.mul_add,Nat.mul_add]
  have:2*root*(2*root)=4*(root*root):=by rw [Nat.mul_mul_mul_comm]
  omega
 have e2:(2*root)*(2*root)=4*(root*root):=by rw [Nat.mul_mul_mul_comm]
 constructor
 ·intro h; rw [e1]; omega
 ·intro h; rw [e2]; omega
theorem Atc {P root rest:Nat} (h1:P=root*root+rest) (h2:rest≤2*root):root=S5 P:=by
 refine Z8 (by omega) ?_
 have:(root+1)*(root+1)=root*root+2*root+1:=by rw [A2l,Nat.mul_add]; omega
 omega
end Go.Rnd
namespace Go.Rnd
open Go.Den
theorem Ak8 {M a b:Nat} {E:Int} (h:2^a≤M) (g:(b:Int)-1074≤a+E):Ca (2^b) (-1074)≤Ca M E:=by
 by_cases k:-1074≤E
 ·have s:=(Du M (E+1074).toNat E).1
  rw [show E-((E+1074).toNat:Int)=-1074 by omega] at s
  rw [← s]
  refine Kz (A2o (m:=2^(a+(E+1074).toNat)) (A1w (by decide) (by omega)) ?_)
  rw [A16]; exact A1t _ h
 ·have s:=(Du (2^b) (-1074-E).toNat (-1074)).1
  rw [show (-1074:Int)-((-1074-E).toNat:Int)=E by omega,← A16] at s
  rw [← s]
  exact Kz (A2o (A1w (by decide) (by omega)) h)
theorem N9 {M a:Nat} {E:Int} (h:2^a≤M) (g:0≤a+E):pw 0≤Ca M E:=by
 obtain ⟨t,ht⟩:∃ t:Nat,t=1074:=⟨1074,rfl⟩
 rw [← Ako (k:=0) (by decide),A2r,← ht]
 exact Ak8 h (by omega)
theorem Apw {M a:Nat} {E:Int} (h:2^a≤M) (g:-1074≤a+E):0<Ca M E:=by
 have:=Ak8 (E:=E) (b:=0) h (by omega)
 have e:Ca (2^0) (-1074)=1:=by decide +kernel
 omega
def Nn (a:Nat):Prop:=a≤Le
def Big (a:Nat):Prop:=pw 0≤a∧a≤Le
theorem Jv:Le=9221120237041090560:=rfl
theorem Apu:pw 0=4607182418800017408:=by unfold pw; omega
theorem Aev:Big Le:=⟨by rw [Apu,Jv]; omega,A2b _⟩
theorem Aew:Big Dz:=⟨by rw [Apu,Fb]; omega,by rw [Jv,Fb]; omega⟩
theorem P5 (V:Nat) (E:Int):Nn (Ca V E):=by
 have:=Jq V E
 rw [Fb] at this
 unfold Nn; rw [Jv]; omega
theorem Ap6:Nn Le:=A2b _
theorem Ap7:Nn Dz:=Aew.2
theorem W0 {z:Nat} (h:pw 0≤z%2^63):2^52≤As z∧-52≤Ay z:=by
 have h1:1023≤Db z:=by unfold Db; rw [Apu] at h; omega
 unfold As Ay
 rw [A13 (by omega),A13 (by omega)]
 omega
theorem Wf {a:Nat} (h:Nn a):Bk a=false:=by
 unfold Nn at h; rw [Jv] at h
 exact A1m (by omega)
theorem Av4 {z:Nat}:Nn (Jk z z).1∧(pw 0≤z%2^63→Big (Jk z z).1):=by
 have hp:(Bk z !=Bk z)=false:=by cases Bk z<;>rfl
 unfold Jk
 by_cases k4:Ah z=4
 ·rw [A14 (.inl k4)]; exact ⟨Ap6,fun _=>Aev⟩
 rw [A13 (by omega)]
 by_cases k3:Ah z=3
 ·rw [A14 (.inl k3),A13 (by omega),hp,Lp]; exact ⟨Ap7,fun _=>Aew⟩
 rw [A13 (by omega),hp,Lp]
 refine ⟨P5 _ _,fun h=>⟨?_,P5 _ _⟩⟩
 obtain ⟨h1,h2⟩:=W0 h
 refine N9 (a:=104) ?_ (by omega)
 rw [show (104:Nat)=52+52 from rfl,A16]
 exact A2d h1 h1
theorem Aji {a:Nat} (h:Nn a) (k3:Ah a=3):a=Dz:=by
 have:=Ll (b:=a) (by unfold Nn at h; rw [Jv] at h; omega) k3
 rw [Wf h] at this
 exact this.symm
theorem Ac8 {a:Nat} (h:Nn a) (g:Int):Fs a g=Ie a g:=by
 unfold Fs Ie; rw [Wf h]; rfl
theorem Aw7 {s t:Nat} (hs:Nn s) (ht:Nn t):Nn (Gd s t).1∧(Big s∨Big t→Big (Gd s t).1):=by
 have hN:Nn Le∧(Big s∨Big t→Big Le):=⟨Ap6,fun _=>Aev⟩
 have hI:Nn Dz∧(Big s∨Big t→Big Dz):=⟨Ap7,fun _=>Aew⟩
 by_cases k:Ah s=4∨Ah t=4
 ·have:(Gd s t).1=Le:=by unfold Gd; rw [A14 k]
  rw [this]; exact hN
 by_cases s3:Ah s=3
 ·rw [Ah1 k s3]
  split
  ·exact hN
  ·obtain rfl:=Aji hs s3; exact hI
 by_cases t3:Ah t=3
 ·rw [Ac2 k s3 t3]
  obtain rfl:=Aji ht t3; exact hI
 have ek:=Alz s3 (by omega) t3 (by omega) (g:=min (Ay s) (Ay t)) (Int.le_refl _)
 generalize hg:min (Ay s) (Ay t)=g at ek
 rw [Ac8 hs,Ac8 ht] at ek
 have e0:¬ ((Ie s g:Int)+(Ie t g:Int)<0):=by omega
 unfold Af1 at ek
 rw [A13 e0] at ek
 have n2:(Gd s t).1=Ca ((Ie s g:Int)+(Ie t g:Int)).natAbs g:=by
  have hn:Bk (Gd s t).1=false∨(Gd s t).1%2^63=0:=by
   unfold Gw at ek
   cases hh:Bk (Gd s t).1
   ·exact .inl rfl
   ·rw [hh] at ek
    have ek:-(((Gd s t).1%2^63:Nat):Int)=_:=ek
    exact .inr (by omega)
  have hlt:(Gd s t).1<2^64:=(Qp (by unfold Nn at hs; rw [Jv] at hs; omega) (by unfold Nn at ht; rw [Jv] at ht; omega)).1
  have hnf:Bk (Gd s t).1=false:=by
   rw [Rt k s3 t3]
   unfold Kd
   have hh:(Bk s&&Bk t)=false:=by rw [Wf hs]; rfl
   split
   ·show Bk (Bc (Bk s&&Bk t) 0)=false
    rw [hh]; rfl
   ·rename_i h0
    rw [hg,Ac8 hs,Ac8 ht]
    rw [A1m e0,Lp]
    exact Wf (P5 _ _)
  unfold Gw at ek
  rw [hnf] at ek
  have ek:(((Gd s t).1%2^63:Nat):Int)=_:=ek
  unfold Bk at hnf
  have:=of_decide_eq_false hnf
  omega
 rw [n2]
 refine ⟨P5 _ _,fun h=>⟨?_,P5 _ _⟩⟩
 have ms:=Nq (b:=s) (f:=g) (by omega) (by omega)
 have mt:=Nq (b:=t) (f:=g) (by omega) (by omega)
 rcases h with h | h
 ·have:=Kz (V:=Ie s g) (W:=((Ie s g:Int)+(Ie t g:Int)).natAbs) (E:=g) (by omega)
  have h1:=h.1
  unfold Nn at hs; rw [Jv] at hs
  rw [ms] at this; omega
 ·have:=Kz (V:=Ie t g) (W:=((Ie s g:Int)+(Ie t g:Int)).natAbs) (E:=g) (by omega)
  have h1:=h.1
  unfold Nn at ht; rw [Jv] at ht
  rw [mt] at this; omega
theorem Ao6 (k:Int):∀ (l:List Int) (s:Nat),Nn s→∃ t:Nat,Ui k s l=t∧Nn t∧((Big s∨∃ x∈l,pw 0≤(Bp x k).toNat%2^63)→Big t)
 | [],s,h=>⟨s,rfl,h,fun g=>by
  rcases g with g | ⟨x,hx,_⟩
  ·exact g
  ·cases hx⟩
 | x::l,s,h=>by
   obtain ⟨q1,q2⟩:=Av4 (z:=(Bp x k).toNat)
   obtain ⟨a1,a2⟩:=Aw7 h q1
   obtain ⟨t,e,t1,t2⟩:=Ao6 k l _ a1
   refine ⟨t,?_,t1,fun g=>t2 ?_⟩
   ·unfold Ui
    rw [← e]
    unfold Fg C5
    rw [A1j,A1j]
   ·rcases g with g | ⟨y,hy,g⟩
    ·exact .inl (a2 (.inl g))
    ·rcases List.mem_cons.1 hy with rfl | hy
     ·exact .inl (a2 (.inr (q2 g)))
     ·exact .inr ⟨y,hy,g⟩
theorem At9 {n:Nat} (h:n≠0):1≤S5 n:=Ajh (by omega)
theorem Apk {b:Nat} (h:Big b):Big (N7 b).1:=by
 have hn:=Wf h.2
 by_cases k4:Ah b=4
 ·rw [Uk k4]; exact Aev
 by_cases k0:Ah b=0∨b=Dz
 ·rw [M6 k4 k0]; exact h
 rw [Yx k4 k0 hn]
 refine ⟨?_,P5 _ _⟩
 have k3:Ah b≠3:=fun e=>k0 (.inr (Aji h.2 e))
 have hm:b%2^63=b:=by have:=h.2; rw [Jv] at this; omega
 obtain ⟨p1,p2⟩:=W0 (z:=b) (by rw [hm]; exact h.1)
 have hK:=(Y6 (b:=b) (by omega)).2
 generalize hr:(Ay b-(Iy b:Int)) / 2-1=r at hK ⊢
 have hst:2*S5 (As b*2^Iy b)≤F8 (As b*2^Iy b):=by unfold F8; omega
 by_cases hr0:0≤r
 ·have:=At9 (n:=As b*2^Iy b) (by have:=Nat.mul_pos (show 0<As b by omega) (Cg (Iy b)); omega)
  exact N9 (a:=0) (by omega) (by omega)
 ·have h2:2^((-1-r).toNat+(-1-r).toNat)≤As b*2^Iy b:=by
   refine A2o (m:=2^(52+Iy b)) (A1w (by decide) (by omega)) ?_
   rw [A16]
   exact A1t _ p1
  have h3:=Yg h2
  refine N9 (a:=(-1-r).toNat+1) ?_ (by omega)
  rw [Nat.pow_succ]; omega
theorem Sf {b:Nat} (h:Ah b=0):b%2^63=0:=by
 unfold Ah Db Cm at h
 split at h
 ·split at h<;>omega
 ·split at h
  ·omega
  ·split at h<;>omega
theorem An9 {b:Nat} {n:Int} (h:Big b) (g:-1074≤n):Ah (E5 b n).1≠0:=by
 have k0:Ah b≠0:=fun e=>by
  have:=Sf e
  have h1:=h.1; have h2:=h.2
  rw [Jv] at h2; rw [Apu] at h1; omega
 by_cases k4:Ah b=4
 ·unfold E5; rw [A14 k4]; show Ah Le≠0; decide +kernel
 by_cases k3:Ah b=3
 ·unfold E5; rw [A13 k4,A14 (.inl k3)]; exact k0
 rw [V4 k4 (by omega)]
 intro e
 have:=Sf e
 have hm:b%2^63=b:=by have:=h.2; rw [Jv] at this; omega
 obtain ⟨p1,p2⟩:=W0 (z:=b) (by rw [hm]; exact h.1)
 have hp:=Apw (M:=As b) (a:=52) (E:=Ay b+n) p1 (by omega)
 rw [Wf h.2,Lp] at this
 have hq:=P5 (As b) (Ay b+n)
 unfold Nn at hq; rw [Jv] at hq
 omega
theorem Alc {b:Nat} (k3:Ah b≠3) (k4:Ah b≠4) (k0:Ah b≠0):Me b=((As b).log2:Int)+Ay b∧-1074≤Me b:=by
 have:=D6 b
 have hf:Ig b=true:=by rw [Wp]; simp [k3,k4]
 unfold Me
 rw [A14 ⟨hf,k0⟩]
 exact ⟨rfl,by omega⟩
theorem Alf (b:Nat):Me b=Me (b%2^63):=by
 have h1:Db (b%2^63)=Db b:=by unfold Db; omega
 have h2:Cm (b%2^63)=Cm b:=by unfold Cm; omega
 unfold Me Ig Ah As Ay
 rw [h1,h2]
theorem Y2 {b:Nat} (k3:Ah b≠3) (k4:Ah b≠4) (k0:Ah b≠0):pw 0≤(E5 b (-Me b)).1%2^63:=by
 obtain ⟨e,_⟩:=Alc k3 k4 k0
 rw [V4 k4 (by omega)]
 have m0:As b≠0:=fun h=>k0 ((G2 k3 k4).1 h)
 have:=N9 (M:=As b) (a:=(As b).log2) (E:=Ay b+-Me b) (Nat.log2_self_le m0) (by omega)
 have hl:=Ps (As b) (Ay b+-Me b)
 have e2:Bc (Bk b) (Ca (As b) (Ay b+-Me b))%2^63=Ca (As b) (Ay b+-Me b):=by unfold Bc; split<;>omega
 show pw 0≤Bc (Bk b) (Ca (As b) (Ay b+-Me b))%2^63
 rw [e2]; exact this
theorem Vr {x:Int} {l:List Int} {m:Nat} (k:Ah x.toNat=4):Ld (x::l) m=Le:=A14 k
theorem Rn {x:Int} {l:List Int} {m:Nat} (k:Ah x.toNat≠4):Ld (x::l) m=Ld l (max m (E3 x.toNat)):=A13 k
theorem Aeu:∀ (l:List Int) (m:Nat),Ld l m=Le∨Ld l m=m∨∃ x∈l,Ah x.toNat≠4∧Ld l m=E3 x.toNat
 | [],_=>.inr (.inl rfl)
 | x::l,m=>by
   by_cases k4:Ah x.toNat=4
   ·exact .inl (Vr k4)
   rw [Rn k4]
   rcases Aeu l (max m (E3 x.toNat)) with g | g | ⟨y,hy,g,g'⟩
   ·exact .inl g
   ·rw [g]
    rcases Nat.le_total m (E3 x.toNat) with k | k
    ·exact .inr (.inr ⟨x,A2w,k4,Nat.max_eq_right k⟩)
    ·exact .inr (.inl (Nat.max_eq_left k))
   ·exact .inr (.inr ⟨y,A2m _ hy,g,g'⟩)
theorem Ar5:∀ (l:List Int) (m:Nat),Ld l m=Le∨(m≤Ld l m∧∀ x∈l,E3 x.toNat≤Ld l m)
 | [],_=>.inr ⟨A2b _,fun _ h=>by cases h⟩
 | x::l,m=>by
   by_cases k4:Ah x.toNat=4
   ·exact .inl (Vr k4)
   rw [Rn k4]
   rcases Ar5 l (max m (E3 x.toNat)) with g | ⟨g1,g2⟩
   ·exact .inl g
   ·refine .inr ⟨by omega,fun y hy=>?_⟩
    rcases List.mem_cons.1 hy with rfl | hy
    ·omega
    ·exact g2 y hy
theorem Sd (b:Nat):Ah (E3 b)=Ah b:=by
 have h1:Db (E3 b)=Db b:=by unfold Db E3; omega
 have h2:Cm (E3 b)=Cm b:=by unfold Cm E3; omega
 unfold Ah; rw [h1,h2]
theorem abs_zero {b:Nat} (h:E3 b=0):Ah b=0:=by
 rw [← Sd,h]; decide
theorem Ahq {y:List Int} (h:∃ x∈y,A5 x≠0):Ld y 0=Le∨∃ z∈y,Ah z.toNat≠4∧Ah z.toNat≠0∧Ld y 0=E3 z.toNat:=by
 obtain ⟨x,hx,hk⟩:=h
 rcases Ar5 y 0 with g | ⟨_,g⟩
 ·exact .inl g
 have g:=g x hx
 have x0:E3 x.toNat≠0:=fun e=>hk (by unfold A5; rw [abs_zero e]; rfl)
 rcases Aeu y 0 with e | e | ⟨z,hz,k,e⟩
 ·exact .inl e
 ·omega
 ·refine .inr ⟨z,hz,k,fun k0=>?_,e⟩
  have:=Sf k0
  unfold E3 at e g x0; omega
theorem Amw {y:List Int} (h:∃ x∈y,A5 x≠0):A5 (Da y)≠0:=by
 have eb:(Bg y).toNat=Ld y 0:=A1j _
 rcases Ahq h with e | ⟨z,hz,z4,z0,ez⟩
 ·have hf:Ck (Bg y)=false:=by unfold Ck; rw [eb,e]; decide +kernel
  unfold Da
  rw [A14 (.inr hf)]
  unfold A5
  rw [eb,e]
  decide +kernel
 unfold Da
 by_cases k:Bg y=0∨Ck (Bg y)=false
 ·rw [A14 k]
  unfold A5
  rw [eb,ez,Sd]
  omega
 rw [A13 k]
 have ee:Bs (Bg y)=Me z.toNat:=by unfold Bs; rw [eb,ez,Alf z.toNat]; rfl
 have z3:Ah z.toNat≠3:=fun e=>k (.inr (by
  unfold Ck; rw [eb,ez,Wp,Sd,e]; rfl))
 rw [ee]
 obtain ⟨t,e,t1,t2⟩:=Ao6 (-Me z.toNat) y 0 (Nat.zero_le _)
 have tb:=t2 (.inr ⟨z,hz,by
  unfold Bp
  rw [A1j]
  exact Y2 z3 z4 z0⟩)
 have e:Ui (-Me z.toNat) 0 y=t:=e
 rw [e]
 have:=An9 (n:=Me z.toNat) (Apk tb) (Alc z3 z4 z0).2
 intro h
 refine this ?_
 unfold A5 Bp F3 at h
 rw [A1j,A1j,A1j] at h
 omega
theorem Ajg (b:Nat):Ah (Gb b)=Ah b:=by
 have h1:Db (Gb b)=Db b:=by unfold Db Gb; split<;>omega
 have h2:Cm (Gb b)=Cm b:=by unfold Cm Gb; split<;>omega
 unfold Ah; rw [h1,h2]
theorem Xj (x:Int):A5 (Cr x)=A5 x:=by
 unfold A5 Cr
 rw [A1j,Ajg]
theorem Att {x:List Int} (hf:C2 x=true) (h:∃ y∈x,A5 y≠0):A5 (Xv x)≠0:=by
 have key:A5 (Da (Bo x (-Bs (Bg x))))≠0:=by
  refine Amw ?_
  have eb:(Bg x).toNat=Ld x 0:=A1j _
  have hfx:∀ z∈x,Ck z=true:=List.all_eq_true.1 hf
  rcases Ahq h with e | ⟨z,hz,z4,z0,ez⟩
  ·exfalso
   rcases Aeu x 0 with g | g | ⟨z,hz,k,g⟩
   ·have:∀ (l:List Int) (m:Nat),(∀ z∈l,Ck z=true)→m<Dz→Ld l m<Dz:=fun l=>by
     induction l with
     | nil=>intro m _ h; exact h
     | cons z l ih =>
       intro m hl hm
       have zk:=I3 (show Ig z.toNat=true from hl z A2w)
       rw [Rn zk.1]
       refine ih _ (fun w hw=>hl w (A2m _ hw)) ?_
       have hz:E3 z.toNat<Dz:=by
        rcases A2e (E3 z.toNat) Dz with h | h
        ·exact h
        ·exfalso
         have hpow:Db z.toNat=2047:=by
          rw [Fb] at h
          unfold E3 at h; unfold Db; omega
         have:=hl z A2w
         unfold Ck Ig at this
         rw [hpow] at this
         exact absurd this (by decide)
       omega
    have:=this x 0 hfx (by rw [Fb]; omega)
    rw [e,Fb,Jv] at this
    omega
   ·rw [e,Jv] at g; omega
   ·rw [e] at g
    have h1:=Sd z.toNat
    rw [← g] at h1
    exact k (h1.symm.trans (by decide +kernel))
  ·have zf:=I3 (show Ig z.toNat=true from hfx z hz)
   have ee:Bs (Bg x)=Me z.toNat:=by unfold Bs; rw [eb,ez,Alf z.toNat]; rfl
   refine ⟨Bp z (-Me z.toNat),List.mem_map.2 ⟨z,hz,by rw [ee]⟩,?_⟩
   have:=Y2 zf.2 zf.1 z0
   intro k
   unfold A5 Bp at k
   rw [A1j] at k
   have k':=Sf (b:=(E5 z.toNat (-Me z.toNat)).1) (by omega)
   rw [Apu] at this
   omega
 unfold Xv
 split
 ·exact key
 ·rw [Xj]; exact key
end Go.Rnd
namespace Go.Rnd
open Go.Den
theorem Ar4 {x y:List Int} (h:SL x y):∀ m,Ld x m=Ld y m:=by
 induction h with
 | nil=>intro _; rfl
 | @cons a b l m h _ ih =>
   intro k
   have s:=P7 h
   have e1:Ah a.toNat=Ah b.toNat:=by have:=s.2.1; unfold A5 at this; omega
   have e2:E3 a.toNat=E3 b.toNat:=by have:=s.1; unfold It at this; omega
   by_cases k4:Ah a.toNat=4
   ·rw [Vr k4,Vr (by omega)]
   ·rw [Rn k4,Rn (by omega),ih,e2]
theorem Nw {x y:List Int} (h:SL x y):Bg x=Bg y:=by unfold Bg; rw [Ar4 h]
theorem Ao5 {x y:List Int} (k:Int) (h:SL x y):∀ s,Ui k s x=Ui k s y:=by
 induction h with
 | nil=>intro _; rfl
 | cons h _ ih =>
   intro s
   unfold Ui
   rw [As7 (R7 k h),ih]
theorem Amx {x y:List Int} (h:SL x y):Da x=Da y:=by
 unfold Da
 rw [Nw h,Ao5 _ h]
theorem Anj {x y:List Int} (h:SL x y):Mj x=Mj y:=by
 induction h with
 | nil=>rfl
 | cons h _ ih =>
   unfold Mj
   rw [(P7 h).2.1,ih]
   split
   ·rfl
   ·rename_i k
    exact Apa h (by rw [(P7 h).2.1]; exact k)
theorem SL.map {f g:Int→Int} {x y:List Int} (h:SL x y) (hf:∀ a b,J7 a b→J7 (f a) (g b)):SL (x.map f) (y.map g):=by
 induction h with
 | nil=>exact .nil
 | cons h _ ih=>exact .cons (hf _ _ h) ih
theorem Aif {x y:List Int} (k:Int) (h:SL x y):SL (Bo x k) (Bo y k):=h.map fun _ _=>R7 k
theorem Aed {x y:List Int} (h:SL x y):Xv x=Xv y:=by
 unfold Xv
 rw [Anj h,Nw h,Amx (Aif _ h)]
theorem Aob {x y:List Int} (h:SL x y):Eu x=Eu y:=by
 unfold Eu
 rw [Aed h,Nw h]
theorem Acj {x y:List Int} (h:SL x y):J7 (Tx x) (Tx y):=by
 unfold Tx
 rw [Nw h]
 exact R7 _ (h.get 0)
theorem Av3 {z z' m:Int} (h:Zr z) (h':Zr z') (im:Af m=true) (k:A5 m≠0):Ec z m=Ec z' m:=by
 rw [R1,R1,Qo z,Qo z']
 have im:=Ab9 im
 have k:A5 (Cr m)≠0:=by rw [Xj]; exact k
 generalize Cr m=a at im k
 obtain ⟨n,e,_⟩:=N4 h
 obtain ⟨n',e',_⟩:=N4 h'
 obtain ⟨z1,_,_⟩:=Ga n
 obtain ⟨z1',_,_⟩:=Ga n'
 unfold Fg
 rw [e,e']
 by_cases k4:Ah a.toNat=4
 ·rw [Su k4,Su k4]
 ·by_cases k3:Ah a.toNat=3
  ·rw [Sv k3 z1,Sv k3 z1']
  ·have hz:a.toNat≠2^63:=fun e=>k (by unfold A5; rw [e]; decide)
   rw [Qn (Ub im) k3 k4 hz,Qn (Ub im) k3 k4 hz]
theorem Ajl {x y:List Int} (h:SL x y) (k:A5 (Xv y)≠0):Ec (Tx x) (Xv x)=Ec (Tx y) (Xv y):=by
 rw [Aed h]
 rcases Acj h with e | ⟨h1,h2⟩
 ·rw [e]
 ·exact Av3 h1 h2 (Aqj y) k
theorem Awd {n:Nat} {f g:Nat→Int} (h:∀ j,J7 (f j) (g j)):SL (I7 n f) (I7 n g):=.cons (.refl _) (SL.Wl _ fun _ _=>h _)
theorem Atu {x y:List Int} (h:SL x y) (k:A5 (Xv y)≠0):SL (P6 x) (P6 y):=by
 unfold P6
 rw [Ajl h k,Nw h,h.len]
 exact Awd fun j=>Aeo _ (R7 _ (h.get j))
theorem Aqk {x y:List Int} (h:SL x y) (ax:Ai x=true):J7 (Qv x) (Qv y):=by
 unfold Qv
 rw [Aed h]
 exact Aeo _ (Adj (Aqj y) (Hd (Ij ax 0)) (.refl _) (Acj h))
theorem Ad4 {x y:List Int} (h:SL x y):Dr x=Dr y:=by
 induction h with
 | nil=>rfl
 | cons h _ ih =>
   unfold Dr at ih ⊢
   rw [List.all_cons,List.all_cons,ih,(P7 h).2.1]
theorem U5:∀ {l:List Int},Dr l≠true→∃ x∈l,A5 x≠0
 | [],h=>absurd rfl h
 | x::l,h=>by
   by_cases k:A5 x=0
   ·have:Dr l≠true:=fun e=>h (by unfold Dr at e ⊢; rw [List.all_cons,e,A1i k]; rfl)
    obtain ⟨y,hy,g⟩:=U5 this
    exact ⟨y,A2m _ hy,g⟩
   ·exact ⟨x,A2w,k⟩
def MR (a b:List Int × Int × Int × Int):Prop:=SL a.1 b.1∧J7 a.2.1 b.2.1∧J7 a.2.2.1 b.2.2.1∧a.2.2.2=b.2.2.2
theorem MR.refl (a:List Int × Int × Int × Int):MR a a:=⟨.refl _,.refl _,.refl _,rfl⟩
theorem Ak3 {x y:List Int} (h:SL x y) (ax:Ai x=true):MR (Cf x) (Cf y):=by
 unfold Cf
 rw [h.len,h.fin]
 split
 ·exact .refl _
 split
 ·rename_i hf
  unfold Jm
  rw [Ad4 (h.drop 1),Aob h,h.len]
  split
  ·exact ⟨.refl _,.refl _,h.get 0,rfl⟩
  ·rename_i k
   obtain ⟨w,hw,g⟩:=U5 k
   have k:=Att hf ⟨w,List.mem_of_mem_drop hw,g⟩
   split
   ·exact ⟨Atu h k,Aqk h ax,.refl _,rfl⟩
   ·exact .refl _
 ·exact .refl _
theorem Aii {c b i:Int} {n:Nat} {l m:List Int} (h:SL l m):SL (Ct c l b i n) (Ct c m b i n):=SL.Wl _ fun _ _=>h.at
theorem Aj2 {c i k t t' a b:Int} {l m v w:List Int} (h:SL l m) (hv:SL v w) (ht:J7 t t') (al:Ai l=true):J7 (Mh c l i k v t a b) (Mh c m i k w t' a b):=by
 unfold Mh
 rw [hv.len]
 split
 ·unfold Rp
  rw [hv.len]
  exact Adj (Ol al) (Io _ _) h.at (Yc (Yc ht (Ahi hv (Aii h))) (hv.get _))
 ·exact h.at
theorem Ac0 {r c:Nat} {i k t t':Int} {l m v w:List Int} (h:SL l m) (hv:SL v w) (ht:J7 t t') (al:Ai l=true):SL (E2 r c l i k v t) (E2 r c m i k w t') :=
 SL.Bv fun _ _ _ _=>Aj2 h hv ht al
theorem An2 {r c j:Nat} {x y:Int} {l m:List Int} (h:SL l m) (hx:J7 x y):SL (La r c l j x) (La r c m j y) :=
 SL.Bv fun _ _ _ _=>by
  split
  ·split
   ·exact hx
   ·exact .refl _
  ·exact h.at
theorem Atv {r c j:Nat} {l m:List Int} (h:SL l m) (al:Ai l=true):SL (Wj r c l j) (Wj r c m j):=by
 obtain ⟨h1,h2,h3,_⟩:=Ak3 (Aii h) (Nk al) (x:=Ev r c l j) (y:=Ev r c m j)
 exact An2 (Ac0 h h1 h2 al) h3
inductive MS:List (List Int × Int)→List (List Int × Int)→Prop
 | nil:MS [] []
 | cons {v w:List Int} {s t:Int} {l m:List (List Int × Int)} (hv:SL v w) (hs:J7 s t) (h:MS l m):MS ((v,s)::l) ((w,t)::m)
theorem Ahg (r c:Nat):∀ (n j:Nat) (l m:List Int),SL l m→Ai l=true→(J4 r c n j l=none∧J4 r c n j m=none)∨∃ x y,J4 r c n j l=some x∧J4 r c n j m=some y∧SL x.1 y.1∧MS x.2 y.2
 | 0,_,l,m,h,_=>.inr ⟨(l,[]),(m,[]),rfl,rfl,h,.nil⟩
 | n+1,j,l,m,h,al=>by
   obtain ⟨h1,h2,_,h4⟩:=Ak3 (Aii h) (Nk al) (x:=Ev r c l j) (y:=Ev r c m j)
   unfold J4
   rw [h4]
   split
   ·rcases Ahg r c n (j+1) _ _ (Atv (r:=r) (c:=c) (j:=j) h al) (Va al j) with ⟨e1,e2⟩ | ⟨x,y,e1,e2,g1,g2⟩
    ·rw [e1,e2]; exact .inl ⟨rfl,rfl⟩
    ·rw [e1,e2]
     exact .inr ⟨_,_,rfl,rfl,g1,.cons h1 h2 g2⟩
   ·exact .inl ⟨rfl,rfl⟩
theorem Als (n:Nat):∀ (ms:List (List Int × Int)) (j:Nat) (q:List Int),Ai q=true→Ai (Gs n j ms q)=true
 | [],_,_,h=>h
 | _::ms,j,q,h=>W1 (Als n ms (j+1) q h) _ _ _ _
theorem Aux (n:Nat) {q:List Int} (aq:Ai q=true) {a b:List (List Int × Int)} (h:MS a b):∀ j,SL (Gs n j a q) (Gs n j b q):=by
 induction h with
 | nil=>intro _; exact .refl _
 | cons hv hs _ ih =>
   intro j
   unfold Gs
   exact Ac0 (ih _) hv hs (Als _ _ _ _ aq)
theorem Ajm {r c:Nat} {l m:List Int} (h:SL l m) (al:Ai l=true):(Jg r c l).isSome=(Jg r c m).isSome∧SL (K9 r c l) (K9 r c m)∧SL (Jo r c l) (Jo r c m):=by
 unfold K9 Jo Jg
 rcases Ahg r c (Ih r c) 0 l m h al with ⟨e1,e2⟩ | ⟨x,y,e1,e2,g1,g2⟩
 ·rw [e1,e2]; exact ⟨rfl,.nil,.nil⟩
 ·rw [e1,e2]; exact ⟨rfl,Aux r (Sm r) g2 0,g1⟩
theorem Ajn {r c:Nat} {l m:List Int} (h:SL l m) (al:Ai l=true):Kk r c l=Kk r c m:=by
 obtain ⟨h1,h2,h3⟩:=Ajm (r:=r) (c:=c) h al
 unfold Kk
 rw [h1,h2.fin,h3.fin]
theorem Py {r c:Int} {l m:List Int} (h:SL l m):A2 r c l=A2 r c m:=by unfold A2; rw [h.len]
theorem Nu {r c:Int} {l m:List Int} (h:SL l m):B9 r c l=B9 r c m:=by unfold B9; rw [Py h,h.fin]
theorem Ws {r c:Int} {l m:List Int} (h:SL l m) (al:Ai l=true):E0 r c l=E0 r c m:=by
 unfold E0
 rw [Nu h,Ajn h al]
def RX (a b:MX):Prop:=a.1=b.1∧a.2.1=b.2.1∧SL a.2.2.1 b.2.2.1∧a.2.2.2=b.2.2.2
theorem RX.refl (a:MX):RX a a:=⟨rfl,rfl,.refl _,rfl⟩
theorem Akt {r c x y a b:Int} {l m:List Int} (h:SL l m):RX (Hu r c l x y a b) (Hu r c m x y a b):=by
 unfold Hu
 rw [Py h]
 split
 ·split
  ·exact ⟨rfl,rfl,by dsimp only; exact SL.Bv fun _ _ _ _=>h.at,rfl⟩
  ·exact .refl _
 ·exact .refl _
theorem Ays {r c:Int} {l m:List Int} (h:SL l m) (al:Ai l=true):RX (D8 r c l) (D8 r c m):=by
 unfold D8
 rw [Ws h al]
 split
 ·exact .refl _
 ·exact ⟨rfl,rfl,(Akt (Ajm h al).2.1).2.2.1,rfl⟩
theorem Ayr {r c:Int} {l m:List Int} (h:SL l m) (al:Ai l=true):RX (H8 r c l) (H8 r c m):=by
 unfold H8
 rw [Ws h al]
 split
 ·exact .refl _
 ·exact ⟨rfl,rfl,(Akt (Ajm h al).2.2).2.2.1,rfl⟩
theorem Anz {c:Int} {l m:List Int} (h:SL l m) (n:Nat):J5 c l n=J5 c m n:=List.map_congr_left fun _ _=>(P7 h.at).1
theorem Anq {r c:Int} {l m:List Int} (h:SL l m):Lz r c l=Lz r c m:=by
 unfold Lz Qd
 rw [Nu h,Anz h]
theorem Asq {r c:Int} {l m:List Int} (h:SL l m):RX (Fe r c l) (Fe r c m):=by
 unfold Fe
 rw [Py h]
 split
 ·exact ⟨rfl,rfl,by dsimp only; exact SL.Bv fun _ _ _ _=>h.at,rfl⟩
 ·exact .refl _
theorem Ats {r c p q:Int} {l m b:List Int} (h:SL l m):RX (N2 r c l p q b) (N2 r c m p q b):=by
 unfold N2
 rw [Py h]
 split
 ·split
  ·exact ⟨rfl,rfl,by dsimp only; exact SL.Bv fun _ _ _ _=>Ahi h.row (.refl _),rfl⟩
  ·exact .refl _
 ·exact .refl _
theorem Al4 {r c p q:Int} {l m b:List Int} (h:SL l m):RX (C8 r c l p q b) (C8 r c m p q b):=by
 unfold C8
 obtain ⟨h1,h2,h3,h4⟩:=Asq (r:=r) (c:=c) h
 rw [h1,h2,h4]
 split
 ·exact .refl _
 ·exact Ats h3
theorem Ad7 {c:Int} {l m:List Int} (h:SL l m) (n:Nat):Mr c l n=Mr c m n:=by
 unfold Mr
 congr 1
 funext i
 rw [(P7 (h.at (c:=c) (i:=(i:Int)) (k:=(i:Int)))).2.1]
theorem An4 {r c p q:Int} {l l' m m':List Int} (h:SL l l') (h':SL m m'):Mg r c l p q m=Mg r c l' p q m':=by
 unfold Mg
 rw [Nu h,Nu h',Ad7 h]
theorem Aqv {c:Int} {l l':List Int} (h:SL l l') (i:Int) {xs ys:List Int} (hx:SL xs ys):∀ (s t j:Int),Af s=true→J7 s t→J7 (Oe c l i s j xs) (Oe c l' i t j ys):=by
 induction hx with
 | nil=>intro _ _ _ _ h; exact h
 | cons g _ ih =>
   intro s t j is hs
   unfold Oe
   exact ih _ _ _ (Oq is (Io _ _)) (Adj is (Io _ _) hs (Yc h.at g))
theorem Ad8 {c:Int} {l:List Int} {n i:Nat} (h:Mr c l n=false) (hi:i<n):A5 (Eb c l (i:Int) (i:Int))≠0:=by
 intro e
 unfold Mr at h
 have:=List.any_eq_false.1 h i (List.mem_range.2 hi)
 exact this (A1i e)
theorem Aos {c:Int} {l l':List Int} (h:SL l l') {n:Nat} (hn:Mr c l n=false) {b b':Nat→Int} (hb:∀ i,J7 (b i) (b' i)) (ib:∀ i,Af (b i)=true):∀ k,k≤n→SL (Yn c l b n k) (Yn c l' b' n k)
 | 0,_=>.nil
 | k+1,hk=>by
   have ih:=Aos h hn hb ib k (by omega)
   unfold Yn
   have e:=Apa (h.at (c:=c) (i:=((n-1-k:Nat):Int)) (k:=((n-1-k:Nat):Int))) (Ad8 hn (by omega))
   rw [← e]
   exact .cons (Aeo _ (Aqv h _ ih _ _ _ (ib _) (hb _))) ih
theorem Ald (r c:Int) (l:List Int):(Kj r c l).2.2.2=if C2 l=true then 0 else 2:=by
 unfold Kj
 by_cases g:C2 l=true
 ·rw [A14 g,A14 g]
 ·rw [A13 g,A13 g]; rfl
theorem Avo {r c p q:Int} {l l' m m':List Int} (h:SL l l') (h':SL m m') (am:Ai m=true):(Ua r c l p q m).2.2.2=(Ua r c l' p q m').2.2.2:=by
 unfold Ua
 rw [← An4 h h']
 by_cases k:Mg r c l p q m=0
 ·rw [A13 (fun h=>h k),A13 (fun h=>h k)]
  have hn:Mr c l r.toNat=false:=by
   cases h0:Mr c l r.toNat with
   | false=>rfl
   | true =>
     exfalso
     unfold Mg at k
     rw [h0,A14 rfl] at k
     by_cases k1:B9 r c l=0
     ·rw [A13 (fun h=>h k1)] at k
      by_cases k2:B9 p q m=0
      ·rw [A13 (fun h=>h k2)] at k
       by_cases k3:r≠c∨r≠p
       ·rw [A14 k3] at k; omega
       ·rw [A13 k3] at k; omega
      ·rw [A14 k2] at k; omega
     ·rw [A14 k1] at k; omega
  have:SL (upG c l q m r.toNat q.toNat) (upG c l' q m' r.toNat q.toNat):=by
   unfold upG
   refine SL.Bv fun i j hi hj=>SL.get ?_ i
   exact Aos (b:=fun i=>Eb q m (i:Int) (j:Int)) (b':=fun i=>Eb q m' (i:Int) (j:Int)) h hn (fun _=>h'.at) (fun _=>Ol am) _ (A2b _)
  rw [Ald,Ald,this.fin]
 ·rw [A14 k,A14 k]
theorem Aec {r c p q:Int} {l m:List Int}:Ai (N2 r c l p q m).2.2.1=true:=by
 unfold N2
 split
 ·split
  ·dsimp only; exact Gq fun _ _=>Sn _ _
  ·exact I6
 ·exact I6
theorem Vy {r c p q:Int} {l m:List Int}:Ai (C8 r c l p q m).2.2.1=true:=by
 unfold C8
 split
 ·exact I6
 ·exact Aec
theorem Ani {r c p q:Int} {l m b:List Int} (h:SL l m) (al:Ai l=true):(Dt r c l p q b).2.2.2=(Dt r c m p q b).2.2.2:=by
 unfold Dt
 obtain ⟨q1,q2,q3,_⟩:=Ays (r:=r) (c:=c) h al
 obtain ⟨t1,t2,t3,_⟩:=Ayr (r:=r) (c:=c) h al
 rw [Nu h,Ws h al,t1,t2,Anq t3]
 split
 ·rfl
 split
 ·rfl
 split
 ·rfl
 split
 ·rfl
 split
 ·rfl
 unfold Aoq
 obtain ⟨w1,w2,w3,w4⟩:=Al4 (r:=(D8 r c l).1) (c:=(D8 r c l).2.1) (p:=p) (q:=q) (b:=b) q3
 rw [← q1,← q2,← w4,← w1,← w2,t1,t2]
 split
 ·rfl
 ·exact Avo t3 w3 Vy
end Go.Rnd
end
