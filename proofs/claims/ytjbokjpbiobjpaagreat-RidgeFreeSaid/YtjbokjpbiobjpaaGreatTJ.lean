/- A verified evaluator of the program's form and its use for this seat: LdxL, S1EqLdx, S1PLdx, S1PLdxA, S1EqRef08, S1EqRef13, S1PRef08, S1EqOf, S1POf, S1PMatA, S1EqRef10. -/
import Derived.Test.YtjbokjpbiobjpaaGreatTE
import Derived.Test.YtjbokjpbiobjpaaGreatTD
import Derived.Test.YtjbokjpbiobjpaaGreatTF
import Derived.Test.YtjbokjpbiobjpaaGreatTI
import Derived.Test.YtjbokjpbiobjpaaGreatTG
set_option linter.unusedVariables false
set_option linter.unusedSimpArgs false
noncomputable section
open Int (toNat)
open List (length getD)
open Go.Proofs.Tryz
namespace Go.Rnd
open Go.Den
theorem p52:As 4841369599423283200=2^52∧Ay 4841369599423283200=0∧Ah 4841369599423283200=2∧Bk 4841369599423283200=false:=by decide +kernel
theorem p53:As 4368491638549381120=2^52∧Ay 4368491638549381120=-105∧Ah 4368491638549381120=2∧Bk 4368491638549381120=false:=by decide +kernel
theorem Afy {L:Int} {q:Nat} (b1:2^52≤q) (b2:q<2^53) (he:-1074≤L) (hi:L+1074≤2045):min ((L+1074).toNat*2^52+q) 9218868437227405312=(L+1075).toNat*2^52+(q-2^52):=by
 obtain ⟨t,rfl⟩:∃ t:Nat,L=t-1074:=⟨(L+1074).toNat,by omega⟩
 have e1:((t:Int)-1074+1074).toNat=t:=by omega
 have e2:((t:Int)-1074+1075).toNat=t+1:=by omega
 rw [e1,e2]
 omega
theorem Apf {m:Nat} (h0:m≠0) (h:m.log2≤52) {e:Int} (he:-1074≤e+m.log2-52) (hi:e+m.log2-52+1074≤2045) :
 Ca m e=(e+m.log2-52+1075).toNat*2^52+(m*2^(52-m.log2)-2^52)∧2^52≤m*2^(52-m.log2)∧m*2^(52-m.log2)<2^53:=by
 have hl:=Lw m (52-m.log2) h0
 have hne:m*2^(52-m.log2)≠0:=Hy h0
 have b1:2^52≤m*2^(52-m.log2):=by rw [← Nat.le_log2 hne,hl]; omega
 have b2:m*2^(52-m.log2)<2^53:=by rw [← A2x hne,hl]; omega
 have hs:=(Du m (52-m.log2) e).1
 have ee:e-((52-m.log2:Nat):Int)=e+m.log2-52:=by omega
 rw [ee] at hs
 exact ⟨hs.symm.trans ((M8 b1 b2 (by omega)).trans (Afy b1 b2 he hi)),b1,b2⟩
theorem Ap5 {x:Nat} (hx:x<2^64) (h3:Ah x≠3) (h4:Ah x≠4) (h0:Ah x≠0) :
 ∃ P f d:Nat,1≤P∧P≤2046∧f<2^52∧Mq x=Bc (Bk x) (P*2^52+f)∧f+2^52=As x*2^d∧(P:Int)-1075=Ay x-Jc x-d:=by
 have hf:=Kh x
 have hp:=I9 x
 have hm:As x≠0:=fun h=>h0 ((G2 h3 h4).1 h)
 have hw:=M7 hx
 have hab:E3 x=Db x*2^52+Cm x:=by unfold E3 Db Cm; omega
 have hp2:Db x≠2047:=fun h=>by
  rcases H4 x with ⟨_,_,k⟩ | ⟨_,_,k⟩ | ⟨k,_,_⟩
  ·exact h3 k
  ·exact h4 k
  ·omega
 unfold Mq Jc
 by_cases hs:E3 x<4503599627370496
 ·have hz:Db x=0:=by omega
  have eM:As x=Cm x:=by unfold As; rw [A14 hz]
  have eE:Ay x=-1074:=by unfold Ay; rw [A14 hz]
  have hl:(As x).log2≤51:=by have:=(A2x hm).2 (show As x<2^52 by omega); omega
  rw [A14 hs,A14 hs]
  have hmul:=mul_pow h3 h4 (by rw [p52.2.2.1]; decide) (by rw [p52.2.2.1]; decide) p52.1 p52.2.2.2
  rw [hmul,p52.2.1,eE]
  obtain ⟨r1,r2,r3⟩:=Apf (e:=-1074+0+52) hm (by omega) (by omega) (by omega)
  refine ⟨(As x).log2+1,As x*2^(52-(As x).log2)-2^52,52-(As x).log2,by omega,by omega,by omega,?_,by omega,by omega⟩
  have ht:(-1074+0+52+((As x).log2:Int)-52+1075).toNat=(As x).log2+1:=by omega
  rw [ht] at r1
  exact congrArg (Bc (Bk x)) r1
 ·rw [A13 hs,A13 hs]
  have hz:Db x≠0:=by
   intro h
   rw [h] at hab
   omega
  have eM:As x=Cm x+2^52:=by unfold As; rw [A13 hz]
  have eE:Ay x=(Db x:Int)-1075:=by unfold Ay; rw [A13 hz]
  refine ⟨Db x,Cm x,0,by omega,by omega,hf,?_,by rw [eM,A2f,A2q],by omega⟩
  rw [← hab]
  exact hw.symm
theorem Ry {s:Bool} {P f:Nat} (h1:1≤P) (h2:P≤2046) (hf:f<2^52) :
 Db (Bc s (P*2^52+f))=P∧Cm (Bc s (P*2^52+f))=f∧Bk (Bc s (P*2^52+f))=s∧Bc s (P*2^52+f)<2^64∧Ah (Bc s (P*2^52+f))=2 ∧
 As (Bc s (P*2^52+f))=f+2^52∧Ay (Bc s (P*2^52+f))=(P:Int)-1075:=by
 have e1:Db (Bc s (P*2^52+f))=P:=by
  unfold Db Bc
  cases s
  ·rw [A13 (by decide)]; omega
  ·rw [A14 rfl]; omega
 have e2:Cm (Bc s (P*2^52+f))=f:=by
  unfold Cm Bc
  cases s
  ·rw [A13 (by decide)]; omega
  ·rw [A14 rfl]; omega
 have e3:Bk (Bc s (P*2^52+f))=s:=sign_neg s (by omega)
 have e4:Bc s (P*2^52+f)<2^64:=by
  unfold Bc
  cases s
  ·rw [A13 (by decide)]; omega
  ·rw [A14 rfl]; omega
 refine ⟨e1,e2,e3,e4,?_,?_,?_⟩
 ·unfold Ah; rw [e1,A13 (by omega),A14 (by omega)]
 ·unfold As; rw [e1,e2,A13 (by omega)]
 ·unfold Ay; rw [e1,A13 (by omega)]
theorem Ape {L:Int} {q f:Nat} (hf:f<2^52) (h1:-1074≤L) (h2:L+1074≤2045) (hq:(L+1075).toNat=q):Ca (f+2^52) L=q*2^52+f:=by
 have em:=Afy (L:=L) (q:=f+2^52) (by omega) (by omega) h1 h2
 rw [hq,Nat.add_sub_cancel] at em
 exact (M8 (by omega) (by omega) h1).trans em
theorem A0z {V:Nat} {E:Int} (h0:V≠0) (h:1024≤E+V.log2):Ca V E=Dz:=by
 have hl:Cj V E=E+V.log2-52:=by unfold Cj; omega
 have hk:=Aeg h0 hl
 have hle:=Jq V E
 unfold Ca at hle ⊢
 rw [A13 h0] at hle ⊢
 rw [hl,Fb] at hle ⊢
 generalize kept V E=q at *
 obtain ⟨t,ht⟩:∃ t:Nat,E+(V.log2:Int)-52=t:=⟨(E+(V.log2:Int)-52).toNat,by omega⟩
 rw [ht]
 have:((t:Int)+1074).toNat=t+1074:=by omega
 rw [this]
 omega
theorem Zh {y m:Nat} (h:D3 y=m) (hm:Ah m≠4):y=m:=by
 unfold D3 at h
 by_cases h4:Ah y=4
 ·rw [A14 h4] at h
  exact absurd (by rw [← h]; decide) hm
 ·rw [A13 h4] at h; exact h
theorem Rb (s:Bool) (V:Nat) (E:Int):Ah (Bc s (Ca V E))≠4:=by
 rw [Wo s (Jq V E)]
 split
 ·decide
 ·split
  ·decide
  ·split<;>decide
theorem Apd {x P f d:Nat} {k:Int} (hm:As x≠0) (he:f+2^52=As x*2^d) (hP:(P:Int)-1075=Ay x-Jc x-d) :
 Ca (As x) (Ay x+k)=Ca (f+2^52) ((P:Int)-1075+Jc x+k):=by
 have:=(Du (As x) d (Ay x+k)).1
 rw [← he] at this
 rw [← this]
 congr 1
 omega
end Go.Rnd
namespace Go.Proofs.S1
open Go Go.Den Go.Rnd Go.Proofs
set_option maxRecDepth 100000
namespace EqLdx
def math.G1.A9:List (Nat × Entry):=[]
def math.G1.E:Env:=Ba (A8 math.G1.A9) (fun _=>false) (fun _=>none) (fun _=>none)
theorem math.G1.ev (N x:Nat):Bw math.G1.E N f251 (An f251) [.fl x]=some (.fl (x%9223372036854775808)):=by kernel_rfl
abbrev _root_.Go.Proofs.S1.math.G1.Kn:=A4 prog 251 math.G1.spec
theorem math.G1.Ac (hk:Az prog math.G1.A9) (h:Hyp math.G1.E f251 math.G1.ts math.G1.pre math.G1.out):math.G1.Kn :=
 Al (A0 hk _ _ _) func251 (by kernel_rfl) (by kernel_rfl) h
def math.Ho.A9:List (Nat × Entry):=[]
def math.Ho.E:Env:=Ba (A8 math.Ho.A9) (fun _=>false) (fun _=>none) (fun _=>none)
theorem math.Ho.ev (N x:Nat):Bw math.Ho.E N f241 (An f241) [.fl x]=some (.bool (Ieee.double.order x x !=some .eq)):=by kernel_rfl
abbrev _root_.Go.Proofs.S1.math.Ho.Kn:=A4 prog 241 math.Ho.spec
theorem math.Ho.Ac (hk:Az prog math.Ho.A9) (h:Hyp math.Ho.E f241 math.Ho.ts math.Ho.pre math.Ho.out):math.Ho.Kn :=
 Al (A0 hk _ _ _) func241 (by kernel_rfl) (by kernel_rfl) h
def math.Hp.A9:List (Nat × Entry):=[(251,math.G1.spec)]
def math.Hp.E:Env:=Ba (A8 math.Hp.A9) (fun _=>false) (fun _=>none) (fun _=>none)
theorem math.Hp.ev (N x:Nat) (s:Int):Bw math.Hp.E N f240 (An f240) [.fl x,.int .i64 s]=bif (s==(0:Int)) then some (.bool (Ieee.double.order (E3 x) 9218868437227405311==some .gt)) else bif (A6 s 0) then none else some (.bool (Ieee.double.order x 9218868437227405311==some .gt)):=by kernel_rfl
abbrev _root_.Go.Proofs.S1.math.Hp.Kn:=A4 prog 240 math.Hp.spec
theorem math.Hp.Ac (hk:Az prog math.Hp.A9) (h:Hyp math.Hp.E f240 math.Hp.ts math.Hp.pre math.Hp.out):math.Hp.Kn :=
 Al (A0 hk _ _ _) func240 (by kernel_rfl) (by kernel_rfl) h
def math.normalize.A9:List (Nat × Entry):=[(251,math.G1.spec)]
def math.normalize.E:Env:=Ba (A8 math.normalize.A9) (fun _=>false) (fun _=>none) (fun _=>none)
theorem math.normalize.ev (N x:Nat):Bw math.normalize.E N f242 (An f242) [.fl x]=bif (Ieee.double.order (E3 x) 4503599627370496==some .lt) then some (.tup [.fl ((Ieee.double.mul x 4841369599423283200).getD nanBits),.int .i64 (-52:Int)]) else some (.tup [.fl x,.int .i64 0]):=by kernel_rfl
abbrev _root_.Go.Proofs.S1.math.normalize.Kn:=A4 prog 242 math.normalize.spec
theorem math.normalize.Ac (hk:Az prog math.normalize.A9) (h:Hyp math.normalize.E f242 math.normalize.ts math.normalize.pre math.normalize.out):math.normalize.Kn :=
 Al (A0 hk _ _ _) func242 (by kernel_rfl) (by kernel_rfl) h
def math.Dw.A9:List (Nat × Entry):=[]
def math.Dw.E:Env:=Wt (A8 math.Dw.A9) (fun _=>false) (fun _=>none) (fun _=>none) (Ahx [])
theorem math.Dw.ev (N x y:Nat):Bw math.Dw.E N f243 (An f243) [.fl x,.fl y]=bif (!(F1 x)) then bif (!(F1 y)) then bif (decide (0≤(Is .u64 (Gx .u64 (x:Int) 9223372036854775808) (E1 .u64 (y:Int) 9223372036854775808)))) then some (.fl (toNat (Is .u64 (Gx .u64 (x:Int) 9223372036854775808) (E1 .u64 (y:Int) 9223372036854775808)))) else none else none else none:=by kernel_rfl
abbrev _root_.Go.Proofs.S1.math.Dw.Kn:=A4 prog 243 math.Dw.spec
theorem math.Dw.Ac (hk:Az prog math.Dw.A9) (h:Hyp math.Dw.E f243 math.Dw.ts math.Dw.pre math.Dw.out):math.Dw.Kn :=
 Al (Yi hk _ _ _ _) func243 (by kernel_rfl) (by kernel_rfl) h
def math.W7.A9:List (Nat × Entry):=[]
def math.W7.E:Env:=Ba (A8 math.W7.A9) (fun _=>false) (fun _=>none) (fun _=>none)
theorem math.W7.ev (N:Nat) (s:Int):Bw math.W7.E N f244 (An f244) [.int .i64 s]=bif (Em 0 s) then some (.fl 9218868437227405312) else some (.fl 18442240474082181120):=by kernel_rfl
abbrev _root_.Go.Proofs.S1.math.W7.Kn:=A4 prog 244 math.W7.spec
theorem math.W7.Ac (hk:Az prog math.W7.A9) (h:Hyp math.W7.E f244 math.W7.ts math.W7.pre math.W7.out):math.W7.Kn :=
 Al (A0 hk _ _ _) func244 (by kernel_rfl) (by kernel_rfl) h
def math.Gv.A9:List (Nat × Entry):=[(243,math.Dw.spec),(244,math.W7.spec),(240,math.Hp.spec),(241,math.Ho.spec),(242,math.normalize.spec)]
def math.Gv.E:Env:=Wt (A8 math.Gv.A9) (fun _=>false) (fun _=>none) (fun _=>none) (Ahx [])
theorem math.Gv.ev (N x:Nat) (k:Int):Bw math.Gv.E N f216 (An f216) [.fl x,.int .i64 k]=bif (Ieee.double.order x 0==some .eq) then some (.fl x) else bif (T7 x&&decide ((0:Int)=0)) then bif ((decide (Ah x=3))||(T7 x)) then bif ((decide (Ah x=3))||(decide (Ah x=4))) then some (.fl x) else bif (Ag9 x) then bif (!(F1 (Mq x))) then bif (A6 (Ab ((Ab (k+(Jc x)))+(Ab ((E1 .i64 (Ab (Dm .u64 ((Mq x):Int) 52)) 2047)-1023)))) (-1075:Int)) then bif (Ag9 (Mq x)&&decide ((0:Int)=0)) then some (.fl (Bc (Bk (Mq x)) 0)) else none else bif (A6 1023 (Ab ((Ab (k+(Jc x)))+(Ab ((E1 .i64 (Ab (Dm .u64 ((Mq x):Int) 52)) 2047)-1023))))) then bif (Ieee.double.order (Mq x) 0==some .lt) then some (.fl (Bc (decide ((-1:Int)<0)) Dz)) else some (.fl (Bc (decide ((1:Int)<0)) Dz)) else bif (A6 (Ab ((Ab (k+(Jc x)))+(Ab ((E1 .i64 (Ab (Dm .u64 ((Mq x):Int) 52)) 2047)-1023)))) (-1022:Int)) then bif (decide (0≤(Is .u64 (Gx .u64 ((Mq x):Int) 9218868437227405312) (B4 .u64 (Bl (Ab ((Ab ((Ab ((Ab (k+(Jc x)))+(Ab ((E1 .i64 (Ab (Dm .u64 ((Mq x):Int) 52)) 2047)-1023))))+53))+1023))) 52)))) then some (.fl ((Ieee.double.mul 4368491638549381120 (toNat (Is .u64 (Gx .u64 ((Mq x):Int) 9218868437227405312) (B4 .u64 (Bl (Ab ((Ab ((Ab ((Ab (k+(Jc x)))+(Ab ((E1 .i64 (Ab (Dm .u64 ((Mq x):Int) 52)) 2047)-1023))))+53))+1023))) 52)))).getD nanBits)) else none else bif (decide (0≤(Is .u64 (Gx .u64 ((Mq x):Int) 9218868437227405312) (B4 .u64 (Bl (Ab ((Ab ((Ab (k+(Jc x)))+(Ab ((E1 .i64 (Ab (Dm .u64 ((Mq x):Int) 52)) 2047)-1023))))+1023))) 52)))) then some (.fl ((Ieee.double.mul 4607182418800017408 (toNat (Is .u64 (Gx .u64 ((Mq x):Int) 9218868437227405312) (B4 .u64 (Bl (Ab ((Ab ((Ab (k+(Jc x)))+(Ab ((E1 .i64 (Ab (Dm .u64 ((Mq x):Int) 52)) 2047)-1023))))+1023))) 52)))).getD nanBits)) else none else none else none else none else none :=
 Eq.trans (by kernel_rfl)
 (Et rfl (Et (Ax (S8 (decide (Ah x=3))) (C9 (Ast (decide (Ah x=3)) (T7 x)) (Ax (X2 (decide (Ah x=3))) (C9 (tt5 (decide (Ah x=3)) (decide (Ah x=4))) rfl rfl)) rfl)) rfl))
abbrev _root_.Go.Proofs.S1.math.Gv.Kn:=A4 prog 216 math.Gv.spec
theorem math.Gv.Ac (hk:Az prog math.Gv.A9) (h:Hyp math.Gv.E f216 math.Gv.ts math.Gv.pre math.Gv.out):math.Gv.Kn :=
 Al (Yi hk _ _ _ _) func216 (by kernel_rfl) (by kernel_rfl) h
def math.Hx.A9:List (Nat × Entry):=[(216,math.Gv.spec)]
def math.Hx.E:Env:=Ba (A8 math.Hx.A9) (fun _=>false) (fun _=>none) (fun _=>none)
theorem math.Hx.ev (N x:Nat) (k:Int):Bw math.Hx.E N f165 (An f165) [.fl x,.int .i64 k]=bif (T7 x&&Cz (-2300≤k∧k≤2300)) then some (.fl (I2 x k)) else none:=by kernel_rfl
abbrev _root_.Go.Proofs.S1.math.Hx.Kn:=A4 prog 165 math.Hx.spec
theorem math.Hx.Ac (hk:Az prog math.Hx.A9) (h:Hyp math.Hx.E f165 math.Hx.ts math.Hx.pre math.Hx.out):math.Hx.Kn :=
 Al (A0 hk _ _ _) func165 (by kernel_rfl) (by kernel_rfl) h
def Aj.Br.A9:List (Nat × Entry):=[(165,math.Hx.spec),(102,Aj.B.spec),(159,Aj.F.spec)]
def Aj.Br.E:Env:=Ba (A8 Aj.Br.A9) (fun _=>false) (fun _=>none) (fun _=>none)
theorem Aj.Br.ev (N:Nat) (a k:Int):Bw Aj.Br.E N f96 (An f96) [.int .u64 a,.int .i64 k]=bif (Af a) then bif (T7 (toNat a)&&Cz (-2300≤k∧k≤2300)) then some (.int .u64 (Gc (I2 (toNat a) k))) else none else none:=by kernel_rfl
abbrev _root_.Go.Proofs.S1.Aj.Br.Kn:=A4 prog 96 Aj.Br.spec
theorem Aj.Br.Ac (hk:Az prog Aj.Br.A9) (h:Hyp Aj.Br.E f96 Aj.Br.ts Aj.Br.pre Aj.Br.out):Aj.Br.Kn :=
 Al (A0 hk _ _ _) func96 (by kernel_rfl) (by kernel_rfl) h
end EqLdx
open EqLdx
theorem Z9 (n:Nat):F1 n=decide (Ah n=4):=Zp n
theorem Ae1 (x:Nat):E3 x<2^64:=Nat.lt_trans (Sw x) (by decide)
theorem Rc (x:Nat):Ah (E3 x)=Ah x:=by
 have e1:Db (E3 x)=Db x:=by unfold Db E3; omega
 have e2:Cm (E3 x)=Cm x:=by unfold Cm E3; omega
 unfold Ah
 rw [e1,e2]
theorem Rl (x y:Int):(compare x y=.lt↔x<y)∧(compare x y=.gt↔y<x)∧(compare x y=.eq↔x=y):=by
 rcases Int.lt_trichotomy x y with h | h | h
 ·rw [Ajt h]; refine ⟨by simp [h],?_,?_⟩<;>simp<;>omega
 ·subst h
  have:compare x x=.eq:=by simp [compare,compareOfLessAndEq]
  rw [this]; simp
 ·rw [Aju h]; refine ⟨?_,by simp [h],?_⟩<;>simp<;>omega
theorem math.G1.known:math.G1.Kn:=math.G1.Ac .nil fun x _=>⟨0,math.G1.out [.f x],[],by rw [math.G1.ev]; rfl,.fl⟩
theorem math.Ho.known:math.Ho.Kn:=math.Ho.Ac .nil fun x hp=>by
 have hx:=Ar.1 (show T7 x=true from hp)
 refine ⟨0,math.Ho.out [.f x],[],?_,.bool⟩
 show _=some (DV.bool (decide (Ah x=4)))
 rw [math.Ho.ev]
 by_cases h:Ah x=4
 ·rw [We hx hx (.inl h),A1i h]; rfl
 ·rw [Pb hx hx h h,A1m h,(Rl _ _).2.2.2 rfl]; rfl
theorem Auv {x:Nat} (hx:x<2^64) (h4:Ah x≠4):(Ieee.double.order (E3 x) 9218868437227405311==some .gt)=decide (Ah x=3):=by
 have k1:Ah 9218868437227405311≠4:=by decide +kernel
 have k2:Gw 9218868437227405311=9218868437227405311:=by decide +kernel
 have ka:Gw (E3 x)=((E3 x:Nat):Int):=by
  have:=Lx false (r:=E3 x) (Sw x)
  exact this
 rw [Pb (Ae1 x) (by decide) (by rw [Rc]; exact h4) k1,k2,ka]
 have hl:=Awt h4
 rw [A1x,beq_iff_eq,A1k,(Rl _ _).2.1,A1o]
 constructor
 ·intro h
  refine Decidable.byContradiction fun h3=>?_
  have:=Vj h3 h4
  rw [Fb] at this
  unfold E3 at h
  omega
 ·intro h3
  have:=Sg h3
  rw [Fb] at this
  unfold E3
  omega
theorem math.Hp.known:math.Hp.Kn:=math.Hp.Ac (.cons math.G1.known .nil) fun x s hp=>by
 obtain ⟨h1,h2⟩:=Ae.1 (show (T7 x&&decide (s=0))=true from hp)
 have hx:=Ar.1 h1
 obtain rfl:=A17 h2
 refine ⟨0,math.Hp.out [.f x,.i 0],[],?_,.bool⟩
 show _=some (DV.bool (decide (Ah x=3)))
 rw [math.Hp.ev,show ((0:Int)==(0:Int))=true from rfl,A1h]
 by_cases h4:Ah x=4
 ·rw [We (Ae1 x) (by decide) (.inl (by rw [Rc]; exact h4)),A1m (by omega)]; rfl
 ·rw [Auv hx h4]
theorem math.normalize.known:math.normalize.Kn:=math.normalize.Ac (.cons math.G1.known .nil) fun x hp=>by
 obtain ⟨hx,h3,h4⟩:=Ar.1 (show Ag9 x=true from hp)
 refine ⟨0,math.normalize.out [.f x],[],?_,Wk.Ha (.cons .fl (.cons .int .nil))⟩
 show _=some (DV.tup [.fl (Mq x),.int .i64 (Jc x)])
 have k1:Ah 4503599627370496≠4:=by decide +kernel
 have k2:Gw 4503599627370496=4503599627370496:=by decide +kernel
 have ka:Gw (E3 x)=((E3 x:Nat):Int):=Lx false (r:=E3 x) (Sw x)
 have hc:(Ieee.double.order (E3 x) 4503599627370496==some .lt)=decide (E3 x<4503599627370496):=by
  rw [Pb (Ae1 x) (by decide) (by rw [Rc]; exact h4) k1,k2,ka,A1x,beq_iff_eq,A1k,(Rl _ _).1,A1o]
  omega
 rw [math.normalize.ev,hc]
 unfold Mq Jc
 by_cases h:E3 x<4503599627370496
 ·rw [A1i h,A1h,A14 h,A14 h]
  have hm:=mul_pow h3 h4 (by rw [p52.2.2.1]; decide) (by rw [p52.2.2.1]; decide) p52.1 p52.2.2.2
  have:=Zh (U9 hx (b:=4841369599423283200) (by decide) Gu) (by rw [hm]; exact Rb _ _ _)
  rw [this]
 ·rw [A1m h,A1l,A13 h,A13 h]
theorem Atw {n:Nat} (h:n<2^64):n &&& 9227875636482146303=n / 2^63*2^63+n%2^52:=by
 have hf:n%2^52<2^63:=by omega
 apply Nat.eq_of_testBit_eq
 intro j
 rw [Nat.testBit_and,show (9227875636482146303:Nat)=2^63*1+(2^52-1) from rfl,A15 (n / 2^63),Nat.testBit_two_pow_mul_add _ (by decide:2^52-1<2^63),Nat.testBit_two_pow_mul_add _ hf]
 by_cases hj:j<63
 ·rw [A14 hj,A14 hj,Nat.testBit_mod_two_pow,Nat.testBit_two_pow_sub_one,Bool.and_comm]
 ·rw [A13 hj,A13 hj,Nat.testBit_div_two_pow,Nat.sub_add_cancel (by omega)]
  by_cases h63:j=63
  ·subst h63
   show (n.testBit 63&&true)=_
   rw [Bool.and_true]
  ·have e1:Nat.testBit 1 (j-63)=false:=by rw [show (1:Nat)=2^0 from rfl,Nat.testBit_two_pow]; exact A1m (by omega)
   have e2:n.testBit j=false:=Nat.testBit_lt_two_pow (A2s h (A1w (by decide) (by omega)))
   rw [e1,e2]; rfl
theorem Ahv {n:Nat} (h:n<2^64):Gx .u64 (n:Int) (9218868437227405312:Int)=((n / 2^63*2^63+n%2^52:Nat):Int):=by
 have e:(BitVec.ofInt 64 (n:Int) &&& ~~~(BitVec.ofInt 64 9218868437227405312)).toNat=n / 2^63*2^63+n%2^52:=by
  have e1 : ~~~(BitVec.ofInt 64 9218868437227405312)=BitVec.ofNat 64 9227875636482146303:=by decide
  rw [e1,BitVec.toNat_and,BitVec.toNat_ofNat,BitVec.toNat_ofInt]
  have e2:(((n:Int)%((2^64:Nat):Int)).toNat)=n:=by omega
  rw [e2]
  exact Atw h
 have e':(BitVec.ofInt IntKind.u64.bits (n:Int) &&& ~~~(BitVec.ofInt IntKind.u64.bits 9218868437227405312)).toNat=n / 2^63*2^63+n%2^52:=e
 unfold Gx
 rw [e']
 exact Ue (by omega)
theorem or3 {A X Y Z W V f:Nat} (h1:A=f ||| X) (h2:X ||| Y=Z) (h3:f ||| Z=W) (h4:W=V):A ||| Y=V:=by rw [h1,Nat.or_assoc,h2,h3,h4]
theorem A0x (s p f:Nat):(s*2^11+p)*2^52+f=s*2^63+p*2^52+f:=by
 rw [A2l,A18,← A16]
theorem Awh {s f p:Nat} (hs:s<2) (hf:f<2^52) (hp:p<2048):(s*2^63+f) ||| (p*2^52)=s*2^63+p*2^52+f:=by
 have e1:s*2^63+f=f ||| s*2^11*2^52:=by rw [Np hf]; omega
 have e2:s*2^11*2^52 ||| p*2^52=(s*2^11+p)*2^52:=by
  have:=Np (a:=s) (b:=p) (k:=11) hp
  rw [← Nat.shiftLeft_eq,← Nat.shiftLeft_eq p,← Nat.shiftLeft_or_distrib,Nat.or_comm,this,Nat.shiftLeft_eq]
 exact or3 e1 e2 (Np hf) (A0x s p f)
theorem Akq {s:Bool} {P f:Nat} (h2:P≤2046) (hf:f<2^52) {q:Nat} (hq:q<2048) :
 Is .u64 (Gx .u64 ((Bc s (P*2^52+f):Nat):Int) (9218868437227405312:Int)) (B4 .u64 (Bl (q:Int)) (52:Int))=((Bc s (q*2^52+f):Nat):Int):=by
 have h64:Bc s (P*2^52+f)<2^64:=by
  unfold Bc
  cases s
  ·rw [A13 (by decide)]; omega
  ·rw [A14 rfl]; omega
 have ef:Bc s (P*2^52+f)%2^52=f:=by
  unfold Bc
  cases s
  ·rw [A13 (by decide)]; omega
  ·rw [A14 rfl]; omega
 have es:Bc s (P*2^52+f) / 2^63=if s then 1 else 0:=by
  unfold Bc
  cases s
  ·rw [A13 (by decide),A13 (by decide)]; omega
  ·rw [A14 rfl,A14 rfl]; omega
 rw [Ahv h64,ef,es,Dp (by omega) (by omega),show (52:Int)=((52:Nat):Int) from rfl,Fu q 52 (by decide),A1u (by omega),Vs (by split<;>omega) (by omega),Awh (by split<;>decide) hf hq]
 refine congrArg (fun n:Nat=>(n:Int)) ?_
 unfold Bc
 cases s
 ·rw [A13 (by decide),A13 (by decide)]; omega
 ·rw [A14 rfl,A14 rfl]; omega
theorem Arl {s:Bool} {P f:Nat} (h1:1≤P) (h2:P≤2046) (hf:f<2^52):E1 .i64 (Ab (Dm .u64 ((Bc s (P*2^52+f):Nat):Int) (52:Int))) (2047:Int)=(P:Int):=by
 obtain ⟨e1,_,_,h64,_⟩:=Ry (s:=s) h1 h2 hf
 rw [show (52:Int)=((52:Nat):Int) from rfl,Ro _ _ (by decide),Am (by omega) (by omega)]
 have hb:E1 .i64 ((Bc s (P*2^52+f) / 2^52:Nat):Int) (2047:Int)=Ab ((Bc s (P*2^52+f) / 2^52%2048:Nat):Int):=by
  unfold E1
  have e:(BitVec.ofInt 64 ((Bc s (P*2^52+f) / 2^52:Nat):Int) &&& BitVec.ofInt 64 2047).toNat=Bc s (P*2^52+f) / 2^52%2048:=by
   rw [BitVec.toNat_and,Jb,show (BitVec.ofInt 64 2047).toNat=2^11-1 from rfl,Nat.and_two_pow_sub_one_eq_mod]
   omega
  have e':(BitVec.ofInt IntKind.i64.bits ((Bc s (P*2^52+f) / 2^52:Nat):Int) &&& BitVec.ofInt IntKind.i64.bits 2047).toNat=Bc s (P*2^52+f) / 2^52%2048:=e
  rw [e']
  rfl
 unfold Db at e1
 rw [hb,e1,Am (by omega) (by omega)]
theorem math.Dw.known:math.Dw.Kn:=math.Dw.Ac .nil fun x y hp=>by
 obtain ⟨h1,h2⟩:=Ae.1 (show (Ag9 y&&decide (x=0))=true from hp)
 obtain ⟨hy,h3,h4⟩:=Ar.1 (show Cz _=true from h1)
 obtain rfl:=A17 h2
 refine ⟨0,math.Dw.out [.f 0,.f y],[],?_,.fl⟩
 show _=some (DV.fl (Bc (Bk y) 0))
 have n0:F1 0=false:=by decide +kernel
 have ny:F1 y=false:=by rw [Z9]; exact A1m h4
 have e1:Gx .u64 ((0:Nat):Int) (9223372036854775808:Int)=((0:Nat):Int):=Aaz (by decide)
 have e2:E1 .u64 (y:Int) (9223372036854775808:Int)=((Bc (Bk y) 0:Nat):Int):=by
  rw [show (9223372036854775808:Int)=((9223372036854775808:Nat):Int) from rfl,Ahr hy (by decide)]
  congr 1
  apply Nat.eq_of_testBit_eq
  intro j
  rw [Nat.testBit_and,show (9223372036854775808:Nat)=2^63 from rfl,Nat.testBit_two_pow]
  unfold Bc Bk
  by_cases hn:2^63≤y
  ·rw [A1i hn,A14 rfl,A2p,Nat.testBit_two_pow]
   by_cases hj:63=j
   ·subst hj
    have:y.testBit 63=true:=by
     rw [Nat.testBit_eq_decide_div_mod_eq,A1o]; omega
    rw [this]; rfl
   ·rw [A1m hj,Bool.and_false]
  ·rw [A1m hn,A13 (by decide),Nat.zero_testBit]
   by_cases hj:63=j
   ·subst hj
    rw [Nat.testBit_lt_two_pow (by omega)]; rfl
   ·rw [A1m hj,Bool.and_false]
 have e3:Is .u64 ((0:Nat):Int) ((Bc (Bk y) 0:Nat):Int)=((Bc (Bk y) 0:Nat):Int):=by
  rw [Vs (by decide) (by unfold Bc; split<;>decide),Nat.zero_or]
 rw [math.Dw.ev,n0,ny,e1,e2,e3,A1i (by omega)]
 rfl
theorem math.W7.known:math.W7.Kn:=math.W7.Ac .nil fun s _=>by
 refine ⟨0,math.W7.out [.i s],[],?_,.fl⟩
 show _=some (DV.fl (Bc (decide (s<0)) Dz))
 rw [math.W7.ev,Es]
 by_cases h:s<0
 ·rw [A1m (by omega),A1i h]; rfl
 ·rw [A1i (by omega),A1m h]; rfl
open EqLdx
theorem P2 {x:Nat} (hx:x<2^64):(Ieee.double.order x 0==some .eq)=decide (Ah x=0):=by
 by_cases h4:Ah x=4
 ·rw [We hx (by decide) (.inl h4),A1m (by omega)]; rfl
 ·have k0:Ah 0≠4:=by decide +kernel
  have z:Gw 0=0:=by decide +kernel
  have hk:Gw x=0↔x%2^63=0:=by
   have:=Lx (Bk x) (r:=x%2^63) (Nat.mod_lt _ (by decide))
   rw [M7 hx] at this
   rw [this]
   unfold H9
   cases Bk x
   ·rw [A13 (by decide)]; omega
   ·rw [A14 rfl]; omega
  have h0:Ah x=0↔x%2^63=0:=by
   have hp:x%2^63=Db x*2^52+Cm x:=by unfold Db Cm; omega
   rw [hp]
   have:=I9 x
   unfold Ah
   split
   ·split<;>omega
   ·split
    ·omega
    ·split<;>omega
  rw [Pb hx (by decide) h4 k0,z,A1x,beq_iff_eq,A1k,(Rl _ _).2.2,A1o,hk,h0]
theorem Amt {x:Nat} (hx:x<2^64) (h4:Ah x≠4) (h0:Ah x≠0):(Ieee.double.order x 0==some .lt)=Bk x:=by
 have k0:Ah 0≠4:=by decide +kernel
 have z:Gw 0=0:=by decide +kernel
 have hp:x%2^63=Db x*2^52+Cm x:=by unfold Db Cm; omega
 have hne:x%2^63≠0:=by
  intro h
  refine h0 ?_
  unfold Ah
  rw [A13 (by omega),A13 (by omega),A13 (by omega)]
 have:=Lx (Bk x) (r:=x%2^63) (Nat.mod_lt _ (by decide))
 rw [M7 hx] at this
 rw [Pb hx (by decide) h4 k0,z,A1x,beq_iff_eq,A1k,(Rl _ _).1,this]
 unfold H9
 cases Bk x
 ·rw [A13 (by decide)]
  constructor
  ·intro h; omega
  ·intro h; cases h
 ·rw [A14 rfl]
  constructor
  ·intro _; rfl
  ·intro _; omega
theorem Amv (x:Nat):Jc x=-52∨Jc x=0:=by unfold Jc; split<;>simp
theorem At1 {f:Nat} (hf:f<2^52):(f+2^52).log2=52:=Vf (a:=52) (by omega) (by omega)
theorem math.Gv.known:math.Gv.Kn:=math.Gv.Ac (.cons math.Dw.known (.cons math.W7.known (.cons math.Hp.known (.cons math.Ho.known (.cons math.normalize.known .nil))))) fun x k hp=>by
 obtain ⟨h1,h2⟩:=Ae.1 (show (T7 x&&Cz (-2300≤k∧k≤2300))=true from hp)
 have hx:=Ar.1 (show Cz (x<2^64)=true from h1)
 have hk:=Ar.1 h2
 refine ⟨0,.fl (I2 x k),[],?_,.fl⟩
 by_cases h0:Ah x=0
 ·have:I2 x k=x:=by unfold I2 E5; rw [A13 (by omega),A13 (by omega),A14 (.inr h0)]
  rw [math.Gv.ev,P2 hx,A1i h0,A1h,this]
 by_cases h3:Ah x=3
 ·have:I2 x k=x:=by unfold I2 E5; rw [A13 (by omega),A13 (by omega),A14 (.inl h3)]
  rw [math.Gv.ev,P2 hx,A1m h0,A1l,h1,A1i (rfl:(0:Int)=0),A1n,A1h,A2t,A1h,A1i h3,Bool.true_or,A1h,this]
 by_cases h4:Ah x=4
 ·have:I2 x k=x:=by unfold I2; rw [A14 h4]
  rw [math.Gv.ev,P2 hx,A1m h0,A1l,h1,A1i (rfl:(0:Int)=0),A1n,A1h,A2t,A1h,A1i h4,A2t,A1h,this]
 obtain ⟨P,f,d,p1,p2,hf,hw,hM,hP⟩:=Ap5 hx h3 h4 h0
 obtain ⟨w1,w2,w3,w4,w5,w6,w7⟩:=Ry (s:=Bk x) p1 p2 hf
 have hm:As x≠0:=fun h=>h0 ((G2 h3 h4).1 h)
 have hr:=Amv x
 have hl:=At1 hf
 have hld:I2 x k=Bc (Bk x) (Ca (f+2^52) ((P:Int)-1075+Jc x+k)):=by
  have:=Apd (k:=k) hm hM hP
  unfold I2 E5
  rw [A13 h4,A13 h4,A13 (by omega),this]
 have hp:T7 x=true:=Ar.2 hx
 have hfp:Ag9 x=true:=Ar.2 ⟨hx,h3,h4⟩
 have hnn:F1 (Mq x)=false:=by rw [Z9,hw,w5]; rfl
 have hfw:Ag9 (Mq x)=true:=by rw [hw]; exact Ar.2 ⟨w4,by omega,by omega⟩
 have ee:Ab (Ab (k+Jc x)+Ab (E1 .i64 (Ab (Dm .u64 ((Mq x:Nat):Int) (52:Int))) (2047:Int)-(1023:Int)))=k+Jc x+(P:Int)-1023:=by
  rw [hw,Arl p1 p2 hf,Am (x:=k+Jc x) (by omega) (by omega),Am (x:=(P:Int)-1023) (by omega) (by omega),Am (by omega) (by omega)]
  omega
 have hrun:=math.Gv.ev 0 x k
 rw [P2 hx,A1m h0,A1l,hp,A1i (rfl:(0:Int)=0),A1n,A1h,A2t,A1h,A1m h3,A1m h4,Bool.or_self,A1l,hfp,A1h,hnn,A20,A1h,ee,hfw,A1n,A1h] at hrun
 refine hrun.trans ?_
 rw [hld]
 rw [Au,Au,Au]
 by_cases c1:k+Jc x+(P:Int)-1023 < -1075
 ·rw [A1i c1,A1h,hw,w3,(Go.Rnd.Al6 (V:=f+2^52) (by omega) (by rw [hl]; omega)).1]
 ·rw [A1m c1,A1l]
  by_cases c2:1023<k+Jc x+(P:Int)-1023
  ·have hng:(Ieee.double.order (Mq x) 0==some .lt)=Bk x:=by
    rw [hw,Amt w4 (by omega) (by omega),w3]
   rw [A1i c2,A1h,hng,A0z (by omega) (by rw [hl]; omega)]
   cases Bk x<;>rfl
  ·rw [A1m c2,A1l]
   by_cases c3:k+Jc x+(P:Int)-1023 < -1022
   ·obtain ⟨q,hq⟩:∃ q:Nat,k+Jc x+(P:Int)-1023+53+1023=q:=⟨(k+Jc x+(P:Int)-1023+53+1023).toNat,by omega⟩
    have e1:Ab (Ab (k+Jc x+(P:Int)-1023+53)+1023)=(q:Int):=by
     rw [Am (x:=k+Jc x+(P:Int)-1023+53) (by omega) (by omega),Am (by omega) (by omega)]; exact hq
    have e2:=Akq (s:=Bk x) (P:=P) (f:=f) p2 hf (q:=q) (by omega)
    obtain ⟨v1,v2,v3,v4,v5,v6,v7⟩:=Ry (s:=Bk x) (P:=q) (f:=f) (by omega) (by omega) hf
    have hmul:=mul_pow (a:=Bc (Bk x) (q*2^52+f)) (p:=4368491638549381120) (by omega) (by omega) (by rw [p53.2.2.1]; decide) (by rw [p53.2.2.1]; decide) p53.1 p53.2.2.2
    have hmi:=U9 (a:=4368491638549381120) (b:=Bc (Bk x) (q*2^52+f)) (by decide) v4 Gu
    rw [Wh] at hmi
    have:=Zh hmi (by rw [hmul]; exact Rb _ _ _)
    have e3:(q:Int)-1075+-105+52=(P:Int)-1075+Jc x+k:=by omega
    have e4:(Jk (Bc (Bk x) (q*2^52+f)) 4368491638549381120).1=Bc (Bk x) (Ca (f+2^52) ((P:Int)-1075+Jc x+k)):=by
     rw [hmul,v3,v6,v7,p53.2.1,e3]
    rw [e4] at this
    rw [A1i c3,A1h,e1,hw,e2,A1i (by omega),A1h,A1j,this]
   ·obtain ⟨q,hq⟩:∃ q:Nat,k+Jc x+(P:Int)-1023+1023=q:=⟨(k+Jc x+(P:Int)-1023+1023).toNat,by omega⟩
    have e1:Ab (k+Jc x+(P:Int)-1023+1023)=(q:Int):=by rw [Am (by omega) (by omega)]; exact hq
    have e2:=Akq (s:=Bk x) (P:=P) (f:=f) p2 hf (q:=q) (by omega)
    obtain ⟨v1,v2,v3,v4,v5,v6,v7⟩:=Ry (s:=Bk x) (P:=q) (f:=f) (by omega) (by omega) hf
    have hone:Jk 4607182418800017408 (Bc (Bk x) (q*2^52+f))=(Bc (Bk x) (q*2^52+f),0):=by
     rw [Wh]; exact mul_one v4 (by omega) (by omega)
    have hmi:=U9 (a:=4607182418800017408) (b:=Bc (Bk x) (q*2^52+f)) (by decide) v4 Gu
    have:=Zh hmi (by rw [hone]; show Ah (Bc (Bk x) (q*2^52+f))≠4; omega)
    have er:=Ape (L:=(P:Int)-1075+Jc x+k) (q:=q) hf (by omega) (by omega) (by omega)
    rw [A1m c3,A1l,e1,hw,e2,A1i (by omega),A1h,A1j,this,hone,er]
theorem math.Hx.known:math.Hx.Kn:=math.Hx.Ac (.cons math.Gv.known .nil) fun x k hp=>by
 have hp:(T7 x&&Cz (-2300≤k∧k≤2300))=true:=hp
 exact ⟨0,.fl (I2 x k),[],by rw [math.Hx.ev,hp,A1h],.fl⟩
theorem Ahn {x:Nat} (k:Int):D3 (I2 x k)=(E5 x k).1:=by
 unfold I2
 by_cases h4:Ah x=4
 ·rw [A14 h4]
  unfold D3 E5
  rw [A14 h4,A14 h4]
 ·rw [A13 h4]
  unfold D3
  rw [A13]
  unfold E5
  rw [A13 h4]
  by_cases h3:Ah x=3∨Ah x=0
  ·rw [A14 h3]; exact h4
  ·rw [A13 h3]; exact Rb _ _ _
theorem Aj.Br.known:Aj.Br.Kn:=Aj.Br.Ac (.cons math.Hx.known (.cons Aj.B.known (.cons Aj.F.known .nil))) fun a k hp=>by
 obtain ⟨h1,h2⟩:=Ae.1 (show Di a k=true from hp)
 obtain ⟨x,rfl,hx⟩:=Bm h1
 refine ⟨0,.int .u64 (Bp (x:Int) k),[],?_,.int⟩
 have hp:T7 x=true:=Ar.2 hx
 have:Gc (I2 x k)=Bp (x:Int) k:=by
  unfold Gc Bp
  rw [A1j,Ahn]
 rw [Aj.Br.ev,h1,A1h,A1j,hp,h2,A1n,A1h,this]
namespace EqRef08
def Bn.ends.A9:List (Nat × Entry):=[(131,A1.Finite.spec),(142,A1.Neg.spec)]
def Bn.ends.E:Env:=Ba (A8 Bn.ends.A9) (fun _=>false) (fun _=>none) (fun _=>none)
theorem Bn.ends.ev (N:Nat) (b:Int):Bw Bn.ends.E N f164 (An f164) [.int .u64 b]=bif (Af b) then bif (Ck b) then some (.int .i64 0) else bif (Af b) then bif (D0 b) then some (.int .i64 (-1:Int)) else some (.int .i64 1) else none else none:=by kernel_rfl
abbrev _root_.Go.Proofs.S1.Bn.ends.Kn:=A4 prog 164 Bn.ends.spec
theorem Bn.ends.Ac (hk:Az prog Bn.ends.A9) (h:Hyp Bn.ends.E f164 Bn.ends.ts Bn.ends.pre Bn.ends.out):Bn.ends.Kn :=
 Al (A0 hk _ _ _) func164 (by kernel_rfl) (by kernel_rfl) h
def Bn.Order.A9:List (Nat × Entry):=[(116,Aw.Compare.spec),(62,A1.Kind.spec),(63,A1.Value.spec),(164,Bn.ends.spec)]
def Bn.Order.E:Env:=Ba (A8 Bn.Order.A9) (fun _=>false) (fun _=>none) (fun _=>none)
theorem Bn.Order.ev (N:Nat) (a b:Int):Bw Bn.Order.E N f95 (An f95) [.int .u64 a,.int .u64 b]=bif (K4 a) then bif (((A5 a)==(4:Int))||(K4 b)) then bif (((A5 a)==(4:Int))||((A5 b)==(4:Int))) then some (.tup [.int .i64 0,.bool false]) else bif (Af a) then bif (Af b) then bif (((Rh a) !=(0:Int))||((Rh b) !=(0:Int))) then some (.tup [.int .i64 (max (-1:Int) (min 1 (Ab ((Rh a)-(Rh b))))),.bool true]) else bif (Af a) then bif (Af b) then bif (((Ya (Bj (mD (Fc a))) (Aq (mD (Fc a)))&&Ya (Bj (mD (Fc b))) (Aq (mD (Fc b))))&&Xu (eD (Fc a) (Bi a)))&&Xu (eD (Fc b) (Bi b))) then some (.tup [.int .i64 (Xy (wv (Bj (mD (Fc a))) (Aq (mD (Fc a)))) (eD (Fc a) (Bi a)) (wv (Bj (mD (Fc b))) (Aq (mD (Fc b)))) (eD (Fc b) (Bi b))),.bool true]) else none else none else none else none else none else none else none :=
 Eq.trans (by kernel_rfl)
 (Et (Ax (S8 ((A5 a)==(4:Int))) (C9 (Ast ((A5 a)==(4:Int)) (K4 b)) (Ax (Qx ((A5 a)==(4:Int))) (Ax (X2 ((A5 a)==(4:Int))) (C9 (tt5 ((A5 a)==(4:Int)) ((A5 b)==(4:Int))) rfl (Et (Et (Ax (S8 ((Rh a) !=(0:Int))) (Ax (Qx ((Rh a) !=(0:Int))) (Ax (X2 ((Rh a) !=(0:Int))) (C9 (tt5 ((Rh a) !=(0:Int)) ((Rh b) !=(0:Int))) rfl rfl)))) rfl) rfl)))) rfl)) rfl)
abbrev _root_.Go.Proofs.S1.Bn.Order.Kn:=A4 prog 95 Bn.Order.spec
theorem Bn.Order.Ac (hk:Az prog Bn.Order.A9) (h:Hyp Bn.Order.E f95 Bn.Order.ts Bn.Order.pre Bn.Order.out):Bn.Order.Kn :=
 Al (A0 hk _ _ _) func95 (by kernel_rfl) (by kernel_rfl) h
def Bn.G1.A9:List (Nat × Entry):=[(163,A1.De.spec),(142,A1.Neg.spec)]
def Bn.G1.E:Env:=Ba (A8 Bn.G1.A9) (fun _=>false) (fun _=>none) (fun _=>none)
theorem Bn.G1.ev (N:Nat) (a:Int):Bw Bn.G1.E N f94 (An f94) [.int .u64 a]=bif (Af a) then bif (D0 a) then bif (Af a) then some (.int .u64 (Cr a)) else none else some (.int .u64 a) else none:=by kernel_rfl
abbrev _root_.Go.Proofs.S1.Bn.G1.Kn:=A4 prog 94 Bn.G1.spec
theorem Bn.G1.Ac (hk:Az prog Bn.G1.A9) (h:Hyp Bn.G1.E f94 Bn.G1.ts Bn.G1.pre Bn.G1.out):Bn.G1.Kn :=
 Al (A0 hk _ _ _) func94 (by kernel_rfl) (by kernel_rfl) h
def Bn.Max.A9:List (Nat × Entry):=[(95,Bn.Order.spec)]
def Bn.Max.E:Env:=Ba (A8 Bn.Max.A9) (fun _=>false) (fun _=>none) (fun _=>none)
theorem Bn.Max.ev (N:Nat) (a b:Int):Bw Bn.Max.E N f93 (An f93) [.int .u64 a,.int .u64 b]=bif (Af a&&Af b) then bif (!(Ab3 a b)) then some (.int .u64 9221120237041090560) else bif (A6 (Tp a b) 0) then some (.int .u64 b) else some (.int .u64 a) else none:=by kernel_rfl
abbrev _root_.Go.Proofs.S1.Bn.Max.Kn:=A4 prog 93 Bn.Max.spec
theorem Bn.Max.Ac (hk:Az prog Bn.Max.A9) (h:Hyp Bn.Max.E f93 Bn.Max.ts Bn.Max.pre Bn.Max.out):Bn.Max.Kn :=
 Al (A0 hk _ _ _) func93 (by kernel_rfl) (by kernel_rfl) h
end EqRef08
namespace EqRef13
def Bn.Ku.A9:List (Nat × Entry):=[(180,Aw.Vv.spec),(131,A1.Finite.spec),(62,A1.Kind.spec),(63,A1.Value.spec)]
def Bn.Ku.E:Env:=Ba (A8 Bn.Ku.A9) (fun _=>false) (fun _=>none) (fun _=>none)
theorem Bn.Ku.ev (N:Nat) (a:Int):Bw Bn.Ku.E N f132 (An f132) [.int .u64 a]=bif (Af a) then bif ((!(Ck a))||(K4 a)) then bif ((!(Ck a))||((A5 a)==(0:Int))) then some (.int .i64 0) else bif (Af a) then bif (Ju (Bj (mD (Fc a))) (Aq (mD (Fc a)))&&Xu (eD (Fc a) (Bi a))) then some (.int .i64 (Ab ((Iv (wv (Bj (mD (Fc a))) (Aq (mD (Fc a)))) (eD (Fc a) (Bi a)))-1))) else none else none else none else none :=
 Eq.trans (by kernel_rfl)
 (Et (Ax (Ade (Ck a)) (C9 (Ao0 (Ck a) (K4 a)) (Ax (S3 (Ck a)) (Ax (Adf (Ck a)) (C9 (Av1 (Ck a) ((A5 a)==(0:Int))) rfl rfl))) rfl)) rfl)
abbrev _root_.Go.Proofs.S1.Bn.Ku.Kn:=A4 prog 132 Bn.Ku.spec
theorem Bn.Ku.Ac (hk:Az prog Bn.Ku.A9) (h:Hyp Bn.Ku.E f132 Bn.Ku.ts Bn.Ku.pre Bn.Ku.out):Bn.Ku.Kn :=
 Al (A0 hk _ _ _) func132 (by kernel_rfl) (by kernel_rfl) h
def Aj.Bq.hint:Nat→Option Be
 | 0=>some { keep:=[0,3,4],objs:=[],boxes:=[] }
 | _=>none
def Aj.Bq.A9:List (Nat × Entry):=[(94,Bn.G1.spec),(93,Bn.Max.spec)]
def Aj.Bq.E:Env:=Ba (A8 Aj.Bq.A9) (fun _=>false) Aj.Bq.hint (fun _=>none)
section
variable (N M:Nat) (x:List Int) (p3 p4:Int)
def Aj.Bq.L0:Option DV:=B2 Aj.Bq.E N f228 (An f228) [1,1,0,1,0] [] M ⟨Gz 19 [(0,.ints .arg .u64 x),(3,.int .u64 p3),(4,.int .i64 p4)],[]⟩
theorem Aj.Bq.Av:Aj.Bq.L0 N (M+1) x p3 p4=bif (A6 p4 (length x:Int)) then bif ((decide (0≤p4))&&(decide (p4<(length x:Int)))) then bif (Af (getD x (toNat p4) 0)) then bif (Af p3&&Af (It (getD x (toNat p4) 0))) then Aj.Bq.L0 N M x (Pf p3 (It (getD x (toNat p4) 0))) (Ab (p4+1)) else none else none else none else some (.int .u64 p3):=by kernel_rfl
theorem Aj.Bq.ev:Bw Aj.Bq.E N f228 (An f228) [.ints .arg .u64 x] =
 Aj.Bq.L0 N N x 0 0:=by kernel_rfl
end
abbrev _root_.Go.Proofs.S1.Aj.Bq.Kn:=A4 prog 228 Aj.Bq.spec
theorem Aj.Bq.Ac (hk:Az prog Aj.Bq.A9) (h:Hyp Aj.Bq.E f228 Aj.Bq.ts Aj.Bq.pre Aj.Bq.out):Aj.Bq.Kn :=
 Al (A0 hk _ _ _) func228 (by kernel_rfl) (by kernel_rfl) h
def math.Sqrt.A9:List (Nat × Entry):=[]
def math.Sqrt.E:Env:=Ba (A8 math.Sqrt.A9) (fun _=>false) (fun _=>none) (fun _=>none)
theorem math.Sqrt.ev (N x:Nat):Bw math.Sqrt.E N f260 (An f260) [.fl x]=some (.fl ((Ieee.double.sqrt x).getD nanBits)):=by kernel_rfl
abbrev _root_.Go.Proofs.S1.math.Sqrt.Kn:=A4 prog 260 math.Sqrt.spec
theorem math.Sqrt.Ac (hk:Az prog math.Sqrt.A9) (h:Hyp math.Sqrt.E f260 math.Sqrt.ts math.Sqrt.pre math.Sqrt.out):math.Sqrt.Kn :=
 Al (A0 hk _ _ _) func260 (by kernel_rfl) (by kernel_rfl) h
def Aj.Sqrt.A9:List (Nat × Entry):=[(260,math.Sqrt.spec),(102,Aj.B.spec),(159,Aj.F.spec)]
def Aj.Sqrt.E:Env:=Ba (A8 Aj.Sqrt.A9) (fun _=>false) (fun _=>none) (fun _=>none)
theorem Aj.Sqrt.ev (N:Nat) (a:Int):Bw Aj.Sqrt.E N f247 (An f247) [.int .u64 a]=bif (Af a) then some (.int .u64 (Gc (((Ieee.double.sqrt (toNat a)).getD nanBits)))) else none:=by kernel_rfl
abbrev _root_.Go.Proofs.S1.Aj.Sqrt.Kn:=A4 prog 247 Aj.Sqrt.spec
theorem Aj.Sqrt.Ac (hk:Az prog Aj.Sqrt.A9) (h:Hyp Aj.Sqrt.E f247 Aj.Sqrt.ts Aj.Sqrt.pre Aj.Sqrt.out):Aj.Sqrt.Kn :=
 Al (A0 hk _ _ _) func247 (by kernel_rfl) (by kernel_rfl) h
def Aj.Norm.hint:Nat→Option Be
 | 0=>some { keep:=[0,4,5,6],objs:=[],boxes:=[] }
 | _=>none
def Aj.Norm.A9:List (Nat × Entry):=[(131,A1.Finite.spec),(132,Bn.Ku.spec),(181,Aj.Add.spec),(228,Aj.Bq.spec),(82,Aj.Mul.spec),(96,Aj.Br.spec),(247,Aj.Sqrt.spec)]
def Aj.Norm.E:Env:=Ba (A8 Aj.Norm.A9) (fun _=>false) Aj.Norm.hint (fun _=>none)
section
variable (N M:Nat) (x:List Int) (p5 p6:Int)
def Aj.Norm.L0:Option DV:=B2 Aj.Norm.E N f229 (An f229) [1,1,1,1,1,0,1,0] [] M ⟨Gz 42 [(0,.ints .arg .u64 x),(4,.int .i64 (Bs (Bg x))),(5,.int .u64 p5),(6,.int .i64 p6)],[]⟩
theorem Aj.Norm.Av:Aj.Norm.L0 N (M+1) x p5 p6=bif (A6 p6 (length x:Int)) then bif ((decide (0≤p6))&&(decide (p6<(length x:Int)))) then bif (Di (getD x (toNat p6) 0) (Ab ((0:Int)-(Bs (Bg x))))) then bif (Af (Bp (getD x (toNat p6) 0) (Ab ((0:Int)-(Bs (Bg x)))))&&Af (Bp (getD x (toNat p6) 0) (Ab ((0:Int)-(Bs (Bg x)))))) then bif (Af p5&&Af (C5 (Bp (getD x (toNat p6) 0) (Ab ((0:Int)-(Bs (Bg x))))) (Bp (getD x (toNat p6) 0) (Ab ((0:Int)-(Bs (Bg x))))))) then Aj.Norm.L0 N M x (Fg p5 (C5 (Bp (getD x (toNat p6) 0) (Ab ((0:Int)-(Bs (Bg x))))) (Bp (getD x (toNat p6) 0) (Ab ((0:Int)-(Bs (Bg x))))))) (Ab (p6+1)) else none else none else none else none else bif (Af p5) then bif (Di (F3 p5) (Bs (Bg x))) then some (.int .u64 (Bp (F3 p5) (Bs (Bg x)))) else none else none:=by kernel_rfl
theorem Aj.Norm.ev:Bw Aj.Norm.E N f229 (An f229) [.ints .arg .u64 x]=bif (Cp x) then bif (((Bg x)==(0:Int))||(Af (Bg x))) then bif (((Bg x)==(0:Int))||(!(Ck (Bg x)))) then some (.int .u64 (Bg x)) else bif (Af (Bg x)) then Aj.Norm.L0 N N x 0 (0:Int) else none else none else none :=
 Eq.trans (by kernel_rfl)
 (Et (Ax (S8 ((Bg x)==(0:Int))) (C9 (Ast ((Bg x)==(0:Int)) (Af (Bg x))) (Ax (Qx ((Bg x)==(0:Int))) (Ax (X2 ((Bg x)==(0:Int))) (C9 (Ax4 ((Bg x)==(0:Int)) (Ck (Bg x))) rfl rfl))) rfl)) rfl)
end
abbrev _root_.Go.Proofs.S1.Aj.Norm.Kn:=A4 prog 229 Aj.Norm.spec
theorem Aj.Norm.Ac (hk:Az prog Aj.Norm.A9) (h:Hyp Aj.Norm.E f229 Aj.Norm.ts Aj.Norm.pre Aj.Norm.out):Aj.Norm.Kn :=
 Al (A0 hk _ _ _) func229 (by kernel_rfl) (by kernel_rfl) h
def A7.Bt.hint:Nat→Option Be
 | 0=>some { keep:=[0,3],objs:=[],boxes:=[] }
 | _=>none
def A7.Bt.A9:List (Nat × Entry):=[(62,A1.Kind.spec)]
def A7.Bt.E:Env:=Ba (A8 A7.Bt.A9) (fun _=>false) A7.Bt.hint (fun _=>none)
section
variable (N M:Nat) (x:List Int) (p3:Int)
def A7.Bt.L0:Option DV:=B2 A7.Bt.E N f227 (An f227) [1,0,1,0] [] M ⟨Gz 16 [(0,.ints .arg .u64 x),(3,.int .i64 p3)],[]⟩
theorem A7.Bt.Av:A7.Bt.L0 N (M+1) x p3=bif (A6 p3 (length x:Int)) then bif ((decide (0≤p3))&&(decide (p3<(length x:Int)))) then bif (K4 (getD x (toNat p3) 0)) then bif ((A5 (getD x (toNat p3) 0)) !=(0:Int)) then some (.bool false) else A7.Bt.L0 N M x (Ab (p3+1)) else none else none else some (.bool true):=by kernel_rfl
theorem A7.Bt.ev:Bw A7.Bt.E N f227 (An f227) [.ints .arg .u64 x] =
 A7.Bt.L0 N N x 1:=by kernel_rfl
end
abbrev _root_.Go.Proofs.S1.A7.Bt.Kn:=A4 prog 227 A7.Bt.spec
theorem A7.Bt.Ac (hk:Az prog A7.Bt.A9) (h:Hyp A7.Bt.E f227 A7.Bt.ts A7.Bt.pre A7.Bt.out):A7.Bt.Kn :=
 Al (A0 hk _ _ _) func227 (by kernel_rfl) (by kernel_rfl) h
def A7.lead.hint:Nat→Option Be
 | 0=>some { keep:=[0,3],objs:=[],boxes:=[] }
 | _=>none
def A7.lead.A9:List (Nat × Entry):=[(62,A1.Kind.spec)]
def A7.lead.E:Env:=Ba (A8 A7.lead.A9) (fun _=>false) A7.lead.hint (fun _=>none)
section
variable (N M:Nat) (x:List Int) (p3:Int)
def A7.lead.L0:Option DV:=B2 A7.lead.E N f230 (An f230) [1,0,1,0] [] M ⟨Gz 17 [(0,.ints .arg .u64 x),(3,.int .i64 p3)],[]⟩
theorem A7.lead.Av:A7.lead.L0 N (M+1) x p3=bif (A6 p3 (length x:Int)) then bif ((decide (0≤p3))&&(decide (p3<(length x:Int)))) then bif (K4 (getD x (toNat p3) 0)) then bif ((A5 (getD x (toNat p3) 0)) !=(0:Int)) then some (.int .i64 p3) else A7.lead.L0 N M x (Ab (p3+1)) else none else none else some (.int .i64 0):=by kernel_rfl
theorem A7.lead.ev:Bw A7.lead.E N f230 (An f230) [.ints .arg .u64 x] =
 A7.lead.L0 N N x 0:=by kernel_rfl
end
abbrev _root_.Go.Proofs.S1.A7.lead.Kn:=A4 prog 230 A7.lead.spec
theorem A7.lead.Ac (hk:Az prog A7.lead.A9) (h:Hyp A7.lead.E f230 A7.lead.ts A7.lead.pre A7.lead.out):A7.lead.Kn :=
 Al (A0 hk _ _ _) func230 (by kernel_rfl) (by kernel_rfl) h
def A7.Dl.hint:Nat→Option Be
 | 0=>some { keep:=[0,2,4,5],objs:=[(0,4,100004,.ints 37 .u64 [])],boxes:=[2] }
 | 2=>some { keep:=[0,2,4,6,7,8],objs:=[(0,4,100004,.ints 37 .u64 []),(0,7,100007,.ints 37 .u64 [])],boxes:=[2] }
 | 4=>some { keep:=[2,4,7,9,10,11,12],objs:=[(0,4,100004,.ints 37 .u64 []),(0,7,100007,.ints 37 .u64 [])],boxes:=[2] }
 | _=>none
def A7.Dl.A9:List (Nat × Entry):=[(131,A1.Finite.spec),(163,A1.De.spec),(142,A1.Neg.spec),(132,Bn.Ku.spec),(228,Aj.Bq.spec),(84,Aj.Div.spec),(229,Aj.Norm.spec),(96,Aj.Br.spec),(81,Aj.Sub.spec),(230,A7.lead.spec),(227,A7.Bt.spec)]
def A7.Dl.E:Env:=Ba (A8 A7.Dl.A9) (fun _=>false) A7.Dl.hint (fun _=>none)
section
variable (N M:Nat) (x:List Int) (p8:Int) (p7:List Int) (p9 p10 p11 p12:Int) (p4_1:List Int) (p5:Int) (p4:List Int)
def A7.Dl.L0:Option DV:=B2 A7.Dl.E N f196 (An f196) [1,1,0,1,0,0,1,0] [] M ⟨Gz 98 [(0,.ints .arg .u64 x),(2,.ptr 2 0 0),(4,.oref 100004),(5,.int .i64 p5)],[(2,false,.box [.nil,.int .u64 0,.int .u64 0]),(100004,false,.ints 37 .u64 p4)]⟩
def A7.Dl.L1:Option DV:=B2 A7.Dl.E N f196 (An f196) [1,1,1,1,1,0,1,0] [] M ⟨Gz 98 [(0,.ints .arg .u64 x),(2,.ptr 2 0 0),(4,.oref 100004),(6,.int .i64 (Bs (Bg x))),(7,.oref 100007),(8,.int .i64 p8)],[(2,false,.box [.nil,.int .u64 0,.int .u64 0]),(100004,false,.ints 37 .u64 [(4607182418800017408:Int)]),(100007,false,.ints 37 .u64 p7)]⟩
def A7.Dl.L2:Option DV:=B2 A7.Dl.E N f196 (An f196) [1,1,1,1,1,1,1,1,1,1,1,0,1,0] [] M ⟨Gz 98 [(2,.ptr 2 0 0),(4,.oref 100004),(7,.oref 100007),(9,.int .u64 p9),(10,.int .u64 p10),(11,.int .u64 p11),(12,.int .i64 p12)],[(2,false,.box [.nil,.int .u64 0,.int .u64 0]),(100004,false,.ints 37 .u64 p4_1),(100007,false,.ints 37 .u64 p7)]⟩
theorem A7.Dl.Av:A7.Dl.L0 N (M+1) x p5 p4=bif (A6 p5 (length x:Int)) then bif (decide ((length p4)+1≤G0)) then A7.Dl.L0 N M x (Ab (p5+1)) (p4++[(0:Int)]) else none else bif (decide ((0:Int)<(length x:Int))) then some (.tup [.agg [.ints (.own 100004 37) .u64 p4,.int .u64 0,.int .u64 (getD x 0 0)],.bool true]) else none:=by kernel_rfl
theorem A7.Dl.B8:A7.Dl.L1 N (M+1) x p8 p7=bif (A6 p8 (length x:Int)) then bif ((decide (0≤p8))&&(decide (p8<(length x:Int)))) then bif (Di (getD x (toNat p8) 0) (Ab ((0:Int)-(Bs (Bg x))))) then bif (decide ((length p7)+1≤G0)) then A7.Dl.L1 N M x (Ab (p8+1)) (p7++[(Bp (getD x (toNat p8) 0) (Ab ((0:Int)-(Bs (Bg x)))))]) else none else none else none else bif (Cp p7) then bif (Cp x) then bif ((decide (0≤(Qs x 0)))&&(decide ((Qs x 0)<(length x:Int)))) then bif (Af (getD x (toNat (Qs x 0)) 0)) then bif (!(D0 (getD x (toNat (Qs x 0)) 0))) then bif (Af (Da p7)) then bif (Di (Cr (Da p7)) (Bs (Bg x))) then bif (Af (Bp (Cr (Da p7)) (Bs (Bg x)))) then bif (!(Ck (Bp (Cr (Da p7)) (Bs (Bg x))))) then some (.tup [.agg [.nil,.int .u64 0,.int .u64 0],.bool false]) else bif (decide ((0:Int)<(length p7:Int))) then bif (decide (0<(length p7))) then bif (Af (getD p7 0 0)&&Af (Cr (Da p7))) then A7.Dl.L2 N N p7 (Cr (Da p7)) (Bp (Cr (Da p7)) (Bs (Bg x))) (Ec (getD p7 0 0) (Cr (Da p7))) 1 [(4607182418800017408:Int)] else none else none else none else none else none else none else bif (Di (Da p7) (Bs (Bg x))) then bif (Af (Bp (Da p7) (Bs (Bg x)))) then bif (!(Ck (Bp (Da p7) (Bs (Bg x))))) then some (.tup [.agg [.nil,.int .u64 0,.int .u64 0],.bool false]) else bif (decide ((0:Int)<(length p7:Int))) then bif (decide (0<(length p7))) then bif (Af (getD p7 0 0)&&Af (Da p7)) then A7.Dl.L2 N N p7 (Da p7) (Bp (Da p7) (Bs (Bg x))) (Ec (getD p7 0 0) (Da p7)) 1 [(4607182418800017408:Int)] else none else none else none else none else none else none else none else none else none:=by kernel_rfl
theorem A7.Dl.H7:A7.Dl.L2 N (M+1) p7 p9 p10 p11 p12 p4_1=bif (A6 p12 (length p7:Int)) then bif ((decide (0≤p12))&&(decide (p12<(length p7:Int)))) then bif (decide ((toNat p12)<(length p7))) then bif (Af (getD p7 (toNat p12) 0)&&Af p11) then bif (decide ((length p4_1)+1≤G0)) then A7.Dl.L2 N M p7 p9 p10 p11 (Ab (p12+1)) (p4_1++[(E4 (getD p7 (toNat p12) 0) p11)]) else none else none else none else none else bif (decide ((0:Int)<(length p7:Int))) then bif (decide (0<(length p7))) then bif (Af p9&&Af (getD p7 0 0)) then bif (Af (Ec p9 (getD p7 0 0))&&Af p9) then some (.tup [.agg [.ints (.own 100004 37) .u64 p4_1,.int .u64 (E4 (Ec p9 (getD p7 0 0)) p9),.int .u64 p10],.bool true]) else none else none else none else none:=by kernel_rfl
theorem A7.Dl.ev:Bw A7.Dl.E N f196 (An f196) [.ints .arg .u64 x]=bif (Cp x) then bif (Dr (List.drop 1 x)) then A7.Dl.L0 N N x 1 [(4607182418800017408:Int)] else bif (Cp x) then bif (Af (Bg x)) then A7.Dl.L1 N N x 0 [] else none else none else none:=by kernel_rfl
end
abbrev _root_.Go.Proofs.S1.A7.Dl.Kn:=A4 prog 196 A7.Dl.spec
theorem A7.Dl.Ac (hk:Az prog A7.Dl.A9) (h:Hyp A7.Dl.E f196 A7.Dl.ts A7.Dl.pre A7.Dl.out):A7.Dl.Kn :=
 Al (A0 hk _ _ _) func196 (by kernel_rfl) (by kernel_rfl) h
def A7.Apply.hint:Nat→Option Be
 | 0=>some { keep:=[1,3,4,5,10,11,12],objs:=[],boxes:=[5,10,11] }
 | 2=>some { keep:=[1,3,4,5,10,11,12,13,14,15],objs:=[],boxes:=[5,10,11] }
 | _=>none
def A7.Apply.A9:List (Nat × Entry):=[(118,Aj.Ht.spec),(82,Aj.Mul.spec),(81,Aj.Sub.spec),(108,Ak.Po.spec),(83,Ak.Fx.arg.spec)]
def A7.Apply.E:Env:=Ba (A8 A7.Apply.A9) (fun _=>false) A7.Apply.hint (fun _=>none)
section
variable (N M0 M:Nat) (r c:Int) (l:List Int) (i k:Int) (v:List Int) (t p15:Int) (p11:List Int) (p12_1:Int) (p13:List Int) (p14 p12:Int) (p11_1:List Int)
def A7.Apply.L0:Option DV:=B2 A7.Apply.E N f198 (An f198) [1,1,0,1,0] [] M ⟨Gz 60 [(1,.int .i64 i),(3,.ints .arg .u64 v),(4,.int .u64 t),(5,.ptr 5 0 0),(10,.ptr 10 0 0),(11,.ptr 11 0 0),(12,.int .i64 p12)],[(5,false,.box [.int .i64 r,.int .i64 c,.ints .arg .u64 l]),(10,false,.box [.int .i64 0,.int .i64 0,.nil]),(11,false,.box [.int .i64 r,.int .i64 c,.ints .arg .u64 p11_1])]⟩
def A7.Apply.L1:Option DV:=B2 A7.Apply.E N f198 (An f198) [1,1,0,1,0,0,1,0,0,1,1,1,0] [M0] M ⟨Gz 60 [(1,.int .i64 i),(3,.ints .arg .u64 v),(4,.int .u64 t),(5,.ptr 5 0 0),(10,.ptr 10 0 0),(11,.ptr 11 0 0),(12,.int .i64 p12_1),(13,.ints .fresh .u64 p13),(14,.int .u64 p14),(15,.int .i64 p15)],[(5,false,.box [.int .i64 r,.int .i64 c,.ints .arg .u64 l]),(10,false,.box [.int .i64 0,.int .i64 0,.nil]),(11,false,.box [.int .i64 r,.int .i64 c,.ints .arg .u64 p11])]⟩
theorem A7.Apply.Av:A7.Apply.L0 N (M+1) r c l i v t p12 p11_1=bif (A6 p12 c) then bif (Hj r c l p12&&Cz (0≤i∧i≤r)) then bif ((decide ((0:Int)≤(length v:Int)))&&(decide ((length v:Int)≤(length (Ct c l p12 i (toNat (r-i))):Int)))) then bif ((Pk v (List.take (toNat (length v:Int)) (Ct c l p12 i (toNat (r-i))))&&Ai v)&&Ai (List.take (toNat (length v:Int)) (Ct c l p12 i (toNat (r-i))))) then bif (Af t&&Af (Je v (List.take (toNat (length v:Int)) (Ct c l p12 i (toNat (r-i)))))) then A7.Apply.L1 N M N r c l i v t 0 p11_1 p12 (Ct c l p12 i (toNat (r-i))) (C5 t (Je v (List.take (toNat (length v:Int)) (Ct c l p12 i (toNat (r-i)))))) else none else none else none else none else some (.agg [.int .i64 r,.int .i64 c,.ints .arg .u64 p11_1]) :=
 Eq.trans (by kernel_rfl)
 (Et (Et (C9 (Nh (decide ((0:Int)≤(length v:Int))) (decide ((length v:Int)≤(length (Ct c l p12 i (toNat (r-i))):Int)))) rfl rfl) rfl) rfl)
theorem A7.Apply.B8:A7.Apply.L1 N M0 (M+1) r c l i v t p15 p11 p12_1 p13 p14=bif (A6 p15 (length v:Int)) then bif ((decide (0≤p15))&&(decide (p15<(length p13:Int)))) then bif ((decide (0≤p15))&&(decide (p15<(length v:Int)))) then bif (Af p14&&Af (getD v (toNat p15) 0)) then bif (Af (getD p13 (toNat p15) 0)&&Af (C5 p14 (getD v (toNat p15) 0))) then bif (C0 r c p11 (Ab (i+p15)) p12_1) then A7.Apply.L1 N M0 M r c l i v t (Ab (p15+1)) (List.set p11 (toNat ((Ab (i+p15))*c+p12_1)) (Ec (getD p13 (toNat p15) 0) (C5 p14 (getD v (toNat p15) 0)))) p12_1 p13 p14 else none else none else none else none else none else A7.Apply.L0 N M0 r c l i v t (Ab (p12_1+1)) p11 :=
 Eq.trans (by kernel_rfl)
 (Et (C9 (Nh (decide (0≤p15)) (decide (p15<(length p13:Int)))) (C9 (Nh (decide (0≤p15)) (decide (p15<(length v:Int)))) (C9 (Cy (Af p14&&Af (getD v (toNat p15) 0))) (C9 (Cy (Af (getD p13 (toNat p15) 0)&&Af (C5 p14 (getD v (toNat p15) 0)))) (C9 (Cy (C0 r c p11 (Ab (i+p15)) p12_1)) rfl rfl) rfl) rfl) rfl) rfl) rfl)
theorem A7.Apply.ev:Bw A7.Apply.E N f198 (An f198) [.agg [.int .i64 r,.int .i64 c,.ints .arg .u64 l],.int .i64 i,.int .i64 k,.ints .arg .u64 v,.int .u64 t] =
 A7.Apply.L0 N N r c l i v t k l:=by kernel_rfl
end
abbrev _root_.Go.Proofs.S1.A7.Apply.Kn:=A4 prog 198 A7.Apply.spec
theorem A7.Apply.Ac (hk:Az prog A7.Apply.A9) (h:Hyp A7.Apply.E f198 A7.Apply.ts A7.Apply.pre A7.Apply.out):A7.Apply.Kn :=
 Al (A0 hk _ _ _) func198 (by kernel_rfl) (by kernel_rfl) h
def B1.Dg.hint:Nat→Option Be
 | 0=>some { keep:=[1,3,6,7],objs:=[],boxes:=[3,6] }
 | _=>none
def B1.Dg.A9:List (Nat × Entry):=[(83,Ak.Fx.arg.spec)]
def B1.Dg.E:Env:=Ba (A8 B1.Dg.A9) (fun _=>false) B1.Dg.hint (fun _=>none)
section
variable (N M:Nat) (r c:Int) (l:List Int) (j b p7:Int) (p3:List Int)
def B1.Dg.L0:Option DV:=B2 B1.Dg.E N f197 (An f197) [1,1,0,1,0] [] M ⟨Gz 26 [(1,.int .i64 j),(3,.ptr 3 0 0),(6,.ptr 6 0 0),(7,.int .i64 p7)],[(3,false,.box [.int .i64 r,.int .i64 c,.ints .arg .u64 p3]),(6,false,.box [.int .i64 0,.int .i64 0,.nil])]⟩
theorem B1.Dg.Av:B1.Dg.L0 N (M+1) r c j p7 p3=bif (A6 p7 r) then bif (C0 r c p3 p7 j) then B1.Dg.L0 N M r c j (Ab (p7+1)) (List.set p3 (toNat (p7*c+j)) 0) else none else some (.agg [.int .i64 r,.int .i64 c,.ints .arg .u64 p3]):=by kernel_rfl
theorem B1.Dg.ev:Bw B1.Dg.E N f197 (An f197) [.agg [.int .i64 r,.int .i64 c,.ints .arg .u64 l],.int .i64 j,.int .u64 b]=bif (C0 r c l j j) then B1.Dg.L0 N N r c j (Ab (j+1)) (List.set l (toNat (j*c+j)) b) else none:=by kernel_rfl
end
abbrev _root_.Go.Proofs.S1.B1.Dg.Kn:=A4 prog 197 B1.Dg.spec
theorem B1.Dg.Ac (hk:Az prog B1.Dg.A9) (h:Hyp B1.Dg.E f197 B1.Dg.ts B1.Dg.pre B1.Dg.out):B1.Dg.Kn :=
 Al (A0 hk _ _ _) func197 (by kernel_rfl) (by kernel_rfl) h
end EqRef13
open EqRef08 EqRef13
theorem Bn.ends.known:Bn.ends.Kn:=Bn.ends.Ac (.cons A1.Finite.known (.cons A1.Neg.known .nil)) fun b hp=>by
 have hp:Af b=true:=hp
 refine ⟨0,.int .i64 (Rh b),[],?_,.int⟩
 rw [Bn.ends.ev,hp,A1h,A1h]
 unfold Rh
 cases Ck b with
 | true=>rfl
 | false =>
   rw [A1l,A13 (by decide)]
   cases D0 b<;>rfl
theorem Bn.G1.known:Bn.G1.Kn:=Bn.G1.Ac (.cons A1.De.known (.cons A1.Neg.known .nil)) fun a hp=>by
 obtain ⟨n,rfl,hn⟩:=Bm (x:=a) hp
 refine ⟨0,.int .u64 (It (n:Int)),[],?_,.int⟩
 rw [Bn.G1.ev,B5 hn,A1h,A1h]
 unfold It D0 Cr E3 Gb Bk
 rw [A1j]
 by_cases h:2^63≤n
 ·rw [A1i h,A1h,A14 h,show n%2^63=n-2^63 by omega]
 ·rw [A1m h,A1l,show n%2^63=n by omega]
theorem Ad1 (b:Nat):Ya (Bj (mD (Fc (b:Int)))) (Aq (mD (Fc (b:Int))))=true∧Ju (Bj (mD (Fc (b:Int)))) (Aq (mD (Fc (b:Int))))=true∧Xu (eD (Fc (b:Int)) (Ay b))=true:=by
 obtain ⟨v1,v2,v3⟩:=Avm b
 have hl:Dy (mD (Fc (b:Int))).natAbs<3:=A2j (Nb (Aca _)) v1
 exact ⟨Ap2 (by omega),Jt (by omega),Ar.2 ⟨v2,v3⟩⟩
theorem Auo {a b:Nat} (ha:Ah a≠4) (hb:Ah b≠4):Xy (mD (Fc (a:Int))) (eD (Fc (a:Int)) (Ay a)) (mD (Fc (b:Int))) (eD (Fc (b:Int)) (Ay b))=if Gw a<Gw b then -1 else if Gw b<Gw a then 1 else 0:=by
 have pa:=D6 a
 have pb:=D6 b
 have ga:mD (Fc (a:Int))≠0→(-1074:Int)≤eD (Fc (a:Int)) (Ay a):=fun h=>Avi pa.1 (fun h0=>h (P8.2 h0))
 have gb:mD (Fc (b:Int))≠0→(-1074:Int)≤eD (Fc (b:Int)) (Ay b):=fun h=>Avi pb.1 (fun h0=>h (P8.2 h0))
 rw [Aup ga gb,Aj8 pa.1,Aj8 pb.1,← Aom,← Aom]
 have h1:=Ac9 (f:=-1074) ha hb pa.1 pb.1
 have h2:=Ac9 (f:=-1074) hb ha pb.1 pa.1
 unfold Xx
 by_cases c1:Fs a (-1074)<Fs b (-1074)
 ·rw [A14 c1,A14 (h1.1 c1)]
 ·rw [A13 c1,A13 (fun h=>c1 (h1.2 h))]
  by_cases c2:Fs b (-1074)<Fs a (-1074)
  ·rw [A14 c2,A14 (h2.1 c2)]
  ·rw [A13 c2,A13 (fun h=>c2 (h2.2 h))]
theorem Aq3 {b:Nat} (hb:b<2^64):Gw b=H9 (Bk b) (b%2^63):=by
 have:=Lx (Bk b) (r:=b%2^63) (Nat.mod_lt _ (by decide))
 rw [M7 hb] at this
 exact this
theorem Alg {b:Nat} (hb:b<2^64) (h4:Ah b≠4):(Ig b=true→Rh (b:Int)=0∧-(Dz:Int)<Gw b∧Gw b<Dz)∧(Ig b=false→Ah b=3∧((Rh (b:Int)=1∧Gw b=Dz)∨(Rh (b:Int)=-1∧Gw b=-(Dz:Int)))):=by
 have hk:=Aq3 hb
 constructor
 ·intro hf
  obtain ⟨_,f3⟩:=I3 hf
  have hl:=Vj f3 h4
  refine ⟨by unfold Rh Ck; rw [A1j,hf,A14 rfl],?_⟩
  rw [hk]
  unfold H9
  cases Bk b
  ·rw [A13 (by decide)]; omega
  ·rw [A14 rfl]; omega
 ·intro hf
  have h3:Ah b=3:=by
   unfold Ig at hf
   have:=of_decide_eq_false hf
   rcases H4 b with ⟨_,_,k⟩ | ⟨_,_,k⟩ | ⟨k,_,_⟩
   ·exact k
   ·exact absurd k h4
   ·omega
  have hi:=Sg h3
  refine ⟨h3,?_⟩
  rw [hk,hi]
  unfold Rh Ck D0 H9
  rw [A1j,hf,A13 (by decide)]
  cases Bk b
  ·left; exact ⟨rfl,rfl⟩
  ·right; exact ⟨rfl,rfl⟩
theorem Bn.Order.known:Bn.Order.Kn:=Bn.Order.Ac (.cons Aw.Compare.known (.cons A1.Kind.known (.cons A1.Value.known (.cons Bn.ends.known .nil)))) fun a b hp=>by
 obtain ⟨ha,hb⟩:=Ae.1 (show (Af a&&Af b)=true from hp)
 obtain ⟨a,rfl,hn⟩:=Bm ha
 obtain ⟨b,rfl,hm⟩:=Bm hb
 refine ⟨0,.tup [.int .i64 (Tp (a:Int) (b:Int)),.bool (Ab3 (a:Int) (b:Int))],[],?_,Wk.Ha (.cons .int (.cons .bool .nil))⟩
 have kk:∀ n:Nat,A5 (n:Int)=(Ah n:Int):=fun _=>rfl
 have pe:∀ n:Nat,Bi (n:Int)=Ay n:=fun _=>rfl
 rw [Bn.Order.ev,I1,I1,ha,hb,A1h,A2t,A1h,A1h,A1h,A1h,A1h,kk,kk,pe,pe,Ib,Ib]
 unfold Tp Ab3 Agd Aba
 rw [A1j,A1j]
 by_cases n4:Ah a=4∨Ah b=4
 ·have:(((Ah a:Nat):Int)==4||((Ah b:Nat):Int)==4)=true:=by
   rw [Bool.or_eq_true,beq_iff_eq,beq_iff_eq]; omega
  rw [this,A1h,A14 n4,A1i n4]; rfl
 ·have:(((Ah a:Nat):Int)==4||((Ah b:Nat):Int)==4)=false:=by
   rw [Bool.or_eq_false_iff,A2c,A2c]; omega
  rw [this,A1l,A13 n4,A1m n4,A20]
  have a4:Ah a≠4:=fun h=>n4 (.inl h)
  have b4:Ah b≠4:=fun h=>n4 (.inr h)
  obtain ⟨a1,a2⟩:=Alg hn a4
  obtain ⟨b1,b2⟩:=Alg hm b4
  have hinf:(0:Int)<(Dz:Int):=by decide
  cases hfa:Ig a with
  | true =>
    obtain ⟨ea,ka1,ka2⟩:=a1 hfa
    cases hfb:Ig b with
    | true =>
      obtain ⟨eb,kb1,kb2⟩:=b1 hfb
      obtain ⟨o1,_,o3⟩:=Ad1 a
      obtain ⟨p1,_,p3⟩:=Ad1 b
      have hc:=Auo a4 b4
      rw [ea,eb,show (((0:Int) !=(0:Int))||((0:Int) !=(0:Int)))=false from rfl,A1l,o1,o3,p1,p3,hc]
      rfl
    | false =>
      obtain ⟨_,hb2⟩:=b2 hfb
      rcases hb2 with ⟨eb,kb⟩ | ⟨eb,kb⟩
      ·rw [ea,eb,kb,A14 ka2]; rfl
      ·rw [ea,eb,kb,A13 (by omega),A14 ka1]; rfl
  | false =>
    obtain ⟨_,ha2⟩:=a2 hfa
    cases hfb:Ig b with
    | true =>
      obtain ⟨eb,kb1,kb2⟩:=b1 hfb
      rcases ha2 with ⟨ea,ka⟩ | ⟨ea,ka⟩
      ·rw [ea,eb,ka,A13 (by omega),A14 kb2]; rfl
      ·rw [ea,eb,ka,A14 kb1]; rfl
    | false =>
      obtain ⟨_,hb2⟩:=b2 hfb
      rcases ha2 with ⟨ea,ka⟩ | ⟨ea,ka⟩<;>rcases hb2 with ⟨eb,kb⟩ | ⟨eb,kb⟩
      ·rw [ea,eb,ka,kb,A13 (by omega),A13 (by omega)]; rfl
      ·rw [ea,eb,ka,kb,A13 (by omega),A14 (by omega)]; rfl
      ·rw [ea,eb,ka,kb,A14 (by omega)]; rfl
      ·rw [ea,eb,ka,kb,A13 (by omega),A13 (by omega)]; rfl
theorem Bn.Max.known:Bn.Max.Kn:=Bn.Max.Ac (.cons Bn.Order.known .nil) fun a b hp=>by
 have hp:(Af a&&Af b)=true:=hp
 refine ⟨0,.int .u64 (Pf a b),[],?_,.int⟩
 rw [Bn.Max.ev,hp,A1h,Au]
 unfold Pf Ai8 Ab3 Tp
 cases Aba a.toNat b.toNat with
 | false=>rfl
 | true =>
   rw [A2g,A1l,A14 rfl]
   obtain ⟨h1,h2⟩:=Ae.1 hp
   obtain ⟨x,rfl,_⟩:=Bm h1
   obtain ⟨y,rfl,_⟩:=Bm h2
   rw [A1j,A1j]
   by_cases h:Agd x y<0
   ·rw [A1i h,A1h,A14 h]
   ·rw [A1m h,A1l,A13 h]
theorem Bn.Ku.known:Bn.Ku.Kn:=Bn.Ku.Ac (.cons Aw.Vv.known (.cons A1.Finite.known (.cons A1.Kind.known (.cons A1.Value.known .nil)))) fun a hp=>by
 obtain ⟨b,rfl,hb⟩:=Bm (x:=a) hp
 refine ⟨0,.int .i64 (Bs (b:Int)),[],?_,.int⟩
 have kk:A5 (b:Int)=(Ah b:Int):=rfl
 have hf:Ck (b:Int)=Ig b:=rfl
 have pe:Bi (b:Int)=Ay b:=rfl
 obtain ⟨_,o2,o3⟩:=Ad1 b
 have hE:=D6 b
 have hM:=Ff b
 rw [Bn.Ku.ev,B5 hb,A1h,I1,A2t,A1h,kk,hf,pe,o2,o3,Ib,A1n,A1h,A1h]
 unfold Bs
 rw [A1j]
 unfold Me
 cases hfin:Ig b with
 | false=>rfl
 | true =>
   by_cases h0:Ah b=0
   ·rw [h0]; rfl
   ·have k0:(((Ah b:Nat):Int)==(0:Int))=false:=by rw [A2c]; omega
    obtain ⟨f4,f3⟩:=I3 hfin
    have hm:As b≠0:=fun hz=>h0 ((G2 f3 f4).1 hz)
    have hv:Fc (b:Int)≠0:=by
     intro h
     have:=Ada b
     rw [h] at this
     exact hm this.symm
    have hl:(As b).log2≤52:=by have:=(A2x hm).2 (show As b<2^53 by omega); omega
    have ht:Iv (mD (Fc (b:Int))) (eD (Fc (b:Int)) (Ay b))=((As b).log2:Int)+1+Ay b:=by
     unfold Iv Z3
     rw [A13 (fun h=>hv (P8.1 h)),A13 (fun h=>hv (P8.1 h))]
     unfold eD
     rw [A13 hv]
     have hs:=Yd (Fc (b:Int))
     have ha:As b=(mD (Fc (b:Int))).natAbs*2^S2 (Fc (b:Int)).natAbs:=by
      have e:=congrArg Int.natAbs hs
      rw [Int.natAbs_mul,Int.natAbs_natCast] at e
      rw [← Ada b]
      exact e
     have hmd:(mD (Fc (b:Int))).natAbs≠0:=fun h=>hv (P8.1 (Int.natAbs_eq_zero.1 h))
     have hlog:=Lw (mD (Fc (b:Int))).natAbs (S2 (Fc (b:Int)).natAbs) hmd
     rw [← ha] at hlog
     rw [hlog]
     omega
    rw [k0,A14 ⟨rfl,h0⟩,ht,Am (by omega) (by omega)]
    show some (DV.int .i64 _)=_
    congr 2; omega
theorem Ak9 {b:Nat} (h:b<2^63):Gw b=(b:Int):=Lx false h
theorem Atx {m x:Nat} (hm:m<2^63) (m4:Ah m≠4) (hx:x<2^63) (x4:Ah x≠4):Ai8 m x=max m x:=by
 have o:Aba m x=true:=by unfold Aba; rw [A1m (by omega)]; rfl
 have ho:Agd m x=if (m:Int)<(x:Int) then -1 else if (x:Int)<(m:Int) then 1 else 0:=by
  unfold Agd
  rw [A13 (by omega),Ak9 hm,Ak9 hx]
 unfold Ai8
 rw [o,A14 rfl,ho]
 by_cases h:m<x
 ·rw [A14 (show (m:Int)<(x:Int) by omega),A14 (by decide),Nat.max_eq_right (by omega)]
 ·rw [A13 (show ¬ (m:Int)<(x:Int) by omega)]
  by_cases h2:x<m
  ·rw [A14 (show (x:Int)<(m:Int) by omega),A13 (by decide),Nat.max_eq_left (by omega)]
  ·rw [A13 (show ¬ (x:Int)<(m:Int) by omega),A13 (by decide),Nat.max_eq_left (by omega)]
theorem Ak2 {m x:Nat} (h:Ah m=4∨Ah x=4):Ai8 m x=Le:=by
 have o:Aba m x=false:=by unfold Aba; rw [A1i h]; rfl
 unfold Ai8
 rw [o,A13 (by decide)]
theorem Am7:Ah Le=4:=by decide
theorem Ag4:∀ l:List Int,l.foldl (fun m x=>Pf m (It x)) ((Le:Nat):Int)=((Le:Nat):Int)
 | []=>rfl
 | x::l=>by
   rw [List.foldl_cons]
   have:Pf ((Le:Nat):Int) (It x)=((Le:Nat):Int):=by unfold Pf; rw [A1j,Ak2 (.inl Am7)]
   rw [this]
   exact Ag4 l
theorem Aad:∀ (l:List Int) (m:Nat),m<2^63→Ah m≠4→l.foldl (fun m x=>Pf m (It x)) (m:Int)=((Ld l m:Nat):Int)
 | [],m,_,_=>rfl
 | x::l,m,hm,m4=>by
   rw [List.foldl_cons]
   unfold Ld
   have e1:(It x).toNat=E3 x.toNat:=by unfold It; rw [A1j]
   by_cases h:Ah x.toNat=4
   ·rw [A14 h]
    have:Pf (m:Int) (It x)=((Le:Nat):Int):=by
     unfold Pf
     rw [e1,Ak2 (.inr (by rw [Rc]; exact h))]
    rw [this]
    exact Ag4 l
   ·rw [A13 h]
    have hx:=Sw x.toNat
    have x4:Ah (E3 x.toNat)≠4:=by rw [Rc]; exact h
    have:Pf (m:Int) (It x)=((max m (E3 x.toNat):Nat):Int):=by
     unfold Pf
     rw [A1j,e1,Atx hm m4 hx x4]
    rw [this]
    refine Aad l _ (by omega) ?_
    rcases Nat.le_total m (E3 x.toNat) with h2 | h2
    ·rw [Nat.max_eq_right h2]; exact x4
    ·rw [Nat.max_eq_left h2]; exact m4
theorem Aqm {a b:Int} (ha:Af a=true) (hb:Af b=true):Af (Pf a b)=true:=by
 obtain ⟨x,rfl,hx⟩:=Bm ha
 obtain ⟨y,rfl,hy⟩:=Bm hb
 unfold Pf Ai8
 rw [A1j,A1j]
 split
 ·split
  ·exact hb
  ·exact ha
 ·exact B5 (by decide)
theorem Adz (N:Nat) {x:List Int} (hx:Cp x=true):∀ (k i F:Nat) (m:Int),i+k=x.length→k<F→Af m=true→Aj.Bq.L0 N F x m (i:Int)=some (.int .u64 ((x.drop i).foldl (fun m x=>Pf m (It x)) m)):=by
 obtain ⟨hl,hu⟩:=Iq hx
 intro k
 induction k with
 | zero =>
   intro i F m hi hF hm
   obtain ⟨F,rfl⟩:∃ G,F=G+1:=⟨F-1,by omega⟩
   rw [Aj.Bq.Av,Au,A1m (by omega),A1l,A1v (by omega)]; rfl
 | succ k ih =>
   intro i F m hi hF hm
   obtain ⟨F,rfl⟩:∃ G,F=G+1:=⟨F-1,by omega⟩
   rw [Aj.Bq.Av,Au,A1i (show (i:Int)<(x.length:Int) by omega),A1h,A1i (show (0:Int)≤(i:Int) by omega),A1n,A1h,A1j,hu i (by omega),A1h,hm,Tv,A1n,A1h,Hi (by omega),List.foldl_cons,Am (by omega) (by omega)]
   exact ih (i+1) F _ (by omega) (by omega) (Aqm hm (Tv _))
theorem Aj.Bq.known:Aj.Bq.Kn:=Aj.Bq.Ac (.cons Bn.G1.known (.cons Bn.Max.known .nil)) fun x hp=>by
 refine ⟨x.length+1,.int .u64 (Bg x),[],?_,.int⟩
 rw [Aj.Bq.ev]
 have h:=Adz (x.length+1) hp x.length 0 (x.length+1) 0 (by omega) (by omega) G7
 rw [List.drop_zero] at h
 have h2:=Aad x 0 (by decide) (by decide +kernel)
 exact h.trans (congrArg (fun n:Int=>some (DV.int .u64 n)) h2)
theorem math.Sqrt.known:math.Sqrt.Kn:=math.Sqrt.Ac .nil fun x _=>⟨0,.fl ((Ieee.double.sqrt x).getD nanBits),[],by rw [math.Sqrt.ev],.fl⟩
theorem Aj.Sqrt.known:Aj.Sqrt.Kn:=Aj.Sqrt.Ac (.cons math.Sqrt.known (.cons Aj.B.known (.cons Aj.F.known .nil))) fun a hp=>by
 obtain ⟨x,rfl,hx⟩:=Bm (x:=a) hp
 refine ⟨0,.int .u64 (F3 (x:Int)),[],?_,.int⟩
 have:Gc ((Ieee.double.sqrt (toNat (x:Int))).getD nanBits)=F3 (x:Int):=by
  unfold Gc F3
  rw [A1j,Ami hx Gu]
 rw [Aj.Sqrt.ev,B5 hx,A1h,this]
theorem Aa6 (N:Nat) {x:List Int} (hx:Cp x=true):∀ (k i F:Nat) (s:Int),i+k=x.length→k<F→Af s=true →
 Aj.Norm.L0 N F x s (i:Int)=some (.int .u64 (Bp (F3 (Ui (-Bs (Bg x)) s (x.drop i))) (Bs (Bg x)))):=by
 obtain ⟨hl,hu⟩:=Iq hx
 have he:=Aam (Bg x)
 intro k
 induction k with
 | zero =>
   intro i F s hi hF hs
   obtain ⟨F,rfl⟩:∃ G,F=G+1:=⟨F-1,by omega⟩
   rw [Aj.Norm.Av,Au,A1m (by omega),A1l,hs,A1h,show Di (F3 s) (Bs (Bg x))=true from Ae.2 ⟨Adm hs,Ar.2 (by omega)⟩,A1h,A1v (by omega)]
   rfl
 | succ k ih =>
   intro i F s hi hF hs
   obtain ⟨F,rfl⟩:∃ G,F=G+1:=⟨F-1,by omega⟩
   rw [Aj.Norm.Av,Au,A1i (show (i:Int)<(x.length:Int) by omega),A1h,A1i (show (0:Int)≤(i:Int) by omega),A1n,A1h,A1j,Am (x:=(0:Int)-Bs (Bg x)) (by omega) (by omega),show (0:Int)-Bs (Bg x)=-Bs (Bg x) by omega,
    show Di (getD x i 0) (-Bs (Bg x))=true from Ae.2 ⟨hu i (by omega),Ar.2 (by omega)⟩,A1h,Hd (hu i (by omega)),A1n,A1h,hs,Io,A1n,A1h,Afq (by omega),Am (by omega) (by omega)]
   exact ih (i+1) F _ (by omega) (by omega) (Aj4 hs (Io _ _))
theorem Aj.Norm.known:Aj.Norm.Kn:=Aj.Norm.Ac (.cons A1.Finite.known (.cons Bn.Ku.known (.cons Aj.Add.known (.cons Aj.Bq.known (.cons Aj.Mul.known (.cons Aj.Br.known (.cons Aj.Sqrt.known .nil))))))) fun x hp=>by
 have hx:Cp x=true:=hp
 refine ⟨x.length+1,.int .u64 (Da x),[],?_,.int⟩
 rw [Aj.Norm.ev,hx,A1h,Oy,A2t,A1h]
 unfold Da
 by_cases h:Bg x=0∨Ck (Bg x)=false
 ·have:((Bg x==(0:Int))||(!(Ck (Bg x))))=true:=by
   rcases h with h | h
   ·rw [h]; rfl
   ·rw [h,A20,A2t]
  rw [this,A1h,A14 h]
 ·have:((Bg x==(0:Int))||(!(Ck (Bg x))))=false:=by
   rw [Bool.or_eq_false_iff,A2c,Bool.not_eq_false']
   refine ⟨fun h0=>h (.inl h0),?_⟩
   cases hf:Ck (Bg x) with
   | true=>rfl
   | false=>exact absurd (.inr hf) h
  rw [this,A1l,A1h,A13 h]
  exact Aa6 (x.length+1) hx x.length 0 (x.length+1) 0 (by omega) (by omega) G7
namespace EqOf
def Aa.of.Bb.hint:Nat→Option Be
 | 0=>some { keep:=[1,2,6,7,13,14],objs:=[(8,2,108002,.ints 37 .u64 [])],boxes:=[6,7] }
 | 2=>some { keep:=[1,2,6,7,8,13,14,17,18],objs:=[(8,2,108002,.ints 37 .u64 [])],boxes:=[6,7] }
 | _=>none
def Aa.of.Bb.A9:List (Nat × Entry):=[(205,Aa.D9.spec)]
def Aa.of.Bb.E:Env:=Ba (A8 Aa.of.Bb.A9) (fun _=>false) Aa.of.Bb.hint (fun _=>none)
section
variable (N M0 M:Nat) (a b p8 p14_1 p18:Int) (p2:List Int) (p14:Int) (p2_1:List Int)
def Aa.of.Bb.L0:Option DV:=B2 Aa.of.Bb.E N f187 (An f187) [1,1,0,1,0] [] M ⟨Gz 33 [(1,.int .i64 b),(2,.fn 205 [] []),(6,.ptr 6 0 0),(7,.ptr 7 0 0),(13,.int .i64 a),(14,.int .i64 p14)],[(6,false,.box [.int .i64 0,.int .i64 0,.nil]),(7,false,.box [.int .i64 a,.int .i64 b,.oref 108002]),(108002,false,.ints 37 .u64 p2_1)]⟩
def Aa.of.Bb.L1:Option DV:=B2 Aa.of.Bb.E N f187 (An f187) [1,1,0,1,0,0,1,1,0,0,1,1,0] [M0] M ⟨Gz 33 [(1,.int .i64 b),(2,.fn 205 [] []),(6,.ptr 6 0 0),(7,.ptr 7 0 0),(8,.int .i64 p8),(13,.int .i64 a),(14,.int .i64 p14_1),(17,.int .i64 b),(18,.int .i64 p18)],[(6,false,.box [.int .i64 0,.int .i64 0,.nil]),(7,false,.box [.int .i64 a,.int .i64 b,.oref 108002]),(108002,false,.ints 37 .u64 p2)]⟩
theorem Aa.of.Bb.Av:Aa.of.Bb.L0 N (M+1) a b p14 p2_1=bif (A6 p14 a) then Aa.of.Bb.L1 N M N a b p14 p14 0 p2_1 else some (.agg [.int .i64 a,.int .i64 b,.ints (.own 108002 37) .u64 p2_1]):=by kernel_rfl
theorem Aa.of.Bb.B8:Aa.of.Bb.L1 N M0 (M+1) a b p8 p14_1 p18 p2=bif (A6 p18 b) then bif (decide ((length p2)+1≤G0)) then Aa.of.Bb.L1 N M0 M a b p8 p14_1 (Ab (p18+1)) (p2++[(0:Int)]) else none else Aa.of.Bb.L0 N M0 a b (Ab (p14_1+1)) p2 :=
 Eq.trans (by kernel_rfl)
 (Et (C9 (Cy (decide ((length p2)+1≤G0))) rfl rfl) rfl)
theorem Aa.of.Bb.ev:Bw Aa.of.Bb.E N f187 (An f187) [.int .i64 a,.int .i64 b,.fn 205 [] []] =
 Aa.of.Bb.L0 N N a b 0 []:=by kernel_rfl
end
abbrev _root_.Go.Proofs.S1.Aa.of.Bb.Kn:=A4 prog 187 Aa.of.Bb.spec
theorem Aa.of.Bb.Ac (hk:Az prog Aa.of.Bb.A9) (h:Hyp Aa.of.Bb.E f187 Aa.of.Bb.ts Aa.of.Bb.pre Aa.of.Bb.out):Aa.of.Bb.Kn :=
 Al (A0 hk _ _ _) func187 (by kernel_rfl) (by kernel_rfl) h
def Aa.of.Ep.hint:Nat→Option Be
 | 0=>some { keep:=[1,2,6,7,13,14],objs:=[(8,2,108002,.ints 37 .u64 [])],boxes:=[6,7] }
 | 2=>some { keep:=[1,2,6,7,8,13,14,17,18],objs:=[(8,2,108002,.ints 37 .u64 [])],boxes:=[6,7] }
 | _=>none
def Aa.of.Ep.A9:List (Nat × Entry):=[(246,Aa.Hq.spec)]
def Aa.of.Ep.E:Env:=Ba (A8 Aa.of.Ep.A9) (fun _=>false) Aa.of.Ep.hint (fun _=>none)
section
variable (N M0 M:Nat) (a b p8 p14_1 p18:Int) (p2:List Int) (p14:Int) (p2_1:List Int)
def Aa.of.Ep.L0:Option DV:=B2 Aa.of.Ep.E N f187 (An f187) [1,1,0,1,0] [] M ⟨Gz 33 [(1,.int .i64 b),(2,.fn 246 [] []),(6,.ptr 6 0 0),(7,.ptr 7 0 0),(13,.int .i64 a),(14,.int .i64 p14)],[(6,false,.box [.int .i64 0,.int .i64 0,.nil]),(7,false,.box [.int .i64 a,.int .i64 b,.oref 108002]),(108002,false,.ints 37 .u64 p2_1)]⟩
def Aa.of.Ep.L1:Option DV:=B2 Aa.of.Ep.E N f187 (An f187) [1,1,0,1,0,0,1,1,0,0,1,1,0] [M0] M ⟨Gz 33 [(1,.int .i64 b),(2,.fn 246 [] []),(6,.ptr 6 0 0),(7,.ptr 7 0 0),(8,.int .i64 p8),(13,.int .i64 a),(14,.int .i64 p14_1),(17,.int .i64 b),(18,.int .i64 p18)],[(6,false,.box [.int .i64 0,.int .i64 0,.nil]),(7,false,.box [.int .i64 a,.int .i64 b,.oref 108002]),(108002,false,.ints 37 .u64 p2)]⟩
theorem Aa.of.Ep.Av:Aa.of.Ep.L0 N (M+1) a b p14 p2_1=bif (A6 p14 a) then Aa.of.Ep.L1 N M N a b p14 p14 0 p2_1 else some (.agg [.int .i64 a,.int .i64 b,.ints (.own 108002 37) .u64 p2_1]):=by kernel_rfl
theorem Aa.of.Ep.B8:Aa.of.Ep.L1 N M0 (M+1) a b p8 p14_1 p18 p2=bif (A6 p18 b) then bif (decide ((length p2)+1≤G0)) then Aa.of.Ep.L1 N M0 M a b p8 p14_1 (Ab (p18+1)) (p2++[(N3 p8 p18)]) else none else Aa.of.Ep.L0 N M0 a b (Ab (p14_1+1)) p2 :=
 Eq.trans (by kernel_rfl)
 (Et (C9 (Cy (decide ((length p2)+1≤G0))) rfl rfl) rfl)
theorem Aa.of.Ep.ev:Bw Aa.of.Ep.E N f187 (An f187) [.int .i64 a,.int .i64 b,.fn 246 [] []] =
 Aa.of.Ep.L0 N N a b 0 []:=by kernel_rfl
end
abbrev _root_.Go.Proofs.S1.Aa.of.Ep.Kn:=A4 prog 187 Aa.of.Ep.spec
theorem Aa.of.Ep.Ac (hk:Az prog Aa.of.Ep.A9) (h:Hyp Aa.of.Ep.E f187 Aa.of.Ep.ts Aa.of.Ep.pre Aa.of.Ep.out):Aa.of.Ep.Kn :=
 Al (A0 hk _ _ _) func187 (by kernel_rfl) (by kernel_rfl) h
def Aa.of.Cl.hint:Nat→Option Be
 | 0=>some { keep:=[1,2,6,7,13,14],objs:=[(8,2,108002,.ints 37 .u64 [])],boxes:=[6,7] }
 | 2=>some { keep:=[1,2,6,7,8,13,14,17,18],objs:=[(8,2,108002,.ints 37 .u64 [])],boxes:=[6,7] }
 | _=>none
def Aa.of.Cl.A9:List (Nat × Entry):=[(220,Aa.Fj.spec)]
def Aa.of.Cl.E:Env:=Ba (A8 Aa.of.Cl.A9) (fun _=>false) Aa.of.Cl.hint (fun _=>none)
section
variable (N M0 M:Nat) (a b r c:Int) (l:List Int) (p8 p14_1 p18:Int) (p2:List Int) (p14:Int) (p2_1:List Int)
def Aa.of.Cl.L0:Option DV:=B2 Aa.of.Cl.E N f187 (An f187) [1,1,0,1,0] [] M ⟨Gz 33 [(1,.int .i64 b),(2,.fn 220 [] [.cellp [.int .i64 r,.int .i64 c,.ints .arg .u64 l]]),(6,.ptr 6 0 0),(7,.ptr 7 0 0),(13,.int .i64 a),(14,.int .i64 p14)],[(6,false,.box [.int .i64 0,.int .i64 0,.nil]),(7,false,.box [.int .i64 a,.int .i64 b,.oref 108002]),(108002,false,.ints 37 .u64 p2_1)]⟩
def Aa.of.Cl.L1:Option DV:=B2 Aa.of.Cl.E N f187 (An f187) [1,1,0,1,0,0,1,1,0,0,1,1,0] [M0] M ⟨Gz 33 [(1,.int .i64 b),(2,.fn 220 [] [.cellp [.int .i64 r,.int .i64 c,.ints .arg .u64 l]]),(6,.ptr 6 0 0),(7,.ptr 7 0 0),(8,.int .i64 p8),(13,.int .i64 a),(14,.int .i64 p14_1),(17,.int .i64 b),(18,.int .i64 p18)],[(6,false,.box [.int .i64 0,.int .i64 0,.nil]),(7,false,.box [.int .i64 a,.int .i64 b,.oref 108002]),(108002,false,.ints 37 .u64 p2)]⟩
theorem Aa.of.Cl.Av:Aa.of.Cl.L0 N (M+1) a b r c l p14 p2_1=bif (A6 p14 a) then Aa.of.Cl.L1 N M N a b r c l p14 p14 0 p2_1 else some (.agg [.int .i64 a,.int .i64 b,.ints (.own 108002 37) .u64 p2_1]):=by kernel_rfl
theorem Aa.of.Cl.B8:Aa.of.Cl.L1 N M0 (M+1) a b r c l p8 p14_1 p18 p2=bif (A6 p18 b) then bif (C0 r c l p18 p8) then bif (decide ((length p2)+1≤G0)) then Aa.of.Cl.L1 N M0 M a b r c l p8 p14_1 (Ab (p18+1)) (p2++[(Eb c l p18 p8)]) else none else none else Aa.of.Cl.L0 N M0 a b r c l (Ab (p14_1+1)) p2 :=
 Eq.trans (by kernel_rfl)
 (Et (C9 (Cy (C0 r c l p18 p8)) (C9 (Cy (decide ((length p2)+1≤G0))) rfl rfl) rfl) rfl)
theorem Aa.of.Cl.ev:Bw Aa.of.Cl.E N f187 (An f187) [.int .i64 a,.int .i64 b,.fn 220 [] [.cellp [.int .i64 r,.int .i64 c,.ints .arg .u64 l]]] =
 Aa.of.Cl.L0 N N a b r c l 0 []:=by kernel_rfl
end
abbrev _root_.Go.Proofs.S1.Aa.of.Cl.Kn:=A4 prog 187 Aa.of.Cl.spec
theorem Aa.of.Cl.Ac (hk:Az prog Aa.of.Cl.A9) (h:Hyp Aa.of.Cl.E f187 Aa.of.Cl.ts Aa.of.Cl.pre Aa.of.Cl.out):Aa.of.Cl.Kn :=
 Al (A0 hk _ _ _) func187 (by kernel_rfl) (by kernel_rfl) h
def Aa.of.Part.hint:Nat→Option Be
 | 0=>some { keep:=[1,2,6,7,13,14],objs:=[(8,2,108002,.ints 37 .u64 [])],boxes:=[6,7] }
 | 2=>some { keep:=[1,2,6,7,8,13,14,17,18],objs:=[(8,2,108002,.ints 37 .u64 [])],boxes:=[6,7] }
 | _=>none
def Aa.of.Part.A9:List (Nat × Entry):=[(192,Aa.Fk.spec)]
def Aa.of.Part.E:Env:=Ba (A8 Aa.of.Part.A9) (fun _=>false) Aa.of.Part.hint (fun _=>none)
section
variable (N M0 M:Nat) (a b r c:Int) (l:List Int) (x y p8 p14_1 p18:Int) (p2:List Int) (p14:Int) (p2_1:List Int)
def Aa.of.Part.L0:Option DV:=B2 Aa.of.Part.E N f187 (An f187) [1,1,0,1,0] [] M ⟨Gz 33 [(1,.int .i64 b),(2,.fn 192 [] [.cellp [.int .i64 r,.int .i64 c,.ints .arg .u64 l],.cellp [.int .i64 x],.cellp [.int .i64 y]]),(6,.ptr 6 0 0),(7,.ptr 7 0 0),(13,.int .i64 a),(14,.int .i64 p14)],[(6,false,.box [.int .i64 0,.int .i64 0,.nil]),(7,false,.box [.int .i64 a,.int .i64 b,.oref 108002]),(108002,false,.ints 37 .u64 p2_1)]⟩
def Aa.of.Part.L1:Option DV:=B2 Aa.of.Part.E N f187 (An f187) [1,1,0,1,0,0,1,1,0,0,1,1,0] [M0] M ⟨Gz 33 [(1,.int .i64 b),(2,.fn 192 [] [.cellp [.int .i64 r,.int .i64 c,.ints .arg .u64 l],.cellp [.int .i64 x],.cellp [.int .i64 y]]),(6,.ptr 6 0 0),(7,.ptr 7 0 0),(8,.int .i64 p8),(13,.int .i64 a),(14,.int .i64 p14_1),(17,.int .i64 b),(18,.int .i64 p18)],[(6,false,.box [.int .i64 0,.int .i64 0,.nil]),(7,false,.box [.int .i64 a,.int .i64 b,.oref 108002]),(108002,false,.ints 37 .u64 p2)]⟩
theorem Aa.of.Part.Av:Aa.of.Part.L0 N (M+1) a b r c l x y p14 p2_1=bif (A6 p14 a) then Aa.of.Part.L1 N M N a b r c l x y p14 p14 0 p2_1 else some (.agg [.int .i64 a,.int .i64 b,.ints (.own 108002 37) .u64 p2_1]):=by kernel_rfl
theorem Aa.of.Part.B8:Aa.of.Part.L1 N M0 (M+1) a b r c l x y p8 p14_1 p18 p2=bif (A6 p18 b) then bif (C0 r c l (x+p8) (y+p18)&&V3 x y p8 p18) then bif (decide ((length p2)+1≤G0)) then Aa.of.Part.L1 N M0 M a b r c l x y p8 p14_1 (Ab (p18+1)) (p2++[(Eb c l (x+p8) (y+p18))]) else none else none else Aa.of.Part.L0 N M0 a b r c l x y (Ab (p14_1+1)) p2 :=
 Eq.trans (by kernel_rfl)
 (Et (C9 (Cy (C0 r c l (x+p8) (y+p18)&&V3 x y p8 p18)) (C9 (Cy (decide ((length p2)+1≤G0))) rfl rfl) rfl) rfl)
theorem Aa.of.Part.ev:Bw Aa.of.Part.E N f187 (An f187) [.int .i64 a,.int .i64 b,.fn 192 [] [.cellp [.int .i64 r,.int .i64 c,.ints .arg .u64 l],.cellp [.int .i64 x],.cellp [.int .i64 y]]] =
 Aa.of.Part.L0 N N a b r c l x y 0 []:=by kernel_rfl
end
abbrev _root_.Go.Proofs.S1.Aa.of.Part.Kn:=A4 prog 187 Aa.of.Part.spec
theorem Aa.of.Part.Ac (hk:Az prog Aa.of.Part.A9) (h:Hyp Aa.of.Part.E f187 Aa.of.Part.ts Aa.of.Part.pre Aa.of.Part.out):Aa.of.Part.Kn :=
 Al (A0 hk _ _ _) func187 (by kernel_rfl) (by kernel_rfl) h
def Aa.of.Stack.hint:Nat→Option Be
 | 0=>some { keep:=[1,2,6,7,13,14],objs:=[(8,2,108002,.ints 37 .u64 [])],boxes:=[6,7] }
 | 2=>some { keep:=[1,2,6,7,8,13,14,17,18],objs:=[(8,2,108002,.ints 37 .u64 [])],boxes:=[6,7] }
 | _=>none
def Aa.of.Stack.A9:List (Nat × Entry):=[(195,Aa.Eh.spec)]
def Aa.of.Stack.E:Env:=Ba (A8 Aa.of.Stack.A9) (fun _=>false) Aa.of.Stack.hint (fun _=>none)
section
variable (N M0 M:Nat) (a b r c:Int) (l:List Int) (p q:Int) (m:List Int) (p8 p14_1 p18:Int) (p2:List Int) (p14:Int) (p2_1:List Int)
def Aa.of.Stack.L0:Option DV:=B2 Aa.of.Stack.E N f187 (An f187) [1,1,0,1,0] [] M ⟨Gz 33 [(1,.int .i64 b),(2,.fn 195 [] [.cellp [.int .i64 r,.int .i64 c,.ints .arg .u64 l],.cellp [.int .i64 p,.int .i64 q,.ints .arg .u64 m]]),(6,.ptr 6 0 0),(7,.ptr 7 0 0),(13,.int .i64 a),(14,.int .i64 p14)],[(6,false,.box [.int .i64 0,.int .i64 0,.nil]),(7,false,.box [.int .i64 a,.int .i64 b,.oref 108002]),(108002,false,.ints 37 .u64 p2_1)]⟩
def Aa.of.Stack.L1:Option DV:=B2 Aa.of.Stack.E N f187 (An f187) [1,1,0,1,0,0,1,1,0,0,1,1,0] [M0] M ⟨Gz 33 [(1,.int .i64 b),(2,.fn 195 [] [.cellp [.int .i64 r,.int .i64 c,.ints .arg .u64 l],.cellp [.int .i64 p,.int .i64 q,.ints .arg .u64 m]]),(6,.ptr 6 0 0),(7,.ptr 7 0 0),(8,.int .i64 p8),(13,.int .i64 a),(14,.int .i64 p14_1),(17,.int .i64 b),(18,.int .i64 p18)],[(6,false,.box [.int .i64 0,.int .i64 0,.nil]),(7,false,.box [.int .i64 a,.int .i64 b,.oref 108002]),(108002,false,.ints 37 .u64 p2)]⟩
theorem Aa.of.Stack.Av:Aa.of.Stack.L0 N (M+1) a b r c l p q m p14 p2_1=bif (A6 p14 a) then Aa.of.Stack.L1 N M N a b r c l p q m p14 p14 0 p2_1 else some (.agg [.int .i64 a,.int .i64 b,.ints (.own 108002 37) .u64 p2_1]):=by kernel_rfl
theorem Aa.of.Stack.B8:Aa.of.Stack.L1 N M0 (M+1) a b r c l p q m p8 p14_1 p18 p2=bif (A6 p18 b) then bif (Nj r c l p q m p8 p18) then bif (decide ((length p2)+1≤G0)) then Aa.of.Stack.L1 N M0 M a b r c l p q m p8 p14_1 (Ab (p18+1)) (p2++[(Ji r c l q m p8 p18)]) else none else none else Aa.of.Stack.L0 N M0 a b r c l p q m (Ab (p14_1+1)) p2 :=
 Eq.trans (by kernel_rfl)
 (Et (C9 (Cy (Nj r c l p q m p8 p18)) (C9 (Cy (decide ((length p2)+1≤G0))) rfl rfl) rfl) rfl)
theorem Aa.of.Stack.ev:Bw Aa.of.Stack.E N f187 (An f187) [.int .i64 a,.int .i64 b,.fn 195 [] [.cellp [.int .i64 r,.int .i64 c,.ints .arg .u64 l],.cellp [.int .i64 p,.int .i64 q,.ints .arg .u64 m]]] =
 Aa.of.Stack.L0 N N a b r c l p q m 0 []:=by kernel_rfl
end
abbrev _root_.Go.Proofs.S1.Aa.of.Stack.Kn:=A4 prog 187 Aa.of.Stack.spec
theorem Aa.of.Stack.Ac (hk:Az prog Aa.of.Stack.A9) (h:Hyp Aa.of.Stack.E f187 Aa.of.Stack.ts Aa.of.Stack.pre Aa.of.Stack.out):Aa.of.Stack.Kn :=
 Al (A0 hk _ _ _) func187 (by kernel_rfl) (by kernel_rfl) h
def Aa.of.Mul.hint:Nat→Option Be
 | 0=>some { keep:=[1,2,6,7,13,14],objs:=[(8,2,108002,.ints 37 .u64 [])],boxes:=[6,7] }
 | 2=>some { keep:=[1,2,6,7,8,13,14,17,18],objs:=[(8,2,108002,.ints 37 .u64 [])],boxes:=[6,7] }
 | _=>none
def Aa.of.Mul.A9:List (Nat × Entry):=[(188,Aa.Hm.spec)]
def Aa.of.Mul.E:Env:=Ba (A8 Aa.of.Mul.A9) (fun _=>false) Aa.of.Mul.hint (fun _=>none)
section
variable (N M0 M:Nat) (a b r c:Int) (l:List Int) (p q:Int) (m:List Int) (p8 p14_1 p18:Int) (p2:List Int) (p14:Int) (p2_1:List Int)
def Aa.of.Mul.L0:Option DV:=B2 Aa.of.Mul.E N f187 (An f187) [1,1,0,1,0] [] M ⟨Gz 33 [(1,.int .i64 b),(2,.fn 188 [] [.cellp [.int .i64 r,.int .i64 c,.ints .arg .u64 l],.cellp [.int .i64 p,.int .i64 q,.ints .arg .u64 m]]),(6,.ptr 6 0 0),(7,.ptr 7 0 0),(13,.int .i64 a),(14,.int .i64 p14)],[(6,false,.box [.int .i64 0,.int .i64 0,.nil]),(7,false,.box [.int .i64 a,.int .i64 b,.oref 108002]),(108002,false,.ints 37 .u64 p2_1)]⟩
def Aa.of.Mul.L1:Option DV:=B2 Aa.of.Mul.E N f187 (An f187) [1,1,0,1,0,0,1,1,0,0,1,1,0] [M0] M ⟨Gz 33 [(1,.int .i64 b),(2,.fn 188 [] [.cellp [.int .i64 r,.int .i64 c,.ints .arg .u64 l],.cellp [.int .i64 p,.int .i64 q,.ints .arg .u64 m]]),(6,.ptr 6 0 0),(7,.ptr 7 0 0),(8,.int .i64 p8),(13,.int .i64 a),(14,.int .i64 p14_1),(17,.int .i64 b),(18,.int .i64 p18)],[(6,false,.box [.int .i64 0,.int .i64 0,.nil]),(7,false,.box [.int .i64 a,.int .i64 b,.oref 108002]),(108002,false,.ints 37 .u64 p2)]⟩
theorem Aa.of.Mul.Av:Aa.of.Mul.L0 N (M+1) a b r c l p q m p14 p2_1=bif (A6 p14 a) then Aa.of.Mul.L1 N M N a b r c l p q m p14 p14 0 p2_1 else some (.agg [.int .i64 a,.int .i64 b,.ints (.own 108002 37) .u64 p2_1]):=by kernel_rfl
theorem Aa.of.Mul.B8:Aa.of.Mul.L1 N M0 (M+1) a b r c l p q m p8 p14_1 p18 p2=bif (A6 p18 b) then bif (Tr r c l p q m p8 p18) then bif (decide ((length p2)+1≤G0)) then Aa.of.Mul.L1 N M0 M a b r c l p q m p8 p14_1 (Ab (p18+1)) (p2++[(Je (G6 c l p8) (Kv p q m p18))]) else none else none else Aa.of.Mul.L0 N M0 a b r c l p q m (Ab (p14_1+1)) p2 :=
 Eq.trans (by kernel_rfl)
 (Et (C9 (Cy (Tr r c l p q m p8 p18)) (C9 (Cy (decide ((length p2)+1≤G0))) rfl rfl) rfl) rfl)
theorem Aa.of.Mul.ev:Bw Aa.of.Mul.E N f187 (An f187) [.int .i64 a,.int .i64 b,.fn 188 [] [.cellp [.int .i64 r,.int .i64 c,.ints .arg .u64 l],.cellp [.int .i64 p,.int .i64 q,.ints .arg .u64 m]]] =
 Aa.of.Mul.L0 N N a b r c l p q m 0 []:=by kernel_rfl
end
abbrev _root_.Go.Proofs.S1.Aa.of.Mul.Kn:=A4 prog 187 Aa.of.Mul.spec
theorem Aa.of.Mul.Ac (hk:Az prog Aa.of.Mul.A9) (h:Hyp Aa.of.Mul.E f187 Aa.of.Mul.ts Aa.of.Mul.pre Aa.of.Mul.out):Aa.of.Mul.Kn :=
 Al (A0 hk _ _ _) func187 (by kernel_rfl) (by kernel_rfl) h
def Aa.Bb.A9:List (Nat × Entry):=[(187,Aa.of.Bb.spec),(204,Aa.size.spec)]
def Aa.Bb.E:Env:=Ba (A8 Aa.Bb.A9) (fun _=>false) (fun _=>none) (fun _=>none)
theorem Aa.Bb.ev (N:Nat) (a b:Int):Bw Aa.Bb.E N f151 (An f151) [.int .i64 a,.int .i64 b]=bif ((!(Bh a))||(!(Bh b))) then some (.tup [.agg [.int .i64 0,.int .i64 0,.nil],.int .i64 3]) else bif ((Bh a&&Bh b)) then some (.tup [.agg [.int .i64 a,.int .i64 b,.ints .fresh .u64 (Bv (toNat a) (toNat b) (fun _ _=>0))],.int .i64 0]) else none :=
 Eq.trans (by kernel_rfl)
 (Ax (Ade (Bh a)) (Ax (S3 (Bh a)) (Ax (S3 (Bh a)) (Ax (Adf (Bh a)) (C9 (Ao1 (Bh a) (Bh b)) rfl rfl)))))
abbrev _root_.Go.Proofs.S1.Aa.Bb.Kn:=A4 prog 151 Aa.Bb.spec
theorem Aa.Bb.Ac (hk:Az prog Aa.Bb.A9) (h:Hyp Aa.Bb.E f151 Aa.Bb.ts Aa.Bb.pre Aa.Bb.out):Aa.Bb.Kn :=
 Al (A0 hk _ _ _) func151 (by kernel_rfl) (by kernel_rfl) h
def Aa.Ep.A9:List (Nat × Entry):=[(187,Aa.of.Ep.spec),(204,Aa.size.spec)]
def Aa.Ep.E:Env:=Ba (A8 Aa.Ep.A9) (fun _=>false) (fun _=>none) (fun _=>none)
theorem Aa.Ep.ev (N:Nat) (n:Int):Bw Aa.Ep.E N f218 (An f218) [.int .i64 n]=bif (!(Bh n)) then some (.tup [.agg [.int .i64 0,.int .i64 0,.nil],.int .i64 3]) else bif ((Bh n&&Bh n)) then some (.tup [.agg [.int .i64 n,.int .i64 n,.ints .fresh .u64 (Bv (toNat n) (toNat n) (fun j1 j2=>N3 j1 j2))],.int .i64 0]) else none:=by kernel_rfl
abbrev _root_.Go.Proofs.S1.Aa.Ep.Kn:=A4 prog 218 Aa.Ep.spec
theorem Aa.Ep.Ac (hk:Az prog Aa.Ep.A9) (h:Hyp Aa.Ep.E f218 Aa.Ep.ts Aa.Ep.pre Aa.Ep.out):Aa.Ep.Kn :=
 Al (A0 hk _ _ _) func218 (by kernel_rfl) (by kernel_rfl) h
def Aa.Cl.A9:List (Nat × Entry):=[(160,Aa.Check.spec),(187,Aa.of.Cl.spec)]
def Aa.Cl.E:Env:=Ba (A8 Aa.Cl.A9) (fun _=>false) (fun _=>none) (fun _=>none)
theorem Aa.Cl.ev (N:Nat) (r c:Int) (l:List Int):Bw Aa.Cl.E N f167 (An f167) [.agg [.int .i64 r,.int .i64 c,.ints .arg .u64 l]]=bif ((Lb r c l) !=(0:Int)) then some (.tup [.agg [.int .i64 0,.int .i64 0,.nil],.int .i64 (Lb r c l)]) else bif ((Bh c&&Bh r)&&A2 r c l&&decide (c=c∧r=r)) then some (.tup [.agg [.int .i64 c,.int .i64 r,.ints .fresh .u64 (Bv (toNat c) (toNat r) (fun j1 j2=>Eb c l j2 j1))],.int .i64 0]) else none:=by kernel_rfl
abbrev _root_.Go.Proofs.S1.Aa.Cl.Kn:=A4 prog 167 Aa.Cl.spec
theorem Aa.Cl.Ac (hk:Az prog Aa.Cl.A9) (h:Hyp Aa.Cl.E f167 Aa.Cl.ts Aa.Cl.pre Aa.Cl.out):Aa.Cl.Kn :=
 Al (A0 hk _ _ _) func167 (by kernel_rfl) (by kernel_rfl) h
def Aa.Part.A9:List (Nat × Entry):=[(160,Aa.Check.spec),(187,Aa.of.Part.spec)]
def Aa.Part.E:Env:=Ba (A8 Aa.Part.A9) (fun _=>false) (fun _=>none) (fun _=>none)
theorem Aa.Part.ev (N:Nat) (r c:Int) (l:List Int) (x y:Int) (a b:Int):Bw Aa.Part.E N f124 (An f124) [.agg [.int .i64 r,.int .i64 c,.ints .arg .u64 l],.int .i64 x,.int .i64 y,.int .i64 a,.int .i64 b]=bif ((Lb r c l) !=(0:Int)) then some (.tup [.agg [.int .i64 0,.int .i64 0,.nil],.int .i64 (Lb r c l)]) else bif ((((((((A6 x 0)||(A6 y 0))||(A6 a 0))||(A6 b 0))||(A6 r x))||(A6 c y))||(A6 (Ab (r-x)) a))||(A6 (Ab (c-y)) b)) then some (.tup [.agg [.int .i64 0,.int .i64 0,.nil],.int .i64 3]) else bif ((Bh a&&Bh b)&&A2 r c l&&Ic r c x y a b) then some (.tup [.agg [.int .i64 a,.int .i64 b,.ints .fresh .u64 (Bv (toNat a) (toNat b) (fun j1 j2=>Eb c l (x+j1) (y+j2)))],.int .i64 0]) else none :=
 Eq.trans (by kernel_rfl)
 (Et rfl (Ax (S8 (A6 x 0)) (Ax (Qx (A6 x 0)) (Ax (X2 (A6 x 0)) (Ax (Afg (A6 x 0) (A6 y 0)) (Ax (Aib (A6 x 0) (A6 y 0)) (Ax (Asv (A6 x 0) (A6 y 0)) (Ax (Al5 (A6 x 0) (A6 y 0) (A6 a 0)) (Ax (Afh (A6 x 0) (A6 y 0) (A6 a 0)) (Ax (Asw (A6 x 0) (A6 y 0) (A6 a 0)) (Ax (Asx (A6 x 0) (A6 y 0) (A6 a 0) (A6 b 0)) (Ax (Asx (A6 x 0) (A6 y 0) (A6 a 0) (A6 b 0)) (Ax (Ax8 (A6 x 0) (A6 y 0) (A6 a 0) (A6 b 0)) (Ax (Ax9 (A6 x 0) (A6 y 0) (A6 a 0) (A6 b 0)) (Ax (Aya (A6 x 0) (A6 y 0) (A6 a 0) (A6 b 0)) (Ax (Ayb (A6 x 0) (A6 y 0) (A6 a 0) (A6 b 0) (A6 r x)) (Ax (Ayb (A6 x 0) (A6 y 0) (A6 a 0) (A6 b 0) (A6 r x)) (Ax (A0c (A6 x 0) (A6 y 0) (A6 a 0) (A6 b 0) (A6 r x)) (Ax (A0d (A6 x 0) (A6 y 0) (A6 a 0) (A6 b 0) (A6 r x)) (Ax (A0e (A6 x 0) (A6 y 0) (A6 a 0) (A6 b 0) (A6 r x)) (Ax (Avy (A6 x 0) (A6 y 0) (A6 a 0) (A6 b 0) (A6 r x) (A6 c y)) (Ax (Avy (A6 x 0) (A6 y 0) (A6 a 0) (A6 b 0) (A6 r x) (A6 c y)) (Ax (A0f (A6 x 0) (A6 y 0) (A6 a 0) (A6 b 0) (A6 r x) (A6 c y)) (Ax (Avy (A6 x 0) (A6 y 0) (A6 a 0) (A6 b 0) (A6 r x) (A6 c y)) (Ax (Ayc (A6 x 0) (A6 y 0) (A6 a 0) (A6 b 0) (A6 r x) (A6 c y)) (Ax (Ayc (A6 x 0) (A6 y 0) (A6 a 0) (A6 b 0) (A6 r x) (A6 c y)) (Ax (A0g (A6 x 0) (A6 y 0) (A6 a 0) (A6 b 0) (A6 r x) (A6 c y)) (Ax (Avz (A6 x 0) (A6 y 0) (A6 a 0) (A6 b 0) (A6 r x) (A6 c y) (A6 (Ab (r-x)) a)) (Ax (Avz (A6 x 0) (A6 y 0) (A6 a 0) (A6 b 0) (A6 r x) (A6 c y) (A6 (Ab (r-x)) a)) (Ax (A0h (A6 x 0) (A6 y 0) (A6 a 0) (A6 b 0) (A6 r x) (A6 c y) (A6 (Ab (r-x)) a)) (Ax (Avz (A6 x 0) (A6 y 0) (A6 a 0) (A6 b 0) (A6 r x) (A6 c y) (A6 (Ab (r-x)) a)) (Ax (Ayd (A6 x 0) (A6 y 0) (A6 a 0) (A6 b 0) (A6 r x) (A6 c y) (A6 (Ab (r-x)) a)) (Ax (Ayd (A6 x 0) (A6 y 0) (A6 a 0) (A6 b 0) (A6 r x) (A6 c y) (A6 (Ab (r-x)) a)) (Ax (A0i (A6 x 0) (A6 y 0) (A6 a 0) (A6 b 0) (A6 r x) (A6 c y) (A6 (Ab (r-x)) a)) (C9 (A0j (A6 x 0) (A6 y 0) (A6 a 0) (A6 b 0) (A6 r x) (A6 c y) (A6 (Ab (r-x)) a) (A6 (Ab (c-y)) b)) rfl rfl)))))))))))))))))))))))))))))))))))
abbrev _root_.Go.Proofs.S1.Aa.Part.Kn:=A4 prog 124 Aa.Part.spec
theorem Aa.Part.Ac (hk:Az prog Aa.Part.A9) (h:Hyp Aa.Part.E f124 Aa.Part.ts Aa.Part.pre Aa.Part.out):Aa.Part.Kn :=
 Al (A0 hk _ _ _) func124 (by kernel_rfl) (by kernel_rfl) h
def Aa.Stack.A9:List (Nat × Entry):=[(187,Aa.of.Stack.spec),(186,Aa.two.spec)]
def Aa.Stack.E:Env:=Ba (A8 Aa.Stack.A9) (fun _=>false) (fun _=>none) (fun _=>none)
theorem Aa.Stack.ev (N:Nat) (r c:Int) (l:List Int) (p q:Int) (m:List Int):Bw Aa.Stack.E N f126 (An f126) [.agg [.int .i64 r,.int .i64 c,.ints .arg .u64 l],.agg [.int .i64 p,.int .i64 q,.ints .arg .u64 m]]=bif ((Yo r c l p q m) !=(0:Int)) then some (.tup [.agg [.int .i64 0,.int .i64 0,.nil],.int .i64 (Yo r c l p q m)]) else bif ((c !=q)||(A6 6 (Ab (r+p)))) then some (.tup [.agg [.int .i64 0,.int .i64 0,.nil],.int .i64 3]) else bif ((Bh (Ab (r+p))&&Bh c)&&(A2 r c l&&A2 p q m)&&decide ((Ab (r+p))=r+p∧c=c∧q=c)) then some (.tup [.agg [.int .i64 (Ab (r+p)),.int .i64 c,.ints .fresh .u64 (Bv (toNat (Ab (r+p))) (toNat c) (fun j1 j2=>Ji r c l q m j1 j2))],.int .i64 0]) else none :=
 Eq.trans (by kernel_rfl)
 (Et rfl (Ax (S8 (c !=q)) (Ax (Qx (c !=q)) (Ax (S8 (c !=q)) (Ax (Qx (c !=q)) (Ax (tt8 (c !=q)) (Ax (Qx (c !=q)) (Ax (X2 (c !=q)) (C9 (tt5 (c !=q) (A6 6 (Ab (r+p)))) rfl rfl)))))))))
abbrev _root_.Go.Proofs.S1.Aa.Stack.Kn:=A4 prog 126 Aa.Stack.spec
theorem Aa.Stack.Ac (hk:Az prog Aa.Stack.A9) (h:Hyp Aa.Stack.E f126 Aa.Stack.ts Aa.Stack.pre Aa.Stack.out):Aa.Stack.Kn :=
 Al (A0 hk _ _ _) func126 (by kernel_rfl) (by kernel_rfl) h
def Aa.Mul.A9:List (Nat × Entry):=[(187,Aa.of.Mul.spec),(186,Aa.two.spec)]
def Aa.Mul.E:Env:=Ba (A8 Aa.Mul.A9) (fun _=>false) (fun _=>none) (fun _=>none)
theorem Aa.Mul.ev (N:Nat) (r c:Int) (l:List Int) (p q:Int) (m:List Int):Bw Aa.Mul.E N f123 (An f123) [.agg [.int .i64 r,.int .i64 c,.ints .arg .u64 l],.agg [.int .i64 p,.int .i64 q,.ints .arg .u64 m]]=bif ((Yo r c l p q m) !=(0:Int)) then some (.tup [.agg [.int .i64 0,.int .i64 0,.nil],.int .i64 (Yo r c l p q m)]) else bif (c !=p) then some (.tup [.agg [.int .i64 0,.int .i64 0,.nil],.int .i64 3]) else bif ((Bh r&&Bh q)&&((A2 r c l&&A2 p q m)&&(Ai l&&Ai m))&&decide (r=r∧q=q∧c=p)) then some (.tup [.agg [.int .i64 r,.int .i64 q,.ints .fresh .u64 (Bv (toNat r) (toNat q) (fun j1 j2=>Je (G6 c l j1) (Kv p q m j2)))],.int .i64 0]) else none:=by kernel_rfl
abbrev _root_.Go.Proofs.S1.Aa.Mul.Kn:=A4 prog 123 Aa.Mul.spec
theorem Aa.Mul.Ac (hk:Az prog Aa.Mul.A9) (h:Hyp Aa.Mul.E f123 Aa.Mul.ts Aa.Mul.pre Aa.Mul.out):Aa.Mul.Kn :=
 Al (A0 hk _ _ _) func123 (by kernel_rfl) (by kernel_rfl) h
end EqOf
open EqOf
theorem of.Bb.inner (N:Nat)  {A B:Nat} (hA:A≤6) (hB:B≤6) {F:Nat→Nat→Int} (hF:∀ i j:Nat,F i j=(0:Int)) {i:Nat} (hi:i<A):∀ (k j M0 M:Nat),j+k=B→k<M →
 Aa.of.Bb.L1 N M0 M (A:Int) (B:Int) (i:Int) (i:Int) (j:Int) (Bv i B F++(List.range j).map (F i))=Aa.of.Bb.L0 N M0 (A:Int) (B:Int) ((i+1:Nat):Int) (Bv (i+1) B F):=by
 intro k
 induction k with
 | zero =>
   intro j M0 M hj hM
   obtain ⟨M,rfl⟩:∃ G,M=G+1:=⟨M-1,by omega⟩
   obtain rfl:j=B:=by omega
   rw [Aa.of.Bb.B8,Au,A1m (by omega),A1l,Am (by omega) (by omega),← Nc]
   rfl
 | succ k ih =>
   intro j M0 M hj hM
   obtain ⟨M,rfl⟩:∃ G,M=G+1:=⟨M-1,by omega⟩
   have d:decide ((Bv i B F++(List.range j).map (F i)).length+1≤G0)=true:=by
    refine A1i ?_
    have:=A2d (show i≤6 by omega) hB
    rw [A19,Cc,A2n,A2k]; unfold G0; omega
   rw [Aa.of.Bb.B8,Au,A1i (by omega),A1h,d,A1h,Am (by omega) (by omega),← hF i j]
   have:=ih (j+1) M0 M (by omega) (by omega)
   rw [He,← List.append_assoc] at this
   exact this
theorem of.Bb.outer (N:Nat)  {A B:Nat} (hA:A≤6) (hB:B≤6) (hN:6<N) {F:Nat→Nat→Int} (hF:∀ i j:Nat,F i j=(0:Int)):∀ (k i M:Nat),i+k=A→k<M →
 Aa.of.Bb.L0 N M (A:Int) (B:Int) (i:Int) (Bv i B F)=some (.agg [.int .i64 (A:Int),.int .i64 (B:Int),.ints (.own 108002 tB) .u64 (Bv A B F)]):=by
 intro k
 induction k with
 | zero =>
   intro i M hi hM
   obtain ⟨M,rfl⟩:∃ G,M=G+1:=⟨M-1,by omega⟩
   obtain rfl:i=A:=by omega
   rw [Aa.of.Bb.Av,Au,A1m (by omega),A1l]
 | succ k ih =>
   intro i M hi hM
   obtain ⟨M,rfl⟩:∃ G,M=G+1:=⟨M-1,by omega⟩
   have n:=of.Bb.inner N hA hB hF (show i<A by omega) B 0 M N (by omega) (by omega)
   rw [List.range_zero,List.map_nil,List.append_nil] at n
   rw [Aa.of.Bb.Av,Au,A1i (by omega),A1h]
   exact n.trans (ih (i+1) M (by omega) (by omega))
theorem Aa.of.Bb.known:Aa.of.Bb.Kn:=Aa.of.Bb.Ac (.cons Aa.D9.known .nil) fun a b hp=>by
 have h1:(Bh a&&Bh b)=true:=hp
 obtain ⟨ha,hb⟩:=Ae.1 h1
 obtain ⟨A,rfl,hA⟩:=Ew ha
 obtain ⟨B,rfl,hB⟩:=Ew hb
 refine ⟨8,.agg [.int .i64 (A:Int),.int .i64 (B:Int),.ints (.own 108002 tB) .u64 (Bv A B fun (i j:Nat)=>(0:Int))],[108002],?_,Wk.Hk (.cons .int (.cons .int (.cons (.drop _ _ _ _ (List.mem_singleton.2 rfl)) .nil)))⟩
 rw [Aa.of.Bb.ev]
 have n:=of.Bb.outer 8 hA hB (by omega) (F:=fun (i j:Nat)=>(0:Int)) (fun _ _=>rfl) A 0 8 (by omega) (by omega)
 rw [K8] at n
 exact n
theorem of.Ep.inner (N:Nat)  {A B:Nat} (hA:A≤6) (hB:B≤6) {F:Nat→Nat→Int} (hF:∀ i j:Nat,F i j=N3 (i:Int) (j:Int)) {i:Nat} (hi:i<A):∀ (k j M0 M:Nat),j+k=B→k<M →
 Aa.of.Ep.L1 N M0 M (A:Int) (B:Int) (i:Int) (i:Int) (j:Int) (Bv i B F++(List.range j).map (F i))=Aa.of.Ep.L0 N M0 (A:Int) (B:Int) ((i+1:Nat):Int) (Bv (i+1) B F):=by
 intro k
 induction k with
 | zero =>
   intro j M0 M hj hM
   obtain ⟨M,rfl⟩:∃ G,M=G+1:=⟨M-1,by omega⟩
   obtain rfl:j=B:=by omega
   rw [Aa.of.Ep.B8,Au,A1m (by omega),A1l,Am (by omega) (by omega),← Nc]
   rfl
 | succ k ih =>
   intro j M0 M hj hM
   obtain ⟨M,rfl⟩:∃ G,M=G+1:=⟨M-1,by omega⟩
   have d:decide ((Bv i B F++(List.range j).map (F i)).length+1≤G0)=true:=by
    refine A1i ?_
    have:=A2d (show i≤6 by omega) hB
    rw [A19,Cc,A2n,A2k]; unfold G0; omega
   rw [Aa.of.Ep.B8,Au,A1i (by omega),A1h,d,A1h,Am (by omega) (by omega),← hF i j]
   have:=ih (j+1) M0 M (by omega) (by omega)
   rw [He,← List.append_assoc] at this
   exact this
theorem of.Ep.outer (N:Nat)  {A B:Nat} (hA:A≤6) (hB:B≤6) (hN:6<N) {F:Nat→Nat→Int} (hF:∀ i j:Nat,F i j=N3 (i:Int) (j:Int)):∀ (k i M:Nat),i+k=A→k<M →
 Aa.of.Ep.L0 N M (A:Int) (B:Int) (i:Int) (Bv i B F)=some (.agg [.int .i64 (A:Int),.int .i64 (B:Int),.ints (.own 108002 tB) .u64 (Bv A B F)]):=by
 intro k
 induction k with
 | zero =>
   intro i M hi hM
   obtain ⟨M,rfl⟩:∃ G,M=G+1:=⟨M-1,by omega⟩
   obtain rfl:i=A:=by omega
   rw [Aa.of.Ep.Av,Au,A1m (by omega),A1l]
 | succ k ih =>
   intro i M hi hM
   obtain ⟨M,rfl⟩:∃ G,M=G+1:=⟨M-1,by omega⟩
   have n:=of.Ep.inner N hA hB hF (show i<A by omega) B 0 M N (by omega) (by omega)
   rw [List.range_zero,List.map_nil,List.append_nil] at n
   rw [Aa.of.Ep.Av,Au,A1i (by omega),A1h]
   exact n.trans (ih (i+1) M (by omega) (by omega))
theorem Aa.of.Ep.known:Aa.of.Ep.Kn:=Aa.of.Ep.Ac (.cons Aa.Hq.known .nil) fun a b hp=>by
 have h1:(Bh a&&Bh b)=true:=hp
 obtain ⟨ha,hb⟩:=Ae.1 h1
 obtain ⟨A,rfl,hA⟩:=Ew ha
 obtain ⟨B,rfl,hB⟩:=Ew hb
 refine ⟨8,.agg [.int .i64 (A:Int),.int .i64 (B:Int),.ints (.own 108002 tB) .u64 (Bv A B fun (i j:Nat)=>N3 (i:Int) (j:Int))],[108002],?_,Wk.Hk (.cons .int (.cons .int (.cons (.drop _ _ _ _ (List.mem_singleton.2 rfl)) .nil)))⟩
 rw [Aa.of.Ep.ev]
 have n:=of.Ep.outer 8 hA hB (by omega) (F:=fun (i j:Nat)=>N3 (i:Int) (j:Int)) (fun _ _=>rfl) A 0 8 (by omega) (by omega)
 rw [K8] at n
 exact n
theorem of.Cl.inner (N:Nat) (r c:Int) (l:List Int) {A B:Nat} (hA:A≤6) (hB:B≤6) {F:Nat→Nat→Int} (hF:∀ i j:Nat,F i j=Eb c l (j:Int) (i:Int)) {i:Nat} (hi:i<A) (hp:∀ j:Nat,j<B→C0 r c l (j:Int) (i:Int)=true):∀ (k j M0 M:Nat),j+k=B→k<M →
 Aa.of.Cl.L1 N M0 M (A:Int) (B:Int) r c l (i:Int) (i:Int) (j:Int) (Bv i B F++(List.range j).map (F i))=Aa.of.Cl.L0 N M0 (A:Int) (B:Int) r c l ((i+1:Nat):Int) (Bv (i+1) B F):=by
 intro k
 induction k with
 | zero =>
   intro j M0 M hj hM
   obtain ⟨M,rfl⟩:∃ G,M=G+1:=⟨M-1,by omega⟩
   obtain rfl:j=B:=by omega
   rw [Aa.of.Cl.B8,Au,A1m (by omega),A1l,Am (by omega) (by omega),← Nc]
   rfl
 | succ k ih =>
   intro j M0 M hj hM
   obtain ⟨M,rfl⟩:∃ G,M=G+1:=⟨M-1,by omega⟩
   have d:decide ((Bv i B F++(List.range j).map (F i)).length+1≤G0)=true:=by
    refine A1i ?_
    have:=A2d (show i≤6 by omega) hB
    rw [A19,Cc,A2n,A2k]; unfold G0; omega
   rw [Aa.of.Cl.B8,Au,A1i (by omega),A1h,hp j (by omega),A1h,d,A1h,Am (by omega) (by omega),← hF i j]
   have:=ih (j+1) M0 M (by omega) (by omega)
   rw [He,← List.append_assoc] at this
   exact this
theorem of.Cl.outer (N:Nat) (r c:Int) (l:List Int) {A B:Nat} (hA:A≤6) (hB:B≤6) (hN:6<N) {F:Nat→Nat→Int} (hF:∀ i j:Nat,F i j=Eb c l (j:Int) (i:Int)) (hp:∀ i j:Nat,i<A→j<B→C0 r c l (j:Int) (i:Int)=true):∀ (k i M:Nat),i+k=A→k<M →
 Aa.of.Cl.L0 N M (A:Int) (B:Int) r c l (i:Int) (Bv i B F)=some (.agg [.int .i64 (A:Int),.int .i64 (B:Int),.ints (.own 108002 tB) .u64 (Bv A B F)]):=by
 intro k
 induction k with
 | zero =>
   intro i M hi hM
   obtain ⟨M,rfl⟩:∃ G,M=G+1:=⟨M-1,by omega⟩
   obtain rfl:i=A:=by omega
   rw [Aa.of.Cl.Av,Au,A1m (by omega),A1l]
 | succ k ih =>
   intro i M hi hM
   obtain ⟨M,rfl⟩:∃ G,M=G+1:=⟨M-1,by omega⟩
   have n:=of.Cl.inner N r c l hA hB hF (show i<A by omega) (fun j hj=>hp i j (by omega) hj) B 0 M N (by omega) (by omega)
   rw [List.range_zero,List.map_nil,List.append_nil] at n
   rw [Aa.of.Cl.Av,Au,A1i (by omega),A1h]
   exact n.trans (ih (i+1) M (by omega) (by omega))
theorem Aa.of.Cl.known:Aa.of.Cl.Kn:=Aa.of.Cl.Ac (.cons Aa.Fj.known .nil) fun a b r c l hp=>by
 obtain ⟨h12,hy⟩:=Ae.1 (show (((Bh a&&Bh b)&&A2 r c l)&&decide (a=c∧b=r))=true from hp)
 obtain ⟨h1,hx⟩:=Ae.1 h12
 have h2:=Ae.2 ⟨hx,hy⟩
 obtain ⟨ha,hb⟩:=Ae.1 h1
 obtain ⟨A,rfl,hA⟩:=Ew ha
 obtain ⟨B,rfl,hB⟩:=Ew hb
 obtain ⟨hr,he⟩:=Ae.1 h2
 obtain ⟨e1,e2⟩:=A17 he
 have hp:∀ i j:Nat,i<A→j<B→C0 r c l (j:Int) (i:Int)=true:=fun i j hi hj=>L5 hr (by omega) (by omega) (by omega) (by omega) r
 refine ⟨8,.agg [.int .i64 (A:Int),.int .i64 (B:Int),.ints (.own 108002 tB) .u64 (Bv A B fun (i j:Nat)=>Eb c l (j:Int) (i:Int))],[108002],?_,Wk.Hk (.cons .int (.cons .int (.cons (.drop _ _ _ _ (List.mem_singleton.2 rfl)) .nil)))⟩
 rw [Aa.of.Cl.ev]
 have n:=of.Cl.outer 8 r c l hA hB (by omega) (F:=fun (i j:Nat)=>Eb c l (j:Int) (i:Int)) (fun _ _=>rfl) hp A 0 8 (by omega) (by omega)
 rw [K8] at n
 exact n
theorem of.Part.inner (N:Nat) (r c:Int) (l:List Int) (x y:Int) {A B:Nat} (hA:A≤6) (hB:B≤6) {F:Nat→Nat→Int} (hF:∀ i j:Nat,F i j=Eb c l (x+(i:Int)) (y+(j:Int))) {i:Nat} (hi:i<A) (hp:∀ j:Nat,j<B→(C0 r c l (x+(i:Int)) (y+(j:Int))&&V3 x y (i:Int) (j:Int))=true):∀ (k j M0 M:Nat),j+k=B→k<M →
 Aa.of.Part.L1 N M0 M (A:Int) (B:Int) r c l x y (i:Int) (i:Int) (j:Int) (Bv i B F++(List.range j).map (F i))=Aa.of.Part.L0 N M0 (A:Int) (B:Int) r c l x y ((i+1:Nat):Int) (Bv (i+1) B F):=by
 intro k
 induction k with
 | zero =>
   intro j M0 M hj hM
   obtain ⟨M,rfl⟩:∃ G,M=G+1:=⟨M-1,by omega⟩
   obtain rfl:j=B:=by omega
   rw [Aa.of.Part.B8,Au,A1m (by omega),A1l,Am (by omega) (by omega),← Nc]
   rfl
 | succ k ih =>
   intro j M0 M hj hM
   obtain ⟨M,rfl⟩:∃ G,M=G+1:=⟨M-1,by omega⟩
   have d:decide ((Bv i B F++(List.range j).map (F i)).length+1≤G0)=true:=by
    refine A1i ?_
    have:=A2d (show i≤6 by omega) hB
    rw [A19,Cc,A2n,A2k]; unfold G0; omega
   rw [Aa.of.Part.B8,Au,A1i (by omega),A1h,hp j (by omega),A1h,d,A1h,Am (by omega) (by omega),← hF i j]
   have:=ih (j+1) M0 M (by omega) (by omega)
   rw [He,← List.append_assoc] at this
   exact this
theorem of.Part.outer (N:Nat) (r c:Int) (l:List Int) (x y:Int) {A B:Nat} (hA:A≤6) (hB:B≤6) (hN:6<N) {F:Nat→Nat→Int} (hF:∀ i j:Nat,F i j=Eb c l (x+(i:Int)) (y+(j:Int))) (hp:∀ i j:Nat,i<A→j<B→(C0 r c l (x+(i:Int)) (y+(j:Int))&&V3 x y (i:Int) (j:Int))=true):∀ (k i M:Nat),i+k=A→k<M →
 Aa.of.Part.L0 N M (A:Int) (B:Int) r c l x y (i:Int) (Bv i B F)=some (.agg [.int .i64 (A:Int),.int .i64 (B:Int),.ints (.own 108002 tB) .u64 (Bv A B F)]):=by
 intro k
 induction k with
 | zero =>
   intro i M hi hM
   obtain ⟨M,rfl⟩:∃ G,M=G+1:=⟨M-1,by omega⟩
   obtain rfl:i=A:=by omega
   rw [Aa.of.Part.Av,Au,A1m (by omega),A1l]
 | succ k ih =>
   intro i M hi hM
   obtain ⟨M,rfl⟩:∃ G,M=G+1:=⟨M-1,by omega⟩
   have n:=of.Part.inner N r c l x y hA hB hF (show i<A by omega) (fun j hj=>hp i j (by omega) hj) B 0 M N (by omega) (by omega)
   rw [List.range_zero,List.map_nil,List.append_nil] at n
   rw [Aa.of.Part.Av,Au,A1i (by omega),A1h]
   exact n.trans (ih (i+1) M (by omega) (by omega))
theorem Aa.of.Part.known:Aa.of.Part.Kn:=Aa.of.Part.Ac (.cons Aa.Fk.known .nil) fun a b r c l x y hp=>by
 obtain ⟨h12,hy⟩:=Ae.1 (show (((Bh a&&Bh b)&&A2 r c l)&&Ic r c x y a b)=true from hp)
 obtain ⟨h1,hx⟩:=Ae.1 h12
 have h2:=Ae.2 ⟨hx,hy⟩
 obtain ⟨ha,hb⟩:=Ae.1 h1
 obtain ⟨A,rfl,hA⟩:=Ew ha
 obtain ⟨B,rfl,hB⟩:=Ew hb
 obtain ⟨hr,he⟩:=Ae.1 h2
 have he:=A17 he
 have hs:=Il.1 hr
 have hp:∀ i j:Nat,i<A→j<B→(C0 r c l (x+(i:Int)) (y+(j:Int))&&V3 x y (i:Int) (j:Int))=true:=fun i j hi hj =>
  Ae.2 ⟨L5 hr (by omega) (by omega) (by omega) (by omega) r,Ar.2 (by omega)⟩
 refine ⟨8,.agg [.int .i64 (A:Int),.int .i64 (B:Int),.ints (.own 108002 tB) .u64 (Bv A B fun (i j:Nat)=>Eb c l (x+(i:Int)) (y+(j:Int)))],[108002],?_,Wk.Hk (.cons .int (.cons .int (.cons (.drop _ _ _ _ (List.mem_singleton.2 rfl)) .nil)))⟩
 rw [Aa.of.Part.ev]
 have n:=of.Part.outer 8 r c l x y hA hB (by omega) (F:=fun (i j:Nat)=>Eb c l (x+(i:Int)) (y+(j:Int))) (fun _ _=>rfl) hp A 0 8 (by omega) (by omega)
 rw [K8] at n
 exact n
theorem of.Stack.inner (N:Nat) (r c:Int) (l:List Int) (p q:Int) (m:List Int) {A B:Nat} (hA:A≤6) (hB:B≤6) {F:Nat→Nat→Int} (hF:∀ i j:Nat,F i j=Ji r c l q m (i:Int) (j:Int)) {i:Nat} (hi:i<A) (hp:∀ j:Nat,j<B→Nj r c l p q m (i:Int) (j:Int)=true):∀ (k j M0 M:Nat),j+k=B→k<M →
 Aa.of.Stack.L1 N M0 M (A:Int) (B:Int) r c l p q m (i:Int) (i:Int) (j:Int) (Bv i B F++(List.range j).map (F i))=Aa.of.Stack.L0 N M0 (A:Int) (B:Int) r c l p q m ((i+1:Nat):Int) (Bv (i+1) B F):=by
 intro k
 induction k with
 | zero =>
   intro j M0 M hj hM
   obtain ⟨M,rfl⟩:∃ G,M=G+1:=⟨M-1,by omega⟩
   obtain rfl:j=B:=by omega
   rw [Aa.of.Stack.B8,Au,A1m (by omega),A1l,Am (by omega) (by omega),← Nc]
   rfl
 | succ k ih =>
   intro j M0 M hj hM
   obtain ⟨M,rfl⟩:∃ G,M=G+1:=⟨M-1,by omega⟩
   have d:decide ((Bv i B F++(List.range j).map (F i)).length+1≤G0)=true:=by
    refine A1i ?_
    have:=A2d (show i≤6 by omega) hB
    rw [A19,Cc,A2n,A2k]; unfold G0; omega
   rw [Aa.of.Stack.B8,Au,A1i (by omega),A1h,hp j (by omega),A1h,d,A1h,Am (by omega) (by omega),← hF i j]
   have:=ih (j+1) M0 M (by omega) (by omega)
   rw [He,← List.append_assoc] at this
   exact this
theorem of.Stack.outer (N:Nat) (r c:Int) (l:List Int) (p q:Int) (m:List Int) {A B:Nat} (hA:A≤6) (hB:B≤6) (hN:6<N) {F:Nat→Nat→Int} (hF:∀ i j:Nat,F i j=Ji r c l q m (i:Int) (j:Int)) (hp:∀ i j:Nat,i<A→j<B→Nj r c l p q m (i:Int) (j:Int)=true):∀ (k i M:Nat),i+k=A→k<M →
 Aa.of.Stack.L0 N M (A:Int) (B:Int) r c l p q m (i:Int) (Bv i B F)=some (.agg [.int .i64 (A:Int),.int .i64 (B:Int),.ints (.own 108002 tB) .u64 (Bv A B F)]):=by
 intro k
 induction k with
 | zero =>
   intro i M hi hM
   obtain ⟨M,rfl⟩:∃ G,M=G+1:=⟨M-1,by omega⟩
   obtain rfl:i=A:=by omega
   rw [Aa.of.Stack.Av,Au,A1m (by omega),A1l]
 | succ k ih =>
   intro i M hi hM
   obtain ⟨M,rfl⟩:∃ G,M=G+1:=⟨M-1,by omega⟩
   have n:=of.Stack.inner N r c l p q m hA hB hF (show i<A by omega) (fun j hj=>hp i j (by omega) hj) B 0 M N (by omega) (by omega)
   rw [List.range_zero,List.map_nil,List.append_nil] at n
   rw [Aa.of.Stack.Av,Au,A1i (by omega),A1h]
   exact n.trans (ih (i+1) M (by omega) (by omega))
theorem Aa.of.Stack.known:Aa.of.Stack.Kn:=Aa.of.Stack.Ac (.cons Aa.Eh.known .nil) fun a b r c l p q m hp=>by
 obtain ⟨h12,hy⟩:=Ae.1 (show (((Bh a&&Bh b)&&(A2 r c l&&A2 p q m))&&decide (a=r+p∧b=c∧q=c))=true from hp)
 obtain ⟨h1,hx⟩:=Ae.1 h12
 have h2:=Ae.2 ⟨hx,hy⟩
 obtain ⟨ha,hb⟩:=Ae.1 h1
 obtain ⟨A,rfl,hA⟩:=Ew ha
 obtain ⟨B,rfl,hB⟩:=Ew hb
 obtain ⟨h3,he⟩:=Ae.1 h2
 obtain ⟨hr,hm⟩:=Ae.1 h3
 obtain ⟨e1,e2,e3⟩:=A17 he
 have hs:=Il.1 hr
 have hp:∀ i j:Nat,i<A→j<B→Nj r c l p q m (i:Int) (j:Int)=true:=fun i j hi hj=>by
  refine Ar.2 ⟨by omega,by omega,by omega,by omega,?_⟩
  by_cases h:(i:Int)<r
  ·rw [A14 h]; exact L5 hr (by omega) (by omega) (by omega) (by omega) r
  ·rw [A13 h]; exact L5 hm (by omega) (by omega) (by omega) (by omega) p
 refine ⟨8,.agg [.int .i64 (A:Int),.int .i64 (B:Int),.ints (.own 108002 tB) .u64 (Bv A B fun (i j:Nat)=>Ji r c l q m (i:Int) (j:Int))],[108002],?_,Wk.Hk (.cons .int (.cons .int (.cons (.drop _ _ _ _ (List.mem_singleton.2 rfl)) .nil)))⟩
 rw [Aa.of.Stack.ev]
 have n:=of.Stack.outer 8 r c l p q m hA hB (by omega) (F:=fun (i j:Nat)=>Ji r c l q m (i:Int) (j:Int)) (fun _ _=>rfl) hp A 0 8 (by omega) (by omega)
 rw [K8] at n
 exact n
theorem of.Mul.inner (N:Nat) (r c:Int) (l:List Int) (p q:Int) (m:List Int) {A B:Nat} (hA:A≤6) (hB:B≤6) {F:Nat→Nat→Int} (hF:∀ i j:Nat,F i j=Je (G6 c l (i:Int)) (Kv p q m (j:Int))) {i:Nat} (hi:i<A) (hp:∀ j:Nat,j<B→Tr r c l p q m (i:Int) (j:Int)=true):∀ (k j M0 M:Nat),j+k=B→k<M →
 Aa.of.Mul.L1 N M0 M (A:Int) (B:Int) r c l p q m (i:Int) (i:Int) (j:Int) (Bv i B F++(List.range j).map (F i))=Aa.of.Mul.L0 N M0 (A:Int) (B:Int) r c l p q m ((i+1:Nat):Int) (Bv (i+1) B F):=by
 intro k
 induction k with
 | zero =>
   intro j M0 M hj hM
   obtain ⟨M,rfl⟩:∃ G,M=G+1:=⟨M-1,by omega⟩
   obtain rfl:j=B:=by omega
   rw [Aa.of.Mul.B8,Au,A1m (by omega),A1l,Am (by omega) (by omega),← Nc]
   rfl
 | succ k ih =>
   intro j M0 M hj hM
   obtain ⟨M,rfl⟩:∃ G,M=G+1:=⟨M-1,by omega⟩
   have d:decide ((Bv i B F++(List.range j).map (F i)).length+1≤G0)=true:=by
    refine A1i ?_
    have:=A2d (show i≤6 by omega) hB
    rw [A19,Cc,A2n,A2k]; unfold G0; omega
   rw [Aa.of.Mul.B8,Au,A1i (by omega),A1h,hp j (by omega),A1h,d,A1h,Am (by omega) (by omega),← hF i j]
   have:=ih (j+1) M0 M (by omega) (by omega)
   rw [He,← List.append_assoc] at this
   exact this
theorem of.Mul.outer (N:Nat) (r c:Int) (l:List Int) (p q:Int) (m:List Int) {A B:Nat} (hA:A≤6) (hB:B≤6) (hN:6<N) {F:Nat→Nat→Int} (hF:∀ i j:Nat,F i j=Je (G6 c l (i:Int)) (Kv p q m (j:Int))) (hp:∀ i j:Nat,i<A→j<B→Tr r c l p q m (i:Int) (j:Int)=true):∀ (k i M:Nat),i+k=A→k<M →
 Aa.of.Mul.L0 N M (A:Int) (B:Int) r c l p q m (i:Int) (Bv i B F)=some (.agg [.int .i64 (A:Int),.int .i64 (B:Int),.ints (.own 108002 tB) .u64 (Bv A B F)]):=by
 intro k
 induction k with
 | zero =>
   intro i M hi hM
   obtain ⟨M,rfl⟩:∃ G,M=G+1:=⟨M-1,by omega⟩
   obtain rfl:i=A:=by omega
   rw [Aa.of.Mul.Av,Au,A1m (by omega),A1l]
 | succ k ih =>
   intro i M hi hM
   obtain ⟨M,rfl⟩:∃ G,M=G+1:=⟨M-1,by omega⟩
   have n:=of.Mul.inner N r c l p q m hA hB hF (show i<A by omega) (fun j hj=>hp i j (by omega) hj) B 0 M N (by omega) (by omega)
   rw [List.range_zero,List.map_nil,List.append_nil] at n
   rw [Aa.of.Mul.Av,Au,A1i (by omega),A1h]
   exact n.trans (ih (i+1) M (by omega) (by omega))
theorem Aa.of.Mul.known:Aa.of.Mul.Kn:=Aa.of.Mul.Ac (.cons Aa.Hm.known .nil) fun a b r c l p q m hp=>by
 obtain ⟨h12,hy⟩:=Ae.1 (show (((Bh a&&Bh b)&&((A2 r c l&&A2 p q m)&&(Ai l&&Ai m)))&&decide (a=r∧b=q∧c=p))=true from hp)
 obtain ⟨h1,hx⟩:=Ae.1 h12
 have h2:=Ae.2 ⟨hx,hy⟩
 obtain ⟨ha,hb⟩:=Ae.1 h1
 obtain ⟨A,rfl,hA⟩:=Ew ha
 obtain ⟨B,rfl,hB⟩:=Ew hb
 obtain ⟨h3,he⟩:=Ae.1 h2
 obtain ⟨h4,h5⟩:=Ae.1 h3
 obtain ⟨hr,hm⟩:=Ae.1 h4
 obtain ⟨e1,e2,e3⟩:=A17 he
 have hp:∀ i j:Nat,i<A→j<B→Tr r c l p q m (i:Int) (j:Int)=true:=fun i j hi hj =>
  Ae.2 ⟨Ae.2 ⟨Ae.2 ⟨hr,Ar.2 (by omega)⟩,Ae.2 ⟨hm,Ar.2 (by omega)⟩⟩,Ae.2 ⟨h5,Ar.2 e3⟩⟩
 refine ⟨8,.agg [.int .i64 (A:Int),.int .i64 (B:Int),.ints (.own 108002 tB) .u64 (Bv A B fun (i j:Nat)=>Je (G6 c l (i:Int)) (Kv p q m (j:Int)))],[108002],?_,Wk.Hk (.cons .int (.cons .int (.cons (.drop _ _ _ _ (List.mem_singleton.2 rfl)) .nil)))⟩
 rw [Aa.of.Mul.ev]
 have n:=of.Mul.outer 8 r c l p q m hA hB (by omega) (F:=fun (i j:Nat)=>Je (G6 c l (i:Int)) (Kv p q m (j:Int))) (fun _ _=>rfl) hp A 0 8 (by omega) (by omega)
 rw [K8] at n
 exact n
open EqOf
def To (x:MX):DV:=.tup [.agg [.int .i64 x.1,.int .i64 x.2.1,.ints .fresh .u64 x.2.2.1],.int .i64 x.2.2.2]
def Ap9 (e:Int):DV:=.tup [.agg [.int .i64 0,.int .i64 0,.nil],.int .i64 e]
theorem On {drops:List Nat} {x:MX}:Wk drops (To x) (To x) :=
 Wk.Ha (.cons (Wk.Hk (.cons .int (.cons .int (.cons .Ov .nil)))) (.cons .int .nil))
theorem J8 {drops:List Nat} {e:Int}:Wk drops (Ap9 e) (To (Ls e)) :=
 Wk.Ha (.cons (Wk.Hk (.cons .int (.cons .int (.cons (.nil _ _) .nil)))) (.cons .int .nil))
theorem Aa.Bb.known:Aa.Bb.Kn:=Aa.Bb.Ac (.cons Aa.of.Bb.known (.cons Aa.size.known .nil)) fun a b _=>by
 show ∃ N dv drops,_=some dv∧Wk drops dv (To (C1 a b))
 unfold C1
 by_cases h:(Bh a&&Bh b)=true
 ·obtain ⟨h1,h2⟩:=Ae.1 h
  rw [A14 h]
  exact ⟨0,_,[],by rw [Aa.Bb.ev,h1,h2]; rfl,On⟩
 ·have e:((!(Bh a))||(!(Bh b)))=true:=by
   cases h1:Bh a<;>cases h2:Bh b<;>simp_all
  rw [A13 h]
  exact ⟨0,_,[],by rw [Aa.Bb.ev,e]; rfl,J8⟩
theorem Aa.Ep.known:Aa.Ep.Kn:=Aa.Ep.Ac (.cons Aa.of.Ep.known (.cons Aa.size.known .nil)) fun n _=>by
 show ∃ N dv drops,_=some dv∧Wk drops dv (To (Nt n))
 unfold Nt
 by_cases h:Bh n=true
 ·rw [A14 h]
  exact ⟨0,_,[],by rw [Aa.Ep.ev,h]; rfl,On⟩
 ·have e:Bh n=false:=by simpa using h
  rw [A13 h]
  exact ⟨0,_,[],by rw [Aa.Ep.ev,e]; rfl,J8⟩
theorem Iz {r c:Int} {l:List Int} (h:A2 r c l=true):Bh r=true∧Bh c=true:=by
 obtain ⟨h1,h2,_⟩:=Il.1 h
 exact ⟨Iw.2 h1,Iw.2 h2⟩
theorem Aa.Cl.known:Aa.Cl.Kn:=Aa.Cl.Ac (.cons Aa.Check.known (.cons Aa.of.Cl.known .nil)) fun r c l _=>by
 show ∃ N dv drops,_=some dv∧Wk drops dv (To (Fe r c l))
 unfold Fe
 by_cases h:A2 r c l=true
 ·obtain ⟨h1,h2⟩:=Iz h
  rw [A14 h]
  exact ⟨0,_,[],by rw [Aa.Cl.ev,T2,h,h1,h2,A1i ⟨rfl,rfl⟩]; rfl,On⟩
 ·have e:A2 r c l=false:=by simpa using h
  have ec:Lb r c l=1:=by unfold Lb; rw [e]; rfl
  rw [A13 h]
  exact ⟨0,_,[],by rw [Aa.Cl.ev,T2,e,ec]; rfl,J8⟩
theorem Ab0 {r c x y a b:Int} (hr:0≤r∧r≤6) (hc:0≤c∧c≤6) :
 ((((((((A6 x (0:Int))||(A6 y (0:Int)))||(A6 a (0:Int)))||(A6 b (0:Int)))||(A6 r x))||(A6 c y))||(A6 (Ab (r-x)) a))||(A6 (Ab (c-y)) b))=!(Ic r c x y a b):=by
 unfold Ic
 simp only [Au]
 by_cases h:0≤x∧0≤y∧x≤r∧y≤c
 ·rw [Am (x:=r-x) (by omega) (by omega),Am (x:=c-y) (by omega) (by omega),A1x]
  simp only [Bool.or_eq_true,A1o,Bool.not_eq_true',A10]
  omega
 ·have e:decide (0≤x∧0≤y∧0≤a∧0≤b∧x≤r∧y≤c∧a≤r-x∧b≤c-y)=false:=A1m (by omega)
  rw [e,A1x]
  simp only [Bool.or_eq_true,A1o,A20,iff_true]
  omega
theorem Zi {r c x y a b:Int} {l:List Int} (h:A2 r c l=true) (hp:Ic r c x y a b=true):Bh a=true∧Bh b=true:=by
 obtain ⟨h1,h2,_⟩:=Il.1 h
 have:=A17 hp
 exact ⟨Iw.2 (by omega),Iw.2 (by omega)⟩
theorem Aa.Part.known:Aa.Part.Kn:=Aa.Part.Ac (.cons Aa.Check.known (.cons Aa.of.Part.known .nil)) fun r c l x y a b _=>by
 show ∃ N dv drops,_=some dv∧Wk drops dv (To (Hu r c l x y a b))
 unfold Hu
 by_cases h:A2 r c l=true
 ·obtain ⟨h1,h2,_⟩:=Il.1 h
  by_cases hp:Ic r c x y a b=true
  ·obtain ⟨s1,s2⟩:=Zi h hp
   rw [A14 h,A14 hp]
   exact ⟨0,_,[],by rw [Aa.Part.ev,T2,Ab0 h1 h2,h,hp,s1,s2]; rfl,On⟩
  ·have e:Ic r c x y a b=false:=by simpa using hp
   rw [A14 h,A13 hp]
   exact ⟨0,_,[],by rw [Aa.Part.ev,T2,Ab0 h1 h2,h,e]; rfl,J8⟩
 ·have e:A2 r c l=false:=by simpa using h
  have ec:Lb r c l=1:=by unfold Lb; rw [e]; rfl
  rw [A13 h]
  exact ⟨0,_,[],by rw [Aa.Part.ev,T2,e,ec]; rfl,J8⟩
theorem Vx (r c:Int) (l:List Int) (p q:Int) (m:List Int):((Yo r c l p q m) !=(0:Int))=!(A2 r c l&&A2 p q m):=by
 unfold Yo
 cases A2 r c l&&A2 p q m<;>rfl
theorem Aow {r c:Int} {l:List Int} {p q:Int} {m:List Int} (h:(A2 r c l&&A2 p q m)=false):Yo r c l p q m=1:=by
 unfold Yo; rw [h]; rfl
theorem Aa.Mul.known:Aa.Mul.Kn:=Aa.Mul.Ac (.cons Aa.of.Mul.known (.cons Aa.two.known .nil)) fun r c l p q m hp=>by
 show ∃ N dv drops,_=some dv∧Wk drops dv (To (N2 r c l p q m))
 unfold N2
 have hp:(Ai l&&Ai m)=true:=hp
 by_cases h:(A2 r c l&&A2 p q m)=true
 ·obtain ⟨h1,h2⟩:=Ae.1 h
  by_cases hc:c=p
  ·have e:(c !=p)=false:=by rw [hc]; simp
   rw [A14 h,A14 hc]
   exact ⟨0,_,[],by rw [Aa.Mul.ev,Vx,h,e,(Iz h1).1,(Iz h2).2,hp,A1i ⟨rfl,rfl,hc⟩]; rfl,On⟩
  ·have e:(c !=p)=true:=by simpa using hc
   rw [A14 h,A13 hc]
   exact ⟨0,_,[],by rw [Aa.Mul.ev,Vx,h,e]; rfl,J8⟩
 ·have e:(A2 r c l&&A2 p q m)=false:=by simpa using h
  rw [A13 h]
  exact ⟨0,_,[],by rw [Aa.Mul.ev,Vx,e,Aow e]; rfl,J8⟩
theorem Aa.Stack.known:Aa.Stack.Kn:=Aa.Stack.Ac (.cons Aa.of.Stack.known (.cons Aa.two.known .nil)) fun r c l p q m _=>by
 show ∃ N dv drops,_=some dv∧Wk drops dv (To (D5 r c l p q m))
 unfold D5
 by_cases h:(A2 r c l&&A2 p q m)=true
 ·obtain ⟨h1,h2⟩:=Ae.1 h
  obtain ⟨r1,c1,_⟩:=Il.1 h1
  obtain ⟨p1,q1,_⟩:=Il.1 h2
  have ew:Ab (r+p)=r+p:=Am (by omega) (by omega)
  by_cases hc:c=q∧r+p≤6
  ·have e:((c !=q)||(A6 (6:Int) (r+p)))=false:=by rw [Au,hc.1]; simp; omega
   rw [A14 h,A14 hc]
   exact ⟨0,_,[],by rw [Aa.Stack.ev,ew,Vx,h,e,(Iz h1).2,Iw.2 (show 0≤r+p∧r+p≤6 by omega),A1i ⟨rfl,rfl,hc.1.symm⟩]; rfl,On⟩
  ·have e:((c !=q)||(A6 (6:Int) (r+p)))=true:=by rw [Au]; simp; omega
   rw [A14 h,A13 hc]
   exact ⟨0,_,[],by rw [Aa.Stack.ev,ew,Vx,h,e]; rfl,J8⟩
 ·have e:(A2 r c l&&A2 p q m)=false:=by simpa using h
  rw [A13 h]
  exact ⟨0,_,[],by rw [Aa.Stack.ev,Vx,e,Aow e]; rfl,J8⟩
namespace EqRef10
def Ak.Hl.A9:List (Nat × Entry):=[]
def Ak.Hl.E:Env:=Ba (A8 Ak.Hl.A9) (fun _=>false) (fun _=>none) (fun _=>none)
theorem Ak.Hl.ev (N:Nat) (r c:Int) (l:List Int):Bw Ak.Hl.E N f91 (An f91) [.agg [.int .i64 r,.int .i64 c,.ints .arg .u64 l]]=some (.bool (bif (bif (bif (bif (Em 0 r) then (Em r 6) else false) then (Em 0 c) else false) then (Em c 6) else false) then ((length l:Int)==(Ab (r*c))) else false)) :=
 Eq.trans (by kernel_rfl)
 (Ax (Qq (Em 0 r)) (Ax (Ma (Em 0 r)) (Ax (Ma (Em 0 r)) (Ax (Uf (Em 0 r)) (Ax (Avv (Em 0 r) (Em r 6)) (Ax (Aoz (Em 0 r) (Em r 6)) (Ax (Aoz (Em 0 r) (Em r 6)) (Ax (Avw (Em 0 r) (Em r 6)) (Ax (Az9 (Em 0 r) (Em r 6) (Em 0 c)) (Ax (Ax6 (Em 0 r) (Em r 6) (Em 0 c)) (Ax (Ax6 (Em 0 r) (Em r 6) (Em 0 c)) (Ax (A0a (Em 0 r) (Em r 6) (Em 0 c)) (Ax (Avx (Em 0 r) (Em r 6) (Em 0 c) (Em c 6)) (Ax (Asu (Em 0 r) (Em r 6) (Em 0 c) (Em c 6)) (Ax (Asu (Em 0 r) (Em r 6) (Em 0 c) (Em c 6)) (Ax (Avx (Em 0 r) (Em r 6) (Em 0 c) (Em c 6)) (Ax (Asu (Em 0 r) (Em r 6) (Em 0 c) (Em c 6)) (Ax (Avx (Em 0 r) (Em r 6) (Em 0 c) (Em c 6)) (Ax (Asu (Em 0 r) (Em r 6) (Em 0 c) (Em c 6)) (Ax (Ax7 (Em 0 r) (Em r 6) (Em 0 c) (Em c 6)) (Ax (Ax7 (Em 0 r) (Em r 6) (Em 0 c) (Em c 6)) (Ax (A0b (Em 0 r) (Em r 6) (Em 0 c) (Em c 6)) rfl))))))))))))))))))))))
abbrev _root_.Go.Proofs.S1.Ak.Hl.Kn:=A4 prog 91 Ak.Hl.spec
theorem Ak.Hl.Ac (hk:Az prog Ak.Hl.A9) (h:Hyp Ak.Hl.E f91 Ak.Hl.ts Ak.Hl.pre Ak.Hl.out):Ak.Hl.Kn :=
 Al (A0 hk _ _ _) func91 (by kernel_rfl) (by kernel_rfl) h
def Ak.At.A9:List (Nat × Entry):=[]
def Ak.At.E:Env:=Ba (A8 Ak.At.A9) (fun _=>false) (fun _=>none) (fun _=>none)
theorem Ak.At.ev (N:Nat) (r c:Int) (l:List Int) (i k:Int):Bw Ak.At.E N f80 (An f80) [.agg [.int .i64 r,.int .i64 c,.ints .arg .u64 l],.int .i64 i,.int .i64 k]=bif ((decide (0≤(Ab ((Ab (i*c))+k))))&&(decide ((Ab ((Ab (i*c))+k))<(length l:Int)))) then some (.int .u64 (getD l (toNat (Ab ((Ab (i*c))+k))) 0)) else none:=by kernel_rfl
abbrev _root_.Go.Proofs.S1.Ak.At.Kn:=A4 prog 80 Ak.At.spec
theorem Ak.At.Ac (hk:Az prog Ak.At.A9) (h:Hyp Ak.At.E f80 Ak.At.ts Ak.At.pre Ak.At.out):Ak.At.Kn :=
 Al (A0 hk _ _ _) func80 (by kernel_rfl) (by kernel_rfl) h
def Ak.Bb.A9:List (Nat × Entry):=[]
def Ak.Bb.E:Env:=Ba (A8 Ak.Bb.A9) (fun _=>false) (fun _=>none) (fun _=>none)
theorem Ak.Bb.ev (N:Nat) (a b:Int):Bw Ak.Bb.E N f35 (An f35) [.int .i64 a,.int .i64 b]=bif (((decide ((0:Int)≤(Ab (a*b))))&&(decide ((Ab (a*b))≤(Ab (a*b)))))&&(decide ((Ab (a*b))≤G0))) then some (.agg [.int .i64 a,.int .i64 b,.ints (.own 10 37) .u64 (List.replicate (toNat (Ab (a*b))) 0)]) else none:=by kernel_rfl
abbrev _root_.Go.Proofs.S1.Ak.Bb.Kn:=A4 prog 35 Ak.Bb.spec
theorem Ak.Bb.Ac (hk:Az prog Ak.Bb.A9) (h:Hyp Ak.Bb.E f35 Ak.Bb.ts Ak.Bb.pre Ak.Bb.out):Ak.Bb.Kn :=
 Al (A0 hk _ _ _) func35 (by kernel_rfl) (by kernel_rfl) h
def Ak.Fx.A9:List (Nat × Entry):=[]
def Ak.Fx.E:Env:=Ba (A8 Ak.Fx.A9) (fun _=>false) (fun _=>none) (fun _=>none)
theorem Ak.Fx.ev (N:Nat) (r c:Int) (l:List Int) (i k b:Int):Bw Ak.Fx.E N f83 (An f83) [.agg [.int .i64 r,.int .i64 c,.ints .arg .u64 l],.int .i64 i,.int .i64 k,.int .u64 b]=bif (decide (0+(length l)≤G0)) then bif ((decide (0≤(Ab ((Ab (i*c))+k))))&&(decide ((Ab ((Ab (i*c))+k))<(length ([]++l):Int)))) then bif (decide ((toNat (Ab ((Ab (i*c))+k)))<(length ([]++l)))) then some (.agg [.int .i64 r,.int .i64 c,.ints (.own 13 37) .u64 (List.set ([]++l) (toNat (Ab ((Ab (i*c))+k))) b)]) else none else none else none:=by kernel_rfl
abbrev _root_.Go.Proofs.S1.Ak.Fx.Kn:=A4 prog 83 Ak.Fx.spec
theorem Ak.Fx.Ac (hk:Az prog Ak.Fx.A9) (h:Hyp Ak.Fx.E f83 Ak.Fx.ts Ak.Fx.pre Ak.Fx.out):Ak.Fx.Kn :=
 Al (A0 hk _ _ _) func83 (by kernel_rfl) (by kernel_rfl) h
def Ak.Ep.hint:Nat→Option Be
 | 0=>some { keep:=[0,2,3,4],objs:=[],boxes:=[2,3] }
 | _=>none
def Ak.Ep.A9:List (Nat × Entry):=[(83,Ak.Fx.spec),(35,Ak.Bb.spec)]
def Ak.Ep.E:Env:=Ba (A8 Ak.Ep.A9) (fun _=>false) Ak.Ep.hint (fun _=>none)
section
variable (N M:Nat) (n p4:Int) (p3:List Int)
def Ak.Ep.L0:Option DV:=B2 Ak.Ep.E N f33 (An f33) [1,1,0,1,0] [] M ⟨Gz 18 [(0,.int .i64 n),(2,.ptr 2 0 0),(3,.ptr 3 0 0),(4,.int .i64 p4)],[(2,false,.box [.int .i64 0,.int .i64 0,.nil]),(3,false,.box [.int .i64 n,.int .i64 n,.ints .fresh .u64 p3])]⟩
theorem Ak.Ep.Av:Ak.Ep.L0 N (M+1) n p4 p3=bif (A6 p4 n) then bif (C0 n n p3 p4 p4) then Ak.Ep.L0 N M n (Ab (p4+1)) (List.set p3 (toNat (p4*n+p4)) 4607182418800017408) else none else some (.agg [.int .i64 n,.int .i64 n,.ints .fresh .u64 p3]):=by kernel_rfl
theorem Ak.Ep.ev:Bw Ak.Ep.E N f33 (An f33) [.int .i64 n]=bif (Bh n&&Bh n) then Ak.Ep.L0 N N n 0 (Bv (toNat n) (toNat n) (fun _ _=>0)) else none:=by kernel_rfl
end
abbrev _root_.Go.Proofs.S1.Ak.Ep.Kn:=A4 prog 33 Ak.Ep.spec
theorem Ak.Ep.Ac (hk:Az prog Ak.Ep.A9) (h:Hyp Ak.Ep.E f33 Ak.Ep.ts Ak.Ep.pre Ak.Ep.out):Ak.Ep.Kn :=
 Al (A0 hk _ _ _) func33 (by kernel_rfl) (by kernel_rfl) h
def Ak.Row.A9:List (Nat × Entry):=[]
def Ak.Row.E:Env:=Ba (A8 Ak.Row.A9) (fun _=>false) (fun _=>none) (fun _=>none)
theorem Ak.Row.ev (N:Nat) (r c:Int) (l:List Int) (i:Int):Bw Ak.Row.E N f107 (An f107) [.agg [.int .i64 r,.int .i64 c,.ints .arg .u64 l],.int .i64 i]=bif (((decide ((0:Int)≤(Ab (i*c))))&&(decide ((Ab (i*c))≤(Ab ((Ab (i+1))*c)))))&&((decide ((0:Int)≤(Ab ((Ab (i+1))*c))))&&(decide ((Ab ((Ab (i+1))*c))≤(length l:Int))))) then some (.ints .arg .u64 (List.drop (toNat (Ab (i*c))) (List.take (toNat (Ab ((Ab (i+1))*c))) l))) else none :=
 Eq.trans (by kernel_rfl)
 (C9 (Aye (decide ((0:Int)≤(Ab (i*c)))) (decide ((Ab (i*c))≤(Ab ((Ab (i+1))*c)))) (decide ((0:Int)≤(Ab ((Ab (i+1))*c)))) (decide ((Ab ((Ab (i+1))*c))≤(length l:Int)))) rfl rfl)
abbrev _root_.Go.Proofs.S1.Ak.Row.Kn:=A4 prog 107 Ak.Row.spec
theorem Ak.Row.Ac (hk:Az prog Ak.Row.A9) (h:Hyp Ak.Row.E f107 Ak.Row.ts Ak.Row.pre Ak.Row.out):Ak.Row.Kn :=
 Al (A0 hk _ _ _) func107 (by kernel_rfl) (by kernel_rfl) h
def Ak.Po.hint:Nat→Option Be
 | 0=>some { keep:=[1,3,7,8],objs:=[(0,7,100007,.ints 37 .u64 [])],boxes:=[3] }
 | _=>none
def Ak.Po.A9:List (Nat × Entry):=[(80,Ak.At.spec)]
def Ak.Po.E:Env:=Ba (A8 Ak.Po.A9) (fun _=>false) Ak.Po.hint (fun _=>none)
section
variable (N M:Nat) (r c:Int) (l:List Int) (k f p8:Int) (p7:List Int)
def Ak.Po.L0:Option DV:=B2 Ak.Po.E N f108 (An f108) [1,1,0,1,0] [] M ⟨Gz 25 [(1,.int .i64 k),(3,.ptr 3 0 0),(7,.oref 100007),(8,.int .i64 p8)],[(3,false,.box [.int .i64 r,.int .i64 c,.ints .arg .u64 l]),(100007,false,.ints 37 .u64 p7)]⟩
theorem Ak.Po.Av:Ak.Po.L0 N (M+1) r c l k p8 p7=bif (A6 p8 r) then bif (C0 r c l p8 k) then bif (decide ((length p7)+1≤G0)) then Ak.Po.L0 N M r c l k (Ab (p8+1)) (p7++[(Eb c l p8 k)]) else none else none else some (.ints (.own 100007 37) .u64 p7):=by kernel_rfl
theorem Ak.Po.ev:Bw Ak.Po.E N f108 (An f108) [.agg [.int .i64 r,.int .i64 c,.ints .arg .u64 l],.int .i64 k,.int .i64 f] =
 Ak.Po.L0 N N r c l k f []:=by kernel_rfl
end
abbrev _root_.Go.Proofs.S1.Ak.Po.Kn:=A4 prog 108 Ak.Po.spec
theorem Ak.Po.Ac (hk:Az prog Ak.Po.A9) (h:Hyp Ak.Po.E f108 Ak.Po.ts Ak.Po.pre Ak.Po.out):Ak.Po.Kn :=
 Al (A0 hk _ _ _) func108 (by kernel_rfl) (by kernel_rfl) h
def Ak.Mul.hint:Nat→Option Be
 | 0=>some { keep:=[2,3,4,5,6],objs:=[],boxes:=[2,3,4,5] }
 | 2=>some { keep:=[2,3,4,5,6,7],objs:=[],boxes:=[2,3,4,5] }
 | _=>none
def Ak.Mul.A9:List (Nat × Entry):=[(118,Aj.Ht.spec),(108,Ak.Po.spec),(107,Ak.Row.spec),(83,Ak.Fx.spec),(35,Ak.Bb.spec)]
def Ak.Mul.E:Env:=Ba (A8 Ak.Mul.A9) (fun _=>false) Ak.Mul.hint (fun _=>none)
section
variable (N M0 M:Nat) (r c:Int) (l:List Int) (p q:Int) (m:List Int) (p7:Int) (p5:List Int) (p6_1 p6:Int) (p5_1:List Int)
def Ak.Mul.L0:Option DV:=B2 Ak.Mul.E N f45 (An f45) [1,1,0,1,0] [] M ⟨Gz 37 [(2,.ptr 2 0 0),(3,.ptr 3 0 0),(4,.ptr 4 0 0),(5,.ptr 5 0 0),(6,.int .i64 p6)],[(2,false,.box [.int .i64 r,.int .i64 c,.ints .arg .u64 l]),(3,false,.box [.int .i64 p,.int .i64 q,.ints .arg .u64 m]),(4,false,.box [.int .i64 0,.int .i64 0,.nil]),(5,false,.box [.int .i64 r,.int .i64 q,.ints .fresh .u64 p5_1])]⟩
def Ak.Mul.L1:Option DV:=B2 Ak.Mul.E N f45 (An f45) [1,1,0,1,0,0,1,0,0,1,0] [M0] M ⟨Gz 37 [(2,.ptr 2 0 0),(3,.ptr 3 0 0),(4,.ptr 4 0 0),(5,.ptr 5 0 0),(6,.int .i64 p6_1),(7,.int .i64 p7)],[(2,false,.box [.int .i64 r,.int .i64 c,.ints .arg .u64 l]),(3,false,.box [.int .i64 p,.int .i64 q,.ints .arg .u64 m]),(4,false,.box [.int .i64 0,.int .i64 0,.nil]),(5,false,.box [.int .i64 r,.int .i64 q,.ints .fresh .u64 p5])]⟩
theorem Ak.Mul.Av:Ak.Mul.L0 N (M+1) r c l p q m p6 p5_1=bif (A6 p6 r) then Ak.Mul.L1 N M N r c l p q m 0 p5_1 p6 else some (.agg [.int .i64 r,.int .i64 q,.ints .fresh .u64 p5_1]):=by kernel_rfl
theorem Ak.Mul.B8:Ak.Mul.L1 N M0 (M+1) r c l p q m p7 p5 p6_1=bif (A6 p7 q) then bif (Pw r c l p6_1) then bif (Hj p q m p7&&Cz (0≤(0:Int)∧(0:Int)≤p)) then bif ((Pk (G6 c l p6_1) (Ct q m p7 0 (toNat (p-0)))&&Ai (G6 c l p6_1))&&Ai (Ct q m p7 0 (toNat (p-0)))) then bif (C0 r q p5 p6_1 p7) then Ak.Mul.L1 N M0 M r c l p q m (Ab (p7+1)) (List.set p5 (toNat (p6_1*q+p7)) (Je (G6 c l p6_1) (Ct q m p7 0 (toNat (p-0))))) p6_1 else none else none else none else none else Ak.Mul.L0 N M0 r c l p q m (Ab (p6_1+1)) p5 :=
 Eq.trans (by kernel_rfl)
 (Et (C9 (Cy (Pw r c l p6_1)) (C9 (Cy (Hj p q m p7&&Cz (0≤(0:Int)∧(0:Int)≤p))) (C9 (Cy ((Pk (G6 c l p6_1) (Ct q m p7 0 (toNat (p-0)))&&Ai (G6 c l p6_1))&&Ai (Ct q m p7 0 (toNat (p-0))))) (C9 (Cy (C0 r q p5 p6_1 p7)) rfl rfl) rfl) rfl) rfl) rfl)
theorem Ak.Mul.ev:Bw Ak.Mul.E N f45 (An f45) [.agg [.int .i64 r,.int .i64 c,.ints .arg .u64 l],.agg [.int .i64 p,.int .i64 q,.ints .arg .u64 m]]=bif (Bh r&&Bh q) then Ak.Mul.L0 N N r c l p q m 0 (Bv (toNat r) (toNat q) (fun _ _=>0)) else none:=by kernel_rfl
end
abbrev _root_.Go.Proofs.S1.Ak.Mul.Kn:=A4 prog 45 Ak.Mul.spec
theorem Ak.Mul.Ac (hk:Az prog Ak.Mul.A9) (h:Hyp Ak.Mul.E f45 Ak.Mul.ts Ak.Mul.pre Ak.Mul.out):Ak.Mul.Kn :=
 Al (A0 hk _ _ _) func45 (by kernel_rfl) (by kernel_rfl) h
def Ak.Cl.hint:Nat→Option Be
 | 0=>some { keep:=[1,2,3,4],objs:=[],boxes:=[1,2,3] }
 | 2=>some { keep:=[1,2,3,4,5],objs:=[],boxes:=[1,2,3] }
 | _=>none
def Ak.Cl.A9:List (Nat × Entry):=[(80,Ak.At.spec),(83,Ak.Fx.spec),(35,Ak.Bb.spec)]
def Ak.Cl.E:Env:=Ba (A8 Ak.Cl.A9) (fun _=>false) Ak.Cl.hint (fun _=>none)
section
variable (N M0 M:Nat) (r c:Int) (l:List Int) (p5:Int) (p3:List Int) (p4_1 p4:Int) (p3_1:List Int)
def Ak.Cl.L0:Option DV:=B2 Ak.Cl.E N f37 (An f37) [1,1,0,1,0] [] M ⟨Gz 32 [(1,.ptr 1 0 0),(2,.ptr 2 0 0),(3,.ptr 3 0 0),(4,.int .i64 p4)],[(1,false,.box [.int .i64 r,.int .i64 c,.ints .arg .u64 l]),(2,false,.box [.int .i64 0,.int .i64 0,.nil]),(3,false,.box [.int .i64 c,.int .i64 r,.ints .fresh .u64 p3_1])]⟩
def Ak.Cl.L1:Option DV:=B2 Ak.Cl.E N f37 (An f37) [1,1,0,1,0,0,1,0,0,1,0] [M0] M ⟨Gz 32 [(1,.ptr 1 0 0),(2,.ptr 2 0 0),(3,.ptr 3 0 0),(4,.int .i64 p4_1),(5,.int .i64 p5)],[(1,false,.box [.int .i64 r,.int .i64 c,.ints .arg .u64 l]),(2,false,.box [.int .i64 0,.int .i64 0,.nil]),(3,false,.box [.int .i64 c,.int .i64 r,.ints .fresh .u64 p3])]⟩
theorem Ak.Cl.Av:Ak.Cl.L0 N (M+1) r c l p4 p3_1=bif (A6 p4 r) then Ak.Cl.L1 N M N r c l 0 p3_1 p4 else some (.agg [.int .i64 c,.int .i64 r,.ints .fresh .u64 p3_1]):=by kernel_rfl
theorem Ak.Cl.B8:Ak.Cl.L1 N M0 (M+1) r c l p5 p3 p4_1=bif (A6 p5 c) then bif (C0 r c l p4_1 p5) then bif (C0 c r p3 p5 p4_1) then Ak.Cl.L1 N M0 M r c l (Ab (p5+1)) (List.set p3 (toNat (p5*r+p4_1)) (Eb c l p4_1 p5)) p4_1 else none else none else Ak.Cl.L0 N M0 r c l (Ab (p4_1+1)) p3 :=
 Eq.trans (by kernel_rfl)
 (Et (C9 (Cy (C0 r c l p4_1 p5)) (C9 (Cy (C0 c r p3 p5 p4_1)) rfl rfl) rfl) rfl)
theorem Ak.Cl.ev:Bw Ak.Cl.E N f37 (An f37) [.agg [.int .i64 r,.int .i64 c,.ints .arg .u64 l]]=bif (Bh c&&Bh r) then Ak.Cl.L0 N N r c l 0 (Bv (toNat c) (toNat r) (fun _ _=>0)) else none:=by kernel_rfl
end
abbrev _root_.Go.Proofs.S1.Ak.Cl.Kn:=A4 prog 37 Ak.Cl.spec
theorem Ak.Cl.Ac (hk:Az prog Ak.Cl.A9) (h:Hyp Ak.Cl.E f37 Ak.Cl.ts Ak.Cl.pre Ak.Cl.out):Ak.Cl.Kn :=
 Al (A0 hk _ _ _) func37 (by kernel_rfl) (by kernel_rfl) h
def Ak.Part.hint:Nat→Option Be
 | 0=>some { keep:=[1,2,3,4,5,10,11,12],objs:=[],boxes:=[5,10,11] }
 | 2=>some { keep:=[1,2,3,4,5,10,11,12,13],objs:=[],boxes:=[5,10,11] }
 | _=>none
def Ak.Part.A9:List (Nat × Entry):=[(80,Ak.At.spec),(83,Ak.Fx.spec),(35,Ak.Bb.spec)]
def Ak.Part.E:Env:=Ba (A8 Ak.Part.A9) (fun _=>false) Ak.Part.hint (fun _=>none)
section
variable (N M0 M:Nat) (r c:Int) (l:List Int) (x y a b p13:Int) (p11:List Int) (p12_1 p12:Int) (p11_1:List Int)
def Ak.Part.L0:Option DV:=B2 Ak.Part.E N f128 (An f128) [1,1,0,1,0] [] M ⟨Gz 40 [(1,.int .i64 x),(2,.int .i64 y),(3,.int .i64 a),(4,.int .i64 b),(5,.ptr 5 0 0),(10,.ptr 10 0 0),(11,.ptr 11 0 0),(12,.int .i64 p12)],[(5,false,.box [.int .i64 r,.int .i64 c,.ints .arg .u64 l]),(10,false,.box [.int .i64 0,.int .i64 0,.nil]),(11,false,.box [.int .i64 a,.int .i64 b,.ints .fresh .u64 p11_1])]⟩
def Ak.Part.L1:Option DV:=B2 Ak.Part.E N f128 (An f128) [1,1,0,1,0,0,1,0,0,1,0] [M0] M ⟨Gz 40 [(1,.int .i64 x),(2,.int .i64 y),(3,.int .i64 a),(4,.int .i64 b),(5,.ptr 5 0 0),(10,.ptr 10 0 0),(11,.ptr 11 0 0),(12,.int .i64 p12_1),(13,.int .i64 p13)],[(5,false,.box [.int .i64 r,.int .i64 c,.ints .arg .u64 l]),(10,false,.box [.int .i64 0,.int .i64 0,.nil]),(11,false,.box [.int .i64 a,.int .i64 b,.ints .fresh .u64 p11])]⟩
theorem Ak.Part.Av:Ak.Part.L0 N (M+1) r c l x y a b p12 p11_1=bif (A6 p12 a) then Ak.Part.L1 N M N r c l x y a b 0 p11_1 p12 else some (.agg [.int .i64 a,.int .i64 b,.ints .fresh .u64 p11_1]):=by kernel_rfl
theorem Ak.Part.B8:Ak.Part.L1 N M0 (M+1) r c l x y a b p13 p11 p12_1=bif (A6 p13 b) then bif (C0 r c l (Ab (x+p12_1)) (Ab (y+p13))) then bif (C0 a b p11 p12_1 p13) then Ak.Part.L1 N M0 M r c l x y a b (Ab (p13+1)) (List.set p11 (toNat (p12_1*b+p13)) (Eb c l (Ab (x+p12_1)) (Ab (y+p13)))) p12_1 else none else none else Ak.Part.L0 N M0 r c l x y a b (Ab (p12_1+1)) p11 :=
 Eq.trans (by kernel_rfl)
 (Et (C9 (Cy (C0 r c l (Ab (x+p12_1)) (Ab (y+p13)))) (C9 (Cy (C0 a b p11 p12_1 p13)) rfl rfl) rfl) rfl)
theorem Ak.Part.ev:Bw Ak.Part.E N f128 (An f128) [.agg [.int .i64 r,.int .i64 c,.ints .arg .u64 l],.int .i64 x,.int .i64 y,.int .i64 a,.int .i64 b]=bif (Bh a&&Bh b) then Ak.Part.L0 N N r c l x y a b 0 (Bv (toNat a) (toNat b) (fun _ _=>0)) else none:=by kernel_rfl
end
abbrev _root_.Go.Proofs.S1.Ak.Part.Kn:=A4 prog 128 Ak.Part.spec
theorem Ak.Part.Ac (hk:Az prog Ak.Part.A9) (h:Hyp Ak.Part.E f128 Ak.Part.ts Ak.Part.pre Ak.Part.out):Ak.Part.Kn :=
 Al (A0 hk _ _ _) func128 (by kernel_rfl) (by kernel_rfl) h
abbrev _root_.Go.Proofs.S1.Ak.Fx.arg.Kn:Prop:=A4 prog 83 Ak.Fx.arg.spec
abbrev _root_.Go.Proofs.S1.Ak.Ep.arg.Kn:Prop:=A4 prog 33 Ak.Ep.arg.spec
end EqRef10
end Go.Proofs.S1
end
