/- A verified evaluator of the program's form and its use for this seat: S1EqLdx, S1PLdx, S1PLdxA, S1EqRefA, S1PRefA, S1PRefAa, S1EqRefB, S1PRefB, S1PRefBa, S1EqRefC, S1PRefC, S1PRefCa, S1EqRefE, S1PRefV, S1EqRef08, S1EqRef13, S1PRef08, S1POfS, S1EqRef20, S1PSubSt, S1EqSort, S1EqSvd. -/
import Derived.Test.YtclmlepbdjafdaaGreatTE
import Derived.Test.YtclmlepbdjafdaaGreatTF
import Derived.Test.YtclmlepbdjafdaaGreatTI
import Derived.Test.YtclmlepbdjafdaaGreatTH
set_option linter.unusedVariables false
set_option linter.unusedSimpArgs false
noncomputable section
open Int (toNat)
open List (length getD)
open Go.Proofs.Tryz
namespace Go.Proofs.S1
open Go Go.Den Go.Rnd Go.Proofs
set_option maxRecDepth 100000
namespace EqLdx
def math.H3.Bh:List (Nat × Entry):=[]
def math.H3.E:Env:=Bi (Bg math.H3.Bh) (fun _=>false) (fun _=>none) (fun _=>none)
theorem math.H3.ev (N x:Nat):Bw math.H3.E N f106 (Aq f106) [.fl x]=some (.fl (x%9223372036854775808)):=by kernel_rfl
abbrev _root_.Go.Proofs.S1.math.H3.Kn:=A6 prog 106 math.H3.spec
theorem math.H3.Ad (hk:Ay prog math.H3.Bh) (h:Hyp math.H3.E f106 math.H3.ts math.H3.pre math.H3.out):math.H3.Kn :=
 Am (A2 hk _ _ _) func106 (by kernel_rfl) (by kernel_rfl) h
def math.Fj.Bh:List (Nat × Entry):=[]
def math.Fj.E:Env:=Bi (Bg math.Fj.Bh) (fun _=>false) (fun _=>none) (fun _=>none)
theorem math.Fj.ev (N x:Nat):Bw math.Fj.E N f84 (Aq f84) [.fl x]=some (.bool (Ieee.double.order x x !=some .eq)):=by kernel_rfl
abbrev _root_.Go.Proofs.S1.math.Fj.Kn:=A6 prog 84 math.Fj.spec
theorem math.Fj.Ad (hk:Ay prog math.Fj.Bh) (h:Hyp math.Fj.E f84 math.Fj.ts math.Fj.pre math.Fj.out):math.Fj.Kn :=
 Am (A2 hk _ _ _) func84 (by kernel_rfl) (by kernel_rfl) h
def math.Fk.Bh:List (Nat × Entry):=[(106,math.H3.spec)]
def math.Fk.E:Env:=Bi (Bg math.Fk.Bh) (fun _=>false) (fun _=>none) (fun _=>none)
theorem math.Fk.ev (N x:Nat) (s:Int):Bw math.Fk.E N f83 (Aq f83) [.fl x,.int .i64 s]=bif (s==(0:Int)) then some (.bool (Ieee.double.order (G4 x) 9218868437227405311==some .gt)) else bif (A3 s 0) then none else some (.bool (Ieee.double.order x 9218868437227405311==some .gt)):=by kernel_rfl
abbrev _root_.Go.Proofs.S1.math.Fk.Kn:=A6 prog 83 math.Fk.spec
theorem math.Fk.Ad (hk:Ay prog math.Fk.Bh) (h:Hyp math.Fk.E f83 math.Fk.ts math.Fk.pre math.Fk.out):math.Fk.Kn :=
 Am (A2 hk _ _ _) func83 (by kernel_rfl) (by kernel_rfl) h
def math.normalize.Bh:List (Nat × Entry):=[(106,math.H3.spec)]
def math.normalize.E:Env:=Bi (Bg math.normalize.Bh) (fun _=>false) (fun _=>none) (fun _=>none)
theorem math.normalize.ev (N x:Nat):Bw math.normalize.E N f85 (Aq f85) [.fl x]=bif (Ieee.double.order (G4 x) 4503599627370496==some .lt) then some (.tup [.fl ((Ieee.double.mul x 4841369599423283200).getD nanBits),.int .i64 (-52:Int)]) else some (.tup [.fl x,.int .i64 0]):=by kernel_rfl
abbrev _root_.Go.Proofs.S1.math.normalize.Kn:=A6 prog 85 math.normalize.spec
theorem math.normalize.Ad (hk:Ay prog math.normalize.Bh) (h:Hyp math.normalize.E f85 math.normalize.ts math.normalize.pre math.normalize.out):math.normalize.Kn :=
 Am (A2 hk _ _ _) func85 (by kernel_rfl) (by kernel_rfl) h
def math.Cx.Bh:List (Nat × Entry):=[]
def math.Cx.E:Env:=Vb (Bg math.Cx.Bh) (fun _=>false) (fun _=>none) (fun _=>none) (Ad1 [])
theorem math.Cx.ev (N x y:Nat):Bw math.Cx.E N f86 (Aq f86) [.fl x,.fl y]=bif (!(Ec x)) then bif (!(Ec y)) then bif (decide (0≤(F9 .u64 (E0 .u64 (x:Int) 9223372036854775808) (Dq .u64 (y:Int) 9223372036854775808)))) then some (.fl (toNat (F9 .u64 (E0 .u64 (x:Int) 9223372036854775808) (Dq .u64 (y:Int) 9223372036854775808)))) else none else none else none:=by kernel_rfl
abbrev _root_.Go.Proofs.S1.math.Cx.Kn:=A6 prog 86 math.Cx.spec
theorem math.Cx.Ad (hk:Ay prog math.Cx.Bh) (h:Hyp math.Cx.E f86 math.Cx.ts math.Cx.pre math.Cx.out):math.Cx.Kn :=
 Am (Yg hk _ _ _ _) func86 (by kernel_rfl) (by kernel_rfl) h
def math.Si.Bh:List (Nat × Entry):=[]
def math.Si.E:Env:=Bi (Bg math.Si.Bh) (fun _=>false) (fun _=>none) (fun _=>none)
theorem math.Si.ev (N:Nat) (s:Int):Bw math.Si.E N f87 (Aq f87) [.int .i64 s]=bif (H2 0 s) then some (.fl 9218868437227405312) else some (.fl 18442240474082181120):=by kernel_rfl
abbrev _root_.Go.Proofs.S1.math.Si.Kn:=A6 prog 87 math.Si.spec
theorem math.Si.Ad (hk:Ay prog math.Si.Bh) (h:Hyp math.Si.E f87 math.Si.ts math.Si.pre math.Si.out):math.Si.Kn :=
 Am (A2 hk _ _ _) func87 (by kernel_rfl) (by kernel_rfl) h
def math.Ez.Bh:List (Nat × Entry):=[(86,math.Cx.spec),(87,math.Si.spec),(83,math.Fk.spec),(84,math.Fj.spec),(85,math.normalize.spec)]
def math.Ez.E:Env:=Vb (Bg math.Ez.Bh) (fun _=>false) (fun _=>none) (fun _=>none) (Ad1 [])
theorem math.Ez.ev (N x:Nat) (k:Int):Bw math.Ez.E N f49 (Aq f49) [.fl x,.int .i64 k]=bif (Ieee.double.order x 0==some .eq) then some (.fl x) else bif (P2 x&&decide ((0:Int)=0)) then bif ((decide (Ag x=3))||(P2 x)) then bif ((decide (Ag x=3))||(decide (Ag x=4))) then some (.fl x) else bif (Aak x) then bif (!(Ec (Jl x))) then bif (A3 (Ab ((Ab (k+(Gr x)))+(Ab ((Dq .i64 (Ab (Ct .u64 ((Jl x):Int) 52)) 2047)-1023)))) (-1075:Int)) then bif (Aak (Jl x)&&decide ((0:Int)=0)) then some (.fl (Be (Bu (Jl x)) 0)) else none else bif (A3 1023 (Ab ((Ab (k+(Gr x)))+(Ab ((Dq .i64 (Ab (Ct .u64 ((Jl x):Int) 52)) 2047)-1023))))) then bif (Ieee.double.order (Jl x) 0==some .lt) then some (.fl (Be (decide ((-1:Int)<0)) Dy)) else some (.fl (Be (decide ((1:Int)<0)) Dy)) else bif (A3 (Ab ((Ab (k+(Gr x)))+(Ab ((Dq .i64 (Ab (Ct .u64 ((Jl x):Int) 52)) 2047)-1023)))) (-1022:Int)) then bif (decide (0≤(F9 .u64 (E0 .u64 ((Jl x):Int) 9218868437227405312) (Bq .u64 (Bb (Ab ((Ab ((Ab ((Ab (k+(Gr x)))+(Ab ((Dq .i64 (Ab (Ct .u64 ((Jl x):Int) 52)) 2047)-1023))))+53))+1023))) 52)))) then some (.fl ((Ieee.double.mul 4368491638549381120 (toNat (F9 .u64 (E0 .u64 ((Jl x):Int) 9218868437227405312) (Bq .u64 (Bb (Ab ((Ab ((Ab ((Ab (k+(Gr x)))+(Ab ((Dq .i64 (Ab (Ct .u64 ((Jl x):Int) 52)) 2047)-1023))))+53))+1023))) 52)))).getD nanBits)) else none else bif (decide (0≤(F9 .u64 (E0 .u64 ((Jl x):Int) 9218868437227405312) (Bq .u64 (Bb (Ab ((Ab ((Ab (k+(Gr x)))+(Ab ((Dq .i64 (Ab (Ct .u64 ((Jl x):Int) 52)) 2047)-1023))))+1023))) 52)))) then some (.fl ((Ieee.double.mul 4607182418800017408 (toNat (F9 .u64 (E0 .u64 ((Jl x):Int) 9218868437227405312) (Bq .u64 (Bb (Ab ((Ab ((Ab (k+(Gr x)))+(Ab ((Dq .i64 (Ab (Ct .u64 ((Jl x):Int) 52)) 2047)-1023))))+1023))) 52)))).getD nanBits)) else none else none else none else none else none :=
 Eq.trans (by kernel_rfl)
 (Eu rfl (Eu (Aw (Kl (decide (Ag x=3))) (Df (Aml (decide (Ag x=3)) (P2 x)) (Aw (Mt (decide (Ag x=3))) (Df (Ts (decide (Ag x=3)) (decide (Ag x=4))) rfl rfl)) rfl)) rfl))
abbrev _root_.Go.Proofs.S1.math.Ez.Kn:=A6 prog 49 math.Ez.spec
theorem math.Ez.Ad (hk:Ay prog math.Ez.Bh) (h:Hyp math.Ez.E f49 math.Ez.ts math.Ez.pre math.Ez.out):math.Ez.Kn :=
 Am (Yg hk _ _ _ _) func49 (by kernel_rfl) (by kernel_rfl) h
def math.Fw.Bh:List (Nat × Entry):=[(49,math.Ez.spec)]
def math.Fw.E:Env:=Bi (Bg math.Fw.Bh) (fun _=>false) (fun _=>none) (fun _=>none)
theorem math.Fw.ev (N x:Nat) (k:Int):Bw math.Fw.E N f20 (Aq f20) [.fl x,.int .i64 k]=bif (P2 x&&Br (-2300≤k∧k≤2300)) then some (.fl (Gg x k)) else none:=by kernel_rfl
abbrev _root_.Go.Proofs.S1.math.Fw.Kn:=A6 prog 20 math.Fw.spec
theorem math.Fw.Ad (hk:Ay prog math.Fw.Bh) (h:Hyp math.Fw.E f20 math.Fw.ts math.Fw.pre math.Fw.out):math.Fw.Kn :=
 Am (A2 hk _ _ _) func20 (by kernel_rfl) (by kernel_rfl) h
def B0.Bf.Bh:List (Nat × Entry):=[(20,math.Fw.spec),(19,B0.B.spec),(21,B0.F.spec)]
def B0.Bf.E:Env:=Bi (Bg B0.Bf.Bh) (fun _=>false) (fun _=>none) (fun _=>none)
theorem B0.Bf.ev (N:Nat) (a k:Int):Bw B0.Bf.E N f10 (Aq f10) [.int .u64 a,.int .i64 k]=bif (Aj a) then bif (P2 (toNat a)&&Br (-2300≤k∧k≤2300)) then some (.int .u64 (Kw (Gg (toNat a) k))) else none else none:=by kernel_rfl
abbrev _root_.Go.Proofs.S1.B0.Bf.Kn:=A6 prog 10 B0.Bf.spec
theorem B0.Bf.Ad (hk:Ay prog B0.Bf.Bh) (h:Hyp B0.Bf.E f10 B0.Bf.ts B0.Bf.pre B0.Bf.out):B0.Bf.Kn :=
 Am (A2 hk _ _ _) func10 (by kernel_rfl) (by kernel_rfl) h
end EqLdx
open EqLdx
theorem U2 (n:Nat):Ec n=decide (Ag n=4):=Uh n
theorem Yu (x:Nat):G4 x<2^64:=Nat.lt_trans (To x) (by decide)
theorem Uz (x:Nat):Ag (G4 x)=Ag x:=by
 have e1:C8 (G4 x)=C8 x:=by unfold C8 G4; omega
 have e2:Co (G4 x)=Co x:=by unfold Co G4; omega
 unfold Ag
 rw [e1,e2]
theorem Nu (x y:Int):(compare x y=.lt↔x<y)∧(compare x y=.gt↔y<x)∧(compare x y=.eq↔x=y):=by
 rcases Int.lt_trichotomy x y with h | h | h
 ·rw [Acm h]; refine ⟨by simp [h],?_,?_⟩<;>simp<;>omega
 ·subst h
  have:compare x x=.eq:=by simp [compare,compareOfLessAndEq]
  rw [this]; simp
 ·rw [Acn h]; refine ⟨?_,by simp [h],?_⟩<;>simp<;>omega
theorem math.H3.known:math.H3.Kn:=math.H3.Ad .nil fun x _=>⟨0,math.H3.out [.f x],[],by rw [math.H3.ev]; rfl,.fl⟩
theorem math.Fj.known:math.Fj.Kn:=math.Fj.Ad .nil fun x hp=>by
 have hx:=Al.1 (show P2 x=true from hp)
 refine ⟨0,math.Fj.out [.f x],[],?_,.bool⟩
 show _=some (DV.bool (decide (Ag x=4)))
 rw [math.Fj.ev]
 by_cases h:Ag x=4
 ·rw [Ru hx hx (.inl h),Ars h]; rfl
 ·rw [Lk hx hx h h,Arw h,(Nu _ _).2.2.2 rfl]; rfl
theorem All {x:Nat} (hx:x<2^64) (h4:Ag x≠4):(Ieee.double.order (G4 x) 9218868437227405311==some .gt)=decide (Ag x=3):=by
 have k1:Ag 9218868437227405311≠4:=by decide +kernel
 have k2:E6 9218868437227405311=9218868437227405311:=by decide +kernel
 have ka:E6 (G4 x)=((G4 x:Nat):Int):=by
  have:=Nj false (r:=G4 x) (To x)
  exact this
 rw [Lk (Yu x) (by decide) (by rw [Uz]; exact h4) k1,k2,ka]
 have hl:=Anh h4
 rw [Ar7,beq_iff_eq,Aru,(Nu _ _).2.1,Ary]
 constructor
 ·intro h
  refine Decidable.byContradiction fun h3=>?_
  have:=Q5 h3 h4
  rw [Gs] at this
  unfold G4 at h
  omega
 ·intro h3
  have:=Q4 h3
  rw [Gs] at this
  unfold G4
  omega
theorem math.Fk.known:math.Fk.Kn:=math.Fk.Ad (.cons math.H3.known .nil) fun x s hp=>by
 obtain ⟨h1,h2⟩:=Af.1 (show (P2 x&&decide (s=0))=true from hp)
 have hx:=Al.1 h1
 obtain rfl:=Ash h2
 refine ⟨0,math.Fk.out [.f x,.i 0],[],?_,.bool⟩
 show _=some (DV.bool (decide (Ag x=3)))
 rw [math.Fk.ev,show ((0:Int)==(0:Int))=true from rfl,Arr]
 by_cases h4:Ag x=4
 ·rw [Ru (Yu x) (by decide) (.inl (by rw [Uz]; exact h4)),Arw (by omega)]; rfl
 ·rw [All hx h4]
theorem math.normalize.known:math.normalize.Kn:=math.normalize.Ad (.cons math.H3.known .nil) fun x hp=>by
 obtain ⟨hx,h3,h4⟩:=Al.1 (show Aak x=true from hp)
 refine ⟨0,math.normalize.out [.f x],[],?_,Wk.E5 (.cons .fl (.cons .int .nil))⟩
 show _=some (DV.tup [.fl (Jl x),.int .i64 (Gr x)])
 have k1:Ag 4503599627370496≠4:=by decide +kernel
 have k2:E6 4503599627370496=4503599627370496:=by decide +kernel
 have ka:E6 (G4 x)=((G4 x:Nat):Int):=Nj false (r:=G4 x) (To x)
 have hc:(Ieee.double.order (G4 x) 4503599627370496==some .lt)=decide (G4 x<4503599627370496):=by
  rw [Lk (Yu x) (by decide) (by rw [Uz]; exact h4) k1,k2,ka,Ar7,beq_iff_eq,Aru,(Nu _ _).1,Ary]
  omega
 rw [math.normalize.ev,hc]
 unfold Jl Gr
 by_cases h:G4 x<4503599627370496
 ·rw [Ars h,Arr,Ase h,Ase h]
  have hm:=mul_pow h3 h4 (by rw [p52.2.2.1]; decide) (by rw [p52.2.2.1]; decide) p52.1 p52.2.2.2
  have:=Ua (Uj hx (b:=4841369599423283200) (by decide) Ma) (by rw [hm]; exact Ni _ _ _)
  rw [this]
 ·rw [Arw h,Arv,Asd h,Asd h]
theorem Akl {n:Nat} (h:n<2^64):n &&& 9227875636482146303=n / 2^63*2^63+n%2^52:=by
 have hf:n%2^52<2^63:=by omega
 apply Nat.eq_of_testBit_eq
 intro j
 rw [Nat.testBit_and,show (9227875636482146303:Nat)=2^63*1+(2^52-1) from rfl,Asf (n / 2^63),Nat.testBit_two_pow_mul_add _ (by decide:2^52-1<2^63),Nat.testBit_two_pow_mul_add _ hf]
 by_cases hj:j<63
 ·rw [Ase hj,Ase hj,Nat.testBit_mod_two_pow,Nat.testBit_two_pow_sub_one,Bool.and_comm]
 ·rw [Asd hj,Asd hj,Nat.testBit_div_two_pow,Nat.sub_add_cancel (by omega)]
  by_cases h63:j=63
  ·subst h63
   show (n.testBit 63&&true)=_
   rw [Bool.and_true]
  ·have e1:Nat.testBit 1 (j-63)=false:=by rw [show (1:Nat)=2^0 from rfl,Nat.testBit_two_pow]; exact Arw (by omega)
   have e2:n.testBit j=false:=Nat.testBit_lt_two_pow (As3 h (Ar6 (by decide) (by omega)))
   rw [e1,e2]; rfl
theorem Aa0 {n:Nat} (h:n<2^64):E0 .u64 (n:Int) (9218868437227405312:Int)=((n / 2^63*2^63+n%2^52:Nat):Int):=by
 have e:(BitVec.ofInt 64 (n:Int) &&& ~~~(BitVec.ofInt 64 9218868437227405312)).toNat=n / 2^63*2^63+n%2^52:=by
  have e1 : ~~~(BitVec.ofInt 64 9218868437227405312)=BitVec.ofNat 64 9227875636482146303:=by decide
  rw [e1,BitVec.toNat_and,BitVec.toNat_ofNat,BitVec.toNat_ofInt]
  have e2:(((n:Int)%((2^64:Nat):Int)).toNat)=n:=by omega
  rw [e2]
  exact Akl h
 have e':(BitVec.ofInt IntKind.u64.bits (n:Int) &&& ~~~(BitVec.ofInt IntKind.u64.bits 9218868437227405312)).toNat=n / 2^63*2^63+n%2^52:=e
 unfold E0
 rw [e']
 exact P8 (by omega)
theorem or3 {A X Y Z W V f:Nat} (h1:A=f ||| X) (h2:X ||| Y=Z) (h3:f ||| Z=W) (h4:W=V):A ||| Y=V:=by rw [h1,Nat.or_assoc,h2,h3,h4]
theorem Aq6 (s p f:Nat):(s*2^11+p)*2^52+f=s*2^63+p*2^52+f:=by
 rw [Asw,Asi,← Asg]
theorem Am7 {s f p:Nat} (hs:s<2) (hf:f<2^52) (hp:p<2048):(s*2^63+f) ||| (p*2^52)=s*2^63+p*2^52+f:=by
 have e1:s*2^63+f=f ||| s*2^11*2^52:=by rw [Ka hf]; omega
 have e2:s*2^11*2^52 ||| p*2^52=(s*2^11+p)*2^52:=by
  have:=Ka (a:=s) (b:=p) (k:=11) hp
  rw [← Nat.shiftLeft_eq,← Nat.shiftLeft_eq p,← Nat.shiftLeft_or_distrib,Nat.or_comm,this,Nat.shiftLeft_eq]
 exact or3 e1 e2 (Ka hf) (Aq6 s p f)
theorem Ada {s:Bool} {P f:Nat} (h2:P≤2046) (hf:f<2^52) {q:Nat} (hq:q<2048) :
 F9 .u64 (E0 .u64 ((Be s (P*2^52+f):Nat):Int) (9218868437227405312:Int)) (Bq .u64 (Bb (q:Int)) (52:Int))=((Be s (q*2^52+f):Nat):Int):=by
 have h64:Be s (P*2^52+f)<2^64:=by
  unfold Be
  cases s
  ·rw [Asd (by decide)]; omega
  ·rw [Ase rfl]; omega
 have ef:Be s (P*2^52+f)%2^52=f:=by
  unfold Be
  cases s
  ·rw [Asd (by decide)]; omega
  ·rw [Ase rfl]; omega
 have es:Be s (P*2^52+f) / 2^63=if s then 1 else 0:=by
  unfold Be
  cases s
  ·rw [Asd (by decide),Asd (by decide)]; omega
  ·rw [Ase rfl,Ase rfl]; omega
 rw [Aa0 h64,ef,es,Cu (by omega) (by omega),show (52:Int)=((52:Nat):Int) from rfl,D8 q 52 (by decide),Ar4 (by omega),Rd (by split<;>omega) (by omega),Am7 (by split<;>decide) hf hq]
 refine congrArg (fun n:Nat=>(n:Int)) ?_
 unfold Be
 cases s
 ·rw [Asd (by decide),Asd (by decide)]; omega
 ·rw [Ase rfl,Ase rfl]; omega
theorem Aim {s:Bool} {P f:Nat} (h1:1≤P) (h2:P≤2046) (hf:f<2^52):Dq .i64 (Ab (Ct .u64 ((Be s (P*2^52+f):Nat):Int) (52:Int))) (2047:Int)=(P:Int):=by
 obtain ⟨e1,_,_,h64,_⟩:=N6 (s:=s) h1 h2 hf
 rw [show (52:Int)=((52:Nat):Int) from rfl,Nw _ _ (by decide),Ao (by omega) (by omega)]
 have hb:Dq .i64 ((Be s (P*2^52+f) / 2^52:Nat):Int) (2047:Int)=Ab ((Be s (P*2^52+f) / 2^52%2048:Nat):Int):=by
  unfold Dq
  have e:(BitVec.ofInt 64 ((Be s (P*2^52+f) / 2^52:Nat):Int) &&& BitVec.ofInt 64 2047).toNat=Be s (P*2^52+f) / 2^52%2048:=by
   rw [BitVec.toNat_and,Gq,show (BitVec.ofInt 64 2047).toNat=2^11-1 from rfl,Nat.and_two_pow_sub_one_eq_mod]
   omega
  have e':(BitVec.ofInt IntKind.i64.bits ((Be s (P*2^52+f) / 2^52:Nat):Int) &&& BitVec.ofInt IntKind.i64.bits 2047).toNat=Be s (P*2^52+f) / 2^52%2048:=e
  rw [e']
  rfl
 unfold C8 at e1
 rw [hb,e1,Ao (by omega) (by omega)]
theorem math.Cx.known:math.Cx.Kn:=math.Cx.Ad .nil fun x y hp=>by
 obtain ⟨h1,h2⟩:=Af.1 (show (Aak y&&decide (x=0))=true from hp)
 obtain ⟨hy,h3,h4⟩:=Al.1 (show Br _=true from h1)
 obtain rfl:=Ash h2
 refine ⟨0,math.Cx.out [.f 0,.f y],[],?_,.fl⟩
 show _=some (DV.fl (Be (Bu y) 0))
 have n0:Ec 0=false:=by decide +kernel
 have ny:Ec y=false:=by rw [U2]; exact Arw h4
 have e1:E0 .u64 ((0:Nat):Int) (9223372036854775808:Int)=((0:Nat):Int):=Vn (by decide)
 have e2:Dq .u64 (y:Int) (9223372036854775808:Int)=((Be (Bu y) 0:Nat):Int):=by
  rw [show (9223372036854775808:Int)=((9223372036854775808:Nat):Int) from rfl,Aay hy (by decide)]
  congr 1
  apply Nat.eq_of_testBit_eq
  intro j
  rw [Nat.testBit_and,show (9223372036854775808:Nat)=2^63 from rfl,Nat.testBit_two_pow]
  unfold Be Bu
  by_cases hn:2^63≤y
  ·rw [Ars hn,Ase rfl,As0,Nat.testBit_two_pow]
   by_cases hj:63=j
   ·subst hj
    have:y.testBit 63=true:=by
     rw [Nat.testBit_eq_decide_div_mod_eq,Ary]; omega
    rw [this]; rfl
   ·rw [Arw hj,Bool.and_false]
  ·rw [Arw hn,Asd (by decide),Nat.zero_testBit]
   by_cases hj:63=j
   ·subst hj
    rw [Nat.testBit_lt_two_pow (by omega)]; rfl
   ·rw [Arw hj,Bool.and_false]
 have e3:F9 .u64 ((0:Nat):Int) ((Be (Bu y) 0:Nat):Int)=((Be (Bu y) 0:Nat):Int):=by
  rw [Rd (by decide) (by unfold Be; split<;>decide),Nat.zero_or]
 rw [math.Cx.ev,n0,ny,e1,e2,e3,Ars (by omega)]
 rfl
theorem math.Si.known:math.Si.Kn:=math.Si.Ad .nil fun s _=>by
 refine ⟨0,math.Si.out [.i s],[],?_,.fl⟩
 show _=some (DV.fl (Be (decide (s<0)) Dy))
 rw [math.Si.ev,Ee]
 by_cases h:s<0
 ·rw [Arw (by omega),Ars h]; rfl
 ·rw [Ars (by omega),Arw h]; rfl
open EqLdx
theorem L6 {x:Nat} (hx:x<2^64):(Ieee.double.order x 0==some .eq)=decide (Ag x=0):=by
 by_cases h4:Ag x=4
 ·rw [Ru hx (by decide) (.inl h4),Arw (by omega)]; rfl
 ·have k0:Ag 0≠4:=by decide +kernel
  have z:E6 0=0:=by decide +kernel
  have hk:E6 x=0↔x%2^63=0:=by
   have:=Nj (Bu x) (r:=x%2^63) (Nat.mod_lt _ (by decide))
   rw [Jv hx] at this
   rw [this]
   unfold Gz
   cases Bu x
   ·rw [Asd (by decide)]; omega
   ·rw [Ase rfl]; omega
  have h0:Ag x=0↔x%2^63=0:=by
   have hp:x%2^63=C8 x*2^52+Co x:=by unfold C8 Co; omega
   rw [hp]
   have:=G6 x
   unfold Ag
   split
   ·split<;>omega
   ·split
    ·omega
    ·split<;>omega
  rw [Lk hx (by decide) h4 k0,z,Ar7,beq_iff_eq,Aru,(Nu _ _).2.2,Ary,hk,h0]
theorem Aeu {x:Nat} (hx:x<2^64) (h4:Ag x≠4) (h0:Ag x≠0):(Ieee.double.order x 0==some .lt)=Bu x:=by
 have k0:Ag 0≠4:=by decide +kernel
 have z:E6 0=0:=by decide +kernel
 have hp:x%2^63=C8 x*2^52+Co x:=by unfold C8 Co; omega
 have hne:x%2^63≠0:=by
  intro h
  refine h0 ?_
  unfold Ag
  rw [Asd (by omega),Asd (by omega),Asd (by omega)]
 have:=Nj (Bu x) (r:=x%2^63) (Nat.mod_lt _ (by decide))
 rw [Jv hx] at this
 rw [Lk hx (by decide) h4 k0,z,Ar7,beq_iff_eq,Aru,(Nu _ _).1,this]
 unfold Gz
 cases Bu x
 ·rw [Asd (by decide)]
  constructor
  ·intro h; omega
  ·intro h; cases h
 ·rw [Ase rfl]
  constructor
  ·intro _; rfl
  ·intro _; omega
theorem Aew (x:Nat):Gr x=-52∨Gr x=0:=by unfold Gr; split<;>simp
theorem Akp {f:Nat} (hf:f<2^52):(f+2^52).log2=52:=Q1 (a:=52) (by omega) (by omega)
theorem math.Ez.known:math.Ez.Kn:=math.Ez.Ad (.cons math.Cx.known (.cons math.Si.known (.cons math.Fk.known (.cons math.Fj.known (.cons math.normalize.known .nil))))) fun x k hp=>by
 obtain ⟨h1,h2⟩:=Af.1 (show (P2 x&&Br (-2300≤k∧k≤2300))=true from hp)
 have hx:=Al.1 (show Br (x<2^64)=true from h1)
 have hk:=Al.1 h2
 refine ⟨0,.fl (Gg x k),[],?_,.fl⟩
 by_cases h0:Ag x=0
 ·have:Gg x k=x:=by unfold Gg Ew; rw [Asd (by omega),Asd (by omega),Ase (.inr h0)]
  rw [math.Ez.ev,L6 hx,Ars h0,Arr,this]
 by_cases h3:Ag x=3
 ·have:Gg x k=x:=by unfold Gg Ew; rw [Asd (by omega),Asd (by omega),Ase (.inl h3)]
  rw [math.Ez.ev,L6 hx,Arw h0,Arv,h1,Ars (rfl:(0:Int)=0),Arx,Arr,As4,Arr,Ars h3,Bool.true_or,Arr,this]
 by_cases h4:Ag x=4
 ·have:Gg x k=x:=by unfold Gg; rw [Ase h4]
  rw [math.Ez.ev,L6 hx,Arw h0,Arv,h1,Ars (rfl:(0:Int)=0),Arx,Arr,As4,Arr,Ars h4,As4,Arr,this]
 obtain ⟨P,f,d,p1,p2,hf,hw,hM,hP⟩:=Ahf hx h3 h4 h0
 obtain ⟨w1,w2,w3,w4,w5,w6,w7⟩:=N6 (s:=Bu x) p1 p2 hf
 have hm:Ar x≠0:=fun h=>h0 ((Ha h3 h4).1 h)
 have hr:=Aew x
 have hl:=Akp hf
 have hld:Gg x k=Be (Bu x) (B1 (f+2^52) ((P:Int)-1075+Gr x+k)):=by
  have:=Agv (k:=k) hm hM hP
  unfold Gg Ew
  rw [Asd h4,Asd h4,Asd (by omega),this]
 have hp:P2 x=true:=Al.2 hx
 have hfp:Aak x=true:=Al.2 ⟨hx,h3,h4⟩
 have hnn:Ec (Jl x)=false:=by rw [U2,hw,w5]; rfl
 have hfw:Aak (Jl x)=true:=by rw [hw]; exact Al.2 ⟨w4,by omega,by omega⟩
 have ee:Ab (Ab (k+Gr x)+Ab (Dq .i64 (Ab (Ct .u64 ((Jl x:Nat):Int) (52:Int))) (2047:Int)-(1023:Int)))=k+Gr x+(P:Int)-1023:=by
  rw [hw,Aim p1 p2 hf,Ao (x:=k+Gr x) (by omega) (by omega),Ao (x:=(P:Int)-1023) (by omega) (by omega),Ao (by omega) (by omega)]
  omega
 have hrun:=math.Ez.ev 0 x k
 rw [L6 hx,Arw h0,Arv,hp,Ars (rfl:(0:Int)=0),Arx,Arr,As4,Arr,Arw h3,Arw h4,Bool.or_self,Arv,hfp,Arr,hnn,Atb,Arr,ee,hfw,Arx,Arr] at hrun
 refine hrun.trans ?_
 rw [hld]
 rw [Av,Av,Av]
 by_cases c1:k+Gr x+(P:Int)-1023 < -1075
 ·rw [Ars c1,Arr,hw,w3,(Go.Rnd.Ad8 (V:=f+2^52) (by omega) (by rw [hl]; omega)).1]
 ·rw [Arw c1,Arv]
  by_cases c2:1023<k+Gr x+(P:Int)-1023
  ·have hng:(Ieee.double.order (Jl x) 0==some .lt)=Bu x:=by
    rw [hw,Aeu w4 (by omega) (by omega),w3]
   rw [Ars c2,Arr,hng,Aq8 (by omega) (by rw [hl]; omega)]
   cases Bu x<;>rfl
  ·rw [Arw c2,Arv]
   by_cases c3:k+Gr x+(P:Int)-1023 < -1022
   ·obtain ⟨q,hq⟩:∃ q:Nat,k+Gr x+(P:Int)-1023+53+1023=q:=⟨(k+Gr x+(P:Int)-1023+53+1023).toNat,by omega⟩
    have e1:Ab (Ab (k+Gr x+(P:Int)-1023+53)+1023)=(q:Int):=by
     rw [Ao (x:=k+Gr x+(P:Int)-1023+53) (by omega) (by omega),Ao (by omega) (by omega)]; exact hq
    have e2:=Ada (s:=Bu x) (P:=P) (f:=f) p2 hf (q:=q) (by omega)
    obtain ⟨v1,v2,v3,v4,v5,v6,v7⟩:=N6 (s:=Bu x) (P:=q) (f:=f) (by omega) (by omega) hf
    have hmul:=mul_pow (a:=Be (Bu x) (q*2^52+f)) (p:=4368491638549381120) (by omega) (by omega) (by rw [p53.2.2.1]; decide) (by rw [p53.2.2.1]; decide) p53.1 p53.2.2.2
    have hmi:=Uj (a:=4368491638549381120) (b:=Be (Bu x) (q*2^52+f)) (by decide) v4 Ma
    rw [Wr] at hmi
    have:=Ua hmi (by rw [hmul]; exact Ni _ _ _)
    have e3:(q:Int)-1075+-105+52=(P:Int)-1075+Gr x+k:=by omega
    have e4:(K3 (Be (Bu x) (q*2^52+f)) 4368491638549381120).1=Be (Bu x) (B1 (f+2^52) ((P:Int)-1075+Gr x+k)):=by
     rw [hmul,v3,v6,v7,p53.2.1,e3]
    rw [e4] at this
    rw [Ars c3,Arr,e1,hw,e2,Ars (by omega),Arr,Art,this]
   ·obtain ⟨q,hq⟩:∃ q:Nat,k+Gr x+(P:Int)-1023+1023=q:=⟨(k+Gr x+(P:Int)-1023+1023).toNat,by omega⟩
    have e1:Ab (k+Gr x+(P:Int)-1023+1023)=(q:Int):=by rw [Ao (by omega) (by omega)]; exact hq
    have e2:=Ada (s:=Bu x) (P:=P) (f:=f) p2 hf (q:=q) (by omega)
    obtain ⟨v1,v2,v3,v4,v5,v6,v7⟩:=N6 (s:=Bu x) (P:=q) (f:=f) (by omega) (by omega) hf
    have hone:K3 4607182418800017408 (Be (Bu x) (q*2^52+f))=(Be (Bu x) (q*2^52+f),0):=by
     rw [Wr]; exact mul_one v4 (by omega) (by omega)
    have hmi:=Uj (a:=4607182418800017408) (b:=Be (Bu x) (q*2^52+f)) (by decide) v4 Ma
    have:=Ua hmi (by rw [hone]; show Ag (Be (Bu x) (q*2^52+f))≠4; omega)
    have er:=Agw (L:=(P:Int)-1075+Gr x+k) (q:=q) hf (by omega) (by omega) (by omega)
    rw [Arw c3,Arv,e1,hw,e2,Ars (by omega),Arr,Art,this,hone,er]
theorem math.Fw.known:math.Fw.Kn:=math.Fw.Ad (.cons math.Ez.known .nil) fun x k hp=>by
 have hp:(P2 x&&Br (-2300≤k∧k≤2300))=true:=hp
 exact ⟨0,.fl (Gg x k),[],by rw [math.Fw.ev,hp,Arr],.fl⟩
theorem Aav {x:Nat} (k:Int):E2 (Gg x k)=(Ew x k).1:=by
 unfold Gg
 by_cases h4:Ag x=4
 ·rw [Ase h4]
  unfold E2 Ew
  rw [Ase h4,Ase h4]
 ·rw [Asd h4]
  unfold E2
  rw [Asd]
  unfold Ew
  rw [Asd h4]
  by_cases h3:Ag x=3∨Ag x=0
  ·rw [Ase h3]; exact h4
  ·rw [Asd h3]; exact Ni _ _ _
theorem B0.Bf.known:B0.Bf.Kn:=B0.Bf.Ad (.cons math.Fw.known (.cons B0.B.known (.cons B0.F.known .nil))) fun a k hp=>by
 obtain ⟨h1,h2⟩:=Af.1 (show C0 a k=true from hp)
 obtain ⟨x,rfl,hx⟩:=Bt h1
 refine ⟨0,.int .u64 (Bs (x:Int) k),[],?_,.int⟩
 have hp:P2 x=true:=Al.2 hx
 have:Kw (Gg x k)=Bs (x:Int) k:=by
  unfold Kw Bs
  rw [Art,Aav]
 rw [B0.Bf.ev,h1,Arr,Art,hp,h2,Arx,Arr,this]
namespace EqRefA
def Ae.Gx.Bh:List (Nat × Entry):=[]
def Ae.Gx.E:Env:=Bi (Bg Ae.Gx.Bh) (fun _=>false) (fun _=>none) (fun _=>none)
theorem Ae.Gx.ev (N:Nat) (l:List Int) (i:Int):Bw Ae.Gx.E N f105 (Aq f105) [.ints .arg .u32 l,.int .i64 i]=bif ((H2 0 i)&&(A3 i (length l:Int))) then bif ((decide (0≤i))&&(decide (i<(length l:Int)))) then some (.int .u64 (Bb (getD l (toNat i) 0))) else none else some (.int .u64 0) :=
 Eq.trans (by kernel_rfl)
 (Aw (H0 (H2 0 i)) (Aw (H0 (H2 0 i)) (Aw (Fm (H2 0 i)) (Aw (Ajs (H2 0 i)) (Aw (J3 (H2 0 i)) (Df (Tt (H2 0 i) (A3 i (length l:Int))) rfl rfl))))))
abbrev _root_.Go.Proofs.S1.Ae.Gx.Kn:=A6 prog 105 Ae.Gx.spec
theorem Ae.Gx.Ad (hk:Ay prog Ae.Gx.Bh) (h:Hyp Ae.Gx.E f105 Ae.Gx.ts Ae.Gx.pre Ae.Gx.out):Ae.Gx.Kn :=
 Am (A2 hk _ _ _) func105 (by kernel_rfl) (by kernel_rfl) h
def Ae.Made.hint:Nat→Option Bc
 | 0=>some { keep:=[0,1,4,5],objs:=[],boxes:=[4] }
 | _=>none
def Ae.Made.Bh:List (Nat × Entry):=[]
def Ae.Made.E:Env:=Bi (Bg Ae.Made.Bh) (fun _=>false) Ae.Made.hint (fun _=>none)
section
variable (N M:Nat) (n:Bool) (l:List Int) (p5:Int)
def Ae.Made.L0:Option DV:=B3 Ae.Made.E N f80 (Aq f80) [1,1,0,0] [] M ⟨G8 28 [(0,.bool n),(1,.ints .arg .u32 l),(4,.ptr 4 0 0),(5,.int .i64 p5)],[(4,false,.box [.bool false,.nil])]⟩
theorem Ae.Made.Au:Ae.Made.L0 N (M+1) n l p5=bif ((!(A3 0 p5))||((decide (0≤(Ab (p5-1))))&&(decide ((Ab (p5-1))<(length l:Int))))) then bif ((A3 0 p5)&&((getD l (toNat (Ab (p5-1))) 0)==(0:Int))) then Ae.Made.L0 N M n l (Ab (p5-1)) else bif (p5==(0:Int)) then some (.agg [.bool false,.nil]) else bif ((decide ((0:Int)≤p5))&&(decide (p5≤(length l:Int)))) then some (.agg [.bool n,.ints .arg .u32 (List.take (toNat p5) l)]) else none else none :=
 Eq.trans (by kernel_rfl)
 (Aw (H0 (A3 0 p5)) (Aw (H0 (A3 0 p5)) (Aw (Fm (A3 0 p5)) (Df (Ap6 (A3 0 p5) (decide (0≤(Ab (p5-1)))) (decide ((Ab (p5-1))<(length l:Int)))) (Aw (Fm (A3 0 p5)) (Aw (Fm (A3 0 p5)) (Aw (J3 (A3 0 p5)) (Df (Tt (A3 0 p5) ((getD l (toNat (Ab (p5-1))) 0)==(0:Int))) rfl (Eu rfl (Df (tt4 (decide ((0:Int)≤p5)) (decide (p5≤(length l:Int)))) rfl rfl)))))) rfl))))
theorem Ae.Made.ev:Bw Ae.Made.E N f80 (Aq f80) [.bool n,.ints .arg .u32 l] =
 Ae.Made.L0 N N n l (length l:Int):=by kernel_rfl
end
abbrev _root_.Go.Proofs.S1.Ae.Made.Kn:=A6 prog 80 Ae.Made.spec
theorem Ae.Made.Ad (hk:Ay prog Ae.Made.Bh) (h:Hyp Ae.Made.E f80 Ae.Made.ts Ae.Made.pre Ae.Made.out):Ae.Made.Kn :=
 Am (A2 hk _ _ _) func80 (by kernel_rfl) (by kernel_rfl) h
def Ae.Of.Bh:List (Nat × Entry):=[(80,Ae.Made.spec)]
def Ae.Of.E:Env:=Bi (Bg Ae.Of.Bh) (fun _=>false) (fun _=>none) (fun _=>none)
theorem Ae.Of.ev (N:Nat) (n:Int):Bw Ae.Of.E N f43 (Aq f43) [.int .i64 n]=bif (A3 n 0) then bif (F2 [(Hk (Int.tmod (Bb ((Bb (Ab (0-(Ab (n+1)))))+1)) 4294967296)),(Hk (Bb (Int.tdiv (Bb ((Bb (Ab (0-(Ab (n+1)))))+1)) 4294967296)))]) then some (.agg [.bool (A9 (wv true [(Hk (Int.tmod (Bb ((Bb (Ab (0-(Ab (n+1)))))+1)) 4294967296)),(Hk (Bb (Int.tdiv (Bb ((Bb (Ab (0-(Ab (n+1)))))+1)) 4294967296)))])),.ints .arg .u32 (Ai (wv true [(Hk (Int.tmod (Bb ((Bb (Ab (0-(Ab (n+1)))))+1)) 4294967296)),(Hk (Bb (Int.tdiv (Bb ((Bb (Ab (0-(Ab (n+1)))))+1)) 4294967296)))]))]) else none else bif (F2 [(Hk (Int.tmod n 4294967296)),(Hk (Ab (Int.tdiv n 4294967296)))]) then some (.agg [.bool (A9 (wv false [(Hk (Int.tmod n 4294967296)),(Hk (Ab (Int.tdiv n 4294967296)))])),.ints .arg .u32 (Ai (wv false [(Hk (Int.tmod n 4294967296)),(Hk (Ab (Int.tdiv n 4294967296)))]))]) else none:=by kernel_rfl
abbrev _root_.Go.Proofs.S1.Ae.Of.Kn:=A6 prog 43 Ae.Of.spec
theorem Ae.Of.Ad (hk:Ay prog Ae.Of.Bh) (h:Hyp Ae.Of.E f43 Ae.Of.ts Ae.Of.pre Ae.Of.out):Ae.Of.Kn :=
 Am (A2 hk _ _ _) func43 (by kernel_rfl) (by kernel_rfl) h
def Ae.F5.hint:Nat→Option Bc
 | 0=>some { keep:=[0,1,5],objs:=[],boxes:=[] }
 | _=>none
def Ae.F5.Bh:List (Nat × Entry):=[(105,Ae.Gx.spec)]
def Ae.F5.E:Env:=Bi (Bg Ae.F5.Bh) (fun _=>false) Ae.F5.hint (fun _=>none)
section
variable (N M:Nat) (a b:List Int) (p5:Int)
def Ae.F5.L0:Option DV:=B3 Ae.F5.E N f124 (Aq f124) [1,0,1,0] [] M ⟨G8 29 [(0,.ints .arg .u32 a),(1,.ints .arg .u32 b),(5,.int .i64 p5)],[]⟩
theorem Ae.F5.Au:Ae.F5.L0 N (M+1) a b p5=bif (H2 0 p5) then bif (F2 a) then bif (F2 b) then bif (A3 (Ff a p5) (Ff b p5)) then some (.int .i64 (-1:Int)) else bif (F2 a) then bif (F2 b) then bif (A3 (Ff b p5) (Ff a p5)) then some (.int .i64 1) else Ae.F5.L0 N M a b (Ab (p5-1)) else none else none else none else none else some (.int .i64 0):=by kernel_rfl
theorem Ae.F5.ev:Bw Ae.F5.E N f124 (Aq f124) [.ints .arg .u32 a,.ints .arg .u32 b] =
 Ae.F5.L0 N N a b (max (length a:Int) (length b:Int)):=by kernel_rfl
end
abbrev _root_.Go.Proofs.S1.Ae.F5.Kn:=A6 prog 124 Ae.F5.spec
theorem Ae.F5.Ad (hk:Ay prog Ae.F5.Bh) (h:Hyp Ae.F5.E f124 Ae.F5.ts Ae.F5.pre Ae.F5.out):Ae.F5.Kn :=
 Am (A2 hk _ _ _) func124 (by kernel_rfl) (by kernel_rfl) h
def Ae.plus.hint:Nat→Option Bc
 | 0=>some { keep:=[0,1,5,6,7],objs:=[(0,5,100005,.ints 106 .u32 [])],boxes:=[] }
 | _=>none
def Ae.plus.Bh:List (Nat × Entry):=[(105,Ae.Gx.spec)]
def Ae.plus.E:Env:=Bi (Bg Ae.plus.Bh) (fun _=>false) Ae.plus.hint (fun _=>none)
section
variable (N M:Nat) (a b:List Int) (p6 p7:Int) (p5:List Int)
def Ae.plus.L0:Option DV:=B3 Ae.plus.E N f123 (Aq f123) [1,1,1,0,1,0] [] M ⟨G8 37 [(0,.ints .arg .u32 a),(1,.ints .arg .u32 b),(5,.oref 100005),(6,.int .u64 p6),(7,.int .i64 p7)],[(100005,false,.ints 106 .u32 p5)]⟩
theorem Ae.plus.Au:Ae.plus.L0 N (M+1) a b p6 p7 p5=bif (H2 p7 (max (length a:Int) (length b:Int))) then bif (F2 a) then bif (F2 b) then bif (decide ((length p5)+1≤Gy)) then Ae.plus.L0 N M a b (Bb (Int.tdiv (Bb ((Bb ((Ff a p7)+(Ff b p7)))+p6)) 4294967296)) (Ab (p7+1)) (p5++[(Hk (Int.tmod (Bb ((Bb ((Ff a p7)+(Ff b p7)))+p6)) 4294967296))]) else none else none else none else some (.ints (.own 100005 106) .u32 p5):=by kernel_rfl
theorem Ae.plus.ev:Bw Ae.plus.E N f123 (Aq f123) [.ints .arg .u32 a,.ints .arg .u32 b] =
 Ae.plus.L0 N N a b 0 0 []:=by kernel_rfl
end
abbrev _root_.Go.Proofs.S1.Ae.plus.Kn:=A6 prog 123 Ae.plus.spec
theorem Ae.plus.Ad (hk:Ay prog Ae.plus.Bh) (h:Hyp Ae.plus.E f123 Ae.plus.ts Ae.plus.pre Ae.plus.out):Ae.plus.Kn :=
 Am (A2 hk _ _ _) func123 (by kernel_rfl) (by kernel_rfl) h
def Ae.minus.hint:Nat→Option Bc
 | 0=>some { keep:=[0,1,5,6,7],objs:=[(0,5,100005,.ints 106 .u32 [])],boxes:=[] }
 | _=>none
def Ae.minus.Bh:List (Nat × Entry):=[(105,Ae.Gx.spec)]
def Ae.minus.E:Env:=Bi (Bg Ae.minus.Bh) (fun _=>false) Ae.minus.hint (fun _=>none)
section
variable (N M:Nat) (a b:List Int) (p6 p7:Int) (p5:List Int)
def Ae.minus.L0:Option DV:=B3 Ae.minus.E N f125 (Aq f125) [1,1,1,0,1,0] [] M ⟨G8 36 [(0,.ints .arg .u32 a),(1,.ints .arg .u32 b),(5,.oref 100005),(6,.int .u64 p6),(7,.int .i64 p7)],[(100005,false,.ints 106 .u32 p5)]⟩
theorem Ae.minus.Au:Ae.minus.L0 N (M+1) a b p6 p7 p5=bif (A3 p7 (length a:Int)) then bif (F2 a) then bif (F2 b) then bif (decide ((length p5)+1≤Gy)) then Ae.minus.L0 N M a b (Bb ((1:Int)-(Bb (Int.tdiv (Bb ((Bb ((Bb ((4294967296:Int)+(Ff a p7)))-(Ff b p7)))-p6)) 4294967296)))) (Ab (p7+1)) (p5++[(Hk (Int.tmod (Bb ((Bb ((Bb ((4294967296:Int)+(Ff a p7)))-(Ff b p7)))-p6)) 4294967296))]) else none else none else none else some (.ints (.own 100005 106) .u32 p5):=by kernel_rfl
theorem Ae.minus.ev:Bw Ae.minus.E N f125 (Aq f125) [.ints .arg .u32 a,.ints .arg .u32 b] =
 Ae.minus.L0 N N a b 0 0 []:=by kernel_rfl
end
abbrev _root_.Go.Proofs.S1.Ae.minus.Kn:=A6 prog 125 Ae.minus.spec
theorem Ae.minus.Ad (hk:Ay prog Ae.minus.Bh) (h:Hyp Ae.minus.E f125 Ae.minus.ts Ae.minus.pre Ae.minus.out):Ae.minus.Kn :=
 Am (A2 hk _ _ _) func125 (by kernel_rfl) (by kernel_rfl) h
def Ae.Add.Bh:List (Nat × Entry):=[(80,Ae.Made.spec),(124,Ae.F5.spec),(125,Ae.minus.spec),(123,Ae.plus.spec)]
def Ae.Add.E:Env:=Bi (Bg Ae.Add.Bh) (fun _=>false) (fun _=>none) (fun _=>none)
theorem Ae.Add.ev (N:Nat) (n:Bool) (a:List Int) (m:Bool) (b:List Int):Bw Ae.Add.E N f103 (Aq f103) [.agg [.bool n,.ints .arg .u32 a],.agg [.bool m,.ints .arg .u32 b]]=bif (n==m) then bif (F2 a&&F2 b) then bif (F2 (Hp a b)) then some (.agg [.bool (A9 (wv n (Hp a b))),.ints .arg .u32 (Ai (wv n (Hp a b)))]) else none else none else bif (F2 a&&F2 b) then bif (A3 (Sb (B2 a) (B2 b)) 0) then bif ((F2 b&&F2 a)&&leL a b) then bif (F2 (Fx b a)) then some (.agg [.bool (A9 (wv m (Fx b a))),.ints .arg .u32 (Ai (wv m (Fx b a)))]) else none else none else bif ((F2 a&&F2 b)&&leL b a) then bif (F2 (Fx a b)) then some (.agg [.bool (A9 (wv n (Fx a b))),.ints .arg .u32 (Ai (wv n (Fx a b)))]) else none else none else none :=
 Eq.trans (by kernel_rfl)
 (Eu (Df (Gc (F2 a&&F2 b)) (Df (Gc (F2 (Hp a b))) rfl rfl) rfl) (Eu (Eu (Df (Gc ((F2 b&&F2 a)&&leL a b)) (Df (Gc (F2 (Fx b a))) rfl rfl) rfl) (Df (Gc ((F2 a&&F2 b)&&leL b a)) (Df (Gc (F2 (Fx a b))) rfl rfl) rfl)) rfl))
abbrev _root_.Go.Proofs.S1.Ae.Add.Kn:=A6 prog 103 Ae.Add.spec
theorem Ae.Add.Ad (hk:Ay prog Ae.Add.Bh) (h:Hyp Ae.Add.E f103 Ae.Add.ts Ae.Add.pre Ae.Add.out):Ae.Add.Kn :=
 Am (A2 hk _ _ _) func103 (by kernel_rfl) (by kernel_rfl) h
def Ae.Neg.Bh:List (Nat × Entry):=[(80,Ae.Made.spec)]
def Ae.Neg.E:Env:=Bi (Bg Ae.Neg.Bh) (fun _=>false) (fun _=>none) (fun _=>none)
theorem Ae.Neg.ev (N:Nat) (n:Bool) (a:List Int):Bw Ae.Neg.E N f44 (Aq f44) [.agg [.bool n,.ints .arg .u32 a]]=bif (F2 a) then some (.agg [.bool (A9 (wv (!n) a)),.ints .arg .u32 (Ai (wv (!n) a))]) else none:=by kernel_rfl
abbrev _root_.Go.Proofs.S1.Ae.Neg.Kn:=A6 prog 44 Ae.Neg.spec
theorem Ae.Neg.Ad (hk:Ay prog Ae.Neg.Bh) (h:Hyp Ae.Neg.E f44 Ae.Neg.ts Ae.Neg.pre Ae.Neg.out):Ae.Neg.Kn :=
 Am (A2 hk _ _ _) func44 (by kernel_rfl) (by kernel_rfl) h
end EqRefA
open EqRefA
theorem Ae.Gx.known:Ae.Gx.Kn:=Ae.Gx.Ad .nil fun l i hp=>by
 obtain ⟨hl,hi⟩:=Io hp
 refine ⟨0,Ae.Gx.out [.l l,.i i],[],?_,.int⟩
 rw [Ae.Gx.ev,Ee,Av]
 show _=some (DV.int .u64 (Ff l i))
 by_cases h0:0≤i
 ·obtain ⟨k,rfl⟩:∃ k:Nat,i=k:=⟨i.toNat,by omega⟩
  have hv:=F0 hi k
  have hg:=Ot hi k
  rw [hv,Art,hg,Ars h0,As5]
  by_cases h1:(k:Int)<(l.length:Int)
  ·rw [Ars h1,Arr,Arr,Cu (by omega) (by omega)]
  ·have h2:l.getD k 0=0:=by
    rw [Ar1,Ata (by omega)]; rfl
   rw [h2] at hg
   rw [Arw h1,Arv,← hg]
 ·have:Ff l i=0:=by unfold Ff; rw [Asd h0]
  rw [Arw h0,Bool.false_and,Arv,this]
theorem Y1 {drops:List Nat} {b:Bool} {l:List Int}:Wk drops (.agg [.bool b,.ints .arg .u32 l]) (.agg [.bool b,.ints .arg .u32 l]):=Wk.I5 (.cons .bool (.cons .Afz .nil))
theorem Ae0:A9 0=false:=rfl
theorem Z8:Ai 0=[]:=rfl
theorem Afa (N:Nat) (n:Bool) {l:List Int} (hl:l.length<1073741824) (hi:U5 l):∀ (p F:Nat),p≤l.length→p<F→B2 l<2^(32*p) →
 ∃ dv,Ae.Made.L0 N F n l (p:Int)=some dv∧Wk [] dv (.agg [.bool (A9 (wv n l)),.ints .arg .u32 (Ai (wv n l))]):=by
 have hlast:∀ p,p≤l.length→Cy (B2 l)=p→p≠0→some (DV.agg [.bool n,.ints .arg .u32 (l.take p)])=some (DV.agg [.bool (A9 (wv n l)),.ints .arg .u32 (Ai (wv n l))]):=by
  intro p hp hq h0
  have h1:=Ab9 hi
  rw [hq] at h1
  have h2:B2 l≠0:=fun h=>by rw [h] at hq; exact h0 hq.symm
  have e:(wv n l).natAbs=B2 l:=by unfold wv Gz; split<;>omega
  have e1:Ai (wv n l)=Nh (B2 l):=by unfold Ai; rw [e]
  have e2:A9 (wv n l)=n:=by unfold A9 wv Gz; cases n<;>simp<;>omega
  rw [h1,e1,e2]
 intro p
 induction p with
 | zero =>
   intro F hp hF hv
   obtain ⟨F,rfl⟩:∃ G,F=G+1:=⟨F-1,by omega⟩
   have hz:wv n l=0:=by
    have:B2 l=0:=by rw [Nat.mul_zero,Asq] at hv; omega
    unfold wv Gz; rw [this]; cases n<;>rfl
   refine ⟨.agg [.bool false,.nil],?_,?_⟩
   ·rw [Ae.Made.Au,Av]; rfl
   ·rw [hz,Ae0,Z8]
    exact Wk.I5 (.cons .bool (.cons (.nil _ _) .nil))
 | succ p ih =>
   intro F hp hF hv
   obtain ⟨F,rfl⟩:∃ G,F=G+1:=⟨F-1,by omega⟩
   rw [Ae.Made.Au,Av,Ao (by omega) (by omega)]
   have e0:((p+1:Nat):Int)-1=(p:Int):=by omega
   have t0:decide ((0:Int)<((p+1:Nat):Int))=true:=Ars (by omega)
   have t1:decide ((0:Int)≤(p:Int))=true:=by simp
   have t2:decide ((p:Int)<(l.length:Int))=true:=by simp; omega
   have hg:=Ot hi p
   have hq:B2 l / 2^(32*p)<4294967296:=by
    rw [Nat.div_lt_iff_lt_mul (By _),← Lf]; exact hv
   rw [Ar4 hq] at hg
   rw [e0,t0,t1,t2,Art,hg]
   simp only [Asr,Arx,Bool.false_or,Arr,As5]
   by_cases hz:B2 l / 2^(32*p)=0
   ·have:(((B2 l / 2^(32*p):Nat):Int)==0)=true:=by rw [hz]; rfl
    rw [this,Arr]
    refine ih F (by omega) (by omega) ?_
    rcases Asp (B2 l) (2^(32*p)) with h | h
    ·exact h
    ·have:=Nat.div_pos h (By _); omega
   ·have:(((B2 l / 2^(32*p):Nat):Int)==0)=false:=by simp only [Asn,ne_eq]; omega
    have t3:(((p+1:Nat):Int)==0)=false:=by simp only [Asn,ne_eq]; omega
    have t4:decide (((p+1:Nat):Int)≤(l.length:Int))=true:=by simp; omega
    have t5:decide ((0:Int)≤((p+1:Nat):Int))=true:=Ars (by omega)
    rw [this,Arv,t3,Arv,t4,t5,Arx,Arr,Art]
    have hlen:Cy (B2 l)=p+1:=by
     have a1:=Kt hv
     have a2:=Akr (n:=B2 l) (k:=p) (by
      rcases Asp (B2 l) (2^(32*p)) with h | h
      ·exact absurd (Nat.div_eq_of_lt h) hz
      ·exact h)
     omega
    exact ⟨_,hlast (p+1) hp hlen (by omega),Y1⟩
theorem Ae.Made.known:Ae.Made.Kn:=Ae.Made.Ad .nil fun n l hp=>by
 obtain ⟨hl,hi⟩:=Io hp
 obtain ⟨dv,h1,h2⟩:=Afa (l.length+1) n hl hi l.length (l.length+1) (Asm _) (by omega) (Km hi)
 exact ⟨l.length+1,dv,[],by rw [Ae.Made.ev]; exact h1,h2⟩
theorem V5 {a b:Int} (ha:0≤a∧a<4294967296) (hb:0≤b∧b<4294967296):F2 [a,b]=true :=
 K2 (show 2<1073741824 by decide) fun x hx=>by
  rcases List.mem_cons.1 hx with rfl | hx
  ·exact ha
  ·rcases List.mem_cons.1 hx with rfl | hx
   ·exact hb
   ·cases hx
theorem Ado:(4294967296:Int)=((4294967296:Nat):Int):=rfl
theorem Ae.Of.known:Ae.Of.Kn:=Ae.Of.Ad (.cons Ae.Made.known .nil) fun n hp=>by
 have hp:=Al.1 hp
 refine ⟨0,Ae.Of.out [.i n],[],?_,Y1⟩
 rw [Ae.Of.ev,Av]
 show _=some (DV.agg [.bool (A9 n),.ints .arg .u32 (Ai n)])
 by_cases h:n<0
 ·obtain ⟨k,rfl⟩:∃ k:Nat,n=-(k:Int):=⟨(-n).toNat,by omega⟩
  have e1:Bb (Bb (Ab (0-Ab (-(k:Int)+1)))+1)=(k:Int):=by
   rw [Ao (x:=-(k:Int)+1) (by omega) (by omega),Ao (by omega) (by omega),Cu (x:=0-(-(k:Int)+1)) (by omega) (by omega),Cu (by omega) (by omega)]; omega
  rw [Ars h,Arr,e1,Ado,Hl,Hm,Ip (by omega) (by omega),Cu (by omega) (by omega),Ip (by omega) (by omega),
   V5 (by omega) (by omega),Arr]
  have e2:wv true [((k%4294967296:Nat):Int),((k / 4294967296:Nat):Int)]=-(k:Int):=by
   unfold wv Gz B2 B2 B2
   rw [Ase rfl,Art,Art]
   omega
  rw [e2]
 ·obtain ⟨k,rfl⟩:∃ k:Nat,n=(k:Int):=⟨n.toNat,by omega⟩
  rw [Arw h,Arv,Ado,Hl,Hm,Ip (by omega) (by omega),Ao (by omega) (by omega),Ip (by omega) (by omega),
   V5 (by omega) (by omega),Arr]
  have e2:wv false [((k%4294967296:Nat):Int),((k / 4294967296:Nat):Int)]=(k:Int):=by
   unfold wv Gz B2 B2 B2
   rw [Asd (by decide),Art,Art]
   omega
  rw [e2]
theorem Ae.Neg.known:Ae.Neg.Kn:=Ae.Neg.Ad (.cons Ae.Made.known .nil) fun n a hp=>by
 obtain ⟨v,rfl,rfl,hv⟩:=G7 hp
 refine ⟨0,Ae.Neg.out [.b (A9 v),.l (Ai v)],[],?_,Y1⟩
 rw [Ae.Neg.ev,Lm (by omega),Arr,Amd]
 rfl
open EqRefA
theorem Ae7 (N:Nat) {a b:List Int} (ha:F2 a=true) (hb:F2 b=true):∀ (j F:Nat),j<4000000000→j<F→B2 a / 2^(32*j)=B2 b / 2^(32*j) →
 Ae.F5.L0 N F a b ((j:Int)-1)=some (.int .i64 (Sb (B2 a) (B2 b))):=by
 have ia:=(Io ha).2
 have ib:=(Io hb).2
 intro j
 induction j with
 | zero =>
   intro F hj hF h
   obtain ⟨F,rfl⟩:∃ G,F=G+1:=⟨F-1,by omega⟩
   rw [Nat.mul_zero,Asq,Nat.div_one,Nat.div_one] at h
   have e:Sb (B2 a) (B2 b)=0:=by unfold Sb; rw [Asd (by omega),Asd (by omega)]
   rw [Ae.F5.Au,Ee,e]
   rfl
 | succ j ih =>
   intro F hj hF h
   obtain ⟨F,rfl⟩:∃ G,F=G+1:=⟨F-1,by omega⟩
   have e0:((j+1:Nat):Int)-1=(j:Int):=by omega
   have t0:decide ((0:Int)≤(j:Int))=true:=Ars (by omega)
   rw [Lf,Asf,← Asl,← Asl] at h
   have up:B2 a / 2^(32*j)<B2 b / 2^(32*j)→B2 a<B2 b:=fun k=>by
    rcases Asp (B2 a) (B2 b) with h1 | h1
    ·exact h1
    ·have:=Nat.div_le_div_right (c:=2^(32*j)) h1; omega
   have down:B2 b / 2^(32*j)<B2 a / 2^(32*j)→B2 b<B2 a:=fun k=>by
    rcases Asp (B2 b) (B2 a) with h1 | h1
    ·exact h1
    ·have:=Nat.div_le_div_right (c:=2^(32*j)) h1; omega
   rw [Ae.F5.Au,e0,Ee,t0,Arr,ha,hb,Arr,Arr,Av,Av,F0 ia,F0 ib,Ao (by omega) (by omega)]
   have ih:=ih F (by omega) (by omega)
   generalize B2 a / 2^(32*j)=x at *
   generalize B2 b / 2^(32*j)=y at *
   by_cases h1:x%4294967296<y%4294967296
   ·have e:Sb (B2 a) (B2 b)=-1:=by unfold Sb; rw [Ase (up (by omega))]
    rw [Ars (by omega),Arr,e]
   ·rw [Arw (by omega),Arv]
    by_cases h2:y%4294967296<x%4294967296
    ·have:=down (by omega)
     have e:Sb (B2 a) (B2 b)=1:=by unfold Sb; rw [Asd (by omega),Ase this]
     rw [Ars (by omega),Arr,e]
     rfl
    ·rw [Arw (by omega),Arv]
     exact ih (by omega)
theorem Adv {l:List Int} (h:U5 l) {j:Nat} (hj:l.length≤j):B2 l / 2^(32*j)=0 :=
 Nat.div_eq_of_lt (As3 (Km h) (Ar6 (by decide) (by omega)))
theorem Ae.F5.known:Ae.F5.Kn:=Ae.F5.Ad (.cons Ae.Gx.known .nil) fun a b hp=>by
 obtain ⟨ha,hb⟩:=Af.1 hp
 obtain ⟨la,ia⟩:=Io ha
 obtain ⟨lb,ib⟩:=Io hb
 refine ⟨max a.length b.length+2,Ae.F5.out [.l a,.l b],[],?_,.int⟩
 rw [Ae.F5.ev]
 have e:max (a.length:Int) (b.length:Int)=((max a.length b.length+1:Nat):Int)-1:=by omega
 rw [e]
 exact Ae7 _ ha hb _ _ (by omega) (by omega) (by rw [Adv ia (by omega),Adv ib (by omega)])
theorem Aer (N:Nat) {a b:List Int} (ha:F2 a=true) (hb:F2 b=true):∀ (k i c F:Nat),i+k=max a.length b.length+1→k<F→c≤1 →
 B2 a / 2^(32*i)+B2 b / 2^(32*i)+c=(B2 a+B2 b) / 2^(32*i) →
 Ae.plus.L0 N F a b (c:Int) (i:Int) (digits i (B2 a+B2 b))=some (.ints (.own 100005 tW) .u32 (Hp a b)):=by
 obtain ⟨la,ia⟩:=Io ha
 obtain ⟨lb,ib⟩:=Io hb
 intro k
 induction k with
 | zero =>
   intro i c F hi hF hc h
   obtain ⟨F,rfl⟩:∃ G,F=G+1:=⟨F-1,by omega⟩
   have t0:decide ((i:Int)≤max (a.length:Int) (b.length:Int))=false:=Arw (by omega)
   rw [Ae.plus.Au,Ee,t0,Arv]
   unfold Hp
   rw [show i=max a.length b.length+1 by omega]
 | succ k ih =>
   intro i c F hi hF hc h
   obtain ⟨F,rfl⟩:∃ G,F=G+1:=⟨F-1,by omega⟩
   have t0:decide ((i:Int)≤max (a.length:Int) (b.length:Int))=true:=Ars (by omega)
   have t1:decide ((digits i (B2 a+B2 b)).length+1≤Gy)=true:=Ars (by rw [D7]; unfold Gy; omega)
   rw [Ae.plus.Au,Ee,t0,ha,hb,t1]
   simp only [Arr]
   rw [F0 ia,F0 ib]
   have ih:=ih (i+1)
   rw [Lf,Asf 4294967296,← Asl,← Asl,← Asl,Kv] at ih
   generalize B2 a / 2^(32*i)=x at *
   generalize B2 b / 2^(32*i)=y at *
   generalize (B2 a+B2 b) / 2^(32*i)=z at *
   have e1:Bb (Bb (((x%4294967296:Nat):Int)+((y%4294967296:Nat):Int))+(c:Int))=((x%4294967296+y%4294967296+c:Nat):Int):=by
    rw [Cu (x:=((x%4294967296:Nat):Int)+((y%4294967296:Nat):Int)) (by omega) (by omega),Cu (by omega) (by omega)]; omega
   rw [e1,Ado,Hl,Hm,Ip (by omega) (by omega),Cu (by omega) (by omega),Ao (by omega) (by omega)]
   have e2:(x%4294967296+y%4294967296+c)%4294967296=z%4294967296:=by omega
   rw [e2]
   exact ih ((x%4294967296+y%4294967296+c) / 4294967296) F (by omega) (by omega) (by omega) (by omega)
theorem Adf {i:Nat} {e:TypeId} {k:IntKind} {l:List Int}:Wk [i] (.ints (.own i e) k l) (.ints .arg k l):=.dropA i e k l (List.mem_singleton.2 rfl)
theorem Ae.plus.known:Ae.plus.Kn:=Ae.plus.Ad (.cons Ae.Gx.known .nil) fun a b hp=>by
 obtain ⟨ha,hb⟩:=Af.1 hp
 refine ⟨max a.length b.length+2,.ints (.own 100005 tW) .u32 (Hp a b),[100005],?_,Adf⟩
 rw [Ae.plus.ev]
 exact Aer _ ha hb (max a.length b.length+1) 0 0 _ (by omega) (by omega) (by omega) (by simp)
theorem Ab3 (N:Nat) {a b:List Int} (ha:F2 a=true) (hb:F2 b=true):∀ (k i w F:Nat),i+k=a.length→k<F→w≤1 →
 B2 a / 2^(32*i)=B2 b / 2^(32*i)+(B2 a-B2 b) / 2^(32*i)+w →
 Ae.minus.L0 N F a b (w:Int) (i:Int) (digits i (B2 a-B2 b))=some (.ints (.own 100005 tW) .u32 (Fx a b)):=by
 obtain ⟨la,ia⟩:=Io ha
 obtain ⟨lb,ib⟩:=Io hb
 intro k
 induction k with
 | zero =>
   intro i c F hi hF hc h
   obtain ⟨F,rfl⟩:∃ G,F=G+1:=⟨F-1,by omega⟩
   have t0:decide ((i:Int)<(a.length:Int))=false:=Arw (by omega)
   rw [Ae.minus.Au,Av,t0,Arv]
   unfold Fx
   rw [show i=a.length by omega]
 | succ k ih =>
   intro i w F hi hF hc h
   obtain ⟨F,rfl⟩:∃ G,F=G+1:=⟨F-1,by omega⟩
   have t0:decide ((i:Int)<(a.length:Int))=true:=Ars (by omega)
   have t1:decide ((digits i (B2 a-B2 b)).length+1≤Gy)=true:=Ars (by rw [D7]; unfold Gy; omega)
   rw [Ae.minus.Au,Av,t0,ha,hb,t1]
   simp only [Arr]
   rw [F0 ia,F0 ib]
   have ih:=ih (i+1)
   rw [Lf,Asf 4294967296,← Asl,← Asl,← Asl,Kv] at ih
   generalize B2 a / 2^(32*i)=x at *
   generalize B2 b / 2^(32*i)=y at *
   generalize (B2 a-B2 b) / 2^(32*i)=z at *
   have e1:Bb (Bb (Bb ((4294967296:Int)+((x%4294967296:Nat):Int))-((y%4294967296:Nat):Int))-(w:Int))=((4294967296+x%4294967296-y%4294967296-w:Nat):Int):=by
    rw [Cu (x:=(4294967296:Int)+((x%4294967296:Nat):Int)) (by omega) (by omega),Cu (x:=(4294967296:Int)+((x%4294967296:Nat):Int)-((y%4294967296:Nat):Int)) (by omega) (by omega),Cu (by omega) (by omega)]; omega
   have e2:(4294967296+x%4294967296-y%4294967296-w)%4294967296=z%4294967296:=by omega
   have e3:Bb ((1:Int)-(((4294967296+x%4294967296-y%4294967296-w) / 4294967296:Nat):Int))=((1-(4294967296+x%4294967296-y%4294967296-w) / 4294967296:Nat):Int):=by
    rw [Cu (by omega) (by omega)]; omega
   rw [e1,Ado,Hl,Hm,Ip (by omega) (by omega),Cu (x:=(((4294967296+x%4294967296-y%4294967296-w) / 4294967296:Nat):Int)) (by omega) (by omega),Ao (by omega) (by omega),e2,e3]
   exact ih (1-(4294967296+x%4294967296-y%4294967296-w) / 4294967296) F (by omega) (by omega) (by omega) (by omega)
theorem Ae.minus.known:Ae.minus.Kn:=Ae.minus.Ad (.cons Ae.Gx.known .nil) fun a b hp=>by
 obtain ⟨h1,hle⟩:=Af.1 hp
 obtain ⟨ha,hb⟩:=Af.1 h1
 have hle:=Al.1 hle
 refine ⟨a.length+1,.ints (.own 100005 tW) .u32 (Fx a b),[100005],?_,Adf⟩
 rw [Ae.minus.ev]
 exact Ab3 _ ha hb a.length 0 0 _ (by omega) (by omega) (by omega) (by simp; omega)
theorem Fe (v:Int):U5 (Ai v):=Z7 _
theorem Af8 {v w:Int} (h:A9 v=A9 w):wv (A9 v) (Hp (Ai v) (Ai w))=v+w:=by
 unfold wv
 rw [Aes (Fe _) (Fe _),C5,C5]
 unfold A9 at h ⊢
 unfold Gz
 rw [decide_eq_decide] at h
 by_cases hv:v<0
 ·have hw:=h.1 hv
  rw [Ars hv,Ase rfl]; omega
 ·have hw:¬ w<0:=fun k=>hv (h.2 k)
  rw [Arw hv,Asd (by decide)]; omega
theorem Acz {v w:Int} (h:A9 v≠A9 w) (hl:w.natAbs≤v.natAbs):wv (A9 v) (Fx (Ai v) (Ai w))=v+w:=by
 unfold wv
 rw [Ab4 _ (Fe _),C5,C5]
 unfold A9 at h ⊢
 unfold Gz
 rw [ne_eq,decide_eq_decide] at h
 by_cases hv:v<0
 ·have hw:¬ w<0:=fun k=>h ⟨fun _=>k,fun _=>hv⟩
  rw [Ars hv,Ase rfl]; omega
 ·have hw:w<0:=by
   rcases Int.lt_or_le w 0 with k | k
   ·exact k
   ·exact absurd ⟨fun k'=>absurd k' hv,fun k'=>by omega⟩ h
  rw [Arw hv,Asd (by decide)]; omega
theorem Ae.Add.known:Ae.Add.Kn:=Ae.Add.Ad (.cons Ae.Made.known (.cons Ae.F5.known (.cons Ae.minus.known (.cons Ae.plus.known .nil)))) fun n a m b hp=>by
 obtain ⟨h1,h2⟩:=Af.1 hp
 obtain ⟨v,rfl,rfl,hv⟩:=G7 h1
 obtain ⟨w,rfl,rfl,hw⟩:=G7 h2
 refine ⟨0,Ae.Add.out [.b (A9 v),.l (Ai v),.b (A9 w),.l (Ai w)],[],?_,Y1⟩
 have o1:F2 (Ai v)=true:=Lm (by omega)
 have o2:F2 (Ai w)=true:=Lm (by omega)
 rw [Ae.Add.ev,o1,o2,Arx,Arr]
 show _=some (DV.agg [.bool (A9 (wv (A9 v) (Ai v)+wv (A9 w) (Ai w))),.ints .arg .u32 (Ai (wv (A9 v) (Ai v)+wv (A9 w) (Ai w)))])
 rw [F6,F6]
 by_cases hs:A9 v=A9 w
 ·have:(A9 v==A9 w)=true:=by simp [hs]
  have o3:F2 (Hp (Ai v) (Ai w))=true:=K2 (by rw [Qm,B8,B8]; omega) (Zr _ _)
  rw [this,Arr,o3,Arr,Af8 hs]
 ·have:(A9 v==A9 w)=false:=by simp [hs]
  rw [this,Arv,Arr,Av,C5,C5,As5,As5]
  by_cases hl:v.natAbs<w.natAbs
  ·have e:decide (Sb v.natAbs w.natAbs<0)=true:=Ars (by unfold Sb; rw [Ase hl]; decide)
   have o3:F2 (Fx (Ai w) (Ai v))=true:=K2 (by rw [O7,B8]; omega) (Wt _ _)
   have o4:leL (Ai v) (Ai w)=true:=Al.2 (by rw [C5,C5]; omega)
   rw [e,Arr,o4,Arr,o3,Arr,Acz (fun k=>hs k.symm) (by omega),Int.add_comm]
  ·have e:decide (Sb v.natAbs w.natAbs<0)=false:=Arw (by unfold Sb; rw [Asd hl]; split<;>decide)
   have o3:F2 (Fx (Ai v) (Ai w))=true:=K2 (by rw [O7,B8]; omega) (Wt _ _)
   have o4:leL (Ai w) (Ai v)=true:=Al.2 (by rw [C5,C5]; omega)
   rw [e,Arv,o4,Arr,o3,Arr,Acz hs (by omega)]
namespace EqRefB
def Ae.D6.Bh:List (Nat × Entry):=[(80,Ae.Made.spec),(123,Ae.plus.spec)]
def Ae.D6.E:Env:=Bi (Bg Ae.D6.Bh) (fun _=>false) (fun _=>none) (fun _=>none)
theorem Ae.D6.ev (N:Nat) (n:Bool) (a:List Int):Bw Ae.D6.E N f138 (Aq f138) [.agg [.bool n,.ints .arg .u32 a]]=bif (F2 a&&F2 a) then bif (F2 (Hp a a)) then some (.agg [.bool (A9 (wv n (Hp a a))),.ints .arg .u32 (Ai (wv n (Hp a a)))]) else none else none :=
 Eq.trans (by kernel_rfl)
 (Df (Gc (F2 a&&F2 a)) (Df (Gc (F2 (Hp a a))) rfl rfl) rfl)
abbrev _root_.Go.Proofs.S1.Ae.D6.Kn:=A6 prog 138 Ae.D6.spec
theorem Ae.D6.Ad (hk:Ay prog Ae.D6.Bh) (h:Hyp Ae.D6.E f138 Ae.D6.ts Ae.D6.pre Ae.D6.out):Ae.D6.Kn :=
 Am (A2 hk _ _ _) func138 (by kernel_rfl) (by kernel_rfl) h
def Ae.Fq.hint:Nat→Option Bc
 | 0=>some { keep:=[1,2,3,4],objs:=[(0,3,100003,.ints 106 .u32 [])],boxes:=[1,2] }
 | _=>none
def Ae.Fq.Bh:List (Nat × Entry):=[(80,Ae.Made.spec),(105,Ae.Gx.spec)]
def Ae.Fq.E:Env:=Bi (Bg Ae.Fq.Bh) (fun _=>false) Ae.Fq.hint (fun _=>none)
section
variable (N M:Nat) (n:Bool) (a:List Int) (p4:Int) (p3:List Int)
def Ae.Fq.L0:Option DV:=B3 Ae.Fq.E N f82 (Aq f82) [1,1,0,1,0] [] M ⟨G8 37 [(1,.ptr 1 0 0),(2,.ptr 2 0 0),(3,.oref 100003),(4,.int .i64 p4)],[(1,false,.box [.bool n,.ints .arg .u32 a]),(2,false,.box [.bool false,.nil]),(100003,false,.ints 106 .u32 p3)]⟩
theorem Ae.Fq.Au:Ae.Fq.L0 N (M+1) n a p4 p3=bif (A3 p4 (length a:Int)) then bif (F2 a) then bif (F2 a) then bif ((decide (0≤p4))&&(decide (p4<(length p3:Int)))) then bif (decide ((toNat p4)<(length p3))) then Ae.Fq.L0 N M n a (Ab (p4+1)) (List.set p3 (toNat p4) (Hk (Bb (Int.tdiv (Bb ((Bb ((Int.tmod (Ff a (Ab (p4+1))) 2)*4294967296))+(Ff a p4))) 2)))) else none else none else none else none else bif (F2 p3) then some (.agg [.bool (A9 (wv n p3)),.ints .arg .u32 (Ai (wv n p3))]) else none :=
 Eq.trans (by kernel_rfl)
 (Eu (Df (Gc (F2 a)) (Df (Gc (F2 a)) (Df (tt4 (decide (0≤p4)) (decide (p4<(length p3:Int)))) (Df (Gc (decide ((toNat p4)<(length p3)))) rfl rfl) rfl) rfl) rfl) rfl)
theorem Ae.Fq.ev:Bw Ae.Fq.E N f82 (Aq f82) [.agg [.bool n,.ints .arg .u32 a]]=bif (((decide ((0:Int)≤(length a:Int)))&&(decide ((length a:Int)≤(length a:Int))))&&(decide ((length a:Int)≤Gy))) then Ae.Fq.L0 N N n a 0 (List.replicate (toNat (length a:Int)) 0) else none:=by kernel_rfl
end
abbrev _root_.Go.Proofs.S1.Ae.Fq.Kn:=A6 prog 82 Ae.Fq.spec
theorem Ae.Fq.Ad (hk:Ay prog Ae.Fq.Bh) (h:Hyp Ae.Fq.E f82 Ae.Fq.ts Ae.Fq.pre Ae.Fq.out):Ae.Fq.Kn :=
 Am (A2 hk _ _ _) func82 (by kernel_rfl) (by kernel_rfl) h
def Ae.Bf.hint:Nat→Option Bc
 | 0=>some { keep:=[1,2,4],objs:=[],boxes:=[2,4] }
 | 2=>some { keep:=[1,2,4],objs:=[],boxes:=[2,4] }
 | 4=>some { keep:=[1,2,4],objs:=[],boxes:=[2,4] }
 | 6=>some { keep:=[1,2,4],objs:=[],boxes:=[2,4] }
 | _=>none
def Ae.Bf.Bh:List (Nat × Entry):=[(138,Ae.D6.spec),(82,Ae.Fq.spec),(80,Ae.Made.spec)]
def Ae.Bf.E:Env:=Bi (Bg Ae.Bf.Bh) (fun _=>false) Ae.Bf.hint (fun _=>none)
section
variable (N:Nat) (n:Bool) (a:List Int) (k:Int) (M:Nat) (p1_3:Int) (p2_6:Bool) (p2_7:List Int) (p1_2:Int) (p2_4:Bool) (p2_5:List Int) (p1_1:Int) (p2_2:Bool) (p2_3:List Int) (p1:Int) (p2:Bool) (p2_1:List Int)
def Ae.Bf.L0:Option DV:=B3 Ae.Bf.E N f126 (Aq f126) [1,0,0] [] M ⟨G8 63 [(1,.int .i64 p1),(2,.ptr 2 0 0),(4,.ptr 4 0 0)],[(2,false,.box [.bool p2,.ints .arg .u32 p2_1]),(4,false,.box [.bool false,.nil])]⟩
def Ae.Bf.L1:Option DV:=B3 Ae.Bf.E N f126 (Aq f126) [1,1,0,0] [] M ⟨G8 63 [(1,.int .i64 p1_1),(2,.ptr 2 0 0),(4,.ptr 4 0 0)],[(2,false,.box [.bool p2_2,.ints .arg .u32 p2_3]),(4,false,.box [.bool false,.nil])]⟩
def Ae.Bf.L2:Option DV:=B3 Ae.Bf.E N f126 (Aq f126) [1,1,1,0,0] [] M ⟨G8 63 [(1,.int .i64 p1_2),(2,.ptr 2 0 0),(4,.ptr 4 0 0)],[(2,false,.box [.bool p2_4,.ints .arg .u32 p2_5]),(4,false,.box [.bool false,.nil])]⟩
def Ae.Bf.L3:Option DV:=B3 Ae.Bf.E N f126 (Aq f126) [1,1,1,1,0,0] [] M ⟨G8 63 [(1,.int .i64 p1_3),(2,.ptr 2 0 0),(4,.ptr 4 0 0)],[(2,false,.box [.bool p2_6,.ints .arg .u32 p2_7]),(4,false,.box [.bool false,.nil])]⟩
theorem Ae.Bf.Au:Ae.Bf.L0 N (M+1) p1 p2 p2_1=bif ((H2 32 p1)&&(A3 0 (length p2_1:Int))) then bif (decide (1+(length p2_1)≤Gy)) then bif (F2 ([(0:Int)]++p2_1)) then Ae.Bf.L0 N M (Ab (p1-32)) (A9 (wv p2 ([(0:Int)]++p2_1))) (Ai (wv p2 ([(0:Int)]++p2_1))) else none else none else Ae.Bf.L1 N N p1 p2 p2_1 :=
 Eq.trans (by kernel_rfl)
 (Aw (H0 (H2 32 p1)) (Aw (Fm (H2 32 p1)) (Aw (Fm (H2 32 p1)) (Aw (Fm (H2 32 p1)) (Aw (J3 (H2 32 p1)) (Df (Tt (H2 32 p1) (A3 0 (length p2_1:Int))) (Df (Gc (decide (1+(length p2_1)≤Gy))) (Df (Gc (F2 ([(0:Int)]++p2_1))) rfl rfl) rfl) rfl))))))
theorem Ae.Bf.C3:Ae.Bf.L1 N (M+1) p1_1 p2_2 p2_3=bif ((A3 0 p1_1)&&(A3 0 (length p2_3:Int))) then bif (He p2_2 p2_3) then Ae.Bf.L1 N M (Ab (p1_1-1)) (A9 (2*wv p2_2 p2_3)) (Ai (2*wv p2_2 p2_3)) else none else Ae.Bf.L2 N N p1_1 p2_2 p2_3 :=
 Eq.trans (by kernel_rfl)
 (Aw (H0 (A3 0 p1_1)) (Aw (Fm (A3 0 p1_1)) (Aw (Fm (A3 0 p1_1)) (Aw (Fm (A3 0 p1_1)) (Aw (J3 (A3 0 p1_1)) (Df (Tt (A3 0 p1_1) (A3 0 (length p2_3:Int))) rfl rfl))))))
theorem Ae.Bf.Ml:Ae.Bf.L2 N (M+1) p1_2 p2_4 p2_5=bif ((H2 p1_2 (-32:Int))&&(A3 0 (length p2_5:Int))) then bif (decide ((1:Int)≤(length p2_5:Int))) then bif (F2 (List.drop 1 p2_5)) then Ae.Bf.L2 N M (Ab (p1_2+32)) (A9 (wv p2_4 (List.drop 1 p2_5))) (Ai (wv p2_4 (List.drop 1 p2_5))) else none else none else Ae.Bf.L3 N N p1_2 p2_4 p2_5 :=
 Eq.trans (by kernel_rfl)
 (Aw (H0 (H2 p1_2 (-32:Int))) (Aw (Fm (H2 p1_2 (-32:Int))) (Aw (Fm (H2 p1_2 (-32:Int))) (Aw (Fm (H2 p1_2 (-32:Int))) (Aw (J3 (H2 p1_2 (-32:Int))) (Df (Tt (H2 p1_2 (-32:Int)) (A3 0 (length p2_5:Int))) (Df (Aoe (decide ((1:Int)≤(length p2_5:Int)))) (Df (Gc (F2 (List.drop 1 p2_5))) rfl rfl) rfl) rfl))))))
theorem Ae.Bf.Yw:Ae.Bf.L3 N (M+1) p1_3 p2_6 p2_7=bif ((A3 p1_3 0)&&(A3 0 (length p2_7:Int))) then bif (He p2_6 p2_7) then Ae.Bf.L3 N M (Ab (p1_3+1)) (A9 (Ik (wv p2_6 p2_7) 1)) (Ai (Ik (wv p2_6 p2_7) 1)) else none else some (.agg [.bool p2_6,.ints .arg .u32 p2_7]) :=
 Eq.trans (by kernel_rfl)
 (Aw (H0 (A3 p1_3 0)) (Aw (Fm (A3 p1_3 0)) (Aw (Fm (A3 p1_3 0)) (Aw (Fm (A3 p1_3 0)) (Aw (J3 (A3 p1_3 0)) (Df (Tt (A3 p1_3 0) (A3 0 (length p2_7:Int))) rfl rfl))))))
theorem Ae.Bf.ev:Bw Ae.Bf.E N f126 (Aq f126) [.agg [.bool n,.ints .arg .u32 a],.int .i64 k] =
 Ae.Bf.L0 N N k n a:=by kernel_rfl
end
abbrev _root_.Go.Proofs.S1.Ae.Bf.Kn:=A6 prog 126 Ae.Bf.spec
theorem Ae.Bf.Ad (hk:Ay prog Ae.Bf.Bh) (h:Hyp Ae.Bf.E f126 Ae.Bf.ts Ae.Bf.pre Ae.Bf.out):Ae.Bf.Kn :=
 Am (A2 hk _ _ _) func126 (by kernel_rfl) (by kernel_rfl) h
def Ae.Ms.hint:Nat→Option Bc
 | 0=>some { keep:=[3,4],objs:=[],boxes:=[] }
 | _=>none
def Ae.Ms.Bh:List (Nat × Entry):=[]
def Ae.Ms.E:Env:=Bi (Bg Ae.Ms.Bh) (fun _=>false) Ae.Ms.hint (fun _=>none)
def Ae.Ms.L0 (N M:Nat) (p3 p4:Int):Option DV:=B3 Ae.Ms.E N f77 (Aq f77) [1,1,1,0,1,0] [] M ⟨G8 29 [(3,.int .i64 p3),(4,.int .u32 p4)],[]⟩
theorem Ae.Ms.Au (N M:Nat) (p3 p4:Int):Ae.Ms.L0 N (M+1) p3 p4=bif (A3 0 p4) then Ae.Ms.L0 N M (Ab (p3+1)) (Hk (Int.tdiv p4 2)) else some (.int .i64 p3):=by kernel_rfl
theorem Ae.Ms.ev (N:Nat) (n:Bool) (a:List Int):Bw Ae.Ms.E N f77 (Aq f77) [.agg [.bool n,.ints .arg .u32 a]]=bif ((length a:Int)==(0:Int)) then some (.int .i64 0) else bif ((decide (0≤(Ab ((length a:Int)-1))))&&(decide ((Ab ((length a:Int)-1))<(length a:Int)))) then Ae.Ms.L0 N N (Ab ((32:Int)*(Ab ((length a:Int)-1)))) (getD a (toNat (Ab ((length a:Int)-1))) 0) else none:=by kernel_rfl
abbrev _root_.Go.Proofs.S1.Ae.Ms.Kn:=A6 prog 77 Ae.Ms.spec
theorem Ae.Ms.Ad (hk:Ay prog Ae.Ms.Bh) (h:Hyp Ae.Ms.E f77 Ae.Ms.ts Ae.Ms.pre Ae.Ms.out):Ae.Ms.Kn :=
 Am (A2 hk _ _ _) func77 (by kernel_rfl) (by kernel_rfl) h
def Ae.Sg.Bh:List (Nat × Entry):=[]
def Ae.Sg.E:Env:=Bi (Bg Ae.Sg.Bh) (fun _=>false) (fun _=>none) (fun _=>none)
theorem Ae.Sg.ev (N:Nat) (n:Bool) (a:List Int):Bw Ae.Sg.E N f81 (Aq f81) [.agg [.bool n,.ints .arg .u32 a]]=bif ((!(A3 0 (length a:Int)))||(decide ((0:Int)<(length a:Int)))) then some (.bool (bif (A3 0 (length a:Int)) then ((Int.tmod (getD a 0 0) 2)==(1:Int)) else false)) else none :=
 Eq.trans (by kernel_rfl)
 (Aw (H0 (A3 0 (length a:Int))) (Aw (Fm (A3 0 (length a:Int))) (Df (Aou (A3 0 (length a:Int)) (decide ((0:Int)<(length a:Int)))) (Aw (Fm (A3 0 (length a:Int))) (Aw (Fm (A3 0 (length a:Int))) (Aw (Fm (A3 0 (length a:Int))) (Aw (J3 (A3 0 (length a:Int))) rfl)))) rfl)))
abbrev _root_.Go.Proofs.S1.Ae.Sg.Kn:=A6 prog 81 Ae.Sg.spec
theorem Ae.Sg.Ad (hk:Ay prog Ae.Sg.Bh) (h:Hyp Ae.Sg.E f81 Ae.Sg.ts Ae.Sg.pre Ae.Sg.out):Ae.Sg.Kn :=
 Am (A2 hk _ _ _) func81 (by kernel_rfl) (by kernel_rfl) h
end EqRefB
open EqRefB
theorem Ae.D6.known:Ae.D6.Kn:=Ae.D6.Ad (.cons Ae.Made.known (.cons Ae.plus.known .nil)) fun n a hp=>by
 obtain ⟨v,rfl,rfl,hv⟩:=G7 hp
 refine ⟨0,Ae.D6.out [.b (A9 v),.l (Ai v)],[],?_,Y1⟩
 have o1:F2 (Ai v)=true:=Lm (by omega)
 have o3:F2 (Hp (Ai v) (Ai v))=true:=K2 (by rw [Qm,B8]; omega) (Zr _ _)
 rw [Ae.D6.ev,o1,o3,Arx,Arr,Arr,Af8 rfl]
 show _=some (DV.agg [.bool (A9 (2*wv (A9 v) (Ai v))),.ints .arg .u32 (Ai (2*wv (A9 v) (Ai v)))])
 rw [F6,Int.two_mul]
theorem Am2 (l:List Int) (y x:Int) (r:List Int):∀ i,i=l.length→(l++y::r).set i x=l++x::r:=by
 induction l with
 | nil=>intro i h; subst h; rfl
 | cons z l ih =>
   intro i h
   obtain ⟨j,rfl⟩:∃ j,i=j+1:=⟨i-1,by rw [List.length_cons] at h; omega⟩
   show z::(l++y::r).set j x=z::(l++x::r)
   rw [ih j (by rw [List.length_cons] at h; omega)]
theorem Afi (N:Nat) {v:Int} (hv:Cy v.natAbs<268435456):∀ (k i F:Nat),i+k=Cy v.natAbs→k<F →
 Ae.Fq.L0 N F (A9 v) (Ai v) (i:Int) (digits i (v.natAbs / 2)++List.replicate k 0)=some (.agg [.bool (A9 (Ik v 1)),.ints .arg .u32 (Ai (Ik v 1))]):=by
 have o1:F2 (Ai v)=true:=Lm (by omega)
 have ia:=Fe v
 intro k
 induction k with
 | zero =>
   intro i F hi hF
   obtain ⟨F,rfl⟩:∃ G,F=G+1:=⟨F-1,by omega⟩
   have t0:decide ((i:Int)<((Ai v).length:Int))=false:=Arw (by rw [B8]; omega)
   rw [List.replicate_zero,List.append_nil,Ae.Fq.Au,Av,t0,Arv]
   have o3:F2 (digits i (v.natAbs / 2))=true:=K2 (by rw [D7]; omega) (Lr _ _)
   have e:wv (A9 v) (digits i (v.natAbs / 2))=Ik v 1:=by
    unfold wv Ik
    rw [Iq,Ar4,Nat.pow_one]
    have:=Jp v.natAbs
    rw [show i=Cy v.natAbs by omega]
    exact Asu (Nat.div_le_self _ _) this
   rw [o3,Arr,e]
 | succ k ih =>
   intro i F hi hF
   obtain ⟨F,rfl⟩:∃ G,F=G+1:=⟨F-1,by omega⟩
   have hlen:(digits i (v.natAbs / 2)++List.replicate (k+1) (0:Int)).length=i+(k+1):=by rw [Asj,D7,List.length_replicate]
   have t0:decide ((i:Int)<((Ai v).length:Int))=true:=Ars (by rw [B8]; omega)
   have t1:decide ((0:Int)≤(i:Int))=true:=Ars (by omega)
   have t2:decide ((i:Int)<((digits i (v.natAbs / 2)++List.replicate (k+1) (0:Int)).length:Int))=true:=Ars (by rw [hlen]; omega)
   have t3:decide (i<(digits i (v.natAbs / 2)++List.replicate (k+1) (0:Int)).length)=true:=Ars (by rw [hlen]; omega)
   have e0:Ab ((i:Int)+1)=((i+1:Nat):Int):=by rw [Ao (by omega) (by omega)]; omega
   rw [Ae.Fq.Au,Av,t0,o1,Art,t1,t2,t3,Arx]
   simp only [Arr]
   rw [e0,F0 ia,F0 ia,C5]
   have ih:=ih (i+1) F (by omega) (by omega)
   rw [Kv,Asl,Asf 2,← Asl] at ih
   rw [Lf,Asf 4294967296,← Asl,List.replicate_succ,Am2 _ _ _ _ i (D7 _ _).symm]
   rw [List.append_assoc] at ih
   generalize v.natAbs / 2^(32*i)=x at *
   have e1:Int.tmod ((x / 4294967296%4294967296:Nat):Int) 2=((x / 4294967296%4294967296%2:Nat):Int):=Hl _ 2
   have e2:Bb (Bb (((x / 4294967296%4294967296%2:Nat):Int)*4294967296)+((x%4294967296:Nat):Int))=((x / 4294967296%4294967296%2*4294967296+x%4294967296:Nat):Int):=by
    rw [Cu (x:=((x / 4294967296%4294967296%2:Nat):Int)*4294967296) (by omega) (by omega),Cu (by omega) (by omega)]; omega
   have e3:Int.tdiv ((x / 4294967296%4294967296%2*4294967296+x%4294967296:Nat):Int) 2=(((x / 4294967296%4294967296%2*4294967296+x%4294967296) / 2:Nat):Int):=Hm _ 2
   have e4:(x / 4294967296%4294967296%2*4294967296+x%4294967296) / 2=x / 2%4294967296:=by omega
   rw [e1,e2,e3,e4,Cu (by omega) (by omega),Ip (by omega) (by omega)]
   exact ih
theorem Ae.Fq.known:Ae.Fq.Kn:=Ae.Fq.Ad (.cons Ae.Made.known (.cons Ae.Gx.known .nil)) fun n a hp=>by
 obtain ⟨v,rfl,rfl,hv⟩:=G7 hp
 refine ⟨Cy v.natAbs+1,Ae.Fq.out [.b (A9 v),.l (Ai v)],[],?_,Y1⟩
 show _=some (DV.agg [.bool (A9 (Ik (wv (A9 v) (Ai v)) 1)),.ints .arg .u32 (Ai (Ik (wv (A9 v) (Ai v)) 1))])
 rw [Ae.Fq.ev,F6,B8,Ars (by omega),Ars (by omega),Ars (by unfold Gy; omega),Arx,Arx,Arr,Art]
 have h:=Afi (Cy v.natAbs+1) hv (Cy v.natAbs) 0 (Cy v.natAbs+1) (by omega) (by omega)
 rw [digits,List.nil_append] at h
 exact h
def Aa7 (v:Int):Option DV:=some (.agg [.bool (A9 v),.ints .arg .u32 (Ai v)])
theorem Q3 (v:Int):A3 (0:Int) ((Ai v).length:Int)=decide (v≠0):=by
 rw [Av,B8,decide_eq_decide]
 constructor
 ·intro h e
  rw [e] at h
  exact absurd h (by decide)
 ·intro h
  have:=G1 (n:=v.natAbs) (by omega)
  omega
theorem Amw (N:Nat):∀ (j F:Nat) (v:Int),j<F→j<2000000→Cy v.natAbs<268435456→Ae.Bf.L3 N F (-(j:Int)) (A9 v) (Ai v)=Aa7 (Ik v j):=by
 intro j
 induction j with
 | zero =>
   intro F v hF _ hv
   obtain ⟨F,rfl⟩:∃ G,F=G+1:=⟨F-1,by omega⟩
   rw [Ae.Bf.Yw,Av,Arw (by omega),Bool.false_and,Arv,Zg]
   rfl
 | succ j ih =>
   intro F v hF hj hv
   obtain ⟨F,rfl⟩:∃ G,F=G+1:=⟨F-1,by omega⟩
   rw [Ae.Bf.Yw,Av,Ars (by omega),As5,Q3]
   by_cases h0:v=0
   ·rw [Arw (by omega),Arv,h0,Oa]
    rfl
   ·rw [Ars h0,Arr,Hb hv,Arr,F6,Ao (by omega) (by omega)]
    have e:-((j+1:Nat):Int)+1=-(j:Int):=by omega
    have hl:Cy (Ik v 1).natAbs<268435456:=by
     rw [Jk]
     exact Asu (Jy (Nat.div_le_self _ _)) hv
    rw [e,ih F (Ik v 1) (by omega) (by omega) hl,Xq,Nat.add_comm]
theorem Acy (v:Int):wv (A9 v) ((Ai v).drop 1)=Ik v 32:=by
 unfold wv Ik
 rw [Ad6 (Fe v),C5,two32]
theorem Amx (N:Nat):∀ (F j:Nat) (v:Int),j<F→j<N→j<2000000→Cy v.natAbs<268435456→Ae.Bf.L2 N F (-(j:Int)) (A9 v) (Ai v)=Aa7 (Ik v j):=by
 intro F
 induction F with
 | zero=>intro j v h; omega
 | succ F ih =>
   intro j v hF hN hj hv
   rw [Ae.Bf.Ml,Ee,Q3]
   by_cases hc:32≤j∧v≠0
   ·have o3:F2 ((Ai v).drop 1)=true:=K2 (by rw [List.length_drop,B8]; omega) (Aae (Fe v))
    have t1:decide ((1:Int)≤((Ai v).length:Int))=true:=Ars (by
     rw [B8]
     have:=G1 (n:=v.natAbs) (by omega)
     omega)
    have hl:Cy (Ik v 32).natAbs<268435456:=by
     rw [Jk]
     exact Asu (Jy (Nat.div_le_self _ _)) hv
    rw [Ars (by omega),Ars hc.2,Arx,Arr,t1,Arr,o3,Arr,Acy,Ao (by omega) (by omega)]
    have e:-(j:Int)+32=-((j-32:Nat):Int):=by omega
    rw [e,ih (j-32) (Ik v 32) (by omega) (by omega) (by omega) hl,Xq]
    congr 2
    omega
   ·have:(decide (-(j:Int)≤-32)&&decide (v≠0))=false:=by
     rw [Bool.and_eq_false_iff,Asa,Asa]
     omega
    rw [this,Arv]
    exact Amw N j N v hN hj hv
theorem Sl (N F:Nat) {k:Int} (hk:0≤k) (hN:0<N) (v:Int):Ae.Bf.L2 N (F+1) k (A9 v) (Ai v)=Aa7 v:=by
 obtain ⟨M,rfl⟩:∃ M,N=M+1:=⟨N-1,by omega⟩
 rw [Ae.Bf.Ml,Ee,Arw (by omega),Bool.false_and,Arv,Ae.Bf.Yw,Av,Arw (by omega),Bool.false_and,Arv]
 rfl
theorem Amy (N:Nat) (hN:0<N):∀ (j F:Nat) (v:Int),j<F→j<2000000→Cy v.natAbs+j<268435456→Ae.Bf.L1 N F (j:Int) (A9 v) (Ai v)=Aa7 (v*((2^j:Nat):Int)):=by
 obtain ⟨M,rfl⟩:∃ M,N=M+1:=⟨N-1,by omega⟩
 intro j
 induction j with
 | zero =>
   intro F v hF _ hv
   obtain ⟨F,rfl⟩:∃ G,F=G+1:=⟨F-1,by omega⟩
   rw [Ae.Bf.C3,Av,Arw (by omega),Bool.false_and,Arv,Sl _ _ (by omega) (by omega),Asq]
   congr 1
   omega
 | succ j ih =>
   intro F v hF hj hv
   obtain ⟨F,rfl⟩:∃ G,F=G+1:=⟨F-1,by omega⟩
   rw [Ae.Bf.C3,Av,Ars (by omega),As5,Q3]
   by_cases h0:v=0
   ·rw [Arw (by omega),Arv,h0,Int.zero_mul,Sl _ _ (by omega) (by omega)]
   ·have hl:=Ah0 v.natAbs
    have e2:(2*v).natAbs=2*v.natAbs:=by omega
    have e:((j+1:Nat):Int)-1=(j:Int):=by omega
    rw [Ars h0,Arr,Hb (by omega),Arr,F6,Ao (by omega) (by omega),e,ih F (2*v) (by omega) (by omega) (by rw [e2]; omega)]
    congr 1
    rw [Nat.pow_succ,Asc,Int.mul_comm 2 v,Int.mul_assoc,Int.mul_comm ((2^j:Nat):Int)]
    rfl
theorem An4 (v:Int):wv (A9 v) ([(0:Int)]++Ai v)=v*((2^32:Nat):Int):=by
 have e:B2 ([(0:Int)]++Ai v)=4294967296*v.natAbs:=by
  show B2 (0::Ai v)=_
  rw [B2,C5]
  exact As2 _
 unfold wv
 rw [e,two32]
 by_cases h:v<0
 ·rw [Qe h]; omega
 ·rw [Qd h]; omega
theorem Amz (N:Nat):∀ (F j:Nat) (v:Int),j<F→j<N→j<2000000→Cy v.natAbs+j<268435456→Ae.Bf.L0 N F (j:Int) (A9 v) (Ai v)=Aa7 (v*((2^j:Nat):Int)):=by
 intro F
 induction F with
 | zero=>intro j v h; omega
 | succ F ih =>
   intro j v hF hN hj hv
   rw [Ae.Bf.Au,Ee,Q3]
   by_cases hc:32≤j∧v≠0
   ·have o3:F2 ([(0:Int)]++Ai v)=true:=K2 (by rw [Asj,B8]; show 1+_<_; omega) (Aia (Fe v))
    have t1:decide (1+(Ai v).length≤Gy)=true:=Ars (by rw [B8]; unfold Gy; omega)
    have e2:(v*((2^32:Nat):Int)).natAbs=v.natAbs*4294967296:=by rw [Int.natAbs_mul,Int.natAbs_natCast,two32]
    have hl:=Akq v.natAbs
    rw [Ars (by omega),Ars hc.2,Arx,Arr,t1,Arr,o3,Arr,An4,Ao (by omega) (by omega)]
    have e:(j:Int)-32=((j-32:Nat):Int):=by omega
    rw [e,ih (j-32) _ (by omega) (by omega) (by omega) (by rw [e2]; omega)]
    have e3:2^j=2^32*2^(j-32):=by rw [← Asg]; congr 1; omega
    rw [e3,Asc,Int.mul_assoc]
   ·have:(decide ((32:Int)≤(j:Int))&&decide (v≠0))=false:=by
     rw [Bool.and_eq_false_iff,Asa,Asa]
     omega
    rw [this,Arv]
    exact Amy N (by omega) j N v hN hj hv
theorem Abi (N j:Nat) (v:Int) (hj:0<j) (hN:j<N) (hj2:j<2000000) (hv:Cy v.natAbs<268435456):Ae.Bf.L0 N N (-(j:Int)) (A9 v) (Ai v)=Aa7 (Ik v j):=by
 obtain ⟨M,rfl⟩:∃ M,N=M+1:=⟨N-1,by omega⟩
 rw [Ae.Bf.Au,Ee,Arw (by omega),Bool.false_and,Arv,Ae.Bf.C3,Av,Arw (by omega),Bool.false_and,Arv]
 exact Amx _ _ j v hN hN hj2 hv
theorem Ae.Bf.known:Ae.Bf.Kn:=Ae.Bf.Ad (.cons Ae.D6.known (.cons Ae.Fq.known (.cons Ae.Made.known .nil))) fun n a k hp=>by
 obtain ⟨h1,h2⟩:=Af.1 hp
 obtain ⟨v,rfl,rfl,hv⟩:=L8 h1
 have h2:=Al.1 h2
 refine ⟨k.natAbs+1,Ae.Bf.out [.b (A9 v),.l (Ai v),.i k],[],?_,Y1⟩
 show _=some (DV.agg [.bool (A9 (E8 (wv (A9 v) (Ai v)) k)),.ints .arg .u32 (Ai (E8 (wv (A9 v) (Ai v)) k))])
 rw [Ae.Bf.ev,F6]
 unfold E8
 by_cases h:0≤k
 ·obtain ⟨j,rfl⟩:∃ j:Nat,k=j:=⟨k.toNat,by omega⟩
  rw [Ase h,Art,Int.natAbs_natCast]
  exact Amz _ _ j v (by omega) (by omega) (by omega) (by omega)
 ·obtain ⟨j,rfl⟩:∃ j:Nat,k=-(j:Int):=⟨(-k).toNat,by omega⟩
  have e:(-(-(j:Int))).toNat=j:=by omega
  rw [Asd h,e,Int.natAbs_neg,Int.natAbs_natCast]
  exact Abi _ j v (by omega) (by omega) (by omega) (by omega)
open EqRefB
theorem Aff {t:Nat} (h:2≤t):(t / 2).log2+1=t.log2:=by
 have:=Z5 (n:=t) (m:=1) (by omega)
 rw [Nat.pow_one] at this
 exact this
theorem Ahz (N:Nat):∀ (F:Nat) (t:Nat) (p:Int),t<2^32→0<t→t.log2+1<F→-1000≤p→p+t.log2<4611686018427387904 →
 Ae.Ms.L0 N F p (t:Int)=some (.int .i64 (p+t.log2+1)):=by
 intro F
 induction F with
 | zero=>intro t p _ _ h; omega
 | succ F ih =>
   intro t p ht h0 hF hp1 hp2
   have e2:Int.tdiv (t:Int) 2=((t / 2:Nat):Int):=Hm t 2
   rw [two32] at ht
   rw [Ae.Ms.Au,Av,Ars (by omega),Arr,e2,Ip (by omega) (by omega),Ao (by omega) (by omega)]
   by_cases h1:t=1
   ·subst h1
    obtain ⟨G,rfl⟩:∃ G,F=G+1:=⟨F-1,by omega⟩
    rw [Ae.Ms.Au,Av,Arw (by decide),Arv]
    have:(1:Nat).log2=0:=by decide
    rw [this]
    congr 2
    omega
   ·have hl:=Aff (t:=t) (by omega)
    rw [ih (t / 2) (p+1) (by rw [two32]; omega) (by omega) (by omega) (by omega) (by omega)]
    congr 2
    omega
theorem Ae.Ms.known:Ae.Ms.Kn:=Ae.Ms.Ad .nil fun n a hp=>by
 obtain ⟨v,rfl,rfl,hv⟩:=G7 hp
 refine ⟨40,Ae.Ms.out [.b (A9 v),.l (Ai v)],[],?_,.int⟩
 show _=some (DV.int .i64 (Vx (wv (A9 v) (Ai v))))
 rw [Ae.Ms.ev,F6,B8]
 unfold Vx
 by_cases h0:v=0
 ·rw [Ase h0,h0]; rfl
 ·have hn:v.natAbs≠0:=by omega
  have hl:=G1 hn
  have e0:((Cy v.natAbs:Int)==0)=false:=by simp only [Asn,ne_eq]; omega
  have e1:(Cy v.natAbs:Int)-1=((Cy v.natAbs-1:Nat):Int):=by omega
  have hlen:Cy v.natAbs=v.natAbs.log2 / 32+1:=by unfold Cy; rw [Asd hn]
  have hge:2^(32*(Cy v.natAbs-1))≤v.natAbs:=Asz (Ar6 (by decide) (by omega)) (Nat.log2_self_le hn)
  have hq:v.natAbs / 2^(32*(Cy v.natAbs-1))<2^32:=by
   rw [Nat.div_lt_iff_lt_mul (By _),← Asg]
   have:=Jp v.natAbs
   have e:32+32*(Cy v.natAbs-1)=32*Cy v.natAbs:=by omega
   rw [e]; exact this
  have hlog:=Z5 hge
  have hg:=Ot (Fe v) (Cy v.natAbs-1)
  have hq':=hq
  rw [two32] at hq'
  rw [C5,Ar4 hq'] at hg
  have hpos:=Nat.div_pos hge (By _)
  have h32:(v.natAbs / 2^(32*(Cy v.natAbs-1))).log2<32:=(As8 (by omega)).2 hq
  rw [Asd h0,e0,Arv,Ao (by omega) (by omega),e1,Ars (by omega),Ars (by omega),Arx,Arr,Art,hg,Ao (by omega) (by omega)]
  rw [Ahz 40 40 _ _ hq hpos (by omega) (by omega) (by omega)]
  congr 2
  omega
theorem Ae.Sg.known:Ae.Sg.Kn:=Ae.Sg.Ad .nil fun n a hp=>by
 obtain ⟨v,rfl,rfl,hv⟩:=G7 hp
 refine ⟨0,Ae.Sg.out [.b (A9 v),.l (Ai v)],[],?_,.bool⟩
 show _=some (DV.bool (Aev (wv (A9 v) (Ai v))))
 rw [Ae.Sg.ev,F6,Q3]
 have hg:=Ot (Fe v) 0
 rw [C5,Nat.mul_zero,Asq,Nat.div_one] at hg
 have e2:Int.tmod ((v.natAbs%4294967296:Nat):Int) 2=((v.natAbs%4294967296%2:Nat):Int):=Hl _ 2
 unfold Aev
 by_cases h0:v=0
 ·rw [h0]; rfl
 ·have hl:=G1 (n:=v.natAbs) (by omega)
  rw [hg,e2,Ars h0,B8,Ars (by omega),As4,Arr,Arr]
  congr 2
  rw [Ar7]
  simp only [beq_iff_eq,Ary]
  omega
namespace EqRefC
def Ap.Of.hint:Nat→Option Bc
 | 0=>some { keep:=[1,2,4],objs:=[],boxes:=[2,4] }
 | 2=>some { keep:=[1,2,4],objs:=[],boxes:=[2,4] }
 | _=>none
def Ap.Of.Bh:List (Nat × Entry):=[(82,Ae.Fq.spec),(80,Ae.Made.spec),(81,Ae.Sg.spec)]
def Ap.Of.E:Env:=Bi (Bg Ap.Of.Bh) (fun _=>false) Ap.Of.hint (fun _=>none)
section
variable (N:Nat) (n:Bool) (a:List Int) (e:Int) (M:Nat) (p1_1:Int) (p2_2:Bool) (p2_3:List Int) (p1:Int) (p2:Bool) (p2_1:List Int)
def Ap.Of.L0:Option DV:=B3 Ap.Of.E N f45 (Aq f45) [1,1,0,0] [] M ⟨G8 33 [(1,.int .i64 p1),(2,.ptr 2 0 0),(4,.ptr 4 0 0)],[(2,false,.box [.bool p2,.ints .arg .u32 p2_1]),(4,false,.box [.bool false,.nil,.int .i64 0])]⟩
def Ap.Of.L1:Option DV:=B3 Ap.Of.E N f45 (Aq f45) [1,1,1,0,0] [] M ⟨G8 33 [(1,.int .i64 p1_1),(2,.ptr 2 0 0),(4,.ptr 4 0 0)],[(2,false,.box [.bool p2_2,.ints .arg .u32 p2_3]),(4,false,.box [.bool false,.nil,.int .i64 0])]⟩
theorem Ap.Of.Au:Ap.Of.L0 N (M+1) p1 p2 p2_1=bif (decide ((0:Int)<(length p2_1:Int))) then bif ((getD p2_1 0 0)==(0:Int)) then bif (decide ((1:Int)≤(length p2_1:Int))) then bif (F2 (List.drop 1 p2_1)) then Ap.Of.L0 N M (Ab (p1+32)) (A9 (wv p2 (List.drop 1 p2_1))) (Ai (wv p2 (List.drop 1 p2_1))) else none else none else Ap.Of.L1 N N p1 p2 p2_1 else none :=
 Eq.trans (by kernel_rfl)
 (Eu (Eu (Df (Aoe (decide ((1:Int)≤(length p2_1:Int)))) (Df (Gc (F2 (List.drop 1 p2_1))) rfl rfl) rfl) rfl) rfl)
theorem Ap.Of.C3:Ap.Of.L1 N (M+1) p1_1 p2_2 p2_3=bif (He p2_2 p2_3) then bif (!(Aev (wv p2_2 p2_3))) then bif (He p2_2 p2_3) then Ap.Of.L1 N M (Ab (p1_1+1)) (A9 (Ik (wv p2_2 p2_3) 1)) (Ai (Ik (wv p2_2 p2_3) 1)) else none else some (.agg [.bool p2_2,.ints .arg .u32 p2_3,.int .i64 p1_1]) else none:=by kernel_rfl
theorem Ap.Of.ev:Bw Ap.Of.E N f45 (Aq f45) [.agg [.bool n,.ints .arg .u32 a],.int .i64 e]=bif ((length a:Int)==(0:Int)) then some (.agg [.bool false,.nil,.int .i64 0]) else Ap.Of.L0 N N e n a:=by kernel_rfl
end
abbrev _root_.Go.Proofs.S1.Ap.Of.Kn:=A6 prog 45 Ap.Of.spec
theorem Ap.Of.Ad (hk:Ay prog Ap.Of.Bh) (h:Hyp Ap.Of.E f45 Ap.Of.ts Ap.Of.pre Ap.Of.out):Ap.Of.Kn :=
 Am (A2 hk _ _ _) func45 (by kernel_rfl) (by kernel_rfl) h
def Ap.Neg.Bh:List (Nat × Entry):=[(44,Ae.Neg.spec)]
def Ap.Neg.E:Env:=Bi (Bg Ap.Neg.Bh) (fun _=>false) (fun _=>none) (fun _=>none)
theorem Ap.Neg.ev (N:Nat) (n:Bool) (a:List Int) (e:Int):Bw Ap.Neg.E N f79 (Aq f79) [.agg [.bool n,.ints .arg .u32 a,.int .i64 e]]=bif (He n a) then some (.agg [.bool (A9 (- wv n a)),.ints .arg .u32 (Ai (- wv n a)),.int .i64 e]) else none :=
 Eq.trans (by kernel_rfl)
 (Df (Gc (He n a)) rfl rfl)
abbrev _root_.Go.Proofs.S1.Ap.Neg.Kn:=A6 prog 79 Ap.Neg.spec
theorem Ap.Neg.Ad (hk:Ay prog Ap.Neg.Bh) (h:Hyp Ap.Neg.E f79 Ap.Neg.ts Ap.Neg.pre Ap.Neg.out):Ap.Neg.Kn :=
 Am (A2 hk _ _ _) func79 (by kernel_rfl) (by kernel_rfl) h
def Ap.Sh.Bh:List (Nat × Entry):=[]
def Ap.Sh.E:Env:=Bi (Bg Ap.Sh.Bh) (fun _=>false) (fun _=>none) (fun _=>none)
theorem Ap.Sh.ev (N:Nat) (n:Bool) (a:List Int) (e:Int) (m:Bool) (b:List Int) (f:Int):Bw Ap.Sh.E N f102 (Aq f102) [.agg [.bool n,.ints .arg .u32 a,.int .i64 e],.agg [.bool m,.ints .arg .u32 b,.int .i64 f]]=bif ((length a:Int)==(0:Int)) then some (.int .i64 f) else bif ((length b:Int)==(0:Int)) then some (.int .i64 e) else some (.int .i64 (min e f)):=by kernel_rfl
abbrev _root_.Go.Proofs.S1.Ap.Sh.Kn:=A6 prog 102 Ap.Sh.spec
theorem Ap.Sh.Ad (hk:Ay prog Ap.Sh.Bh) (h:Hyp Ap.Sh.E f102 Ap.Sh.ts Ap.Sh.pre Ap.Sh.out):Ap.Sh.Kn :=
 Am (A2 hk _ _ _) func102 (by kernel_rfl) (by kernel_rfl) h
def Ap.Level.Bh:List (Nat × Entry):=[(126,Ae.Bf.spec)]
def Ap.Level.E:Env:=Bi (Bg Ap.Level.Bh) (fun _=>false) (fun _=>none) (fun _=>none)
theorem Ap.Level.ev (N:Nat) (n:Bool) (a:List Int) (e f:Int):Bw Ap.Level.E N f104 (Aq f104) [.agg [.bool n,.ints .arg .u32 a,.int .i64 e],.int .i64 f]=bif ((length a:Int)==(0:Int)) then some (.agg [.bool n,.ints .arg .u32 a]) else bif (Te n a&&Am9 (Ab (e-f))) then some (.agg [.bool (A9 (E8 (wv n a) (Ab (e-f)))),.ints .arg .u32 (Ai (E8 (wv n a) (Ab (e-f))))]) else none:=by kernel_rfl
abbrev _root_.Go.Proofs.S1.Ap.Level.Kn:=A6 prog 104 Ap.Level.spec
theorem Ap.Level.Ad (hk:Ay prog Ap.Level.Bh) (h:Hyp Ap.Level.E f104 Ap.Level.ts Ap.Level.pre Ap.Level.out):Ap.Level.Kn :=
 Am (A2 hk _ _ _) func104 (by kernel_rfl) (by kernel_rfl) h
def Ap.Add.Bh:List (Nat × Entry):=[(103,Ae.Add.spec),(104,Ap.Level.spec),(102,Ap.Sh.spec),(45,Ap.Of.spec)]
def Ap.Add.E:Env:=Bi (Bg Ap.Add.Bh) (fun _=>false) (fun _=>none) (fun _=>none)
theorem Ap.Add.ev (N:Nat) (n:Bool) (a:List Int) (e:Int) (m:Bool) (b:List Int) (f:Int):Bw Ap.Add.E N f78 (Aq f78) [.agg [.bool n,.ints .arg .u32 a,.int .i64 e],.agg [.bool m,.ints .arg .u32 b,.int .i64 f]]=bif (He n a&&He m b) then bif (Te n a&&Zu (wv n a) e (Ci (wv n a) e (wv m b) f)) then bif (Te m b&&Zu (wv m b) f (Ci (wv n a) e (wv m b) f)) then bif (He (A9 (E8 (wv n a) (e-(Ci (wv n a) e (wv m b) f)))) (Ai (E8 (wv n a) (e-(Ci (wv n a) e (wv m b) f))))&&He (A9 (E8 (wv m b) (f-(Ci (wv n a) e (wv m b) f)))) (Ai (E8 (wv m b) (f-(Ci (wv n a) e (wv m b) f))))) then bif (He (A9 (wv (A9 (E8 (wv n a) (e-(Ci (wv n a) e (wv m b) f)))) (Ai (E8 (wv n a) (e-(Ci (wv n a) e (wv m b) f))))+wv (A9 (E8 (wv m b) (f-(Ci (wv n a) e (wv m b) f)))) (Ai (E8 (wv m b) (f-(Ci (wv n a) e (wv m b) f)))))) (Ai (wv (A9 (E8 (wv n a) (e-(Ci (wv n a) e (wv m b) f)))) (Ai (E8 (wv n a) (e-(Ci (wv n a) e (wv m b) f))))+wv (A9 (E8 (wv m b) (f-(Ci (wv n a) e (wv m b) f)))) (Ai (E8 (wv m b) (f-(Ci (wv n a) e (wv m b) f))))))&&Vu (Ci (wv n a) e (wv m b) f)) then some (.agg [.bool (A9 (mD (wv (A9 (wv (A9 (E8 (wv n a) (e-(Ci (wv n a) e (wv m b) f)))) (Ai (E8 (wv n a) (e-(Ci (wv n a) e (wv m b) f))))+wv (A9 (E8 (wv m b) (f-(Ci (wv n a) e (wv m b) f)))) (Ai (E8 (wv m b) (f-(Ci (wv n a) e (wv m b) f)))))) (Ai (wv (A9 (E8 (wv n a) (e-(Ci (wv n a) e (wv m b) f)))) (Ai (E8 (wv n a) (e-(Ci (wv n a) e (wv m b) f))))+wv (A9 (E8 (wv m b) (f-(Ci (wv n a) e (wv m b) f)))) (Ai (E8 (wv m b) (f-(Ci (wv n a) e (wv m b) f))))))))),.ints .arg .u32 (Ai (mD (wv (A9 (wv (A9 (E8 (wv n a) (e-(Ci (wv n a) e (wv m b) f)))) (Ai (E8 (wv n a) (e-(Ci (wv n a) e (wv m b) f))))+wv (A9 (E8 (wv m b) (f-(Ci (wv n a) e (wv m b) f)))) (Ai (E8 (wv m b) (f-(Ci (wv n a) e (wv m b) f)))))) (Ai (wv (A9 (E8 (wv n a) (e-(Ci (wv n a) e (wv m b) f)))) (Ai (E8 (wv n a) (e-(Ci (wv n a) e (wv m b) f))))+wv (A9 (E8 (wv m b) (f-(Ci (wv n a) e (wv m b) f)))) (Ai (E8 (wv m b) (f-(Ci (wv n a) e (wv m b) f))))))))),.int .i64 (eD (wv (A9 (wv (A9 (E8 (wv n a) (e-(Ci (wv n a) e (wv m b) f)))) (Ai (E8 (wv n a) (e-(Ci (wv n a) e (wv m b) f))))+wv (A9 (E8 (wv m b) (f-(Ci (wv n a) e (wv m b) f)))) (Ai (E8 (wv m b) (f-(Ci (wv n a) e (wv m b) f)))))) (Ai (wv (A9 (E8 (wv n a) (e-(Ci (wv n a) e (wv m b) f)))) (Ai (E8 (wv n a) (e-(Ci (wv n a) e (wv m b) f))))+wv (A9 (E8 (wv m b) (f-(Ci (wv n a) e (wv m b) f)))) (Ai (E8 (wv m b) (f-(Ci (wv n a) e (wv m b) f))))))) (Ci (wv n a) e (wv m b) f))]) else none else none else none else none else none :=
 Eq.trans (by kernel_rfl)
 (Eu (Df (Gc (Te n a&&Zu (wv n a) e (Ci (wv n a) e (wv m b) f))) (Df (Gc (Te m b&&Zu (wv m b) f (Ci (wv n a) e (wv m b) f))) (Df (Gc (He (A9 (E8 (wv n a) (e-(Ci (wv n a) e (wv m b) f)))) (Ai (E8 (wv n a) (e-(Ci (wv n a) e (wv m b) f))))&&He (A9 (E8 (wv m b) (f-(Ci (wv n a) e (wv m b) f)))) (Ai (E8 (wv m b) (f-(Ci (wv n a) e (wv m b) f)))))) (Df (Gc (He (A9 (wv (A9 (E8 (wv n a) (e-(Ci (wv n a) e (wv m b) f)))) (Ai (E8 (wv n a) (e-(Ci (wv n a) e (wv m b) f))))+wv (A9 (E8 (wv m b) (f-(Ci (wv n a) e (wv m b) f)))) (Ai (E8 (wv m b) (f-(Ci (wv n a) e (wv m b) f)))))) (Ai (wv (A9 (E8 (wv n a) (e-(Ci (wv n a) e (wv m b) f)))) (Ai (E8 (wv n a) (e-(Ci (wv n a) e (wv m b) f))))+wv (A9 (E8 (wv m b) (f-(Ci (wv n a) e (wv m b) f)))) (Ai (E8 (wv m b) (f-(Ci (wv n a) e (wv m b) f))))))&&Vu (Ci (wv n a) e (wv m b) f))) rfl rfl) rfl) rfl) rfl) rfl)
abbrev _root_.Go.Proofs.S1.Ap.Add.Kn:=A6 prog 78 Ap.Add.spec
theorem Ap.Add.Ad (hk:Ay prog Ap.Add.Bh) (h:Hyp Ap.Add.E f78 Ap.Add.ts Ap.Add.pre Ap.Add.out):Ap.Add.Kn :=
 Am (A2 hk _ _ _) func78 (by kernel_rfl) (by kernel_rfl) h
def Ap.Sub.Bh:List (Nat × Entry):=[(78,Ap.Add.spec),(79,Ap.Neg.spec)]
def Ap.Sub.E:Env:=Bi (Bg Ap.Sub.Bh) (fun _=>false) (fun _=>none) (fun _=>none)
theorem Ap.Sub.ev (N:Nat) (n:Bool) (a:List Int) (e:Int) (m:Bool) (b:List Int) (f:Int):Bw Ap.Sub.E N f42 (Aq f42) [.agg [.bool n,.ints .arg .u32 a,.int .i64 e],.agg [.bool m,.ints .arg .u32 b,.int .i64 f]]=bif (He m b) then bif (((Te n a&&Te (A9 (- wv m b)) (Ai (- wv m b)))&&Tf e)&&Tf f) then some (.agg [.bool (A9 (N2 (wv n a) e (wv (A9 (- wv m b)) (Ai (- wv m b))) f)),.ints .arg .u32 (Ai (N2 (wv n a) e (wv (A9 (- wv m b)) (Ai (- wv m b))) f)),.int .i64 (Aji (wv n a) e (wv (A9 (- wv m b)) (Ai (- wv m b))) f)]) else none else none :=
 Eq.trans (by kernel_rfl)
 (Df (Gc (He m b)) (Df (Gc (((Te n a&&Te (A9 (- wv m b)) (Ai (- wv m b)))&&Tf e)&&Tf f)) rfl rfl) rfl)
abbrev _root_.Go.Proofs.S1.Ap.Sub.Kn:=A6 prog 42 Ap.Sub.spec
theorem Ap.Sub.Ad (hk:Ay prog Ap.Sub.Bh) (h:Hyp Ap.Sub.E f42 Ap.Sub.ts Ap.Sub.pre Ap.Sub.out):Ap.Sub.Kn :=
 Am (A2 hk _ _ _) func42 (by kernel_rfl) (by kernel_rfl) h
def Ap.Sf.Bh:List (Nat × Entry):=[(77,Ae.Ms.spec)]
def Ap.Sf.E:Env:=Bi (Bg Ap.Sf.Bh) (fun _=>false) (fun _=>none) (fun _=>none)
theorem Ap.Sf.ev (N:Nat) (n:Bool) (a:List Int) (e:Int):Bw Ap.Sf.E N f41 (Aq f41) [.agg [.bool n,.ints .arg .u32 a,.int .i64 e]]=bif ((length a:Int)==(0:Int)) then some (.int .i64 0) else bif (He n a) then some (.int .i64 (Ab ((Vx (wv n a))+e))) else none :=
 Eq.trans (by kernel_rfl)
 (Eu rfl (Df (Gc (He n a)) rfl rfl))
abbrev _root_.Go.Proofs.S1.Ap.Sf.Kn:=A6 prog 41 Ap.Sf.spec
theorem Ap.Sf.Ad (hk:Ay prog Ap.Sf.Bh) (h:Hyp Ap.Sf.E f41 Ap.Sf.ts Ap.Sf.pre Ap.Sf.out):Ap.Sf.Kn :=
 Am (A2 hk _ _ _) func41 (by kernel_rfl) (by kernel_rfl) h
def Ap.Sign.Bh:List (Nat × Entry):=[]
def Ap.Sign.E:Env:=Bi (Bg Ap.Sign.Bh) (fun _=>false) (fun _=>none) (fun _=>none)
theorem Ap.Sign.ev (N:Nat) (n:Bool) (a:List Int) (e:Int):Bw Ap.Sign.E N f40 (Aq f40) [.agg [.bool n,.ints .arg .u32 a,.int .i64 e]]=bif n then some (.int .i64 (-1:Int)) else some (.int .i64 (min (length a:Int) 1)):=by kernel_rfl
abbrev _root_.Go.Proofs.S1.Ap.Sign.Kn:=A6 prog 40 Ap.Sign.spec
theorem Ap.Sign.Ad (hk:Ay prog Ap.Sign.Bh) (h:Hyp Ap.Sign.E f40 Ap.Sign.ts Ap.Sign.pre Ap.Sign.out):Ap.Sign.Kn :=
 Am (A2 hk _ _ _) func40 (by kernel_rfl) (by kernel_rfl) h
def Ap.Compare.Bh:List (Nat × Entry):=[(40,Ap.Sign.spec),(42,Ap.Sub.spec),(41,Ap.Sf.spec)]
def Ap.Compare.E:Env:=Bi (Bg Ap.Compare.Bh) (fun _=>false) (fun _=>none) (fun _=>none)
theorem Ap.Compare.ev (N:Nat) (n:Bool) (a:List Int) (e:Int) (m:Bool) (b:List Int) (f:Int):Bw Ap.Compare.E N f17 (Aq f17) [.agg [.bool n,.ints .arg .u32 a,.int .i64 e],.agg [.bool m,.ints .arg .u32 b,.int .i64 f]]=bif (He n a) then bif (He m b) then bif ((Kk (wv n a)) !=(Kk (wv m b))) then bif (He n a) then bif (He m b) then some (.int .i64 (min 1 (max (-1:Int) (Ab ((Kk (wv n a))-(Kk (wv m b))))))) else none else none else bif (He n a&&Tf e) then bif (He m b&&Tf f) then bif ((G0 (wv n a) e) !=(G0 (wv m b) f)) then bif (He n a&&Tf e) then bif (He m b&&Tf f) then bif (He n a) then bif ((A3 (G0 (wv m b) f) (G0 (wv n a) e))==(A3 0 (Kk (wv n a)))) then some (.int .i64 1) else some (.int .i64 (-1:Int)) else none else none else none else bif (((Te n a&&Te m b)&&Tf e)&&Tf f) then bif (He (A9 (N2 (wv n a) e (- wv m b) f)) (Ai (N2 (wv n a) e (- wv m b) f))) then some (.int .i64 (Kk (wv (A9 (N2 (wv n a) e (- wv m b) f)) (Ai (N2 (wv n a) e (- wv m b) f))))) else none else none else none else none else none else none :=
 Eq.trans (by kernel_rfl)
 (Df (Gc (He n a)) (Df (Gc (He m b)) (Eu (Df (Gc (He n a)) (Df (Gc (He m b)) rfl rfl) rfl) (Df (Gc (He n a&&Tf e)) (Df (Gc (He m b&&Tf f)) (Eu (Df (Gc (He n a&&Tf e)) (Df (Gc (He m b&&Tf f)) (Df (Gc (He n a)) rfl rfl) rfl) rfl) rfl) rfl) rfl)) rfl) rfl)
abbrev _root_.Go.Proofs.S1.Ap.Compare.Kn:=A6 prog 17 Ap.Compare.spec
theorem Ap.Compare.Ad (hk:Ay prog Ap.Compare.Bh) (h:Hyp Ap.Compare.E f17 Ap.Compare.ts Ap.Compare.pre Ap.Compare.out):Ap.Compare.Kn :=
 Am (A2 hk _ _ _) func17 (by kernel_rfl) (by kernel_rfl) h
end EqRefC
open EqRefC
def Afp (v e:Int):Option DV:=some (.agg [.bool (A9 v),.ints .arg .u32 (Ai v),.int .i64 e])
theorem wdy {drops:List Nat} {b:Bool} {l:List Int} {e:Int}:Wk drops (.agg [.bool b,.ints .arg .u32 l,.int .i64 e]) (.agg [.bool b,.ints .arg .u32 l,.int .i64 e]):=Wk.I5 (.cons .bool (.cons .Afz (.cons .int .nil)))
theorem Aid (v:Int):(Ai v).getD 0 0=((v.natAbs%4294967296:Nat):Int):=by
 have hg:=Ot (Fe v) 0
 rw [C5,Nat.mul_zero,Asq,Nat.div_one] at hg
 exact hg
theorem Ac6 {v:Int} {k:Nat} (h:Cy v.natAbs<268435456):Cy (Ik v k).natAbs<268435456:=by
 rw [Jk]
 exact Asu (Jy (Nat.div_le_self _ _)) h
theorem Ags {v:Int} {k:Nat} (h0:v≠0) (h:v.natAbs%2^k=0):Ik v k≠0∧Ph (Ik v k).natAbs+k=Ph v.natAbs:=by
 have hv:=Nat.div_add_mod v.natAbs (2^k)
 rw [h,As0,Asf] at hv
 have hq:v.natAbs / 2^k≠0:=by
  intro e; rw [e] at hv; omega
 have ht:=Xj hq k
 rw [hv] at ht
 have ha:=Jk v k
 refine ⟨by omega,?_⟩
 rw [ha]
 omega
theorem Ahd (N:Nat):∀ (F:Nat) (v e:Int),v≠0→Ph v.natAbs<F→Cy v.natAbs<268435456→-4000000000000≤e→e+Ph v.natAbs≤400000000000000 →
 Ap.Of.L1 N F e (A9 v) (Ai v)=Afp (mD v) (eD v e):=by
 intro F
 induction F with
 | zero=>intro v e _ h; omega
 | succ F ih =>
   intro v e h0 hF hv h1 h2
   rw [Ap.Of.C3,Hb hv,Arr,F6]
   by_cases ho:v%2=1
   ·have:Aev v=true:=Ars ho
    rw [this,Asr,Arv,Ane ho,Ann ho]
    rfl
   ·have:Aev v=false:=Arw ho
    have hm:v.natAbs%2^1=0:=by rw [Nat.pow_one]; omega
    obtain ⟨n1,n2⟩:=Ags h0 hm
    rw [this,Atb,Arr,Arr,Ao (by omega) (by omega),ih (Ik v 1) (e+1) n1 (by omega) (Ac6 hv) (by omega) (by omega),Aht hm]
    have:=Aio (e:=e) hm h0
    rw [← this]
    rfl
theorem Ahe (N:Nat):∀ (F:Nat) (v e:Int),v≠0→Ph v.natAbs<F→Ph v.natAbs<N→Cy v.natAbs<268435456→-4000000000000≤e→e+Ph v.natAbs≤400000000000000 →
 Ap.Of.L0 N F e (A9 v) (Ai v)=Afp (mD v) (eD v e):=by
 intro F
 induction F with
 | zero=>intro v e _ h; omega
 | succ F ih =>
   intro v e h0 hF hN hv h1 h2
   have hl:=G1 (n:=v.natAbs) (by omega)
   rw [Ap.Of.Au,B8,Ars (by omega),Arr,Aid]
   by_cases hz:v.natAbs%4294967296=0
   ·have e0:(((v.natAbs%4294967296:Nat):Int)==0)=true:=by rw [hz]; rfl
    have o3:F2 ((Ai v).drop 1)=true:=K2 (by rw [List.length_drop,B8]; omega) (Aae (Fe v))
    have hm:v.natAbs%2^32=0:=by rw [two32]; exact hz
    obtain ⟨n1,n2⟩:=Ags h0 hm
    rw [e0,Arr,Ars (by omega),Arr,o3,Arr,Acy,Ao (by omega) (by omega),ih (Ik v 32) (e+32) n1 (by omega) (by omega) (Ac6 hv) (by omega) (by omega),Aht hm]
    have:=Aio (e:=e) hm h0
    rw [← this]
    rfl
   ·have e0:(((v.natAbs%4294967296:Nat):Int)==0)=false:=by simp only [Asn,ne_eq]; omega
    rw [e0,Arv]
    exact Ahd N N v e h0 hN hv h1 h2
theorem Agd {v:Int} (h0:v≠0) (h:Cy v.natAbs<268435456):Ph v.natAbs<8589934592:=by
 have h1:=Alz (n:=v.natAbs) (by omega)
 have h2:=Wv (n:=v.natAbs)
 omega
theorem Ap.Of.known:Ap.Of.Kn:=Ap.Of.Ad (.cons Ae.Fq.known (.cons Ae.Made.known (.cons Ae.Sg.known .nil))) fun n a e hp=>by
 obtain ⟨h1,h2⟩:=Af.1 hp
 obtain ⟨v,rfl,rfl,hv⟩:=G7 h1
 have h2:=Al.1 h2
 by_cases h0:v=0
 ·subst h0
  refine ⟨0,.agg [.bool false,.nil,.int .i64 (0:Int)],[],?_,?_⟩
  ·rw [Ap.Of.ev]; rfl
  ·show Wk [] _ (.agg [.bool (A9 (mD (wv (A9 0) (Ai 0)))),.ints .arg .u32 (Ai (mD (wv (A9 0) (Ai 0)))),.int .i64 (eD (wv (A9 0) (Ai 0)) e)])
   rw [F6,Ti.2 rfl]
   exact Wk.I5 (.cons .bool (.cons (.nil _ _) (.cons .int .nil)))
 ·refine ⟨Ph v.natAbs+1,Ap.Of.out [.b (A9 v),.l (Ai v),.i e],[],?_,wdy⟩
  have ht:=Agd h0 hv
  have hl:=G1 (n:=v.natAbs) (by omega)
  have e0:(((Ai v).length:Int)==0)=false:=by rw [B8]; simp only [Asn,ne_eq]; omega
  show _=Afp (mD (wv (A9 v) (Ai v))) (eD (wv (A9 v) (Ai v)) e)
  rw [Ap.Of.ev,e0,Arv,F6]
  exact Ahe _ _ v e h0 (by omega) (by omega) hv (by omega) (by omega)
theorem Ap.Neg.known:Ap.Neg.Kn:=Ap.Neg.Ad (.cons Ae.Neg.known .nil) fun n a e hp=>by
 refine ⟨0,Ap.Neg.out [.b n,.l a,.i e],[],?_,wdy⟩
 have hp:He n a=true:=hp
 rw [Ap.Neg.ev,hp,Arr]
 rfl
theorem Q2 (v:Int):(((Ai v).length:Int)==0)=decide (v=0):=by
 rw [B8,Ar7]
 simp only [beq_iff_eq,Ary]
 constructor
 ·intro h
  rcases Int.lt_trichotomy v 0 with k | k | k
  ·have:=G1 (n:=v.natAbs) (by omega); omega
  ·exact k
  ·have:=G1 (n:=v.natAbs) (by omega); omega
 ·intro h; rw [h]; rfl
theorem Ap.Sh.known:Ap.Sh.Kn:=Ap.Sh.Ad .nil fun n a e m b f hp=>by
 obtain ⟨h1,h2⟩:=Af.1 hp
 obtain ⟨v,rfl,rfl,hv⟩:=G7 h1
 obtain ⟨w,rfl,rfl,hw⟩:=G7 h2
 refine ⟨0,Ap.Sh.out [.b (A9 v),.l (Ai v),.i e,.b (A9 w),.l (Ai w),.i f],[],?_,.int⟩
 show _=some (DV.int .i64 (Ci (wv (A9 v) (Ai v)) e (wv (A9 w) (Ai w)) f))
 rw [Ap.Sh.ev,F6,F6,Q2,Q2]
 unfold Ci
 by_cases h:v=0
 ·rw [Ars h,Arr,Ase h]
 ·rw [Arw h,Arv,Asd h]
  by_cases h':w=0
  ·rw [Ars h',Arr,Ase h']
  ·rw [Arw h',Arv,Asd h']
theorem T1 (k:Int):E8 0 k=0:=by
 unfold E8
 split
 ·exact Int.zero_mul _
 ·exact Oa _
theorem Ap.Level.known:Ap.Level.Kn:=Ap.Level.Ad (.cons Ae.Bf.known .nil) fun n a e f hp=>by
 obtain ⟨h1,h2⟩:=Af.1 hp
 obtain ⟨v,rfl,rfl,hv⟩:=L8 h1
 refine ⟨0,Ap.Level.out [.b (A9 v),.l (Ai v),.i e,.i f],[],?_,Y1⟩
 show _=Aa7 (E8 (wv (A9 v) (Ai v)) (e-f))
 unfold Zu at h2
 rw [F6] at h2
 obtain ⟨h3,h4⟩:=Af.1 h2
 have h3:=Al.1 h3
 have h4:=Al.1 h4
 rw [Ap.Level.ev,F6,Q2]
 by_cases h:v=0
 ·rw [Ars h,Arr,h,T1]; rfl
 ·have o:Am9 (Ab (e-f))=true:=by rw [Ao (by omega) (by omega)]; exact Al.2 (by omega)
  rw [Arw h,Arv,h1,o,Arx,Arr,Ao (by omega) (by omega)]
  rfl
theorem Ah1 (n k:Nat):Cy (n*2^k)≤Cy n+k:=by
 refine Kt ?_
 have h1:=Jp n
 have h2:n*2^k<2^(32*Cy n)*2^k:=(Nat.mul_lt_mul_right (By k)).2 h1
 rw [← Asg] at h2
 exact As3 h2 (Ar6 (by decide) (by omega))
theorem Ah2 (v k:Int):Cy (E8 v k).natAbs≤Cy v.natAbs+k.toNat:=by
 unfold E8
 by_cases h:0≤k
 ·rw [Ase h,Int.natAbs_mul,Int.natAbs_natCast]
  exact Ah1 _ _
 ·rw [Asd h,Jk]
  exact Asz (Jy (Nat.div_le_self _ _)) (Nat.le_add_right _ _)
theorem Z9 (v w:Int):Cy (v+w).natAbs≤max (Cy v.natAbs) (Cy w.natAbs)+1:=by
 refine Kt ?_
 have h1:=Jp v.natAbs
 have h2:=Jp w.natAbs
 have h3:2^(32*Cy v.natAbs)≤2^(32*max (Cy v.natAbs) (Cy w.natAbs)):=Ar6 (by decide) (by omega)
 have h4:2^(32*Cy w.natAbs)≤2^(32*max (Cy v.natAbs) (Cy w.natAbs)):=Ar6 (by decide) (by omega)
 rw [Lf]
 omega
theorem Uq {v e w f:Int} (he:-400000≤e∧e≤400000) (hf:-400000≤f∧f≤400000):-400000≤Ci v e w f∧Ci v e w f≤400000:=by
 unfold Ci
 split
 ·exact hf
 ·split
  ·exact he
  ·omega
theorem Ta {v e l:Int} (hv:Cy v.natAbs<134217728) (h:e-l≤800000):Cy (E8 v (e-l)).natAbs<140000000:=by
 have:=Ah2 v (e-l)
 omega
theorem Ap.Add.known:Ap.Add.Kn:=Ap.Add.Ad (.cons Ae.Add.known (.cons Ap.Level.known (.cons Ap.Sh.known (.cons Ap.Of.known .nil)))) fun n a e m b f hp=>by
 obtain ⟨h1,hf⟩:=Af.1 hp
 obtain ⟨h2,he⟩:=Af.1 h1
 obtain ⟨h3,h4⟩:=Af.1 h2
 obtain ⟨v,rfl,rfl,hv⟩:=L8 h3
 obtain ⟨w,rfl,rfl,hw⟩:=L8 h4
 have he:=Al.1 he
 have hf:=Al.1 hf
 refine ⟨0,Ap.Add.out [.b (A9 v),.l (Ai v),.i e,.b (A9 w),.l (Ai w),.i f],[],?_,wdy⟩
 show _=Afp (N2 (wv (A9 v) (Ai v)) e (wv (A9 w) (Ai w)) f) (Aji (wv (A9 v) (Ai v)) e (wv (A9 w) (Ai w)) f)
 have hlo:=Uq (v:=v) (w:=w) he hf
 have l1:=Ta (l:=Ci v e w f) hv (show e-Ci v e w f≤800000 by omega)
 have l2:=Ta (l:=Ci v e w f) hw (show f-Ci v e w f≤800000 by omega)
 have l3:=Z9 (E8 v (e-Ci v e w f)) (E8 w (f-Ci v e w f))
 have o1:Zu v e (Ci v e w f)=true:=Af.2 ⟨Al.2 (by omega),Al.2 (by omega)⟩
 have o2:Zu w f (Ci v e w f)=true:=Af.2 ⟨Al.2 (by omega),Al.2 (by omega)⟩
 have o3:Vu (Ci v e w f)=true:=Al.2 (by omega)
 rw [Ap.Add.ev]
 simp only [F6]
 rw [Hb (v:=v) (by omega),Hb (v:=w) (by omega),h3,h4,o1,o2,Hb (v:=E8 v (e-Ci v e w f)) (by omega),Hb (v:=E8 w (f-Ci v e w f)) (by omega),Hb (v:=E8 v (e-Ci v e w f)+E8 w (f-Ci v e w f)) (by omega),o3]
 simp only [Arx,Arr]
 rfl
theorem Ap.Sub.known:Ap.Sub.Kn:=Ap.Sub.Ad (.cons Ap.Add.known (.cons Ap.Neg.known .nil)) fun n a e m b f hp=>by
 obtain ⟨h1,hf⟩:=Af.1 hp
 obtain ⟨h2,he⟩:=Af.1 h1
 obtain ⟨h3,h4⟩:=Af.1 h2
 obtain ⟨w,rfl,rfl,hw⟩:=L8 h4
 refine ⟨0,Ap.Sub.out [.b n,.l a,.i e,.b (A9 w),.l (Ai w),.i f],[],?_,wdy⟩
 show _=Afp (N2 (wv n a) e (- wv (A9 w) (Ai w)) f) (Aji (wv n a) e (- wv (A9 w) (Ai w)) f)
 rw [Ap.Sub.ev]
 simp only [F6]
 rw [Hb (v:=w) (by omega),h3,Ahc (v:=-w) (by rw [Int.natAbs_neg]; exact hw),he,hf]
 rfl
theorem Aaa {v:Int} (h:Cy v.natAbs<268435456):0≤Vx v∧Vx v≤8589934593:=by
 have h2:=Wv (n:=v.natAbs)
 unfold Vx
 split
 ·omega
 ·constructor<;>omega
theorem Ap.Sf.known:Ap.Sf.Kn:=Ap.Sf.Ad (.cons Ae.Ms.known .nil) fun n a e hp=>by
 obtain ⟨h1,he⟩:=Af.1 hp
 obtain ⟨v,rfl,rfl,hv⟩:=G7 h1
 have he:=Al.1 he
 refine ⟨0,Ap.Sf.out [.b (A9 v),.l (Ai v),.i e],[],?_,.int⟩
 show _=some (DV.int .i64 (G0 (wv (A9 v) (Ai v)) e))
 have hb:=Aaa hv
 rw [Ap.Sf.ev,F6,Q2,h1]
 unfold G0
 by_cases h:v=0
 ·rw [Ars h,Arr,Ase h]
 ·rw [Arw h,Arv,Arr,Asd h,Ao (by omega) (by omega)]
theorem Ap.Sign.known:Ap.Sign.Kn:=Ap.Sign.Ad .nil fun n a e hp=>by
 obtain ⟨v,rfl,rfl,hv⟩:=G7 hp
 refine ⟨0,Ap.Sign.out [.b (A9 v),.l (Ai v),.i e],[],?_,.int⟩
 show _=some (DV.int .i64 (Kk (wv (A9 v) (Ai v))))
 rw [Ap.Sign.ev,F6,B8]
 unfold Kk A9
 by_cases h:v<0
 ·rw [Ars h,Arr,Ase h]
 ·rw [Arw h,Arv,Asd h]
  by_cases h':v=0
  ·rw [Ase h',h']; rfl
  ·have:=G1 (n:=v.natAbs) (by omega)
   rw [Asd h']
   congr 2
   omega
open EqRefC
theorem Ab6 {v e w f:Int}:(v≠0→0≤e-Ci v e w f)∧(w≠0→0≤f-Ci v e w f):=by
 unfold Ci
 constructor
 ·intro h
  rw [Asd h]
  split<;>omega
 ·intro h
  split
  ·omega
  ·omega
theorem T2 {v k:Int} (h:v≠0→0≤k):∃ j:Nat,E8 v k=v*((2^j:Nat):Int)∧(v≠0→(j:Int)=k):=by
 by_cases h0:v=0
 ·exact ⟨0,by rw [h0,T1,Int.zero_mul],fun k=>absurd h0 k⟩
 ·have hk:=h h0
  refine ⟨k.toNat,?_,fun _=>by omega⟩
  unfold E8
  rw [Ase hk]
theorem Ui (v:Int) (j:Nat):(v*((2^j:Nat):Int)<0↔v<0)∧(v*((2^j:Nat):Int)=0↔v=0):=by
 have hp:=By j
 constructor
 ·constructor
  ·intro h
   rcases Int.lt_or_le v 0 with h1 | h1
   ·exact h1
   ·have:=Int.mul_nonneg h1 (Int.natCast_nonneg (2^j)); omega
  ·intro h
   exact Int.mul_neg_of_neg_of_pos h (by omega)
 ·constructor
  ·intro h
   rcases Int.mul_eq_zero.1 h with h | h
   ·exact h
   ·omega
  ·intro h; rw [h,Int.zero_mul]
theorem Xr (v:Int) (j:Nat):Kk (v*((2^j:Nat):Int))=Kk v:=by
 obtain ⟨h1,h2⟩:=Ui v j
 unfold Kk
 simp only [h1,h2]
theorem Am1 (v:Int):Kk (mD v)=Kk v:=by
 have:=Xr (mD v) (Ph v.natAbs)
 rw [← X4] at this
 exact this.symm
theorem Ald (x y:Int):Kk (x+-y)=S5 x y:=by
 unfold Kk S5
 by_cases h:x<y
 ·rw [Ase (by omega),Ase h]
 ·rw [Asd (by omega),Asd h]
  by_cases h':y<x
  ·rw [Asd (by omega),Ase h']
  ·rw [Ase (by omega),Asd h']
theorem Akn (v e w f:Int):Ci v e (-w) f=Ci v e w f:=by
 unfold Ci
 have:(-w=0)=(w=0):=propext ⟨fun h=>by omega,fun h=>by omega⟩
 simp only [this]
theorem Ai0 {x y:Int} (h:Kk x≠Kk y):S5 x y=min 1 (max (-1) (Kk x-Kk y)):=by
 unfold Kk at h ⊢
 unfold S5
 rcases Int.lt_trichotomy x 0 with h1 | h1 | h1<;>rcases Int.lt_trichotomy y 0 with h2 | h2 | h2
 all_goals
  first
  | (exfalso; apply h; simp [show x<0 by omega,show y<0 by omega]; done)
  | (exfalso; apply h; subst h1; subst h2; rfl)
  | (exfalso; apply h; rw [Asd (by omega),Asd (by omega),Asd (by omega),Asd (by omega)]; done)
  | skip
 ·rw [Ase (by omega),Ase (by omega),Asd (by omega),Ase (by omega)]; decide
 ·rw [Ase (by omega),Ase (by omega),Asd (by omega),Asd (by omega)]; decide
 ·rw [Asd (by omega),Ase (by omega),Asd (by omega),Ase (by omega),Ase (by omega)]; decide
 ·rw [Ase (by omega),Asd (by omega),Ase (by omega),Asd (by omega),Asd (by omega)]; decide
 ·rw [Asd (by omega),Ase (by omega),Asd (by omega),Asd (by omega),Ase (by omega)]; decide
 ·rw [Asd (by omega),Ase (by omega),Asd (by omega),Asd (by omega),Asd (by omega),Ase (by omega)]; decide
theorem Us {a b:Nat} (ha:a≠0) (h:a.log2<b.log2):a<b:=by
 rcases Asp a b with k | k
 ·exact k
 ·have hb:b≠0:=by
   intro e; rw [e] at h
   exact absurd h (by rw [show (0:Nat).log2=0 by decide]; omega)
  have:=(Nat.le_log2 ha).2 (Asz (Nat.log2_self_le hb) k)
  omega
theorem Alc {v e w f:Int} (hs:Kk v=Kk w) (ht:G0 v e≠G0 w f) :
 S6 v e w f=if (decide (G0 w f<G0 v e)==decide (0<Kk v))=true then 1 else -1:=by
 obtain ⟨u1,u2⟩:=Ab6 (v:=v) (e:=e) (w:=w) (f:=f)
 obtain ⟨j,hx,hj⟩:=T2 u1
 obtain ⟨k,hy,hk⟩:=T2 u2
 unfold S6
 rw [hx,hy]
 have z:v=0↔w=0:=by
  unfold Kk at hs
  constructor
  ·intro h; subst h
   revert hs
   simp
   split<;>simp_all
  ·intro h; subst h
   revert hs
   simp
   split<;>simp_all
 by_cases v0:v=0
 ·exfalso
  apply ht
  unfold G0
  rw [Ase v0,Ase (z.1 v0)]
 ·have w0:w≠0:=fun h=>v0 (z.2 h)
  have hj:=hj v0
  have hk:=hk w0
  have nv:v.natAbs≠0:=by omega
  have nw:w.natAbs≠0:=by omega
  have l1:=Kc v.natAbs j nv
  have l2:=Kc w.natAbs k nw
  have ax:(v*((2^j:Nat):Int)).natAbs=v.natAbs*2^j:=by rw [Int.natAbs_mul,Int.natAbs_natCast]
  have ay:(w*((2^k:Nat):Int)).natAbs=w.natAbs*2^k:=by rw [Int.natAbs_mul,Int.natAbs_natCast]
  have sx:=(Ui v j).1
  have sy:=(Ui w k).1
  have zx:=Ahm v0 j
  have zy:=Ahm w0 k
  have tv:G0 v e=(v.natAbs.log2:Int)+1+e:=by unfold G0 Vx; rw [Asd v0,Asd v0]
  have tw:G0 w f=(w.natAbs.log2:Int)+1+f:=by unfold G0 Vx; rw [Asd w0,Asd w0]
  have big:G0 w f<G0 v e→w.natAbs*2^k<v.natAbs*2^j:=fun h=>Us (Gf nw) (by omega)
  have lit:G0 v e<G0 w f→v.natAbs*2^j<w.natAbs*2^k:=fun h=>Us (Gf nv) (by omega)
  generalize v*((2^j:Nat):Int)=x at *
  generalize w*((2^k:Nat):Int)=y at *
  by_cases hv:v<0
  ·have sv:Kk v=-1:=by unfold Kk; rw [Ase hv]
   have hw:w<0:=by
    rw [sv] at hs
    unfold Kk at hs
    rcases Int.lt_or_le w 0 with q | q
    ·exact q
    ·rw [Asd (by omega),Asd w0] at hs; omega
   rw [sv]
   unfold S5
   by_cases h:G0 w f<G0 v e
   ·have:=big h
    rw [Ars h,Ase (by omega)]; rfl
   ·have:=lit (by omega)
    rw [Arw h,Asd (by omega),Ase (by omega)]; rfl
  ·have sv:Kk v=1:=by unfold Kk; rw [Asd hv,Asd v0]
   have hw:¬ w<0:=by
    intro q
    rw [sv] at hs
    unfold Kk at hs
    rw [Ase q] at hs; omega
   rw [sv]
   unfold S5
   by_cases h:G0 w f<G0 v e
   ·have:=big h
    rw [Ars h,Asd (by omega),Ase (by omega)]; rfl
   ·have:=lit (by omega)
    rw [Arw h,Ase (by omega)]; rfl
theorem Ajw (v e w f:Int):Kk (N2 v e (-w) f)=S6 v e w f:=by
 obtain ⟨u1,u2⟩:=Ab6 (v:=v) (e:=e) (w:=w) (f:=f)
 obtain ⟨k,hy,hk⟩:=T2 u2
 have hy':E8 (-w) (f-Ci v e w f)=-(E8 w (f-Ci v e w f)):=by
  by_cases w0:w=0
  ·rw [w0]; show E8 0 _=_; rw [T1]; rfl
  ·unfold E8
   rw [Ase (u2 w0),Ase (u2 w0),Int.neg_mul]
 unfold N2 Ajf S6
 rw [Am1,Akn,hy',Ald]
theorem Afq {v e w f:Int} (h:Kk v≠Kk w):S6 v e w f=min 1 (max (-1) (Kk v-Kk w)):=by
 obtain ⟨u1,u2⟩:=Ab6 (v:=v) (e:=e) (w:=w) (f:=f)
 obtain ⟨j,hx,hj⟩:=T2 u1
 obtain ⟨k,hy,hk⟩:=T2 u2
 have e1:=Xr v j
 have e2:=Xr w k
 unfold S6
 rw [hx,hy,← e1,← e2]
 exact Ai0 (by rw [e1,e2]; exact h)
theorem T3 (v:Int):-1≤Kk v∧Kk v≤1:=by unfold Kk; split<;>(try split)<;>omega
theorem Ajh {v e w f:Int} (hv:Cy v.natAbs<134217728) (hw:Cy w.natAbs<134217728) (he:-400000≤e∧e≤400000) (hf:-400000≤f∧f≤400000):Cy (N2 v e w f).natAbs<140000001:=by
 have hlo:=Uq (v:=v) (w:=w) he hf
 have l1:=Ta (l:=Ci v e w f) hv (show e-Ci v e w f≤800000 by omega)
 have l2:=Ta (l:=Ci v e w f) hw (show f-Ci v e w f≤800000 by omega)
 have l3:=Z9 (E8 v (e-Ci v e w f)) (E8 w (f-Ci v e w f))
 have l4:=Jy (Wu (Ajf v e w f))
 unfold N2
 unfold Ajf at l4 ⊢
 omega
theorem Ap.Compare.known:Ap.Compare.Kn:=Ap.Compare.Ad (.cons Ap.Sign.known (.cons Ap.Sub.known (.cons Ap.Sf.known .nil))) fun n a e m b f hp=>by
 obtain ⟨h1,hf⟩:=Af.1 hp
 obtain ⟨h2,he⟩:=Af.1 h1
 obtain ⟨h3,h4⟩:=Af.1 h2
 obtain ⟨v,rfl,rfl,hv⟩:=L8 h3
 obtain ⟨w,rfl,rfl,hw⟩:=L8 h4
 refine ⟨0,Ap.Compare.out [.b (A9 v),.l (Ai v),.i e,.b (A9 w),.l (Ai w),.i f],[],?_,.int⟩
 show _=some (DV.int .i64 (S6 (wv (A9 v) (Ai v)) e (wv (A9 w) (Ai w)) f))
 have bv:=T3 v
 have bw:=T3 w
 have hm:=Ajh (v:=v) (w:=-w) hv (by rw [Int.natAbs_neg]; exact hw) (Al.1 he) (Al.1 hf)
 rw [Ap.Compare.ev]
 simp only [F6]
 rw [Hb (v:=v) (by omega),Hb (v:=w) (by omega),Hb (v:=N2 v e (-w) f) (by omega),h3,h4,he,hf,Av,Av]
 simp only [Arx,Arr]
 by_cases hs:Kk v=Kk w
 ·have e0:(Kk v !=Kk w)=false:=by simp [hs]
  rw [e0,Arv]
  by_cases ht:G0 v e=G0 w f
  ·have e1:(G0 v e !=G0 w f)=false:=by simp [ht]
   rw [e1,Arv,Ajw]
  ·have e1:(G0 v e !=G0 w f)=true:=by simp [ht]
   rw [e1,Arr,Alc hs ht]
   cases (decide (G0 w f<G0 v e)==decide (0<Kk v))<;>rfl
 ·have e0:(Kk v !=Kk w)=true:=by simp [hs]
  rw [e0,Arr,Afq hs,Ao (by omega) (by omega)]
namespace EqRefE
def A0.Value.Bh:List (Nat × Entry):=[(44,Ae.Neg.spec),(43,Ae.Of.spec),(45,Ap.Of.spec),(37,A0.Hy.spec),(39,A0.Neg.spec),(36,A0.Power.spec)]
def A0.Value.E:Env:=Bi (Bg A0.Value.Bh) (fun _=>false) (fun _=>none) (fun _=>none)
theorem A0.Value.ev (N:Nat) (x:Int):Bw A0.Value.E N f18 (Aq f18) [.int .u64 x]=bif (L9 x) then bif (Adr (Ab (Cg x))) then bif (L9 x) then bif (A3 0 (Ja x)) then bif (L9 x) then bif (Adr (Ab (Bb ((Cg x)+4503599627370496)))) then bif (L9 x) then bif (Aj x) then bif (C9 x) then bif (He (A9 ((Ab (Bb ((Cg x)+4503599627370496))))) (Ai ((Ab (Bb ((Cg x)+4503599627370496)))))) then bif (He (A9 (- wv (A9 ((Ab (Bb ((Cg x)+4503599627370496))))) (Ai ((Ab (Bb ((Cg x)+4503599627370496))))))) (Ai (- wv (A9 ((Ab (Bb ((Cg x)+4503599627370496))))) (Ai ((Ab (Bb ((Cg x)+4503599627370496)))))))&&Vu (Ab ((Ja x)-1075))) then some (.agg [.bool (A9 (mD (wv (A9 (- wv (A9 ((Ab (Bb ((Cg x)+4503599627370496))))) (Ai ((Ab (Bb ((Cg x)+4503599627370496))))))) (Ai (- wv (A9 ((Ab (Bb ((Cg x)+4503599627370496))))) (Ai ((Ab (Bb ((Cg x)+4503599627370496)))))))))),.ints .arg .u32 (Ai (mD (wv (A9 (- wv (A9 ((Ab (Bb ((Cg x)+4503599627370496))))) (Ai ((Ab (Bb ((Cg x)+4503599627370496))))))) (Ai (- wv (A9 ((Ab (Bb ((Cg x)+4503599627370496))))) (Ai ((Ab (Bb ((Cg x)+4503599627370496)))))))))),.int .i64 (eD (wv (A9 (- wv (A9 ((Ab (Bb ((Cg x)+4503599627370496))))) (Ai ((Ab (Bb ((Cg x)+4503599627370496))))))) (Ai (- wv (A9 ((Ab (Bb ((Cg x)+4503599627370496))))) (Ai ((Ab (Bb ((Cg x)+4503599627370496)))))))) (Ab ((Ja x)-1075)))]) else none else none else bif (He (A9 ((Ab (Bb ((Cg x)+4503599627370496))))) (Ai ((Ab (Bb ((Cg x)+4503599627370496)))))&&Vu (Ab ((Ja x)-1075))) then some (.agg [.bool (A9 (mD (wv (A9 ((Ab (Bb ((Cg x)+4503599627370496))))) (Ai ((Ab (Bb ((Cg x)+4503599627370496)))))))),.ints .arg .u32 (Ai (mD (wv (A9 ((Ab (Bb ((Cg x)+4503599627370496))))) (Ai ((Ab (Bb ((Cg x)+4503599627370496)))))))),.int .i64 (eD (wv (A9 ((Ab (Bb ((Cg x)+4503599627370496))))) (Ai ((Ab (Bb ((Cg x)+4503599627370496)))))) (Ab ((Ja x)-1075)))]) else none else none else none else none else none else bif (Aj x) then bif (C9 x) then bif (He (A9 ((Ab (Cg x)))) (Ai ((Ab (Cg x))))) then bif (He (A9 (- wv (A9 ((Ab (Cg x)))) (Ai ((Ab (Cg x)))))) (Ai (- wv (A9 ((Ab (Cg x)))) (Ai ((Ab (Cg x))))))&&Vu (-1074:Int)) then some (.agg [.bool (A9 (mD (wv (A9 (- wv (A9 ((Ab (Cg x)))) (Ai ((Ab (Cg x)))))) (Ai (- wv (A9 ((Ab (Cg x)))) (Ai ((Ab (Cg x))))))))),.ints .arg .u32 (Ai (mD (wv (A9 (- wv (A9 ((Ab (Cg x)))) (Ai ((Ab (Cg x)))))) (Ai (- wv (A9 ((Ab (Cg x)))) (Ai ((Ab (Cg x))))))))),.int .i64 (eD (wv (A9 (- wv (A9 ((Ab (Cg x)))) (Ai ((Ab (Cg x)))))) (Ai (- wv (A9 ((Ab (Cg x)))) (Ai ((Ab (Cg x))))))) (-1074:Int))]) else none else none else bif (He (A9 ((Ab (Cg x)))) (Ai ((Ab (Cg x))))&&Vu (-1074:Int)) then some (.agg [.bool (A9 (mD (wv (A9 ((Ab (Cg x)))) (Ai ((Ab (Cg x))))))),.ints .arg .u32 (Ai (mD (wv (A9 ((Ab (Cg x)))) (Ai ((Ab (Cg x))))))),.int .i64 (eD (wv (A9 ((Ab (Cg x)))) (Ai ((Ab (Cg x))))) (-1074:Int))]) else none else none else none else none else none:=by kernel_rfl
abbrev _root_.Go.Proofs.S1.A0.Value.Kn:=A6 prog 18 A0.Value.spec
theorem A0.Value.Ad (hk:Ay prog A0.Value.Bh) (h:Hyp A0.Value.E f18 A0.Value.ts A0.Value.pre A0.Value.out):A0.Value.Kn :=
 Am (A2 hk _ _ _) func18 (by kernel_rfl) (by kernel_rfl) h
end EqRefE
open EqRefE
theorem Adp {n k:Nat} (h:n<2^(32*k)) {m:Nat} (hk:k<m):Cy n<m:=Asu (Kt h) hk
theorem Qc (m:Nat):Gz false m=(m:Int):=rfl
theorem Zh (m:Nat):Gz true m=-(m:Int):=rfl
theorem A0.Value.known:A0.Value.Kn:=A0.Value.Ad (.cons Ae.Neg.known (.cons Ae.Of.known (.cons Ap.Of.known (.cons A0.Hy.known (.cons A0.Neg.known (.cons A0.Power.known .nil)))))) fun x hp=>by
 obtain ⟨n,rfl,hn⟩:=Bt (x:=x) hp
 refine ⟨0,A0.Value.out [.i n],[],?_,wdy⟩
 show _=Afp (mD (E9 n)) (eD (E9 n) (A7 n))
 have hf:=Hr n
 have hw:=G6 n
 have small:∀ k:Nat,k<2^54→Cy k<268435456:=fun k hk=>Adp (k:=2) (Nat.lt_trans hk (by decide)) (by omega)
 have o1:∀ k:Nat,k<2^54→He (A9 (k:Int)) (Ai (k:Int))=true:=fun k hk=>Hb (by rw [Int.natAbs_natCast]; exact small k hk)
 have o2:∀ k:Nat,k<2^54→He (A9 (-(k:Int))) (Ai (-(k:Int)))=true:=fun k hk=>Hb (by rw [Int.natAbs_neg,Int.natAbs_natCast]; exact small k hk)
 rw [A0.Value.ev]
 unfold Cg Ja C9 E9 A7
 simp only [F6,Art]
 have e1:Ab ((Co n:Nat):Int)=((Co n:Nat):Int):=Ao (by omega) (by omega)
 have e2:Ab (Bb (((Co n:Nat):Int)+4503599627370496))=((Co n+2^52:Nat):Int):=by
  rw [Cu (by omega) (by omega),Ao (by omega) (by omega)]; omega
 have i1:∀ k:Nat,k<2^54→Adr (k:Int)=true:=fun k hk=>Al.2 (by omega)
 rw [Kb,B6 hn,e1,e2,i1 _ (by omega),i1 _ (by omega),Av,Ao (by omega) (by omega)]
 simp only [Arr]
 unfold Ar Ax
 by_cases h:C8 n=0
 ·have o3:Vu (-1074)=true:=Al.2 (by omega)
  rw [Ase h,Ase h,Arw (by omega),Arv,o1 _ (by omega),o2 _ (by omega),o3]
  cases Bu n
  ·rw [Arv,Qc]; rfl
  ·rw [Arr,Zh]; rfl
 ·have o3:Vu ((C8 n:Int)-1075)=true:=Al.2 (by omega)
  rw [Asd h,Asd h,Ars (by omega),Arr,o1 _ (by omega),o2 _ (by omega),o3]
  cases Bu n
  ·rw [Arv,Qc]; rfl
  ·rw [Arr,Zh]; rfl
theorem Age {m t:Nat} (h:m<2^t) (h0:m≠0):Ph m<t:=Asu (Alz h0) ((As8 h0).2 h)
theorem Aga (b:Nat) (g:Int):Ir b g=Y2 (E9 (b:Int)) (Ax b) g:=by
 unfold Ir Y2 E9
 rw [Art]
 generalize 2^(Ax b-g).toNat=p
 unfold Gz
 cases Bu b
 ·exact Asc _ _
 ·show -((Ar b*p:Nat):Int)=-(Ar b:Int)*(p:Int)
  rw [Asc,Int.neg_mul]
theorem Ajo (b:Nat):(E9 (b:Int)).natAbs=Ar b:=by
 unfold E9 Gz
 rw [Art]
 split<;>omega
theorem Ame (b:Nat):Cy (E9 (b:Int)).natAbs<3∧-400000≤eD (E9 (b:Int)) (Ax b)∧eD (E9 (b:Int)) (Ax b)≤400000:=by
 have hm:=Er b
 have he:=Dt b
 have ha:=Ajo b
 refine ⟨Adp (k:=2) (by rw [ha]; exact Nat.lt_trans hm (by decide)) (by omega),?_⟩
 unfold eD
 by_cases h:E9 (b:Int)=0
 ·rw [Ase h]; omega
 ·rw [Asd h]
  have:=Age (m:=(E9 (b:Int)).natAbs) (t:=53) (by rw [ha]; exact hm) (by omega)
  omega
namespace EqRef08
def C1.ends.Bh:List (Nat × Entry):=[(38,A0.Finite.spec),(39,A0.Neg.spec)]
def C1.ends.E:Env:=Bi (Bg C1.ends.Bh) (fun _=>false) (fun _=>none) (fun _=>none)
theorem C1.ends.ev (N:Nat) (b:Int):Bw C1.ends.E N f16 (Aq f16) [.int .u64 b]=bif (Aj b) then bif (Da b) then some (.int .i64 0) else bif (Aj b) then bif (C9 b) then some (.int .i64 (-1:Int)) else some (.int .i64 1) else none else none:=by kernel_rfl
abbrev _root_.Go.Proofs.S1.C1.ends.Kn:=A6 prog 16 C1.ends.spec
theorem C1.ends.Ad (hk:Ay prog C1.ends.Bh) (h:Hyp C1.ends.E f16 C1.ends.ts C1.ends.pre C1.ends.out):C1.ends.Kn :=
 Am (A2 hk _ _ _) func16 (by kernel_rfl) (by kernel_rfl) h
def C1.Order.Bh:List (Nat × Entry):=[(17,Ap.Compare.spec),(15,A0.Kind.spec),(18,A0.Value.spec),(16,C1.ends.spec)]
def C1.Order.E:Env:=Bi (Bg C1.Order.Bh) (fun _=>false) (fun _=>none) (fun _=>none)
theorem C1.Order.ev (N:Nat) (a b:Int):Bw C1.Order.E N f9 (Aq f9) [.int .u64 a,.int .u64 b]=bif (L9 a) then bif (((Ba a)==(4:Int))||(L9 b)) then bif (((Ba a)==(4:Int))||((Ba b)==(4:Int))) then some (.tup [.int .i64 0,.bool false]) else bif (Aj a) then bif (Aj b) then bif (((Nq a) !=(0:Int))||((Nq b) !=(0:Int))) then some (.tup [.int .i64 (max (-1:Int) (min 1 (Ab ((Nq a)-(Nq b))))),.bool true]) else bif (Aj a) then bif (Aj b) then bif (((Te (A9 (mD (E9 a))) (Ai (mD (E9 a)))&&Te (A9 (mD (E9 b))) (Ai (mD (E9 b))))&&Tf (eD (E9 a) (A7 a)))&&Tf (eD (E9 b) (A7 b))) then some (.tup [.int .i64 (S6 (wv (A9 (mD (E9 a))) (Ai (mD (E9 a)))) (eD (E9 a) (A7 a)) (wv (A9 (mD (E9 b))) (Ai (mD (E9 b)))) (eD (E9 b) (A7 b))),.bool true]) else none else none else none else none else none else none else none :=
 Eq.trans (by kernel_rfl)
 (Eu (Aw (Kl ((Ba a)==(4:Int))) (Df (Aml ((Ba a)==(4:Int)) (L9 b)) (Aw (I9 ((Ba a)==(4:Int))) (Aw (Mt ((Ba a)==(4:Int))) (Df (Ts ((Ba a)==(4:Int)) ((Ba b)==(4:Int))) rfl (Eu (Eu (Aw (Kl ((Nq a) !=(0:Int))) (Aw (I9 ((Nq a) !=(0:Int))) (Aw (Mt ((Nq a) !=(0:Int))) (Df (Ts ((Nq a) !=(0:Int)) ((Nq b) !=(0:Int))) rfl rfl)))) rfl) rfl)))) rfl)) rfl)
abbrev _root_.Go.Proofs.S1.C1.Order.Kn:=A6 prog 9 C1.Order.spec
theorem C1.Order.Ad (hk:Ay prog C1.Order.Bh) (h:Hyp C1.Order.E f9 C1.Order.ts C1.Order.pre C1.Order.out):C1.Order.Kn :=
 Am (A2 hk _ _ _) func9 (by kernel_rfl) (by kernel_rfl) h
end EqRef08
namespace EqRef13
end EqRef13
open EqRef08 EqRef13
theorem C1.ends.known:C1.ends.Kn:=C1.ends.Ad (.cons A0.Finite.known (.cons A0.Neg.known .nil)) fun b hp=>by
 have hp:Aj b=true:=hp
 refine ⟨0,.int .i64 (Nq b),[],?_,.int⟩
 rw [C1.ends.ev,hp,Arr,Arr]
 unfold Nq
 cases Da b with
 | true=>rfl
 | false =>
   rw [Arv,Asd (by decide)]
   cases C9 b<;>rfl
theorem Adj (b:Nat):Te (A9 (mD (E9 (b:Int)))) (Ai (mD (E9 (b:Int))))=true∧He (A9 (mD (E9 (b:Int)))) (Ai (mD (E9 (b:Int))))=true∧Tf (eD (E9 (b:Int)) (Ax b))=true:=by
 obtain ⟨v1,v2,v3⟩:=Ame b
 have hl:Cy (mD (E9 (b:Int))).natAbs<3:=Asu (Jy (Wu _)) v1
 exact ⟨Ahc (by omega),Hb (by omega),Al.2 ⟨v2,v3⟩⟩
theorem Ala {a b:Nat} (ha:Ag a≠4) (hb:Ag b≠4):S6 (mD (E9 (a:Int))) (eD (E9 (a:Int)) (Ax a)) (mD (E9 (b:Int))) (eD (E9 (b:Int)) (Ax b))=if E6 a<E6 b then -1 else if E6 b<E6 a then 1 else 0:=by
 have pa:=Dt a
 have pb:=Dt b
 have ga:mD (E9 (a:Int))≠0→(-1074:Int)≤eD (E9 (a:Int)) (Ax a):=fun h=>Amb pa.1 (fun h0=>h (Ti.2 h0))
 have gb:mD (E9 (b:Int))≠0→(-1074:Int)≤eD (E9 (b:Int)) (Ax b):=fun h=>Amb pb.1 (fun h0=>h (Ti.2 h0))
 rw [Alb ga gb,Ac0 pa.1,Ac0 pb.1,← Aga,← Aga]
 have h1:=Xh (f:=-1074) ha hb pa.1 pb.1
 have h2:=Xh (f:=-1074) hb ha pb.1 pa.1
 unfold S5
 by_cases c1:Ir a (-1074)<Ir b (-1074)
 ·rw [Ase c1,Ase (h1.1 c1)]
 ·rw [Asd c1,Asd (fun h=>c1 (h1.2 h))]
  by_cases c2:Ir b (-1074)<Ir a (-1074)
  ·rw [Ase c2,Ase (h2.1 c2)]
  ·rw [Asd c2,Asd (fun h=>c2 (h2.2 h))]
theorem Ah5 {b:Nat} (hb:b<2^64):E6 b=Gz (Bu b) (b%2^63):=by
 have:=Nj (Bu b) (r:=b%2^63) (Nat.mod_lt _ (by decide))
 rw [Jv hb] at this
 exact this
theorem Ads {b:Nat} (hb:b<2^64) (h4:Ag b≠4):(Ii b=true→Nq (b:Int)=0∧-(Dy:Int)<E6 b∧E6 b<Dy)∧(Ii b=false→Ag b=3∧((Nq (b:Int)=1∧E6 b=Dy)∨(Nq (b:Int)=-1∧E6 b=-(Dy:Int)))):=by
 have hk:=Ah5 hb
 constructor
 ·intro hf
  obtain ⟨_,f3⟩:=Q8 hf
  have hl:=Q5 f3 h4
  refine ⟨by unfold Nq Da; rw [Art,hf,Ase rfl],?_⟩
  rw [hk]
  unfold Gz
  cases Bu b
  ·rw [Asd (by decide)]; omega
  ·rw [Ase rfl]; omega
 ·intro hf
  have h3:Ag b=3:=by
   unfold Ii at hf
   have:=of_decide_eq_false hf
   rcases Gh b with ⟨_,_,k⟩ | ⟨_,_,k⟩ | ⟨k,_,_⟩
   ·exact k
   ·exact absurd k h4
   ·omega
  have hi:=Q4 h3
  refine ⟨h3,?_⟩
  rw [hk,hi]
  unfold Nq Da C9 Gz
  rw [Art,hf,Asd (by decide)]
  cases Bu b
  ·left; exact ⟨rfl,rfl⟩
  ·right; exact ⟨rfl,rfl⟩
theorem C1.Order.known:C1.Order.Kn:=C1.Order.Ad (.cons Ap.Compare.known (.cons A0.Kind.known (.cons A0.Value.known (.cons C1.ends.known .nil)))) fun a b hp=>by
 obtain ⟨ha,hb⟩:=Af.1 (show (Aj a&&Aj b)=true from hp)
 obtain ⟨a,rfl,hn⟩:=Bt ha
 obtain ⟨b,rfl,hm⟩:=Bt hb
 refine ⟨0,.tup [.int .i64 (Qr (a:Int) (b:Int)),.bool (M8 (a:Int) (b:Int))],[],?_,Wk.E5 (.cons .int (.cons .bool .nil))⟩
 have kk:∀ n:Nat,Ba (n:Int)=(Ag n:Int):=fun _=>rfl
 have pe:∀ n:Nat,A7 (n:Int)=Ax n:=fun _=>rfl
 rw [C1.Order.ev,Kb,Kb,ha,hb,Arr,As4,Arr,Arr,Arr,Arr,Arr,kk,kk,pe,pe,F6,F6]
 unfold Qr M8 Ag7 Ag8
 rw [Art,Art]
 by_cases n4:Ag a=4∨Ag b=4
 ·have:(((Ag a:Nat):Int)==4||((Ag b:Nat):Int)==4)=true:=by
   rw [Bool.or_eq_true,beq_iff_eq,beq_iff_eq]; omega
  rw [this,Arr,Ase n4,Ars n4]; rfl
 ·have:(((Ag a:Nat):Int)==4||((Ag b:Nat):Int)==4)=false:=by
   rw [Bool.or_eq_false_iff,Asn,Asn]; omega
  rw [this,Arv,Asd n4,Arw n4,Atb]
  have a4:Ag a≠4:=fun h=>n4 (.inl h)
  have b4:Ag b≠4:=fun h=>n4 (.inr h)
  obtain ⟨a1,a2⟩:=Ads hn a4
  obtain ⟨b1,b2⟩:=Ads hm b4
  have hinf:(0:Int)<(Dy:Int):=by decide
  cases hfa:Ii a with
  | true =>
    obtain ⟨ea,ka1,ka2⟩:=a1 hfa
    cases hfb:Ii b with
    | true =>
      obtain ⟨eb,kb1,kb2⟩:=b1 hfb
      obtain ⟨o1,_,o3⟩:=Adj a
      obtain ⟨p1,_,p3⟩:=Adj b
      have hc:=Ala a4 b4
      rw [ea,eb,show (((0:Int) !=(0:Int))||((0:Int) !=(0:Int)))=false from rfl,Arv,o1,o3,p1,p3,hc]
      rfl
    | false =>
      obtain ⟨_,hb2⟩:=b2 hfb
      rcases hb2 with ⟨eb,kb⟩ | ⟨eb,kb⟩
      ·rw [ea,eb,kb,Ase ka2]; rfl
      ·rw [ea,eb,kb,Asd (by omega),Ase ka1]; rfl
  | false =>
    obtain ⟨_,ha2⟩:=a2 hfa
    cases hfb:Ii b with
    | true =>
      obtain ⟨eb,kb1,kb2⟩:=b1 hfb
      rcases ha2 with ⟨ea,ka⟩ | ⟨ea,ka⟩
      ·rw [ea,eb,ka,Asd (by omega),Ase kb2]; rfl
      ·rw [ea,eb,ka,Ase kb1]; rfl
    | false =>
      obtain ⟨_,hb2⟩:=b2 hfb
      rcases ha2 with ⟨ea,ka⟩ | ⟨ea,ka⟩<;>rcases hb2 with ⟨eb,kb⟩ | ⟨eb,kb⟩
      ·rw [ea,eb,ka,kb,Asd (by omega),Asd (by omega)]; rfl
      ·rw [ea,eb,ka,kb,Asd (by omega),Ase (by omega)]; rfl
      ·rw [ea,eb,ka,kb,Ase (by omega)]; rfl
      ·rw [ea,eb,ka,kb,Asd (by omega),Asd (by omega)]; rfl
open EqMat EqOf
namespace EqRef20
end EqRef20
open EqOf EqRef20
namespace EqSort
def A8.An.hint:Nat→Option Bc
 | 0=>some { keep:=[0,1,2,3,8],objs:=[],boxes:=[] }
 | 2=>some { keep:=[0,1,2,3,8,9],objs:=[],boxes:=[] }
 | _=>none
def A8.An.Bh:List (Nat × Entry):=[]
def A8.An.E:Env:=Bi (Bg A8.An.Bh) (fun _=>false) A8.An.hint (fun _=>none)
section
variable (N M0 M:Nat) (x:List Int) (a b:Int) (l:List Int)
def A8.An.L0:Option DV:=B3 A8.An.E N f112 (Aq f112) [1,0] [] M ⟨G8 53 [(0,.ints .arg .i64 x),(1,.int .i64 a),(2,.int .i64 b),(3,.fn 66 [] [.cellp [.ints .arg .u64 l]]),(8,.int .i64 (Ab (a+1)))],[]⟩
def A8.An.L1:Option DV:=B3 A8.An.E N f112 (Aq f112) [1,0,0,1,0,0,1,0] [M0] M ⟨G8 53 [(0,.ints .arg .i64 x),(1,.int .i64 a),(2,.int .i64 b),(3,.fn 66 [] [.cellp [.ints .arg .u64 l]]),(8,.int .i64 (Ab (a+1))),(9,.int .i64 (Ab (a+1)))],[]⟩
theorem A8.An.Au:A8.An.L0 N (M+1) x a b l=bif (A3 (Ab (a+1)) b) then A8.An.L1 N M N x a b l else some (.tup []):=by kernel_rfl
theorem A8.An.ev:Bw A8.An.E N f112 (Aq f112) [.ints .arg .i64 x,.int .i64 a,.int .i64 b,.fn 66 [] [.cellp [.ints .arg .u64 l]]] =
 A8.An.L0 N N x a b l:=by kernel_rfl
end
abbrev _root_.Go.Proofs.S1.A8.An.Kn:=A6 prog 112 A8.An.spec
theorem A8.An.Ad (hk:Ay prog A8.An.Bh) (h:Hyp A8.An.E f112 A8.An.ts A8.An.pre A8.An.out):A8.An.Kn :=
 Am (A2 hk _ _ _) func112 (by kernel_rfl) (by kernel_rfl) h
def A8.As.hint:Nat→Option Bc
 | 0=>some { keep:=[0,1,2,6,7,8],objs:=[],boxes:=[] }
 | 2=>some { keep:=[0,1,2,6],objs:=[],boxes:=[] }
 | 4=>some { keep:=[0,1,2,6,7,8],objs:=[],boxes:=[] }
 | _=>none
def A8.As.Bh:List (Nat × Entry):=[(112,A8.An.spec)]
def A8.As.E:Env:=Bi (Bg A8.As.Bh) (fun _=>false) A8.As.hint (fun _=>none)
section
variable (N M0 M:Nat) (x:List Int) (n:Int) (l:List Int) (p6_1 p8_1 p6 p7 p8:Int)
def A8.As.L0:Option DV:=B3 A8.As.E N f97 (Aq f97) [1,1,0,0] [] M ⟨G8 63 [(0,.ints .arg .i64 x),(1,.int .i64 n),(2,.fn 66 [] [.cellp [.ints .arg .u64 l]]),(6,.int .i64 20),(7,.int .i64 p7),(8,.int .i64 p8)],[]⟩
def A8.As.L1:Option DV:=B3 A8.As.E N f97 (Aq f97) [1,1,1,1,0] [] M ⟨G8 63 [(0,.ints .arg .i64 x),(1,.int .i64 n),(2,.fn 66 [] [.cellp [.ints .arg .u64 l]]),(6,.int .i64 p6)],[]⟩
def A8.As.L2:Option DV:=B3 A8.As.E N f97 (Aq f97) [1,1,1,1,0,0,1,0,1,0,0] [M0] M ⟨G8 63 [(0,.ints .arg .i64 x),(1,.int .i64 n),(2,.fn 66 [] [.cellp [.ints .arg .u64 l]]),(6,.int .i64 p6_1),(7,.int .i64 0),(8,.int .i64 p8_1)],[]⟩
theorem A8.As.Au:A8.As.L0 N (M+1) x n l p7 p8=bif (H2 p8 n) then bif (Br (-100≤p7∧p7≤100∧p8≤p7+1)) then A8.As.L0 N M x n l p8 (Ab (p8+20)) else none else bif (Br (-100≤p7∧p7≤100∧n≤p7+1)) then A8.As.L1 N N x n l (20:Int) else none:=by kernel_rfl
theorem A8.As.C3:A8.As.L1 N (M+1) x n l p6=bif (A3 p6 n) then A8.As.L2 N M N x n l p6 (Ab ((2:Int)*p6)) else some (.tup []):=by kernel_rfl
theorem A8.As.ev:Bw A8.As.E N f97 (Aq f97) [.ints .arg .i64 x,.int .i64 n,.fn 66 [] [.cellp [.ints .arg .u64 l]]] =
 A8.As.L0 N N x n l 0 20:=by kernel_rfl
end
abbrev _root_.Go.Proofs.S1.A8.As.Kn:=A6 prog 97 A8.As.spec
theorem A8.As.Ad (hk:Ay prog A8.As.Bh) (h:Hyp A8.As.E f97 A8.As.ts A8.As.pre A8.As.out):A8.As.Kn :=
 Am (A2 hk _ _ _) func97 (by kernel_rfl) (by kernel_rfl) h
def A8.At.Bh:List (Nat × Entry):=[(97,A8.As.spec)]
def A8.At.E:Env:=Bi (Bg A8.At.Bh) (fun _=>false) (fun _=>none) (fun _=>none)
theorem A8.At.ev (N:Nat) (x l:List Int):Bw A8.At.E N f65 (Aq f65) [.ints .arg .i64 x,.fn 66 [] [.cellp [.ints .arg .u64 l]]]=bif (Br (0≤(length x:Int)∧(length x:Int)≤1)) then some (.tup []) else none:=by kernel_rfl
abbrev _root_.Go.Proofs.S1.A8.At.Kn:=A6 prog 65 A8.At.spec
theorem A8.At.Ad (hk:Ay prog A8.At.Bh) (h:Hyp A8.At.E f65 A8.At.ts A8.At.pre A8.At.out):A8.At.Kn :=
 Am (A2 hk _ _ _) func65 (by kernel_rfl) (by kernel_rfl) h
end EqSort
namespace EqSvd
def Cf.Bj.hint:Nat→Option Bc
 | 0=>some { keep:=[1,4,5,14,15,16],objs:=[(6,2,106002,.ints 32 .u64 [])],boxes:=[4,5] }
 | _=>none
def Cf.Bj.Bh:List (Nat × Entry):=[(7,Ac.Bf.spec)]
def Cf.Bj.E:Env:=Bi (Bg Cf.Bj.Bh) (fun _=>false) Cf.Bj.hint (fun _=>none)
section
variable (N M:Nat) (r c:Int) (l:List Int) (k p16:Int) (p2:List Int)
def Cf.Bj.L0:Option DV:=B3 Cf.Bj.E N f61 (Aq f61) [1,1,0,1,0] [] M ⟨G8 30 [(1,.int .i64 k),(4,.ptr 4 0 0),(5,.ptr 5 0 0),(14,.ints .arg .u64 l),(15,.int .i64 (length l:Int)),(16,.int .i64 p16)],[(4,false,.box [.int .i64 0,.int .i64 0,.nil]),(5,false,.box [.int .i64 r,.int .i64 c,.oref 106002]),(106002,false,.ints 32 .u64 p2)]⟩
theorem Cf.Bj.Au:Cf.Bj.L0 N (M+1) r c l k p16 p2=bif (A3 p16 (length l:Int)) then bif ((decide (0≤p16))&&(decide (p16<(length l:Int)))) then bif (C0 (getD l (toNat p16) 0) k) then bif (decide ((length p2)+1≤Gy)) then Cf.Bj.L0 N M r c l k (Ab (p16+1)) (p2++[(Bs (getD l (toNat p16) 0) k)]) else none else none else none else some (.agg [.int .i64 r,.int .i64 c,.ints (.own 106002 32) .u64 p2]) :=
 Eq.trans (by kernel_rfl)
 (Eu (Eu (Df (Gc (C0 (getD l (toNat p16) 0) k)) (Df (Gc (decide ((length p2)+1≤Gy))) rfl rfl) rfl) rfl) rfl)
theorem Cf.Bj.ev:Bw Cf.Bj.E N f61 (Aq f61) [.agg [.int .i64 r,.int .i64 c,.ints .arg .u64 l],.int .i64 k] =
 Cf.Bj.L0 N N r c l k 0 []:=by kernel_rfl
end
abbrev _root_.Go.Proofs.S1.Cf.Bj.Kn:=A6 prog 61 Cf.Bj.spec
theorem Cf.Bj.Ad (hk:Ay prog Cf.Bj.Bh) (h:Hyp Cf.Bj.E f61 Cf.Bj.ts Cf.Bj.pre Cf.Bj.out):Cf.Bj.Kn :=
 Am (A2 hk _ _ _) func61 (by kernel_rfl) (by kernel_rfl) h
def Cf.at.hint:Nat→Option Bc
 | 0=>some { keep:=[1,2,4,5,15,16],objs:=[(6,2,106002,.ints 32 .u64 [])],boxes:=[2,4,5] }
 | 2=>some { keep:=[1,2,4,5,6,15,16,19,20,21],objs:=[(6,2,106002,.ints 32 .u64 [])],boxes:=[2,4,5] }
 | _=>none
def Cf.at.Bh:List (Nat × Entry):=[]
def Cf.at.E:Env:=Bi (Bg Cf.at.Bh) (fun _=>false) Cf.at.hint (fun _=>none)
section
variable (N M0 M:Nat) (r c:Int) (l x:List Int) (p6 p16_1 p21:Int) (p2:List Int) (p16:Int) (p2_1:List Int)
def Cf.at.L0:Option DV:=B3 Cf.at.E N f67 (Aq f67) [1,1,0,1,0] [] M ⟨G8 43 [(1,.ints .arg .i64 x),(2,.ptr 2 0 0),(4,.ptr 4 0 0),(5,.ptr 5 0 0),(15,.int .i64 r),(16,.int .i64 p16)],[(2,false,.box [.int .i64 r,.int .i64 c,.ints .arg .u64 l]),(4,false,.box [.int .i64 0,.int .i64 0,.nil]),(5,false,.box [.int .i64 r,.int .i64 c,.oref 106002]),(106002,false,.ints 32 .u64 p2_1)]⟩
def Cf.at.L1:Option DV:=B3 Cf.at.E N f67 (Aq f67) [1,1,0,1,0,0,1,1,0,0,1,1,0] [M0] M ⟨G8 43 [(1,.ints .arg .i64 x),(2,.ptr 2 0 0),(4,.ptr 4 0 0),(5,.ptr 5 0 0),(6,.int .i64 p6),(15,.int .i64 r),(16,.int .i64 p16_1),(19,.ints .arg .i64 x),(20,.int .i64 (length x:Int)),(21,.int .i64 p21)],[(2,false,.box [.int .i64 r,.int .i64 c,.ints .arg .u64 l]),(4,false,.box [.int .i64 0,.int .i64 0,.nil]),(5,false,.box [.int .i64 r,.int .i64 c,.oref 106002]),(106002,false,.ints 32 .u64 p2)]⟩
theorem Cf.at.Au:Cf.at.L0 N (M+1) r c l x p16 p2_1=bif (A3 p16 r) then Cf.at.L1 N M N r c l x p16 p16 0 p2_1 else some (.agg [.int .i64 r,.int .i64 c,.ints (.own 106002 32) .u64 p2_1]):=by kernel_rfl
theorem Cf.at.C3:Cf.at.L1 N M0 (M+1) r c l x p6 p16_1 p21 p2=bif (A3 p21 (length x:Int)) then bif ((decide (0≤p21))&&(decide (p21<(length x:Int)))) then bif ((decide (0≤(Ab ((Ab (p6*c))+(getD x (toNat p21) 0)))))&&(decide ((Ab ((Ab (p6*c))+(getD x (toNat p21) 0)))<(length l:Int)))) then bif (decide ((length p2)+1≤Gy)) then Cf.at.L1 N M0 M r c l x p6 p16_1 (Ab (p21+1)) (p2++[(getD l (toNat (Ab ((Ab (p6*c))+(getD x (toNat p21) 0)))) 0)]) else none else none else none else Cf.at.L0 N M0 r c l x (Ab (p16_1+1)) p2 :=
 Eq.trans (by kernel_rfl)
 (Eu (Eu (Df (tt4 (decide (0≤(Ab ((Ab (p6*c))+(getD x (toNat p21) 0))))) (decide ((Ab ((Ab (p6*c))+(getD x (toNat p21) 0)))<(length l:Int)))) (Df (Gc (decide ((length p2)+1≤Gy))) rfl rfl) rfl) rfl) rfl)
theorem Cf.at.ev:Bw Cf.at.E N f67 (Aq f67) [.agg [.int .i64 r,.int .i64 c,.ints .arg .u64 l],.ints .arg .i64 x] =
 Cf.at.L0 N N r c l x 0 []:=by kernel_rfl
end
abbrev _root_.Go.Proofs.S1.Cf.at.Kn:=A6 prog 67 Cf.at.spec
theorem Cf.at.Ad (hk:Ay prog Cf.at.Bh) (h:Hyp Cf.at.E f67 Cf.at.ts Cf.at.pre Cf.at.out):Cf.at.Kn :=
 Am (A2 hk _ _ _) func67 (by kernel_rfl) (by kernel_rfl) h
def Cf.D0.hint:Nat→Option Bc
 | 0=>some { keep:=[1,3,8,9],objs:=[(0,3,100003,.ints 32 .u64 [])],boxes:=[1] }
 | _=>none
def Cf.D0.Bh:List (Nat × Entry):=[(30,Aa.Cr.spec),(29,Ac.Norm.spec)]
def Cf.D0.E:Env:=Bi (Bg Cf.D0.Bh) (fun _=>false) Cf.D0.hint (fun _=>none)
section
variable (N M:Nat) (r c:Int) (l:List Int) (p9:Int) (p3:List Int)
def Cf.D0.L0:Option DV:=B3 Cf.D0.E N f64 (Aq f64) [1,1,0,1,0] [] M ⟨G8 25 [(1,.ptr 1 0 0),(3,.oref 100003),(8,.int .i64 c),(9,.int .i64 p9)],[(1,false,.box [.int .i64 r,.int .i64 c,.ints .arg .u64 l]),(100003,false,.ints 32 .u64 p3)]⟩
theorem Cf.D0.Au:Cf.D0.L0 N (M+1) r c l p9 p3=bif (A3 p9 c) then bif (Gl r c l p9&&Br (0≤(0:Int)∧(0:Int)≤r)) then bif (Cj (C6 c l p9 0 (toNat (r-0)))&&Br (length (C6 c l p9 0 (toNat (r-0)))≤64)) then bif (decide ((length p3)+1≤Gy)) then Cf.D0.L0 N M r c l (Ab (p9+1)) (p3++[(Db (C6 c l p9 0 (toNat (r-0))))]) else none else none else none else some (.ints (.own 100003 32) .u64 p3):=by kernel_rfl
theorem Cf.D0.ev:Bw Cf.D0.E N f64 (Aq f64) [.agg [.int .i64 r,.int .i64 c,.ints .arg .u64 l]] =
 Cf.D0.L0 N N r c l 0 []:=by kernel_rfl
end
abbrev _root_.Go.Proofs.S1.Cf.D0.Kn:=A6 prog 64 Cf.D0.spec
theorem Cf.D0.Ad (hk:Ay prog Cf.D0.Bh) (h:Hyp Cf.D0.E f64 Cf.D0.ts Cf.D0.pre Cf.D0.out):Cf.D0.Kn :=
 Am (A2 hk _ _ _) func64 (by kernel_rfl) (by kernel_rfl) h
def Cf.rounds.hint:Nat→Option Bc
 | 0=>some { keep:=[2,3,4,6,7,13],objs:=[],boxes:=[3,4,6,7] }
 | 2=>some { keep:=[2,3,4,6,7,9,13,16,17],objs:=[],boxes:=[3,4,6,7] }
 | 4=>some { keep:=[2,3,4,6,7,9,10,11,13,16,17],objs:=[],boxes:=[3,4,6,7] }
 | _=>none
def Cf.rounds.Bh:List (Nat × Entry):=[]
def Cf.rounds.E:Env:=Bi (Bg Cf.rounds.Bh) (fun _=>false) Cf.rounds.hint (fun _=>none)
section
variable (N M0 M1 M:Nat) (r c:Int) (l:List Int) (p q:Int) (m:List Int) (b p10 p11 p17_1 p17:Int)
def Cf.rounds.L0:Option DV:=B3 Cf.rounds.E N f63 (Aq f63) [1,0,1,0] [] M ⟨G8 66 [(2,.int .u64 b),(3,.ptr 3 0 0),(4,.ptr 4 0 0),(6,.ptr 6 0 0),(7,.ptr 7 0 0),(13,.int .i64 0)],[(3,false,.box [.int .i64 r,.int .i64 c,.ints .arg .u64 l]),(4,false,.box [.int .i64 p,.int .i64 q,.ints .arg .u64 m]),(6,false,.box [.int .i64 0,.int .i64 0,.nil]),(7,false,.box [.int .i64 0,.int .i64 0,.nil])]⟩
def Cf.rounds.L1:Option DV:=B3 Cf.rounds.E N f63 (Aq f63) [1,0,1,0,0,1,1,0,0,0,1,1,0,1,0] [M0] M ⟨G8 66 [(2,.int .u64 b),(3,.ptr 3 0 0),(4,.ptr 4 0 0),(6,.ptr 6 0 0),(7,.ptr 7 0 0),(9,.bool true),(13,.int .i64 0),(16,.int .i64 c),(17,.int .i64 p17)],[(3,false,.box [.int .i64 r,.int .i64 c,.ints .arg .u64 l]),(4,false,.box [.int .i64 p,.int .i64 q,.ints .arg .u64 m]),(6,false,.box [.int .i64 0,.int .i64 0,.nil]),(7,false,.box [.int .i64 0,.int .i64 0,.nil])]⟩
def Cf.rounds.L2:Option DV:=B3 Cf.rounds.E N f63 (Aq f63) [1,0,1,0,0,1,1,0,0,0,1,1,0,1,0,0,1,1,0,0,1,0,1,0] [M0,M1] M ⟨G8 66 [(2,.int .u64 b),(3,.ptr 3 0 0),(4,.ptr 4 0 0),(6,.ptr 6 0 0),(7,.ptr 7 0 0),(9,.bool true),(10,.int .i64 p10),(11,.int .i64 p11),(13,.int .i64 0),(16,.int .i64 c),(17,.int .i64 p17_1)],[(3,false,.box [.int .i64 r,.int .i64 c,.ints .arg .u64 l]),(4,false,.box [.int .i64 p,.int .i64 q,.ints .arg .u64 m]),(6,false,.box [.int .i64 0,.int .i64 0,.nil]),(7,false,.box [.int .i64 0,.int .i64 0,.nil])]⟩
theorem Cf.rounds.Au:Cf.rounds.L0 N (M+1) r c l p q m b =
 Cf.rounds.L1 N M N r c l p q m b 0:=by kernel_rfl
theorem Cf.rounds.C3:Cf.rounds.L1 N M0 (M+1) r c l p q m b p17=bif (A3 p17 c) then Cf.rounds.L2 N M0 M N r c l p q m b p17 (Ab (p17+1)) p17 else some (.tup [.agg [.int .i64 r,.int .i64 c,.ints .arg .u64 l],.agg [.int .i64 p,.int .i64 q,.ints .arg .u64 m],.int .i64 0]):=by kernel_rfl
theorem Cf.rounds.Ml:Cf.rounds.L2 N M0 M1 (M+1) r c l p q m b p10 p11 p17_1=bif (A3 p11 c) then none else Cf.rounds.L1 N M0 M1 r c l p q m b (Ab (p17_1+1)):=by kernel_rfl
theorem Cf.rounds.ev:Bw Cf.rounds.E N f63 (Aq f63) [.agg [.int .i64 r,.int .i64 c,.ints .arg .u64 l],.agg [.int .i64 p,.int .i64 q,.ints .arg .u64 m],.int .u64 b] =
 Cf.rounds.L0 N N r c l p q m b:=by kernel_rfl
end
abbrev _root_.Go.Proofs.S1.Cf.rounds.Kn:=A6 prog 63 Cf.rounds.spec
theorem Cf.rounds.Ad (hk:Ay prog Cf.rounds.Bh) (h:Hyp Cf.rounds.E f63 Cf.rounds.ts Cf.rounds.pre Cf.rounds.out):Cf.rounds.Kn :=
 Am (A2 hk _ _ _) func63 (by kernel_rfl) (by kernel_rfl) h
def Cf.Cp.hint:Nat→Option Bc
 | 0=>some { keep:=[2,3,6,9,10,56,57],objs:=[(0,10,100010,.ints 3 .i64 [])],boxes:=[2,3,9] }
 | _=>none
def Cf.Cp.Bh:List (Nat × Entry):=[(51,Cd.Check.spec),(59,compare.P4.spec),(62,Aa.Fs.spec),(65,A8.At.spec),(67,Cf.at.spec),(64,Cf.D0.spec),(63,Cf.rounds.spec),(61,Cf.Bj.spec),(60,Ac.Ce.spec),(28,Ac.Finite.spec),(29,Ac.Norm.spec),(7,Ac.Bf.spec)]
def Cf.Cp.E:Env:=Bi (Bg Cf.Cp.Bh) (fun _=>false) Cf.Cp.hint (fun _=>none)
section
variable (N M:Nat) (r c:Int) (l:List Int) (p57:Int) (p10:List Int)
def Cf.Cp.L0:Option DV:=B3 Cf.Cp.E N f26 (Aq f26) [1,1,1,1,1,1,1,1,1,0,1,0] [] M ⟨G8 92 [(2,.ptr 2 0 0),(3,.ptr 3 0 0),(6,.int .i64 (Bn (Bd l))),(9,.ptr 9 0 0),(10,.oref 100010),(56,.int .i64 c),(57,.int .i64 p57)],[(2,false,.box [.int .i64 r,.int .i64 c,.ints .arg .u64 (Az l (Ab (0-(Bn (Bd l)))))]),(3,false,.box [.int .i64 ((F3 c).1),.int .i64 ((F3 c).2.1),.ints .arg .u64 ((F3 c).2.2.1)]),(9,false,.box [.ints .fresh .u64 ([Db (Az l (Ab (0-(Bn (Bd l)))))])]),(100010,false,.ints 3 .i64 p10)]⟩
theorem Cf.Cp.Au:Cf.Cp.L0 N (M+1) r c l p57 p10=bif (A3 p57 c) then bif (decide ((length p10)+1≤Gy)) then Cf.Cp.L0 N M r c l (Ab (p57+1)) (p10++[p57]) else none else bif (Br (length p10≤1)) then bif (Br (r=1∧c=1∧length (Az l (Ab (0-(Bn (Bd l)))))=1∧p10=[0])) then bif (Cj (Az l (Ab (0-(Bn (Bd l)))))&&Br (length (Az l (Ab (0-(Bn (Bd l)))))≤1000∧-2300≤(Bn (Bd l))∧(Bn (Bd l))≤2300)) then bif (Br (((F3 c).1)=1∧((F3 c).2.1)=1∧length ((F3 c).2.2.1)=1∧p10=[0])) then bif (Cj (Az (Az l (Ab (0-(Bn (Bd l))))) (Bn (Bd l)))) then bif ((!(D2 (Az (Az l (Ab (0-(Bn (Bd l))))) (Bn (Bd l)))))||(Cj ((F3 c).2.2.1))) then bif ((!(D2 (Az (Az l (Ab (0-(Bn (Bd l))))) (Bn (Bd l)))))||(!(D2 ((F3 c).2.2.1)))) then some (.tup [.agg [.int .i64 0,.int .i64 0,.nil],.agg [.int .i64 0,.int .i64 0,.nil],.nil,.int .i64 2]) else bif (A1 (Az (Az l (Ab (0-(Bn (Bd l))))) (Bn (Bd l)))&&Br ((1:Int)=1∧(1:Int)=1∧length (Az (Az l (Ab (0-(Bn (Bd l))))) (Bn (Bd l)))=1)) then some (.tup [.agg [.int .i64 1,.int .i64 1,.ints .fresh .u64 (Az (Az l (Ab (0-(Bn (Bd l))))) (Bn (Bd l)))],.agg [.int .i64 1,.int .i64 1,.ints .fresh .u64 ((F3 c).2.2.1)],.ints .fresh .u64 ([Db (Az (Az l (Ab (0-(Bn (Bd l))))) (Bn (Bd l)))]),.int .i64 0]) else none else none else none else none else none else none else none :=
 Eq.trans (by kernel_rfl)
 (Eu rfl (Eu (Df (Gc (Br (r=1∧c=1∧length (Az l (Ab (0-(Bn (Bd l)))))=1∧p10=[0]))) (Df (Gc (Cj (Az l (Ab (0-(Bn (Bd l)))))&&Br (length (Az l (Ab (0-(Bn (Bd l)))))≤1000∧-2300≤(Bn (Bd l))∧(Bn (Bd l))≤2300))) (Df (Gc (Br (((F3 c).1)=1∧((F3 c).2.1)=1∧length ((F3 c).2.2.1)=1∧p10=[0]))) (Eu (Aw (tt9 (D2 (Az (Az l (Ab (0-(Bn (Bd l))))) (Bn (Bd l))))) (Aw (tt7 (D2 (Az (Az l (Ab (0-(Bn (Bd l))))) (Bn (Bd l))))) (Df (tt8 (D2 (Az (Az l (Ab (0-(Bn (Bd l))))) (Bn (Bd l)))) (Cj ((F3 c).2.2.1))) (Aw (tt7 (D2 (Az (Az l (Ab (0-(Bn (Bd l))))) (Bn (Bd l))))) (Aw (tt6 (D2 (Az (Az l (Ab (0-(Bn (Bd l))))) (Bn (Bd l))))) (Df (tt5 (D2 (Az (Az l (Ab (0-(Bn (Bd l))))) (Bn (Bd l)))) (D2 ((F3 c).2.2.1))) rfl (Df (Gc (A1 (Az (Az l (Ab (0-(Bn (Bd l))))) (Bn (Bd l)))&&Br ((1:Int)=1∧(1:Int)=1∧length (Az (Az l (Ab (0-(Bn (Bd l))))) (Bn (Bd l)))=1))) rfl rfl)))) rfl))) rfl) rfl) rfl) rfl) rfl))
theorem Cf.Cp.ev:Bw Cf.Cp.E N f26 (Aq f26) [.agg [.int .i64 r,.int .i64 c,.ints .arg .u64 l]]=bif (A1 l) then bif ((Et r c l) !=(0:Int)) then some (.tup [.agg [.int .i64 0,.int .i64 0,.nil],.agg [.int .i64 0,.int .i64 0,.nil],.nil,.int .i64 (Et r c l)]) else bif (Cj l) then bif (Aj (Bd l)) then bif (Cj l&&Br (length l≤1000∧-2300≤(Ab (0-(Bn (Bd l))))∧(Ab (0-(Bn (Bd l))))≤2300)) then bif (Cj (Az l (Ab (0-(Bn (Bd l)))))&&Br (length (Az l (Ab (0-(Bn (Bd l)))))≤64)) then bif (C0 (Db (Az l (Ab (0-(Bn (Bd l)))))) (-44:Int)) then bif (Br (c=1)) then bif (A1 (Az l (Ab (0-(Bn (Bd l)))))&&Br (r=1∧c=1∧length (Az l (Ab (0-(Bn (Bd l)))))=1)) then Cf.Cp.L0 N N r c l 0 [] else none else none else none else none else none else none else none else none :=
 Eq.trans (by kernel_rfl)
 (Eu (Eu rfl (Eu (Eu (Eu (Eu (Df (Gc (C0 (Db (Az l (Ab (0-(Bn (Bd l)))))) (-44:Int))) (Df (Gc (Br (c=1))) rfl rfl) rfl) rfl) rfl) rfl) rfl)) rfl)
end
abbrev _root_.Go.Proofs.S1.Cf.Cp.Kn:=A6 prog 26 Cf.Cp.spec
theorem Cf.Cp.Ad (hk:Ay prog Cf.Cp.Bh) (h:Hyp Cf.Cp.E f26 Cf.Cp.ts Cf.Cp.pre Cf.Cp.out):Cf.Cp.Kn :=
 Am (A2 hk _ _ _) func26 (by kernel_rfl) (by kernel_rfl) h
end EqSvd
end Go.Proofs.S1
end
