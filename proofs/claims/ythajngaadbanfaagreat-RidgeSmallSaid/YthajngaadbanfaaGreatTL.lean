/- A verified evaluator of the program's form and its use for this seat: S1EqLdx, S1PLdx, S1PLdxA, S1EqRef08, S1EqRef13, S1PRef08, S1EqHouse, S1PHouse, S1PApply, S1EqSol, S1PTri, S1EqFew, S1PSol, S1EqQr. -/
import Derived.Test.YthajngaadbanfaaGreatTG
import Derived.Test.YthajngaadbanfaaGreatTK
import Derived.Test.YthajngaadbanfaaGreatTJ
import Derived.Test.YthajngaadbanfaaGreatTE
set_option linter.unusedVariables false
set_option linter.unusedSimpArgs false
open Nat renaming lt_trans->xf,eq_of_testBit_eq->wW,testBit_two_pow_mul_add->uk,testBit_two_pow->x9,testBit_lt_two_pow->wX,shiftLeft_eq->yS,mod_lt->zv,max_eq_right->vf,max_eq_left->wy,beq->zg
open BitVec renaming ofInt->zj,toNat_and->xH
open Bool renaming and_false->xU,or_eq_true->zK,or_eq_false_iff->yy,false_or->yH
open List renaming foldl_cons->yn,drop_zero->zW,take->zt,drop->zL,set->zn,take_of_length_le->yO,mem_singleton->zf,range->zh,mem_map->zw,not_mem_nil->xV,any_cons->wM
noncomputable section
open Int (toNat)
open List (length getD)
open Go.Proofs.Tryz
namespace Go.Proofs.S1
open Go Go.Den Go.Ct Go.Proofs
set_option maxRecDepth 100000
def math.Nc.E:=E0 []
theorem math.Nc.ev(N x:Nat):Bv math.Nc.E N f235 (Aj f235) [.fl x]=some (.fl (x%9223372036854775808)):=by kernel_rfl
def math.P4.E:=E0 []
theorem math.P4.ev(N x:Nat):Bv math.P4.E N f216 (Aj f216) [.fl x]=some (.bool (Ieee.double.order x x !=some .eq)):=by kernel_rfl
def math.P5.E:=E0 [(235,math.Nc.spec)]
theorem math.P5.ev(N x:Nat)(s:Int):Bv math.P5.E N f215 (Aj f215) [.fl x,.int .i64 s]=cond (s==(0:Int)) (some (.bool (Ieee.double.order (E9 x) 9218868437227405311==some .gt))) (bif (Bc s 0) then none else some (.bool (Ieee.double.order x 9218868437227405311==some .gt))):=by kernel_rfl
def math.normalize.E:=E0 [(235,math.Nc.spec)]
theorem math.normalize.ev(N x:Nat):Bv math.normalize.E N f217 (Aj f217) [.fl x]=cond (Ieee.double.order (E9 x) 4503599627370496==some .lt) (some (.tup [.fl ((Ieee.double.mul x 4841369599423283200).getD nanBits),.int .i64 (-52:Int)])) (some (.tup [.fl x,.int .i64 0])):=by kernel_rfl
def math.Ey.J4:List (Nat × Fy):=[]
def math.Ey.E:Env:=Af3 (Cw math.Ey.J4) (fun _=>false) (fun _=>none) (fun _=>none) (At9 [])
theorem math.Ey.ev(N x y:Nat):Bv math.Ey.E N f218 (Aj f218) [.fl x,.fl y]=cond (!(Hl x)) (bif (!(Hl y)) then cond (decide (0<=(Kc .u64 (I4 .u64 (x:Int) 9223372036854775808) (Gl .u64 (y:Int) 9223372036854775808)))) (some (.fl (toNat (Kc .u64 (I4 .u64 (x:Int) 9223372036854775808) (Gl .u64 (y:Int) 9223372036854775808))))) none else none) none:=by kernel_rfl
abbrev math.Ey.Kn:=E8 prog 218 math.Ey.spec
theorem math.Ey.Ei(hk:Hh prog math.Ey.J4)(h:Hyp math.Ey.E f218 math.Ey.ts math.Ey.pre math.Ey.out):math.Ey.Kn :=Ij (Aky hk _ _ _ _) func218 (by kernel_rfl) (by kernel_rfl) h
def math.Inf.E:=E0 []
theorem math.Inf.ev(N:Nat)(s:Int):Bv math.Inf.E N f219 (Aj f219) [.int .i64 s]=cond (Fb 0 s) (some (.fl 9218868437227405312)) (some (.fl 18442240474082181120)):=by kernel_rfl
def math.Iq.J4:List (Nat × Fy):=[(218,math.Ey.spec),(219,math.Inf.spec),(215,math.P5.spec),(216,math.P4.spec),(217,math.normalize.spec)]
def math.Iq.E:Env:=Af3 (Cw math.Iq.J4) (fun _=>false) (fun _=>none) (fun _=>none) (At9 [])
theorem math.Iq.ev(N x:Nat)(k:Int):Bv math.Iq.E N f189 (Aj f189) [.fl x,.int .i64 k]=cond (Ieee.double.order x 0==some .eq) (some (.fl x)) (bif (Aaj x&&decide ((0:Int)=0)) then cond ((decide (Ag x=3))||(Aaj x)) (bif ((decide (Ag x=3))||(decide (Ag x=4))) then some (.fl x) else bif (An9 x) then cond (!(Hl (Qc x))) (bif (Bc (Ad ((Ad (k+(Ld x)))+(Ad ((Gl .i64 (Ad (Eo .u64 ((Qc x):Int) 52)) 2047)-1023)))) (-1075:Int)) then cond (An9 (Qc x)&&decide ((0:Int)=0)) (some (.fl (Bf (Be (Qc x)) 0))) none else bif (Bc 1023 (Ad ((Ad (k+(Ld x)))+(Ad ((Gl .i64 (Ad (Eo .u64 ((Qc x):Int) 52)) 2047)-1023))))) then cond (Ieee.double.order (Qc x) 0==some .lt) (some (.fl (Bf (decide ((-1:Int)<0)) Ea))) (some (.fl (Bf (decide ((1:Int)<0)) Ea))) else bif (Bc (Ad ((Ad (k+(Ld x)))+(Ad ((Gl .i64 (Ad (Eo .u64 ((Qc x):Int) 52)) 2047)-1023)))) (-1022:Int)) then cond (decide (0<=(Kc .u64 (I4 .u64 ((Qc x):Int) 9218868437227405312) (Cj .u64 (Bo (Ad ((Ad ((Ad ((Ad (k+(Ld x)))+(Ad ((Gl .i64 (Ad (Eo .u64 ((Qc x):Int) 52)) 2047)-1023))))+53))+1023))) 52)))) (some (.fl ((Ieee.double.mul 4368491638549381120 (toNat (Kc .u64 (I4 .u64 ((Qc x):Int) 9218868437227405312) (Cj .u64 (Bo (Ad ((Ad ((Ad ((Ad (k+(Ld x)))+(Ad ((Gl .i64 (Ad (Eo .u64 ((Qc x):Int) 52)) 2047)-1023))))+53))+1023))) 52)))).getD nanBits))) none else bif (decide (0<=(Kc .u64 (I4 .u64 ((Qc x):Int) 9218868437227405312) (Cj .u64 (Bo (Ad ((Ad ((Ad (k+(Ld x)))+(Ad ((Gl .i64 (Ad (Eo .u64 ((Qc x):Int) 52)) 2047)-1023))))+1023))) 52)))) then some (.fl ((Ieee.double.mul 4607182418800017408 (toNat (Kc .u64 (I4 .u64 ((Qc x):Int) 9218868437227405312) (Cj .u64 (Bo (Ad ((Ad ((Ad (k+(Ld x)))+(Ad ((Gl .i64 (Ad (Eo .u64 ((Qc x):Int) 52)) 2047)-1023))))+1023))) 52)))).getD nanBits)) else none) none else none) none else none) :=Et (Es rfl (Es (Ax (Uw (decide (Ag x=3))) (Co (A3k _ _) (Ax (tt6 (decide (Ag x=3))) (Co (tt5 _ _) rfl rfl)) rfl)) rfl))
abbrev math.Iq.Kn:=E8 prog 189 math.Iq.spec
theorem math.Iq.Ei(hk:Hh prog math.Iq.J4)(h:Hyp math.Iq.E f189 math.Iq.ts math.Iq.pre math.Iq.out):math.Iq.Kn :=Ij (Aky hk _ _ _ _) func189 (by kernel_rfl) (by kernel_rfl) h
def math.Rj.E:=E0 [(189,math.Iq.spec)]
theorem math.Rj.ev(N x:Nat)(k:Int):Bv math.Rj.E N f146 (Aj f146) [.fl x,.int .i64 k]=cond (Aaj x&&Bq (-2300<=k/\k<=2300)) (some (.fl (Kt x k))) none:=by kernel_rfl
def Aq.Cc.E:=E0 [(146,math.Rj.spec),(145,Aq.B.spec),(147,Aq.F.spec)]
theorem Aq.Cc.ev(N:Nat)(a k:Int):Bv Aq.Cc.E N f85 (Aj f85) [.int .u64 a,.int .i64 k]=cond (Af a) (bif (Aaj (toNat a)&&Bq (-2300<=k/\k<=2300)) then some (.int .u64 (H0 (Kt (toNat a) k))) else none) none:=by kernel_rfl
open Go Go.Den Go.Ct Go.Proofs
theorem Afl(n:Nat):Hl n=decide (Ag n=4):=Ae1 n
theorem All(x:Nat):E9 x<2^64:=xf (Ub x) (by decide)
theorem Vl(x:Nat):Ag (E9 x)=Ag x:=by
 have e1:D7 (E9 x)=D7 x:=by unfold D7 E9; omega
 have e2:Dc (E9 x)=Dc x:=by unfold Dc E9; omega
 unfold Ag;rw[e1,e2]
theorem Vt(x y:Int):(compare x y=.lt↔x<y)/\(compare x y=.gt↔y<x)/\(compare x y=.eq↔x=y):=by
 rcases Int.lt_trichotomy x y with h | h | h
 ·rw[Art h]; refine⟨by simp[h],?_,?_⟩<;>simp<;>omega
 ·subst h;have:compare x x=.eq:=by simp[compare,compareOfLessAndEq]
  rw[this]; simp
 ·rw[Aru h]; refine⟨?_,by simp[h],?_⟩<;>simp<;>omega
theorem math.Nc.Ae:Kq 235 math.Nc.spec:=Eb math.Nc.E Tryz.func235 .nil fun x _=>⟨0,math.Nc.out [.f x],[],by rw[math.Nc.ev]; rfl,.fl⟩
theorem math.P4.Ae:Kq 216 math.P4.spec:=Eb math.P4.E Tryz.func216 .nil fun x hp=>by
 have hx:=Ak.1 (show Aaj x=true from hp);refine⟨0,math.P4.out [.f x],[],?_,.bool⟩;show _=some (DV.bool (decide (Ag x=4)));rw[math.P4.ev];by_cases h:Ag x=4
 ·rw[Abe hx hx (.inl h),Beq h]; rfl
 ·rw[Ss hx hx h h,Beu h,(Vt _ _).2.2.2 rfl]; rfl
theorem Wx{x:Nat}(hx:x<2^64)(h4:Ag x≠4):(Ieee.double.order (E9 x) 9218868437227405311==some .gt)=decide (Ag x=3):=by
 have k1:Ag 9218868437227405311≠4:=by decide +kernel
 have k2:G5 9218868437227405311=9218868437227405311:=by decide +kernel
 have ka:G5 (E9 x)=((E9 x:Nat):Int):=by have:=Nu false (r:=E9 x) (Ub x);exact this
 rw[Ss (All x) (by decide) (by rw[Vl]; exact h4) k1,k2,ka];have hl:=A04 h4;rw[Be5,beq_iff_eq,Bes,(Vt _ _).2.1,Bew];constructor
 ·intro h;refine Decidable.byContradiction fun h3=>?_
  have:=Wt h3 h4;rw[Ft] at this;unfold E9 at h;omega
 ·intro h3;have:=Tu h3;rw[Ft] at this;unfold E9;omega
theorem math.P5.Ae:Kq 215 math.P5.spec:=Eb math.P5.E Tryz.func215 (kc math.Nc.Ae .nil) fun x s hp=>by
 obtain⟨h1,h2⟩:=Ac.1 (show(Aaj x&&decide (s=0))=true from hp);have hx:=Ak.1 h1;obtain rfl:=Bff h2;refine⟨0,math.P5.out [.f x,.i 0],[],?_,.bool⟩;show _=some (DV.bool (decide (Ag x=3)));rw[math.P5.ev,show((0:Int)==(0:Int))=true from rfl,Bep];by_cases h4:Ag x=4
 ·rw[Abe (All x) (by decide) (.inl (by rw[Vl]; exact h4)),Beu (by omega)]; rfl
 ·rw[Wx hx h4]
theorem math.normalize.Ae:Kq 217 math.normalize.spec:=Eb math.normalize.E Tryz.func217 (kc math.Nc.Ae .nil) fun x hp=>by
 obtain⟨hx,h3,h4⟩:=Ak.1 (show An9 x=true from hp);refine⟨0,math.normalize.out [.f x],[],?_,Wk.Ik (.cons .fl (.cons .int .nil))⟩;show _=some (DV.tup [.fl (Qc x),.int .i64 (Ld x)]);have k1:Ag 4503599627370496≠4:=by decide +kernel
 have k2:G5 4503599627370496=4503599627370496:=by decide +kernel
 have ka:G5 (E9 x)=((E9 x:Nat):Int):=Nu false (r:=E9 x) (Ub x)
 have hc:(Ieee.double.order (E9 x) 4503599627370496==some .lt)=decide (E9 x<4503599627370496):=by rw[Ss (All x) (by decide) (by rw[Vl]; exact h4) k1,k2,ka,Be5,beq_iff_eq,Bes,(Vt _ _).1,Bew];omega
 rw[math.normalize.ev,hc];unfold Qc Ld;by_cases h:E9 x<4503599627370496
 ·rw[Beq h,Bep,Bfc h,Bfc h];have hm:=mul_pow h3 h4 (by rw[p52.2.2.1]; decide) (by rw[p52.2.2.1]; decide) p52.1 p52.2.2.2;have:=Aes (Zr hx (b:=4841369599423283200) (by decide) Io) (by rw[hm]; exact Vk _ _ _);rw[this]
 ·rw[Beu h,Bet,Bfb h,Bfb h]
theorem A4v{n:Nat}(h:n<2^64):n &&& 9227875636482146303=n / 2^63*2^63+n%2^52:=by
 have hf:n%2^52<2^63:=by omega
 apply wW;intro j;rw[Nat.testBit_and,show(9227875636482146303:Nat)=2^63*1+(2^52-1) from rfl,Bfd (n / 2^63),uk _ (by decide:2^52-1<2^63),uk _ hf];by_cases hj:j<63
 ·rw[Bfc hj,Bfc hj,Nat.testBit_mod_two_pow,Nat.testBit_two_pow_sub_one,Bool.and_comm]
 ·rw[Bfb hj,Bfb hj,Nat.testBit_div_two_pow,Nat.sub_add_cancel (by omega)];by_cases h63:j=63
  ·subst h63;show(n.testBit 63&&true)=_;rw[Bool.and_true]
  ·have e1:Nat.testBit 1 (j-63)=false:=by rw[show(1:Nat)=2^0 from rfl,x9]; exact Beu (by omega)
   have e2:n.testBit j=false:=wX (Bf0 h (Be4 (by decide) (by omega)));rw[e1,e2]; rfl
theorem Aot{n:Nat}(h:n<2^64):I4 .u64 (n:Int) (9218868437227405312:Int)=((n / 2^63*2^63+n%2^52:Nat):Int):=by
 have e:(zj 64 (n:Int) &&& ~~~(zj 64 9218868437227405312)).toNat=n / 2^63*2^63+n%2^52:=by
  have e1 : ~~~(zj 64 9218868437227405312)=BitVec.ofNat 64 9227875636482146303:=by decide
  rw[e1,xH,BitVec.toNat_ofNat,BitVec.toNat_ofInt];have e2:(((n:Int)%((2^64:Nat):Int)).toNat)=n:=by omega
  rw[e2];exact A4v h
 have e':(zj IntKind.u64.bits (n:Int) &&& ~~~(zj IntKind.u64.bits 9218868437227405312)).toNat=n / 2^63*2^63+n%2^52:=e;unfold I4;rw[e'];exact Yv (by omega)
theorem or3{A X Y Z W V f:Nat}(h1:A=f ||| X)(h2:X ||| Y=Z)(h3:f ||| Z=W)(h4:W=V):A ||| Y=V:=by rw[h1,Nat.or_assoc,h2,h3,h4]
theorem Bdu(s p f:Nat):(s*2^11+p)*2^52+f=s*2^63+p*2^52+f:=by rw[Bft,Bfg,<- Bfe]
theorem A74{s f p:Nat}(hs:s<2)(hf:f<2^52)(hp:p<2048):(s*2^63+f) ||| (p*2^52)=s*2^63+p*2^52+f:=by
 have e1:s*2^63+f=f ||| s*2^11*2^52:=by rw[Q4 hf]; omega
 have e2:s*2^11*2^52 ||| p*2^52=(s*2^11+p)*2^52:=by have:=Q4 (a:=s) (b:=p) (k:=11) hp;rw[<- yS,<- yS p,<- Nat.shiftLeft_or_distrib,Nat.or_comm,this,yS]
 exact or3 e1 e2 (Q4 hf) (Bdu s p f)
theorem Atb{s:Bool}{P f:Nat}(h2:P<=2046)(hf:f<2^52){q:Nat}(hq:q<2048) :
 Kc .u64 (I4 .u64 ((Bf s (P*2^52+f):Nat):Int) (9218868437227405312:Int)) (Cj .u64 (Bo (q:Int)) (52:Int))=((Bf s (q*2^52+f):Nat):Int):=by
 have h64:Bf s (P*2^52+f)<2^64:=by
  unfold Bf;cases s
  ·rw[Bfb (by decide)]; omega
  ·rw[Bfc rfl]; omega
 have ef:Bf s (P*2^52+f)%2^52=f:=by
  unfold Bf;cases s
  ·rw[Bfb (by decide)]; omega
  ·rw[Bfc rfl]; omega
 have es:Bf s (P*2^52+f) / 2^63=if s then 1 else 0:=by
  unfold Bf;cases s
  ·rw[Bfb (by decide),Bfb (by decide)]; omega
  ·rw[Bfc rfl,Bfc rfl]; omega
 rw[Aot h64,ef,es,Dx (by omega) (by omega),show(52:Int)=((52:Nat):Int) from rfl,He q 52 (by decide),Be2 (by omega),Aag (by split<;>omega) (by omega),A74 (by split<;>decide) hf hq];refine congrArg (fun n:Nat=>(n:Int)) ?_;unfold Bf;cases s
 ·rw[Bfb (by decide),Bfb (by decide)]; omega
 ·rw[Bfc rfl,Bfc rfl]; omega
theorem A1n{s:Bool}{P f:Nat}(h1:1<=P)(h2:P<=2046)(hf:f<2^52):Gl .i64 (Ad (Eo .u64 ((Bf s (P*2^52+f):Nat):Int) (52:Int))) (2047:Int)=(P:Int):=by
 obtain⟨e1,_,_,h64,_⟩:=V4 (s:=s) h1 h2 hf;rw[show(52:Int)=((52:Nat):Int) from rfl,Vv _ _ (by decide),An (by omega) (by omega)]
 have hb:Gl .i64 ((Bf s (P*2^52+f) / 2^52:Nat):Int) (2047:Int)=Ad ((Bf s (P*2^52+f) / 2^52%2048:Nat):Int):=by
  unfold Gl
  have e:(zj 64 ((Bf s (P*2^52+f) / 2^52:Nat):Int) &&& zj 64 2047).toNat=Bf s (P*2^52+f) / 2^52%2048:=by rw[xH,Lc,show(zj 64 2047).toNat=2^11-1 from rfl,Nat.and_two_pow_sub_one_eq_mod];omega
  have e':(zj IntKind.i64.bits ((Bf s (P*2^52+f) / 2^52:Nat):Int) &&& zj IntKind.i64.bits 2047).toNat=Bf s (P*2^52+f) / 2^52%2048:=e;rw[e'];rfl
 unfold D7 at e1;rw[hb,e1,An (by omega) (by omega)]
theorem math.Ey.Ae:math.Ey.Kn:=math.Ey.Ei .nil fun x y hp=>by
 obtain⟨h1,h2⟩:=Ac.1 (show(An9 y&&decide (x=0))=true from hp);obtain⟨hy,h3,h4⟩:=Ak.1 (show Bq _=true from h1);obtain rfl:=Bff h2;refine⟨0,math.Ey.out [.f 0,.f y],[],?_,.fl⟩;show _=some (DV.fl (Bf (Be y) 0));have n0:Hl 0=false:=by decide +kernel
 have ny:Hl y=false:=by rw[Afl]; exact Beu h4
 have e1:I4 .u64 ((0:Nat):Int) (9223372036854775808:Int)=((0:Nat):Int):=Agl (by decide)
 have e2:Gl .u64 (y:Int) (9223372036854775808:Int)=((Bf (Be y) 0:Nat):Int):=by
  rw[show(9223372036854775808:Int)=((9223372036854775808:Nat):Int) from rfl,Aos hy (by decide)];congr 1;apply wW;intro j;rw[Nat.testBit_and,show(9223372036854775808:Nat)=2^63 from rfl,x9];unfold Bf Be;by_cases hn:2^63<=y
  ·rw[Beq hn,Bfc rfl,Bfx,x9];by_cases hj:63=j
   ·subst hj
    have:y.testBit 63=true:=by rw[Nat.testBit_eq_decide_div_mod_eq,Bew]; omega
    rw[this]; rfl
   ·rw[Beu hj,xU]
  ·rw[Beu hn,Bfb (by decide),Nat.zero_testBit];by_cases hj:63=j
   ·subst hj;rw[wX (by omega)]; rfl
   ·rw[Beu hj,xU]
 have e3:Kc .u64 ((0:Nat):Int) ((Bf (Be y) 0:Nat):Int)=((Bf (Be y) 0:Nat):Int):=by rw[Aag (by decide) (by unfold Bf; split<;>decide),Nat.zero_or]
 rw[math.Ey.ev,n0,ny,e1,e2,e3,Beq (by omega)];rfl
theorem math.Inf.Ae:Kq 219 math.Inf.spec:=Eb math.Inf.E Tryz.func219 .nil fun s _=>by
 refine⟨0,math.Inf.out [.i s],[],?_,.fl⟩;show _=some (DV.fl (Bf (decide (s<0)) Ea));rw[math.Inf.ev,Fs];by_cases h:s<0
 ·rw[Beu (by omega),Beq h]; rfl
 ·rw[Beq (by omega),Beu h]; rfl
theorem To{x:Nat}(hx:x<2^64):(Ieee.double.order x 0==some .eq)=decide (Ag x=0):=by
 by_cases h4:Ag x=4
 ·rw[Abe hx (by decide) (.inl h4),Beu (by omega)]; rfl
 ·have k0:Ag 0≠4:=by decide +kernel
  have z:G5 0=0:=by decide +kernel
  have hk:G5 x=0↔x%2^63=0:=by
   have:=Nu (Be x) (r:=x%2^63) (zv _ (by decide));rw[Qm hx] at this;rw[this];unfold Il;cases Be x
   ·rw[Bfb (by decide)]; omega
   ·rw[Bfc rfl]; omega
  have h0:Ag x=0↔x%2^63=0:=by
   have hp:x%2^63=D7 x*2^52+Dc x:=by unfold D7 Dc; omega
   rw[hp];have:=K9 x;unfold Ag;split
   ·split<;>omega
   ·split
    ·omega
    ·split<;>omega
  rw[Ss hx (by decide) h4 k0,z,Be5,beq_iff_eq,Bes,(Vt _ _).2.2,Bew,hk,h0]
theorem Avu{x:Nat}(hx:x<2^64)(h4:Ag x≠4)(h0:Ag x≠0):(Ieee.double.order x 0==some .lt)=Be x:=by
 have k0:Ag 0≠4:=by decide +kernel
 have z:G5 0=0:=by decide +kernel
 have hp:x%2^63=D7 x*2^52+Dc x:=by unfold D7 Dc; omega
 have hne:x%2^63≠0:=by intro h;refine h0 ?_;unfold Ag;rw[Bfb (by omega),Bfb (by omega),Bfb (by omega)]
 have:=Nu (Be x) (r:=x%2^63) (zv _ (by decide));rw[Qm hx] at this;rw[Ss hx (by decide) h4 k0,z,Be5,beq_iff_eq,Bes,(Vt _ _).1,this];unfold Il;cases Be x
 ·rw[Bfb (by decide)];constructor
  ·intro h; omega
  ·intro h; cases h
 ·rw[Bfc rfl];constructor
  ·intro _; rfl
  ·intro _; omega
theorem Av0(x:Nat):Ld x=-52\/Ld x=0:=by unfold Ld; split<;>simp
theorem A40{f:Nat}(hf:f<2^52):(f+2^52).log2=52:=Z0 (a:=52) (by omega) (by omega)
theorem math.Iq.Ae:math.Iq.Kn:=math.Iq.Ei (kc math.Ey.Ae (kc math.Inf.Ae (kc math.P5.Ae (kc math.P4.Ae (kc math.normalize.Ae .nil))))) fun x k hp=>by
 obtain⟨h1,h2⟩:=Ac.1 (show(Aaj x&&Bq (-2300<=k/\k<=2300))=true from hp);have hx:=Ak.1 (show Bq (x<2^64)=true from h1);have hk:=Ak.1 h2;refine⟨0,.fl (Kt x k),[],?_,.fl⟩;by_cases h0:Ag x=0
 ·have:Kt x k=x:=by unfold Kt Cq; rw[Bfb (by omega),Bfb (by omega),Bfc (.inr h0)]
  rw[math.Iq.ev,To hx,Beq h0,Bep,this]
 by_cases h3:Ag x=3
 ·have:Kt x k=x:=by unfold Kt Cq; rw[Bfb (by omega),Bfb (by omega),Bfc (.inl h3)]
  rw[math.Iq.ev,To hx,Beu h0,Bet,h1,Beq (rfl:(0:Int)=0),Bev,Bep,Bf1,Bep,Beq h3,Bool.true_or,Bep,this]
 by_cases h4:Ag x=4
 ·have:Kt x k=x:=by unfold Kt; rw[Bfc h4]
  rw[math.Iq.ev,To hx,Beu h0,Bet,h1,Beq (rfl:(0:Int)=0),Bev,Bep,Bf1,Bep,Beq h4,Bf1,Bep,this]
 obtain⟨P,f,d,p1,p2,hf,hw,hM,hP⟩:=Az9 hx h3 h4 h0;obtain⟨w1,w2,w3,w4,w5,w6,w7⟩:=V4 (s:=Be x) p1 p2 hf;have hm:Ap x≠0:=fun h=>h0 ((Du h3 h4).1 h)
 have hr:=Av0 x;have hl:=A40 hf
 have hld:Kt x k=Bf (Be x) (B9 (f+2^52) ((P:Int)-1075+Ld x+k)):=by have:=Ay6 (k:=k) hm hM hP;unfold Kt Cq;rw[Bfb h4,Bfb h4,Bfb (by omega),this]
 have hp:Aaj x=true:=Ak.2 hx;have hfp:An9 x=true:=Ak.2 ⟨hx,h3,h4⟩;have hnn:Hl (Qc x)=false:=by rw[Afl,hw,w5]; rfl
 have hfw:An9 (Qc x)=true:=by rw[hw]; exact Ak.2 ⟨w4,by omega,by omega⟩
 have ee:Ad (Ad (k+Ld x)+Ad (Gl .i64 (Ad (Eo .u64 ((Qc x:Nat):Int) (52:Int))) (2047:Int)-(1023:Int)))=k+Ld x+(P:Int)-1023:=by rw[hw,A1n p1 p2 hf,An (x:=k+Ld x) (by omega) (by omega),An (x:=(P:Int)-1023) (by omega) (by omega),An (by omega) (by omega)];omega
 have hrun:=math.Iq.ev 0 x k;rw[To hx,Beu h0,Bet,hp,Beq (rfl:(0:Int)=0),Bev,Bep,Bf1,Bep,Beu h3,Beu h4,Bool.or_self,Bet,hfp,Bep,hnn,Bf8,Bep,ee,hfw,Bev,Bep] at hrun;refine hrun.trans ?_;rw[hld];rw[As,As,As];by_cases c1:k+Ld x+(P:Int)-1023 < -1075
 ·rw[Beq c1,Bep,hw,w3,(Go.Ct.Aur (V:=f+2^52) (by omega) (by rw[hl]; omega)).1]
 ·rw[Beu c1,Bet];by_cases c2:1023<k+Ld x+(P:Int)-1023
  ·have hng:(Ieee.double.order (Qc x) 0==some .lt)=Be x:=by rw[hw,Avu w4 (by omega) (by omega),w3]
   rw[Beq c2,Bep,hng,Bdw (by omega) (by rw[hl]; omega)];cases Be x<;>rfl
  ·rw[Beu c2,Bet];by_cases c3:k+Ld x+(P:Int)-1023 < -1022
   ·obtain⟨q,hq⟩:∃q:Nat,k+Ld x+(P:Int)-1023+53+1023=q:=⟨(k+Ld x+(P:Int)-1023+53+1023).toNat,by omega⟩
    have e1:Ad (Ad (k+Ld x+(P:Int)-1023+53)+1023)=(q:Int):=by rw[An (x:=k+Ld x+(P:Int)-1023+53) (by omega) (by omega),An (by omega) (by omega)]; exact hq
    have e2:=Atb (s:=Be x) (P:=P) (f:=f) p2 hf (q:=q) (by omega);obtain⟨v1,v2,v3,v4,v5,v6,v7⟩:=V4 (s:=Be x) (P:=q) (f:=f) (by omega) (by omega) hf;have hmul:=mul_pow (a:=Bf (Be x) (q*2^52+f)) (p:=4368491638549381120) (by omega) (by omega) (by rw[p53.2.2.1]; decide) (by rw[p53.2.2.1]; decide) p53.1 p53.2.2.2;have hmi:=Zr (a:=4368491638549381120) (b:=Bf (Be x) (q*2^52+f)) (by decide) v4 Io;rw[Aia] at hmi;have:=Aes hmi (by rw[hmul]; exact Vk _ _ _);have e3:(q:Int)-1075+-105+52=(P:Int)-1075+Ld x+k:=by omega
    have e4:(E7 (Bf (Be x) (q*2^52+f)) 4368491638549381120).1=Bf (Be x) (B9 (f+2^52) ((P:Int)-1075+Ld x+k)):=by rw[hmul,v3,v6,v7,p53.2.1,e3]
    rw[e4] at this;rw[Beq c3,Bep,e1,hw,e2,Beq (by omega),Bep,Ber,this]
   ·obtain⟨q,hq⟩:∃q:Nat,k+Ld x+(P:Int)-1023+1023=q:=⟨(k+Ld x+(P:Int)-1023+1023).toNat,by omega⟩
    have e1:Ad (k+Ld x+(P:Int)-1023+1023)=(q:Int):=by rw[An (by omega) (by omega)]; exact hq
    have e2:=Atb (s:=Be x) (P:=P) (f:=f) p2 hf (q:=q) (by omega);obtain⟨v1,v2,v3,v4,v5,v6,v7⟩:=V4 (s:=Be x) (P:=q) (f:=f) (by omega) (by omega) hf
    have hone:E7 4607182418800017408 (Bf (Be x) (q*2^52+f))=(Bf (Be x) (q*2^52+f),0):=by rw[Aia]; exact mul_one v4 (by omega) (by omega)
    have hmi:=Zr (a:=4607182418800017408) (b:=Bf (Be x) (q*2^52+f)) (by decide) v4 Io;have:=Aes hmi (by rw[hone]; show Ag (Bf (Be x) (q*2^52+f))≠4; omega);have er:=Azb (L:=(P:Int)-1075+Ld x+k) (q:=q) hf (by omega) (by omega) (by omega);rw[Beu c3,Bet,e1,hw,e2,Beq (by omega),Bep,Ber,this,hone,er]
theorem math.Rj.Ae:Kq 146 math.Rj.spec:=Eb math.Rj.E Tryz.func146 (kc math.Iq.Ae .nil) fun x k hp=>by have hp:(Aaj x&&Bq (-2300<=k/\k<=2300))=true:=hp;exact⟨0,.fl (Kt x k),[],by rw[math.Rj.ev,hp,Bep],.fl⟩
theorem Aon{x:Nat}(k:Int):E5 (Kt x k)=(Cq x k).1:=by
 unfold Kt;by_cases h4:Ag x=4
 ·rw[Bfc h4];unfold E5 Cq;rw[Bfc h4,Bfc h4]
 ·rw[Bfb h4];unfold E5;rw[Bfb];unfold Cq;rw[Bfb h4];by_cases h3:Ag x=3\/Ag x=0
  ·rw[Bfc h3]; exact h4
  ·rw[Bfb h3]; exact Vk _ _ _
theorem Aq.Cc.Ae:Kq 85 Aq.Cc.spec:=Eb Aq.Cc.E Tryz.func85 (kc math.Rj.Ae (kc Aq.B.Ae (kc Aq.F.Ae .nil))) fun a k hp=>by
 obtain⟨h1,h2⟩:=Ac.1 (show Dk a k=true from hp);obtain⟨x,rfl,hx⟩:=Bu h1;refine⟨0,.int .u64 (A7 (x:Int) k),[],?_,.int⟩;have hp:Aaj x=true:=Ak.2 hx
 have:H0 (Kt x k)=A7 (x:Int) k:=by unfold H0 A7;rw[Ber,Aon]
 rw[Aq.Cc.ev,h1,Bep,Ber,hp,h2,Bev,Bep,this]
set_option maxRecDepth 100000
def Cy.ends.E:=E0 [(114,Bg.Finite.spec),(102,Bg.Neg.spec)]
theorem Cy.ends.ev(N:Nat)(b:Int):Bv Cy.ends.E N f59 (Aj f59) [.int .u64 b]=cond (Af b) (bif (Dl b) then some (.int .i64 0) else bif (Af b) then cond (En b) (some (.int .i64 (-1:Int))) (some (.int .i64 1)) else none) none:=by kernel_rfl
def Cy.Order.E:=E0 [(43,Av.Compare.spec),(58,Bg.Kind.spec),(38,Bg.Value.spec),(59,Cy.ends.spec)]
theorem Cy.Order.ev(N:Nat)(a b:Int):Bv Cy.Order.E N f19 (Aj f19) [.int .u64 a,.int .u64 b]=cond (R9 a) (bif (((Bb a)==(4:Int))||(R9 b)) then cond (((Bb a)==(4:Int))||((Bb b)==(4:Int))) (some (.tup [.int .i64 0,.bool false])) (bif (Af a) then cond (Af b) (bif (((Yi a) !=(0:Int))||((Yi b) !=(0:Int))) then some (.tup [.int .i64 (max (-1:Int) (min 1 (Ad ((Yi a)-(Yi b))))),.bool true]) else bif (Af a) then cond (Af b) (bif (((okV (Ba (mD (Gf a))) (Al (mD (Gf a)))&&okV (Ba (mD (Gf b))) (Al (mD (Gf b))))&&Ts (eD (Gf a) (Bn a)))&&Ts (eD (Gf b) (Bn b))) then some (.tup [.int .i64 (Aac (wv (Ba (mD (Gf a))) (Al (mD (Gf a)))) (eD (Gf a) (Bn a)) (wv (Ba (mD (Gf b))) (Al (mD (Gf b)))) (eD (Gf b) (Bn b))),.bool true]) else none) none else none) none else none) else none) none :=Et (Es (Ax (Uw ((Bb a)==(4:Int))) (Co (A3k _ _) (Ax (Te ((Bb a)==(4:Int))) (Ax (tt6 ((Bb a)==(4:Int))) (Co (tt5 _ _) rfl (Es (Es (Ax (Uw ((Yi a) !=(0:Int))) (Ax (Te ((Yi a) !=(0:Int))) (Ax (tt6 ((Yi a) !=(0:Int))) (Co (tt5 _ _) rfl rfl)))) rfl) rfl)))) rfl)) rfl)
def Cy.Nc.E:=E0 [(86,Bg.Eg.spec),(102,Bg.Neg.spec)]
theorem Cy.Nc.ev(N:Nat)(a:Int):Bv Cy.Nc.E N f84 (Aj f84) [.int .u64 a]=cond (Af a) (bif (En a) then cond (Af a) (some (.int .u64 (B7 a))) none else some (.int .u64 a)) none:=by kernel_rfl
def Cy.Max.E:=E0 [(19,Cy.Order.spec)]
theorem Cy.Max.ev(N:Nat)(a b:Int):Bv Cy.Max.E N f151 (Aj f151) [.int .u64 a,.int .u64 b]=cond (Af a&&Af b) (bif (!(Su a b)) then some (.int .u64 9221120237041090560) else bif (Bc (Hp a b) 0) then some (.int .u64 b) else some (.int .u64 a)) none:=by kernel_rfl
def Cy.Tc.E:=E0 [(109,Av.Top.spec),(114,Bg.Finite.spec),(58,Bg.Kind.spec),(38,Bg.Value.spec)]
theorem Cy.Tc.ev(N:Nat)(a:Int):Bv Cy.Tc.E N f92 (Aj f92) [.int .u64 a]=cond (Af a) (bif ((!(Dl a))||(R9 a)) then cond ((!(Dl a))||((Bb a)==(0:Int))) (some (.int .i64 0)) (bif (Af a) then cond (Nd (Ba (mD (Gf a))) (Al (mD (Gf a)))&&Ts (eD (Gf a) (Bn a))) (some (.int .i64 (Ad ((Ki (wv (Ba (mD (Gf a))) (Al (mD (Gf a)))) (eD (Gf a) (Bn a)))-1)))) none else none) else none) none :=Et (Es (Ax (Xw (Dl a)) (Co (Apl _ _) (Ax (R7 (Dl a)) (Ax (Aau (Dl a)) (Co (A7g _ _) rfl rfl))) rfl)) rfl)
def Aq.Ck.hint:Nat->Option A9
 | 0=>some { keep:=[0,3,4],objs:=[],boxes:=[] }
 | _=>none
def Aq.Ck.E:=C6 (Cw [(84,Cy.Nc.spec),(151,Cy.Max.spec)]) (fun _=>false) Aq.Ck.hint (fun _=>none)
section
variable(N M:Nat)(x:List Int)(p3 p4:Int)
def Aq.Ck.L0:Option DV:=B2 Aq.Ck.E N f93 (Aj f93) [1,1,0,1,0] [] M ⟨F3 19 [(0,.ints .arg .u64 x),(3,.int .u64 p3),(4,.int .i64 p4)],[]⟩
theorem Aq.Ck.Ar:Aq.Ck.L0 N (M+1) x p3 p4=cond (Bc p4 (length x:Int)) (bif ((decide (0<=p4))&&(decide (p4<(length x:Int)))) then cond (Af (getD x (toNat p4) 0)) (bif (Af p3&&Af (Hq (getD x (toNat p4) 0))) then Aq.Ck.L0 N M x (Ya p3 (Hq (getD x (toNat p4) 0))) (Ad (p4+1)) else none) none else none) (some (.int .u64 p3)):=by kernel_rfl
theorem Aq.Ck.ev:Bv Aq.Ck.E N f93 (Aj f93) [.ints .arg .u64 x] =
 Aq.Ck.L0 N N x 0 0:=by kernel_rfl
end
def math.Sqrt.E:=E0 []
theorem math.Sqrt.ev(N x:Nat):Bv math.Sqrt.E N f197 (Aj f197) [.fl x]=some (.fl ((Ieee.double.sqrt x).getD nanBits)):=by kernel_rfl
def Aq.Sqrt.E:=E0 [(197,math.Sqrt.spec),(145,Aq.B.spec),(147,Aq.F.spec)]
theorem Aq.Sqrt.ev(N:Nat)(a:Int):Bv Aq.Sqrt.E N f154 (Aj f154) [.int .u64 a]=cond (Af a) (some (.int .u64 (H0 (((Ieee.double.sqrt (toNat a)).getD nanBits))))) none:=by kernel_rfl
def Aq.Norm.hint:Nat->Option A9
 | 0=>some { keep:=[0,4,5,6],objs:=[],boxes:=[] }
 | _=>none
def Aq.Norm.E:=C6 (Cw [(114,Bg.Finite.spec),(92,Cy.Tc.spec),(152,Aq.Add.spec),(93,Aq.Ck.spec),(153,Aq.Mul.spec),(85,Aq.Cc.spec),(154,Aq.Sqrt.spec)]) (fun _=>false) Aq.Norm.hint (fun _=>none)
section
variable(N M:Nat)(x:List Int)(p5 p6:Int)
def Aq.Norm.L0:Option DV:=B2 Aq.Norm.E N f96 (Aj f96) [1,1,1,1,1,0,1,0] [] M ⟨F3 42 [(0,.ints .arg .u64 x),(4,.int .i64 (Bs (Bi x))),(5,.int .u64 p5),(6,.int .i64 p6)],[]⟩
theorem Aq.Norm.Ar:Aq.Norm.L0 N (M+1) x p5 p6=cond (Bc p6 (length x:Int)) (bif ((decide (0<=p6))&&(decide (p6<(length x:Int)))) then cond (Dk (getD x (toNat p6) 0) (Ad ((0:Int)-(Bs (Bi x))))) (bif (Af (A7 (getD x (toNat p6) 0) (Ad ((0:Int)-(Bs (Bi x)))))&&Af (A7 (getD x (toNat p6) 0) (Ad ((0:Int)-(Bs (Bi x)))))) then cond (Af p5&&Af (Bz (A7 (getD x (toNat p6) 0) (Ad ((0:Int)-(Bs (Bi x))))) (A7 (getD x (toNat p6) 0) (Ad ((0:Int)-(Bs (Bi x))))))) (Aq.Norm.L0 N M x (De p5 (Bz (A7 (getD x (toNat p6) 0) (Ad ((0:Int)-(Bs (Bi x))))) (A7 (getD x (toNat p6) 0) (Ad ((0:Int)-(Bs (Bi x))))))) (Ad (p6+1))) none else none) none else none) (bif (Af p5) then cond (Dk (Dt p5) (Bs (Bi x))) (some (.int .u64 (A7 (Dt p5) (Bs (Bi x))))) none else none):=by kernel_rfl
theorem Aq.Norm.ev:Bv Aq.Norm.E N f96 (Aj f96) [.ints .arg .u64 x]=cond (By x) (bif (((Bi x)==(0:Int))||(Af (Bi x))) then cond (((Bi x)==(0:Int))||(!(Dl (Bi x)))) (some (.int .u64 (Bi x))) (bif (Af (Bi x)) then Aq.Norm.L0 N N x 0 (0:Int) else none) else none) none :=Et (Es (Ax (Uw ((Bi x)==(0:Int))) (Co (A3k _ _) (Ax (Te ((Bi x)==(0:Int))) (Ax (tt6 ((Bi x)==(0:Int))) (Co (Bac _ _) rfl rfl))) rfl)) rfl)
end
theorem Cy.ends.Ae:Kq 59 Cy.ends.spec:=Eb Cy.ends.E Tryz.func59 (kc Bg.Finite.Ae (kc Bg.Neg.Ae .nil)) fun b hp=>by
 have hp:Af b=true:=hp;refine⟨0,.int .i64 (Yi b),[],?_,.int⟩;rw[Cy.ends.ev,hp,Bep,Bep];unfold Yi;cases Dl b with
 | true=>rfl
 | false =>rw[Bet,Bfb (by decide)];cases En b<;>rfl
theorem Cy.Nc.Ae:Kq 84 Cy.Nc.spec:=Eb Cy.Nc.E Tryz.func84 (kc Bg.Eg.Ae (kc Bg.Neg.Ae .nil)) fun a hp=>by
 obtain⟨n,rfl,hn⟩:=Bu (x:=a) hp;refine⟨0,.int .u64 (Hq (n:Int)),[],?_,.int⟩;rw[Cy.Nc.ev,Cr hn,Bep,Bep];unfold Hq En B7 E9 Fz Be;rw[Ber];by_cases h:2^63<=n
 ·rw[Beq h,Bep,Bfc h,show n%2^63=n-2^63 by omega]
 ·rw[Beu h,Bet,show n%2^63=n by omega]
theorem Akf(b:Nat):okV (Ba (mD (Gf (b:Int)))) (Al (mD (Gf (b:Int))))=true/\Nd (Ba (mD (Gf (b:Int)))) (Al (mD (Gf (b:Int))))=true/\Ts (eD (Gf (b:Int)) (Aw b))=true:=by obtain⟨v1,v2,v3⟩:=A61 b;have hl:Ek (mD (Gf (b:Int))).natAbs<3:=Bfr (Qr (Abm _)) v1;exact⟨Aqr (by omega),J7 (by omega),Ak.2 ⟨v2,v3⟩⟩
theorem A5u{a b:Nat}(ha:Ag a≠4)(hb:Ag b≠4):Aac (mD (Gf (a:Int))) (eD (Gf (a:Int)) (Aw a)) (mD (Gf (b:Int))) (eD (Gf (b:Int)) (Aw b))=if G5 a<G5 b then -1 else if G5 b<G5 a then 1 else 0:=by
 have pa:=Da a;have pb:=Da b;have ga:mD (Gf (a:Int))≠0->(-1074:Int)<=eD (Gf (a:Int)) (Aw a):=fun h=>A6x pa.1 (fun h0=>h (Ns.2 h0))
 have gb:mD (Gf (b:Int))≠0->(-1074:Int)<=eD (Gf (b:Int)) (Aw b):=fun h=>A6x pb.1 (fun h0=>h (Ns.2 h0))
 rw[At6 ga gb,Asi pa.1,Asi pb.1,<- Axy,<- Axy];have h1:=Ajf (f:=-1074) ha hb pa.1 pb.1;have h2:=Ajf (f:=-1074) hb ha pb.1 pa.1;unfold Abv;by_cases c1:Gc a (-1074)<Gc b (-1074)
 ·rw[Bfc c1,Bfc (h1.1 c1)]
 ·rw[Bfb c1,Bfb (fun h=>c1 (h1.2 h))];by_cases c2:Gc b (-1074)<Gc a (-1074)
  ·rw[Bfc c2,Bfc (h2.1 c2)]
  ·rw[Bfb c2,Bfb (fun h=>c2 (h2.2 h))]
theorem A03{b:Nat}(hb:b<2^64):G5 b=Il (Be b) (b%2^63):=by have:=Nu (Be b) (r:=b%2^63) (zv _ (by decide));rw[Qm hb] at this;exact this
theorem Aty{b:Nat}(hb:b<2^64)(h4:Ag b≠4):(Iy b=true->Yi (b:Int)=0/\-(Ea:Int)<G5 b/\G5 b<Ea)/\(Iy b=false->Ag b=3/\((Yi (b:Int)=1/\G5 b=Ea)\/(Yi (b:Int)=-1/\G5 b=-(Ea:Int)))):=by
 have hk:=A03 hb;constructor
 ·intro hf;obtain⟨_,f3⟩:=Kw hf;have hl:=Wt f3 h4;refine⟨by unfold Yi Dl; rw[Ber,hf,Bfc rfl],?_⟩;rw[hk];unfold Il;cases Be b
  ·rw[Bfb (by decide)]; omega
  ·rw[Bfc rfl]; omega
 ·intro hf
  have h3:Ag b=3:=by
   unfold Iy at hf;have:=of_decide_eq_false hf;rcases Iu b with ⟨_,_,k⟩ | ⟨_,_,k⟩ | ⟨k,_,_⟩
   ·exact k
   ·exact absurd k h4
   ·omega
  have hi:=Tu h3;refine⟨h3,?_⟩;rw[hk,hi];unfold Yi Dl En Il;rw[Ber,hf,Bfb (by decide)];cases Be b
  ·left; exact⟨rfl,rfl⟩
  ·right; exact⟨rfl,rfl⟩
theorem Cy.Order.Ae:Kq 19 Cy.Order.spec:=Eb Cy.Order.E Tryz.func19 (kc Av.Compare.Ae (kc Bg.Kind.Ae (kc Bg.Value.Ae (kc Cy.ends.Ae .nil)))) fun a b hp=>by
 obtain⟨ha,hb⟩:=Ac.1 (show(Af a&&Af b)=true from hp);obtain⟨a,rfl,hn⟩:=Bu ha;obtain⟨b,rfl,hm⟩:=Bu hb;refine⟨0,.tup [.int .i64 (Hp (a:Int) (b:Int)),.bool (Su (a:Int) (b:Int))],[],?_,Wk.Ik (.cons .int (.cons .bool .nil))⟩;have kk:∀n:Nat,Bb (n:Int)=(Ag n:Int):=fun _=>rfl
 have pe:∀n:Nat,Bn (n:Int)=Aw n:=fun _=>rfl
 rw[Cy.Order.ev,No,No,ha,hb,Bep,Bf1,Bep,Bep,Bep,Bep,Bep,kk,kk,pe,pe,Gm,Gm];unfold Hp Su Abf Aev;rw[Ber,Ber];by_cases n4:Ag a=4\/Ag b=4
 ·have:(((Ag a:Nat):Int)==4||((Ag b:Nat):Int)==4)=true:=by rw[zK,beq_iff_eq,beq_iff_eq]; omega
  rw[this,Bep,Bfc n4,Beq n4]; rfl
 ·have:(((Ag a:Nat):Int)==4||((Ag b:Nat):Int)==4)=false:=by rw[yy,Bfk,Bfk]; omega
  rw[this,Bet,Bfb n4,Beu n4,Bf8];have a4:Ag a≠4:=fun h=>n4 (.inl h)
  have b4:Ag b≠4:=fun h=>n4 (.inr h)
  obtain⟨a1,a2⟩:=Aty hn a4;obtain⟨b1,b2⟩:=Aty hm b4;have hinf:(0:Int)<(Ea:Int):=by decide
  cases hfa:Iy a with
  | true =>
    obtain⟨ea,ka1,ka2⟩:=a1 hfa;cases hfb:Iy b with
    | true =>obtain⟨eb,kb1,kb2⟩:=b1 hfb;obtain⟨o1,_,o3⟩:=Akf a;obtain⟨p1,_,p3⟩:=Akf b;have hc:=A5u a4 b4;rw[ea,eb,show(((0:Int) !=(0:Int))||((0:Int) !=(0:Int)))=false from rfl,Bet,o1,o3,p1,p3,hc];rfl
    | false =>
      obtain⟨_,hb2⟩:=b2 hfb;rcases hb2 with ⟨eb,kb⟩ | ⟨eb,kb⟩
      ·rw[ea,eb,kb,Bfc ka2]; rfl
      ·rw[ea,eb,kb,Bfb (by omega),Bfc ka1]; rfl
  | false =>
    obtain⟨_,ha2⟩:=a2 hfa;cases hfb:Iy b with
    | true =>
      obtain⟨eb,kb1,kb2⟩:=b1 hfb;rcases ha2 with ⟨ea,ka⟩ | ⟨ea,ka⟩
      ·rw[ea,eb,ka,Bfb (by omega),Bfc kb2]; rfl
      ·rw[ea,eb,ka,Bfc kb1]; rfl
    | false =>
      obtain⟨_,hb2⟩:=b2 hfb;rcases ha2 with ⟨ea,ka⟩ | ⟨ea,ka⟩<;>rcases hb2 with ⟨eb,kb⟩ | ⟨eb,kb⟩
      ·rw[ea,eb,ka,kb,Bfb (by omega),Bfb (by omega)]; rfl
      ·rw[ea,eb,ka,kb,Bfb (by omega),Bfc (by omega)]; rfl
      ·rw[ea,eb,ka,kb,Bfc (by omega)]; rfl
      ·rw[ea,eb,ka,kb,Bfb (by omega),Bfb (by omega)]; rfl
theorem Cy.Max.Ae:Kq 151 Cy.Max.spec:=Eb Cy.Max.E Tryz.func151 (kc Cy.Order.Ae .nil) fun a b hp=>by
 have hp:(Af a&&Af b)=true:=hp;refine⟨0,.int .u64 (Ya a b),[],?_,.int⟩;rw[Cy.Max.ev,hp,Bep,As];unfold Ya Aq7 Su Hp;cases Aev a.toNat b.toNat with
 | false=>rfl
 | true =>
   rw[Bfo,Bet,Bfc rfl];obtain⟨h1,h2⟩:=Ac.1 hp;obtain⟨x,rfl,_⟩:=Bu h1;obtain⟨y,rfl,_⟩:=Bu h2;rw[Ber,Ber];by_cases h:Abf x y<0
   ·rw[Beq h,Bep,Bfc h]
   ·rw[Beu h,Bet,Bfb h]
theorem Cy.Tc.Ae:Kq 92 Cy.Tc.spec:=Eb Cy.Tc.E Tryz.func92 (kc Av.Top.Ae (kc Bg.Finite.Ae (kc Bg.Kind.Ae (kc Bg.Value.Ae .nil)))) fun a hp=>by
 obtain⟨b,rfl,hb⟩:=Bu (x:=a) hp;refine⟨0,.int .i64 (Bs (b:Int)),[],?_,.int⟩;have kk:Bb (b:Int)=(Ag b:Int):=rfl;have hf:Dl (b:Int)=Iy b:=rfl;have pe:Bn (b:Int)=Aw b:=rfl;obtain⟨_,o2,o3⟩:=Akf b;have hE:=Da b;have hM:=F8 b;rw[Cy.Tc.ev,Cr hb,Bep,No,Bf1,Bep,kk,hf,pe,o2,o3,Gm,Bev,Bep,Bep];unfold Bs;rw[Ber];unfold Pp;cases hfin:Iy b with
 | false=>rfl
 | true =>
   by_cases h0:Ag b=0
   ·rw[h0]; rfl
   ·have k0:(((Ag b:Nat):Int)==(0:Int))=false:=by rw[Bfk]; omega
    obtain⟨f4,f3⟩:=Kw hfin;have hm:Ap b≠0:=fun hz=>h0 ((Du f3 f4).1 hz)
    have hv:Gf (b:Int)≠0:=by intro h;have:=Ajg b;rw[h] at this;exact hm this.symm
    have hl:(Ap b).log2<=52:=by have:=(Bf5 hm).2 (show Ap b<2^53 by omega); omega
    have ht:Ki (mD (Gf (b:Int))) (eD (Gf (b:Int)) (Aw b))=((Ap b).log2:Int)+1+Aw b:=by
     unfold Ki Afg;rw[Bfb (fun h=>hv (Ns.1 h)),Bfb (fun h=>hv (Ns.1 h))];unfold eD;rw[Bfb hv];have hs:=Zv (Gf (b:Int))
     have ha:Ap b=(mD (Gf (b:Int))).natAbs*2^Um (Gf (b:Int)).natAbs:=by have e:=congrArg Int.natAbs hs;rw[Int.natAbs_mul,Int.natAbs_natCast] at e;rw[<- Ajg b];exact e
     have hmd:(mD (Gf (b:Int))).natAbs≠0:=fun h=>hv (Ns.1 (Int.natAbs_eq_zero.1 h))
     have hlog:=O9 (mD (Gf (b:Int))).natAbs (Um (Gf (b:Int)).natAbs) hmd;rw[<- ha] at hlog;rw[hlog];omega
    rw[k0,Bfc ⟨rfl,h0⟩,ht,An (by omega) (by omega)];show some (DV.int .i64 _)=_;congr 2; omega
theorem Atq{b:Nat}(h:b<2^63):G5 b=(b:Int):=Nu false h
theorem A4w{m x:Nat}(hm:m<2^63)(m4:Ag m≠4)(hx:x<2^63)(x4:Ag x≠4):Aq7 m x=max m x:=by
 have o:Aev m x=true:=by unfold Aev; rw[Beu (by omega)]; rfl
 have ho:Abf m x=if (m:Int)<(x:Int) then -1 else if (x:Int)<(m:Int) then 1 else 0:=by unfold Abf;rw[Bfb (by omega),Atq hm,Atq hx]
 unfold Aq7;rw[o,Bfc rfl,ho];by_cases h:m<x
 ·rw[Bfc (show(m:Int)<(x:Int) by omega),Bfc (by decide),vf (by omega)]
 ·rw[Bfb (show ¬(m:Int)<(x:Int) by omega)];by_cases h2:x<m
  ·rw[Bfc (show(x:Int)<(m:Int) by omega),Bfb (by decide),wy (by omega)]
  ·rw[Bfb (show ¬(x:Int)<(m:Int) by omega),Bfb (by decide),wy (by omega)]
theorem Atl{m x:Nat}(h:Ag m=4\/Ag x=4):Aq7 m x=P1:=by
 have o:Aev m x=false:=by unfold Aev; rw[Beq h]; rfl
 unfold Aq7;rw[o,Bfb (by decide)]
theorem Awb:Ag P1=4:=by decide
theorem An4:∀l:List Int,l.foldl (fun m x=>Ya m (Hq x)) ((P1:Nat):Int)=((P1:Nat):Int)
 | []=>rfl
 | x::l=>by
   rw[yn];have:Ya ((P1:Nat):Int) (Hq x)=((P1:Nat):Int):=by unfold Ya; rw[Ber,Atl (.inl Awb)]
   rw[this];exact An4 l
theorem An5:∀(l:List Int) (m:Nat),m<2^63->Ag m≠4->l.foldl (fun m x=>Ya m (Hq x)) (m:Int)=((Nb l m:Nat):Int)
 | [],m,_,_=>rfl
 | x::l,m,hm,m4=>by
   rw[yn];unfold Nb;have e1:(Hq x).toNat=E9 x.toNat:=by unfold Hq; rw[Ber]
   by_cases h:Ag x.toNat=4
   ·rw[Bfc h]
    have:Ya (m:Int) (Hq x)=((P1:Nat):Int):=by unfold Ya;rw[e1,Atl (.inr (by rw[Vl]; exact h))]
    rw[this];exact An4 l
   ·rw[Bfb h];have hx:=Ub x.toNat;have x4:Ag (E9 x.toNat)≠4:=by rw[Vl]; exact h
    have:Ya (m:Int) (Hq x)=((max m (E9 x.toNat):Nat):Int):=by unfold Ya;rw[Ber,e1,A4w hm m4 hx x4]
    rw[this];refine An5 l _ (by omega) ?_;rcases Nat.le_total m (E9 x.toNat) with h2 | h2
    ·rw[vf h2]; exact x4
    ·rw[wy h2]; exact m4
theorem A8d{a b:Int}(ha:Af a=true)(hb:Af b=true):Af (Ya a b)=true:=by
 obtain⟨x,rfl,hx⟩:=Bu ha;obtain⟨y,rfl,hy⟩:=Bu hb;unfold Ya Aq7;rw[Ber,Ber];split
 ·split
  ·exact hb
  ·exact ha
 ·exact Cr (by decide)
theorem Akb(N:Nat){x:List Int}(hx:By x=true):∀(k i F:Nat) (m:Int),i+k=x.length->k<F->Af m=true->Aq.Ck.L0 N F x m (i:Int)=some (.int .u64 ((x.drop i).foldl (fun m x=>Ya m (Hq x)) m)):=by
 obtain⟨hl,hu⟩:=Jr hx;intro k
 induction k with
 | zero =>
   intro i F m hi hF hm;obtain⟨F,rfl⟩:∃G,F=G+1:=⟨F-1,by omega⟩
   rw[Aq.Ck.Ar,As,Beu (by omega),Bet,Be3 (by omega)]; rfl
 | succ k ih =>
   intro i F m hi hF hm;obtain⟨F,rfl⟩:∃G,F=G+1:=⟨F-1,by omega⟩
   rw[Aq.Ck.Ar,As,Beq (show(i:Int)<(x.length:Int) by omega),Bep,Beq (show(0:Int)<=(i:Int) by omega),Bev,Bep,Ber,hu i (by omega),Bep,hm,Q7,Bev,Bep,Lh (by omega),yn,An (by omega) (by omega)];exact ih (i+1) F _ (by omega) (by omega) (A8d hm (Q7 _))
theorem Aq.Ck.Ae:Kq 93 Aq.Ck.spec:=Eb Aq.Ck.E Tryz.func93 (kc Cy.Nc.Ae (kc Cy.Max.Ae .nil)) fun x hp=>by refine⟨x.length+1,.int .u64 (Bi x),[],?_,.int⟩;rw[Aq.Ck.ev];have h:=Akb (x.length+1) hp x.length 0 (x.length+1) 0 (by omega) (by omega) Md;rw[zW] at h;have h2:=An5 x 0 (by decide) (by decide +kernel);exact h.trans (congrArg (fun n:Int=>some (DV.int .u64 n)) h2)
theorem math.Sqrt.Ae:Kq 197 math.Sqrt.spec:=Eb math.Sqrt.E Tryz.func197 .nil fun x _=>⟨0,.fl ((Ieee.double.sqrt x).getD nanBits),[],by rw[math.Sqrt.ev],.fl⟩
theorem Aq.Sqrt.Ae:Kq 154 Aq.Sqrt.spec:=Eb Aq.Sqrt.E Tryz.func154 (kc math.Sqrt.Ae (kc Aq.B.Ae (kc Aq.F.Ae .nil))) fun a hp=>by
 obtain⟨x,rfl,hx⟩:=Bu (x:=a) hp;refine⟨0,.int .u64 (Dt (x:Int)),[],?_,.int⟩
 have:H0 ((Ieee.double.sqrt (toNat (x:Int))).getD nanBits)=Dt (x:Int):=by unfold H0 Dt;rw[Ber,Avl hx Io]
 rw[Aq.Sqrt.ev,Cr hx,Bep,this]
theorem Ag1(N:Nat){x:List Int}(hx:By x=true):∀(k i F:Nat) (s:Int),i+k=x.length->k<F->Af s=true ->
 Aq.Norm.L0 N F x s (i:Int)=some (.int .u64 (A7 (Dt (Jz (-Bs (Bi x)) s (x.drop i))) (Bs (Bi x)))):=by
 obtain⟨hl,hu⟩:=Jr hx;have he:=Yh (Bi x);intro k
 induction k with
 | zero =>
   intro i F s hi hF hs;obtain⟨F,rfl⟩:∃G,F=G+1:=⟨F-1,by omega⟩
   rw[Aq.Norm.Ar,As,Beu (by omega),Bet,hs,Bep,show Dk (Dt s) (Bs (Bi x))=true from Ac.2 ⟨Th hs,Ak.2 (by omega)⟩,Bep,Be3 (by omega)];rfl
 | succ k ih =>
   intro i F s hi hF hs;obtain⟨F,rfl⟩:∃G,F=G+1:=⟨F-1,by omega⟩
   rw[Aq.Norm.Ar,As,Beq (show(i:Int)<(x.length:Int) by omega),Bep,Beq (show(0:Int)<=(i:Int) by omega),Bev,Bep,Ber,An (x:=(0:Int)-Bs (Bi x)) (by omega) (by omega),show(0:Int)-Bs (Bi x)=-Bs (Bi x) by omega,
    show Dk (getD x i 0) (-Bs (Bi x))=true from Ac.2 ⟨hu i (by omega),Ak.2 (by omega)⟩,Bep,Hs (hu i (by omega)),Bev,Bep,hs,Fc,Bev,Bep,Ama (by omega),An (by omega) (by omega)]
   exact ih (i+1) F _ (by omega) (by omega) (Pr hs (Fc _ _))
theorem Aq.Norm.Ae:Kq 96 Aq.Norm.spec:=Eb Aq.Norm.E Tryz.func96 (kc Bg.Finite.Ae (kc Cy.Tc.Ae (kc Aq.Add.Ae (kc Aq.Ck.Ae (kc Aq.Mul.Ae (kc Aq.Cc.Ae (kc Aq.Sqrt.Ae .nil))))))) fun x hp=>by
 have hx:By x=true:=hp;refine⟨x.length+1,.int .u64 (Bk x),[],?_,.int⟩;rw[Aq.Norm.ev,hx,Bep,Sd,Bf1,Bep];unfold Bk;by_cases h:Bi x=0\/Dl (Bi x)=false
 ·have:((Bi x==(0:Int))||(!(Dl (Bi x))))=true:=by
   rcases h with h | h
   ·rw[h]; rfl
   ·rw[h,Bf8,Bf1]
  rw[this,Bep,Bfc h]
 ·have:((Bi x==(0:Int))||(!(Dl (Bi x))))=false:=by
   rw[yy,Bfk,Bool.not_eq_false'];refine⟨fun h0=>h (.inl h0),?_⟩;cases hf:Dl (Bi x) with
   | true=>rfl
   | false=>exact absurd (.inr hf) h
  rw[this,Bet,Bep,Bfb h];exact Ag1 (x.length+1) hx x.length 0 (x.length+1) 0 (by omega) (by omega) Md
def A5.Fp.hint:Nat->Option A9
 | 0=>some { keep:=[5,6,7],objs:=[],boxes:=[] }
 | _=>none
def A5.Fp.E:=C6 (Cw [(165,soft.Kind.spec)]) (fun _=>false) A5.Fp.hint (fun _=>none)
section
variable(N M:Nat)(x:List Int)(p7:Int)
def A5.Fp.L0:Option DV:=B2 A5.Fp.E N f225 (Aj f225) [1,0,1,0] [] M ⟨F3 15 [(5,.ints .arg .u64 x),(6,.int .i64 (length x:Int)),(7,.int .i64 p7)],[]⟩
theorem A5.Fp.Ar:A5.Fp.L0 N (M+1) x p7=cond (Bc p7 (length x:Int)) (bif ((decide (0<=p7))&&(decide (p7<(length x:Int)))) then cond (Af (getD x (toNat p7) 0)) (bif ((Bb (getD x (toNat p7) 0)) !=(0:Int)) then some (.bool false) else A5.Fp.L0 N M x (Ad (p7+1))) none else none) (some (.bool true)):=by kernel_rfl
theorem A5.Fp.ev:Bv A5.Fp.E N f225 (Aj f225) [.ints .arg .u64 x] =
 A5.Fp.L0 N N x 0:=by kernel_rfl
end
def A5.lead.hint:Nat->Option A9
 | 0=>some { keep:=[5,6,7],objs:=[],boxes:=[] }
 | _=>none
def A5.lead.E:=C6 (Cw [(165,soft.Kind.spec)]) (fun _=>false) A5.lead.hint (fun _=>none)
section
variable(N M:Nat)(x:List Int)(p7:Int)
def A5.lead.L0:Option DV:=B2 A5.lead.E N f229 (Aj f229) [1,0,1,0] [] M ⟨F3 16 [(5,.ints .arg .u64 x),(6,.int .i64 (length x:Int)),(7,.int .i64 p7)],[]⟩
theorem A5.lead.Ar:A5.lead.L0 N (M+1) x p7=cond (Bc p7 (length x:Int)) (bif ((decide (0<=p7))&&(decide (p7<(length x:Int)))) then cond (Af (getD x (toNat p7) 0)) (bif ((Bb (getD x (toNat p7) 0)) !=(0:Int)) then some (.int .u64 (getD x (toNat p7) 0)) else A5.lead.L0 N M x (Ad (p7+1))) none else none) (some (.int .u64 0)):=by kernel_rfl
theorem A5.lead.ev:Bv A5.lead.E N f229 (Aj f229) [.ints .arg .u64 x] =
 A5.lead.L0 N N x 0:=by kernel_rfl
end
def A5.Bx.hint:Nat->Option A9
 | 0=>some { keep:=[1,5,8,9,10],objs:=[(0,5,100005,.ints 43 .u64 [])],boxes:=[] }
 | _=>none
def A5.Bx.E:=C6 (Cw [(79,Ai.Cc.spec)]) (fun _=>false) A5.Bx.hint (fun _=>none)
section
variable(N M:Nat)(x:List Int)(k p10:Int)(p5:List Int)
def A5.Bx.L0:Option DV:=B2 A5.Bx.E N f228 (Aj f228) [1,1,0,1,0] [] M ⟨F3 22 [(1,.int .i64 k),(5,.oref 100005),(8,.ints .arg .u64 x),(9,.int .i64 (length x:Int)),(10,.int .i64 p10)],[(100005,false,.ints 43 .u64 p5)]⟩
theorem A5.Bx.Ar:A5.Bx.L0 N (M+1) x k p10 p5=cond (Bc p10 (length x:Int)) (bif ((decide (0<=p10))&&(decide (p10<(length x:Int)))) then cond (Dk (getD x (toNat p10) 0) k) (bif (decide ((length p5)+1<=G2)) then A5.Bx.L0 N M x k (Ad (p10+1)) (p5++[(A7 (getD x (toNat p10) 0) k)]) else none) none else none) (some (.ints (.own 100005 43) .u64 p5)):=by kernel_rfl
theorem A5.Bx.ev:Bv A5.Bx.E N f228 (Aj f228) [.ints .arg .u64 x,.int .i64 k] =
 A5.Bx.L0 N N x k 0 []:=by kernel_rfl
end
def A5.Lv.E:=E0 []
theorem A5.Lv.ev(N:Nat)(i:Int):Bv A5.Lv.E N f227 (Aj f227) [.int .i64 i]=some (.int .u64 0):=by kernel_rfl
def A5.Lu.E:=E0 [(82,Ai.Div.spec)]
theorem A5.Lu.ev(N:Nat)(i:Int)(y:List Int)(d:Int):Bv A5.Lu.E N f230 (Aj f230) [.int .i64 i,.cellp [.ints .arg .u64 y],.cellp [.int .u64 d]]=cond ((decide (0<=i))&&(decide (i<(length y:Int)))) (bif (Af (getD y (toNat i) 0)&&Af d) then some (.int .u64 (E2 (getD y (toNat i) 0) d)) else none) none :=Et (Co (Kz _ _) (Co (Cb _) rfl rfl) rfl)
def A5.row.Zero.hint:Nat->Option A9
 | 0=>some { keep:=[0,1,5,6],objs:=[(0,5,100005,.ints 43 .u64 [])],boxes:=[] }
 | _=>none
def A5.row.Zero.E:=C6 (Cw [(227,A5.Lv.spec)]) (fun _=>false) A5.row.Zero.hint (fun _=>none)
section
variable(N M:Nat)(n p6:Int)(p5:List Int)
def A5.row.Zero.L0:Option DV:=B2 A5.row.Zero.E N f226 (Aj f226) [1,1,0,1,0] [] M ⟨F3 23 [(0,.int .i64 n),(1,.fn 227 [] []),(5,.oref 100005),(6,.int .i64 p6)],[(100005,false,.ints 43 .u64 p5)]⟩
theorem A5.row.Zero.Ar:A5.row.Zero.L0 N (M+1) n p6 p5=cond (Bc p6 n) (bif (decide ((length p5)+1<=G2)) then A5.row.Zero.L0 N M n (Ad (p6+1)) (p5++[(0:Int)]) else none) (bif (((decide ((0:Int)<=n))&&(decide (n<=n)))&&((decide ((0:Int)<=n))&&(decide (n<=(length p5:Int))))) then some (.ints .fresh .u64 (zt (toNat (n-0)) (zL 0 p5))) else none) :=Et (Es rfl (Co (A69 _ _ _) rfl rfl))
theorem A5.row.Zero.ev:Bv A5.row.Zero.E N f226 (Aj f226) [.int .i64 n,.fn 227 [] []] =
 A5.row.Zero.L0 N N n 1 [(4607182418800017408:Int)]:=by kernel_rfl
end
def A5.row.Div.hint:Nat->Option A9
 | 0=>some { keep:=[0,1,5,6],objs:=[(0,5,100005,.ints 43 .u64 [])],boxes:=[] }
 | _=>none
def A5.row.Div.E:=C6 (Cw [(230,A5.Lu.spec)]) (fun _=>false) A5.row.Div.hint (fun _=>none)
section
variable(N M:Nat)(n:Int)(y:List Int)(d p6:Int)(p5:List Int)
def A5.row.Div.L0:Option DV:=B2 A5.row.Div.E N f226 (Aj f226) [1,1,0,1,0] [] M ⟨F3 23 [(0,.int .i64 n),(1,.fn 230 [] [.cellp [.ints .arg .u64 y],.cellp [.int .u64 d]]),(5,.oref 100005),(6,.int .i64 p6)],[(100005,false,.ints 43 .u64 p5)]⟩
theorem A5.row.Div.Ar:A5.row.Div.L0 N (M+1) n y d p6 p5=cond (Bc p6 n) (bif ((Bq (0<=p6/\p6<length y)&&Ah y)&&Af d) then cond (decide ((length p5)+1<=G2)) (A5.row.Div.L0 N M n y d (Ad (p6+1)) (p5++[(E2 (getD y (toNat p6) 0) d)])) none else none) (bif (((decide ((0:Int)<=n))&&(decide (n<=n)))&&((decide ((0:Int)<=n))&&(decide (n<=(length p5:Int))))) then some (.ints .fresh .u64 (zt (toNat (n-0)) (zL 0 p5))) else none) :=Et (Es rfl (Co (A69 _ _ _) rfl rfl))
theorem A5.row.Div.ev:Bv A5.row.Div.E N f226 (Aj f226) [.int .i64 n,.fn 230 [] [.cellp [.ints .arg .u64 y],.cellp [.int .u64 d]]] =
 A5.row.Div.L0 N N n y d 1 [(4607182418800017408:Int)]:=by kernel_rfl
end
def A5.Uc.E:=E0 [(123,compare.Tc.spec),(229,A5.lead.spec),(225,A5.Fp.spec),(226,(A83 [.i .i64,.fn 227 []] A5.row.Zero.spec A5.row.Div.spec)),(228,A5.Bx.spec),(136,soft.Finite.spec),(81,soft.Eg.spec),(181,soft.Sign.spec),(124,Ai.Ck.spec),(82,Ai.Div.spec),(66,Ai.Finite.spec),(67,Ai.Norm.spec),(79,Ai.Cc.spec),(201,Ai.Sub.spec)]
theorem A5.Uc.ev(N:Nat)(x:List Int):Bv A5.Uc.E N f200 (Aj f200) [.ints .arg .u64 x]=cond (((length x:Int)==(0:Int))||(Bc 64 (length x:Int))) (some (.tup [.nil,.int .u64 0,.int .u64 0,.int .i64 3])) (bif (By x) then cond (!(Ds x)) (some (.tup [.nil,.int .u64 0,.int .u64 0,.int .i64 4])) (bif (decide ((1:Int)<=(length x:Int))) then cond (By (zL 1 x)) (bif (O5 (zL 1 x)) then cond (Bq (1<=(length x:Int)/\(length x:Int)<=64)) (bif (decide ((0:Int)<(length x:Int))) then some (.tup [.ints .fresh .u64 (Ob (toNat (length x:Int)) (fun _=>0)),.int .u64 0,.int .u64 (getD x 0 0),.int .i64 0]) else none) none else bif (By x) then cond (Af (Bi x)) (bif (By x&&Bq (length x<=1000/\-2300<=(Ad (0-(Bs (Bi x))))/\(Ad (0-(Bs (Bi x))))<=2300)) then cond (By (A4 x (Ad (0-(Bs (Bi x)))))&&Bq (length (A4 x (Ad (0-(Bs (Bi x)))))<=64)) (bif (By x) then cond (Af (Xj x)) (bif (!(En (Xj x))) then cond (Af (Bk (A4 x (Ad (0-(Bs (Bi x))))))) (bif (Dk (B7 (Bk (A4 x (Ad (0-(Bs (Bi x))))))) (Bs (Bi x))) then cond (Af (A7 (B7 (Bk (A4 x (Ad (0-(Bs (Bi x))))))) (Bs (Bi x)))) (bif (!(Dl (A7 (B7 (Bk (A4 x (Ad (0-(Bs (Bi x))))))) (Bs (Bi x))))) then some (.tup [.nil,.int .u64 0,.int .u64 0,.int .i64 2]) else bif (decide ((0:Int)<(length (A4 x (Ad (0-(Bs (Bi x))))):Int))) then cond (Af (getD (A4 x (Ad (0-(Bs (Bi x))))) 0 0)&&Af (B7 (Bk (A4 x (Ad (0-(Bs (Bi x)))))))) (bif ((Bq (1<=(length (A4 x (Ad (0-(Bs (Bi x))))):Int)/\(length (A4 x (Ad (0-(Bs (Bi x))))):Int)<=64/\(length (A4 x (Ad (0-(Bs (Bi x))))):Int)=length (A4 x (Ad (0-(Bs (Bi x))))))&&Ah (A4 x (Ad (0-(Bs (Bi x))))))&&Af (Gg (getD (A4 x (Ad (0-(Bs (Bi x))))) 0 0) (B7 (Bk (A4 x (Ad (0-(Bs (Bi x))))))))) then cond (decide ((0:Int)<(length (A4 x (Ad (0-(Bs (Bi x))))):Int))) (bif (Af (B7 (Bk (A4 x (Ad (0-(Bs (Bi x)))))))&&Af (getD (A4 x (Ad (0-(Bs (Bi x))))) 0 0)) then cond (Af (Gg (B7 (Bk (A4 x (Ad (0-(Bs (Bi x))))))) (getD (A4 x (Ad (0-(Bs (Bi x))))) 0 0))&&Af (B7 (Bk (A4 x (Ad (0-(Bs (Bi x)))))))) (some (.tup [.ints .fresh .u64 (Ob (toNat (length (A4 x (Ad (0-(Bs (Bi x))))):Int)) (fun j=>E2 (getD (A4 x (Ad (0-(Bs (Bi x))))) j 0) (Gg (getD (A4 x (Ad (0-(Bs (Bi x))))) 0 0) (B7 (Bk (A4 x (Ad (0-(Bs (Bi x)))))))))),.int .u64 (E2 (Gg (B7 (Bk (A4 x (Ad (0-(Bs (Bi x))))))) (getD (A4 x (Ad (0-(Bs (Bi x))))) 0 0)) (B7 (Bk (A4 x (Ad (0-(Bs (Bi x)))))))),.int .u64 (A7 (B7 (Bk (A4 x (Ad (0-(Bs (Bi x))))))) (Bs (Bi x))),.int .i64 0])) none else none) none else none) none else none) none else none) none else bif (Dk (Bk (A4 x (Ad (0-(Bs (Bi x)))))) (Bs (Bi x))) then cond (Af (A7 (Bk (A4 x (Ad (0-(Bs (Bi x)))))) (Bs (Bi x)))) (bif (!(Dl (A7 (Bk (A4 x (Ad (0-(Bs (Bi x)))))) (Bs (Bi x))))) then some (.tup [.nil,.int .u64 0,.int .u64 0,.int .i64 2]) else bif (decide ((0:Int)<(length (A4 x (Ad (0-(Bs (Bi x))))):Int))) then cond (Af (getD (A4 x (Ad (0-(Bs (Bi x))))) 0 0)&&Af (Bk (A4 x (Ad (0-(Bs (Bi x))))))) (bif ((Bq (1<=(length (A4 x (Ad (0-(Bs (Bi x))))):Int)/\(length (A4 x (Ad (0-(Bs (Bi x))))):Int)<=64/\(length (A4 x (Ad (0-(Bs (Bi x))))):Int)=length (A4 x (Ad (0-(Bs (Bi x))))))&&Ah (A4 x (Ad (0-(Bs (Bi x))))))&&Af (Gg (getD (A4 x (Ad (0-(Bs (Bi x))))) 0 0) (Bk (A4 x (Ad (0-(Bs (Bi x)))))))) then cond (decide ((0:Int)<(length (A4 x (Ad (0-(Bs (Bi x))))):Int))) (bif (Af (Bk (A4 x (Ad (0-(Bs (Bi x))))))&&Af (getD (A4 x (Ad (0-(Bs (Bi x))))) 0 0)) then cond (Af (Gg (Bk (A4 x (Ad (0-(Bs (Bi x)))))) (getD (A4 x (Ad (0-(Bs (Bi x))))) 0 0))&&Af (Bk (A4 x (Ad (0-(Bs (Bi x))))))) (some (.tup [.ints .fresh .u64 (Ob (toNat (length (A4 x (Ad (0-(Bs (Bi x))))):Int)) (fun j=>E2 (getD (A4 x (Ad (0-(Bs (Bi x))))) j 0) (Gg (getD (A4 x (Ad (0-(Bs (Bi x))))) 0 0) (Bk (A4 x (Ad (0-(Bs (Bi x))))))))),.int .u64 (E2 (Gg (Bk (A4 x (Ad (0-(Bs (Bi x)))))) (getD (A4 x (Ad (0-(Bs (Bi x))))) 0 0)) (Bk (A4 x (Ad (0-(Bs (Bi x))))))),.int .u64 (A7 (Bk (A4 x (Ad (0-(Bs (Bi x)))))) (Bs (Bi x))),.int .i64 0])) none else none) none else none) none else none) none else none) none else none) none else none) none else none) none else none) else none) :=
 Et (Ax (Uw ((length x:Int)==(0:Int))) (Ax (Te ((length x:Int)==(0:Int))) (Ax (Te ((length x:Int)==(0:Int))) (Ax (tt6 ((length x:Int)==(0:Int))) (Co (tt5 _ _) rfl (Es (Es rfl (Co (Bc4 _) (Es (Es (Co (Cb _) (Co (Cb _) rfl rfl) rfl) rfl) rfl) rfl)) rfl))))))
def A5.Apply.hint:Nat->Option A9
 | 0=>some { keep:=[1,3,4,5,10,13,14],objs:=[(14,2,114002,.ints 43 .u64 [])],boxes:=[5,10,13] }
 | 2=>some { keep:=[1,3,4,5,10,13,14,18,90,91,92],objs:=[(14,2,114002,.ints 43 .u64 [])],boxes:=[5,10,13] }
 | _=>none
def A5.Apply.E:=C6 (Cw [(121,Aa.Check.spec),(68,Aa.Fi.spec),(134,Ai.H6.spec),(138,Ai.Mul.spec),(201,Ai.Sub.spec)]) (fun _=>false) A5.Apply.hint (fun _=>none)
section
variable(N M0 M:Nat)(r c:Int)(l:List Int)(i k:Int)(v:List Int)(t p92:Int)(p2:List Int)(p14_1 p18:Int)(p90:List Int)(p91 p14:Int)(p2_1:List Int)
def A5.Apply.L0:Option DV:=B2 A5.Apply.E N f163 (Aj f163) [1,1,1,1,0,1,0] [] M ⟨F3 118 [(1,.int .i64 i),(3,.ints .arg .u64 v),(4,.int .u64 t),(5,.ptr 5 0 0),(10,.ptr 10 0 0),(13,.ptr 13 0 0),(14,.int .i64 p14)],[(5,false,.box [.int .i64 r,.int .i64 c,.ints .arg .u64 l]),(10,false,.box [.int .i64 0,.int .i64 0,.nil]),(13,false,.box [.int .i64 r,.int .i64 c,.oref 114002]),(114002,false,.ints 43 .u64 p2_1)]⟩
def A5.Apply.L1:Option DV:=B2 A5.Apply.E N f163 (Aj f163) [1,1,1,1,0,1,0,0,1,0,0,1,1,1,1,0] [M0] M ⟨F3 118 [(1,.int .i64 i),(3,.ints .arg .u64 v),(4,.int .u64 t),(5,.ptr 5 0 0),(10,.ptr 10 0 0),(13,.ptr 13 0 0),(14,.int .i64 p14_1),(18,.int .u64 p18),(90,.ints .fresh .u64 p90),(91,.int .i64 p91),(92,.int .i64 p92)],[(5,false,.box [.int .i64 r,.int .i64 c,.ints .arg .u64 l]),(10,false,.box [.int .i64 0,.int .i64 0,.nil]),(13,false,.box [.int .i64 r,.int .i64 c,.oref 114002]),(114002,false,.ints 43 .u64 p2)]⟩
theorem A5.Apply.Ar:A5.Apply.L0 N (M+1) r c l i v t p14 p2_1=cond (Bc p14 c) (bif (Gu r c l p14&&Bq (0<=i/\i<=r)) then cond (((decide ((0:Int)<=(length v:Int)))&&(decide ((length v:Int)<=(length v:Int))))&&((decide ((0:Int)<=(length v:Int)))&&(decide ((length v:Int)<=(length (B3 c l p14 i (toNat (r-i))):Int))))) (bif ((Re v (zt (toNat (length v:Int)) (B3 c l p14 i (toNat (r-i))))&&Ah v)&&Ah (zt (toNat (length v:Int)) (B3 c l p14 i (toNat (r-i))))) then cond (Af t&&Af (Hi v (zt (toNat (length v:Int)) (B3 c l p14 i (toNat (r-i)))))) (A5.Apply.L1 N M N r c l i v t 0 p2_1 p14 (Bz t (Hi v (zt (toNat (length v:Int)) (B3 c l p14 i (toNat (r-i)))))) (zt (toNat (length v:Int)) (B3 c l p14 i (toNat (r-i)))) (length (zt (toNat (length v:Int)) (B3 c l p14 i (toNat (r-i)))):Int)) none else none) none else none) (some (.tup [.agg [.int .i64 r,.int .i64 c,.ints (.own 114002 43) .u64 p2_1],.int .i64 0])) :=Et (Es (Es (Co (A69 _ _ _) rfl rfl) rfl) rfl)
theorem A5.Apply.B6:A5.Apply.L1 N M0 (M+1) r c l i v t p92 p2 p14_1 p18 p90 p91=cond (Bc p92 p91) (bif ((decide (0<=p92))&&(decide (p92<(length p90:Int)))) then cond ((decide (0<=p92))&&(decide (p92<(length v:Int)))) (bif (Af p18&&Af (getD v (toNat p92) 0)) then cond (Af (getD p90 (toNat p92) 0)&&Af (Bz p18 (getD v (toNat p92) 0))) (bif ((decide (0<=(Ad ((Ad ((Ad (i+p92))*c))+p14_1))))&&(decide ((Ad ((Ad ((Ad (i+p92))*c))+p14_1))<(length p2:Int)))) then cond (decide ((toNat (Ad ((Ad ((Ad (i+p92))*c))+p14_1)))<(length p2))) (A5.Apply.L1 N M0 M r c l i v t (Ad (p92+1)) (zn p2 (toNat (Ad ((Ad ((Ad (i+p92))*c))+p14_1))) (Gg (getD p90 (toNat p92) 0) (Bz p18 (getD v (toNat p92) 0)))) p14_1 p18 p90 p91) none else none) none else none) none else none) (A5.Apply.L0 N M0 r c l i v t (Ad (p14_1+1)) p2) :=Et (Es (Es (Co (Kz _ _) (Co (Cb _) (Co (Cb _) (Co (Kz _ _) (Co (Cb _) rfl rfl) rfl) rfl) rfl) rfl) rfl) rfl)
theorem A5.Apply.ev:Bv A5.Apply.E N f163 (Aj f163) [.agg [.int .i64 r,.int .i64 c,.ints .arg .u64 l],.int .i64 i,.int .i64 k,.ints .arg .u64 v,.int .u64 t]=cond ((Ny r c l) !=(0:Int)) (some (.tup [.agg [.int .i64 0,.int .i64 0,.nil],.int .i64 (Ny r c l)])) (bif (((((Bc i 0)||(Bc r (length v:Int)))||(Bc (Ad (r-(length v:Int))) i))||(Bc k 0))||(Bc c k)) then some (.tup [.agg [.int .i64 0,.int .i64 0,.nil],.int .i64 3]) else bif (decide (0+(length l)<=G2)) then A5.Apply.L0 N N r c l i v t k ([]++l) else none) :=Et (Es rfl (Ax (Uw (Bc i 0)) (Ax (Te (Bc i 0)) (Ax (Uw (Bc i 0)) (Ax (Te (Bc i 0)) (Ax (tt8 (Bc i 0)) (Ax (tt6 (Bc i 0)) (Ax (Agu (Bc i 0) (Bc r (length v:Int))) (Ax (Agu (Bc i 0) (Bc r (length v:Int))) (Ax (Agv (Bc i 0) (Bc r (length v:Int))) (Ax (Agu (Bc i 0) (Bc r (length v:Int))) (Ax (Agv (Bc i 0) (Bc r (length v:Int))) (Ax (A68 (Bc i 0) (Bc r (length v:Int))) (Ax (A68 (Bc i 0) (Bc r (length v:Int))) (Ax (Apj (Bc i 0) (Bc r (length v:Int))) (Ax (Apk (Bc i 0) (Bc r (length v:Int)) (Bc (Ad (r-(length v:Int))) i)) (Ax (Aly (Bc i 0) (Bc r (length v:Int)) (Bc (Ad (r-(length v:Int))) i)) (Ax (Ayn (Bc i 0) (Bc r (length v:Int)) (Bc (Ad (r-(length v:Int))) i)) (Ax (Aum (Bc i 0) (Bc r (length v:Int)) (Bc (Ad (r-(length v:Int))) i) (Bc k 0)) (Ax (Aum (Bc i 0) (Bc r (length v:Int)) (Bc (Ad (r-(length v:Int))) i) (Bc k 0)) (Ax (Bak (Bc i 0) (Bc r (length v:Int)) (Bc (Ad (r-(length v:Int))) i) (Bc k 0)) (Ax (A7b (Bc i 0) (Bc r (length v:Int)) (Bc (Ad (r-(length v:Int))) i) (Bc k 0)) (Ax (A7c (Bc i 0) (Bc r (length v:Int)) (Bc (Ad (r-(length v:Int))) i) (Bc k 0)) (Co (Bab _ _ _ _ _) rfl (Co (Cb _) rfl rfl)))))))))))))))))))))))))
end
theorem Atp(x:Int):((Bb x) !=(0:Int))=!(decide (Bb x=0)):=by rw[Be5]; simp
theorem Aki(N:Nat){x:List Int}(hx:By x=true):∀(k i F:Nat),i+k=x.length->k<F->A5.Fp.L0 N F x (i:Int)=some (.bool (O5 (x.drop i))):=by
 obtain⟨hl,hu⟩:=Jr hx;intro k
 induction k with
 | zero =>
   intro i F hi hF;obtain⟨F,rfl⟩:∃G,F=G+1:=⟨F-1,by omega⟩
   rw[A5.Fp.Ar,As,Beu (by omega),Bet,Be3 (by omega)]; rfl
 | succ k ih =>
   intro i F hi hF;obtain⟨F,rfl⟩:∃G,F=G+1:=⟨F-1,by omega⟩
   rw[A5.Fp.Ar,As,Beq (show(i:Int)<(x.length:Int) by omega),Bep,Beq (show(0:Int)<=(i:Int) by omega),Bev,Bep,Ber,hu i (by omega),Bep,Atp,Lh (by omega)];unfold O5;rw[List.all_cons];cases decide (Bb (x.getD i 0)=0) with
   | false=>rfl
   | true =>rw[Bfo,Bet,Bf2,An (by omega) (by omega)];exact ih (i+1) F (by omega) (by omega)
theorem A5.Fp.Ae:Kq 225 A5.Fp.spec:=Eb A5.Fp.E Tryz.func225 (kc soft.Kind.Ae .nil) fun x hp=>by refine⟨x.length+1,A5.Fp.out [.l x],[],?_,.bool⟩;rw[A5.Fp.ev];exact Aki (x.length+1) hp x.length 0 (x.length+1) (by omega) (by omega)
theorem Awm(N:Nat){x:List Int}(hx:By x=true):∀(k i F:Nat),i+k=x.length->k<F->A5.lead.L0 N F x (i:Int)=some (.int .u64 (Xj (x.drop i))):=by
 obtain⟨hl,hu⟩:=Jr hx;intro k
 induction k with
 | zero =>
   intro i F hi hF;obtain⟨F,rfl⟩:∃G,F=G+1:=⟨F-1,by omega⟩
   rw[A5.lead.Ar,As,Beu (by omega),Bet,Be3 (by omega)]; rfl
 | succ k ih =>
   intro i F hi hF;obtain⟨F,rfl⟩:∃G,F=G+1:=⟨F-1,by omega⟩
   rw[A5.lead.Ar,As,Beq (show(i:Int)<(x.length:Int) by omega),Bep,Beq (show(0:Int)<=(i:Int) by omega),Bev,Bep,Ber,hu i (by omega),Bep,Atp,Lh (by omega),Xj];by_cases h:Bb (x.getD i 0)=0
   ·rw[Beq h,Bfc h,Bfo,Bet,An (by omega) (by omega)];exact ih (i+1) F (by omega) (by omega)
   ·rw[Beu h,Bfb h]; rfl
theorem A5.lead.Ae:Kq 229 A5.lead.spec:=Eb A5.lead.E Tryz.func229 (kc soft.Kind.Ae .nil) fun x hp=>by refine⟨x.length+1,A5.lead.out [.l x],[],?_,.int⟩;rw[A5.lead.ev];exact Awm (x.length+1) hp x.length 0 (x.length+1) (by omega) (by omega)
theorem Xx{x:List Int}{i:Nat}(h:i<x.length)(f:Int->Int):(x.take (i+1)).map f=(x.take i).map f++[f (x.getD i 0)]:=by rw[List.take_succ_eq_append_getElem h,List.map_append,Bez,Be6 h]; rfl
theorem Ajx(N:Nat){x:List Int}{e:Int}(hx:By x=true)(hl:x.length<=1000)(he:-2300<=e/\e<=2300):∀(k i F:Nat),i+k=x.length->k<F ->
 A5.Bx.L0 N F x e (i:Int) ((x.take i).map fun b=>A7 b e)=some (.ints (.own 100005 tB) .u64 (A4 x e)):=by
 obtain⟨_,hu⟩:=Jr hx;intro k
 induction k with
 | zero =>
   intro i F hi hF;obtain⟨F,rfl⟩:∃G,F=G+1:=⟨F-1,by omega⟩
   rw[A5.Bx.Ar,As,Beu (by omega),Bet,yO (by omega)]; rfl
 | succ k ih =>
   intro i F hi hF;obtain⟨F,rfl⟩:∃G,F=G+1:=⟨F-1,by omega⟩
   rw[A5.Bx.Ar,As,Beq (show(i:Int)<(x.length:Int) by omega),Bep,Beq (show(0:Int)<=(i:Int) by omega),Bev,Bep,Ber,
    show Dk (getD x i 0) e=true from Ac.2 ⟨hu i (by omega),Ak.2 he⟩,Bep,Beq (by rw[Bfv,List.length_take]; unfold G2; omega),Bep,An (by omega) (by omega)]
   have:=ih (i+1) F (by omega) (by omega);rw[Xx (by omega)] at this;exact this
theorem A5.Bx.Ae:Kq 228 A5.Bx.spec:=Eb A5.Bx.E Tryz.func228 (kc Ai.Cc.Ae .nil) fun x k hp=>by obtain⟨h1,h2⟩:=Ac.1 hp;have h2:=Ak.1 h2;refine⟨x.length+1,.ints (.own 100005 tB) .u64 (A4 x k),[100005],?_,.drop _ _ _ _ (zf.2 rfl)⟩;rw[A5.Bx.ev];exact Ajx (x.length+1) h1 h2.1 h2.2 x.length 0 (x.length+1) (by omega) (by omega)
theorem A5.Lv.Ae:Kq 227 A5.Lv.spec:=Eb A5.Lv.E Tryz.func227 .nil fun i _=>⟨0,A5.Lv.out [.i i],[],by rw[A5.Lv.ev]; rfl,.int⟩
theorem A5.Lu.Ae:Kq 230 A5.Lu.spec:=Eb A5.Lu.E Tryz.func230 (kc Ai.Div.Ae .nil) fun i y d hp=>by obtain⟨h1,h2⟩:=Ac.1 (show((Bq (0<=i/\i<length y)&&Ah y)&&Af d)=true from hp);obtain⟨h3,h4⟩:=Ac.1 h1;have h3:=Ak.1 h3;refine⟨0,A5.Lu.out [.i i,.l y,.i d],[],?_,.int⟩;rw[A5.Lu.ev,Beq h3.1,Beq h3.2,S7 h4,h2]; rfl
theorem Wi(n i:Nat)(f:Nat->Int)(h:i+1=n):Ob n f=Va::(zh i).map fun j=>f (j+1):=by unfold Ob; rw[show n-1=i by omega]
theorem As5{n:Nat}(f:Nat->Int)(h:n≠0):(((decide ((0:Int)<=(n:Int)))&&(decide ((n:Int)<=(n:Int))))&&((decide ((0:Int)<=(n:Int)))&&(decide ((n:Int)<=(length (Ob n f):Int)))))=true /\
 zt (toNat ((n:Int)-(0:Int))) (zL 0 (Ob n f))=Ob n f:=by
 have:=Oq h f;refine⟨?_,?_⟩
 ·rw[Beq (by omega),Beq (by omega),Beq (by omega)]; rfl
 ·rw[zW,yO (by omega)]
theorem Agy(N:Nat){n:Nat}(h64:n<=64)(h0:n≠0):∀(k i F:Nat),i+1+k=n->k<F ->
 A5.row.Zero.L0 N F (n:Int) ((i+1:Nat):Int) (Ob (i+1) fun _=>0)=some (.ints .fresh .u64 (Ob n fun _=>0)):=by
 intro k
 induction k with
 | zero =>
   intro i F hi hF;obtain⟨F,rfl⟩:∃G,F=G+1:=⟨F-1,by omega⟩
   obtain rfl:i+1=n:=by omega
   obtain⟨e1,e2⟩:=As5 (fun _=>0) h0;rw[A5.row.Zero.Ar,As,Beu (by omega),Bet,e1,Bep,e2]
 | succ k ih =>
   intro i F hi hF;obtain⟨F,rfl⟩:∃G,F=G+1:=⟨F-1,by omega⟩
   rw[A5.row.Zero.Ar,As,Beq (by omega),Bep,Beq (by rw[Oq (by omega)]; unfold G2; omega),Bep,An (by omega) (by omega)];have:=ih (i+1) F (by omega) (by omega);rw[Wi (i+1+1) (i+1) _ rfl,Kl] at this;rw[Wi (i+1) i _ rfl];exact this
theorem A5.row.Zero.Ae:Kq 226 A5.row.Zero.spec:=Eb A5.row.Zero.E Tryz.func226 (kc A5.Lv.Ae .nil) fun n hp=>by
 have hp:=Ak.1 (show Bq (1<=n/\n<=64)=true from hp);obtain⟨m,rfl⟩:∃m:Nat,n=m:=⟨n.toNat,by omega⟩
 refine⟨65,A5.row.Zero.out [.i m],[],?_,.Rd⟩;show _=some (DV.ints .fresh .u64 (Ob (toNat (m:Int)) fun _=>0));rw[A5.row.Zero.ev,Ber];exact Agy 65 (by omega) (by omega) (m-1) 0 65 (by omega) (by omega)
theorem Aj6(N:Nat){n:Nat}{y:List Int}{d:Int}(h64:n<=64)(h0:n≠0)(hy:n=y.length)(al:Ah y=true)(hd:Af d=true):∀(k i F:Nat),i+1+k=n->k<F ->
 A5.row.Div.L0 N F (n:Int) y d ((i+1:Nat):Int) (Ob (i+1) fun j=>E2 (y.getD j 0) d)=some (.ints .fresh .u64 (Ob n fun j=>E2 (y.getD j 0) d)):=by
 intro k
 induction k with
 | zero =>
   intro i F hi hF;obtain⟨F,rfl⟩:∃G,F=G+1:=⟨F-1,by omega⟩
   obtain rfl:i+1=n:=by omega
   obtain⟨e1,e2⟩:=As5 (fun j=>E2 (y.getD j 0) d) h0;rw[A5.row.Div.Ar,As,Beu (by omega),Bet,e1,Bep,e2]
 | succ k ih =>
   intro i F hi hF;obtain⟨F,rfl⟩:∃G,F=G+1:=⟨F-1,by omega⟩
   rw[A5.row.Div.Ar,As,Beq (by omega),Bep,Ak.2 (show 0<=((i+1:Nat):Int)/\((i+1:Nat):Int)<(y.length:Int) by omega),al,hd,Bev,Bev,Bep,Beq (by rw[Oq (by omega)]; unfold G2; omega),Bep,An (by omega) (by omega),Ber];have:=ih (i+1) F (by omega) (by omega);rw[Wi (i+1+1) (i+1) _ rfl,Kl] at this;rw[Wi (i+1) i _ rfl];exact this
theorem A5.row.Div.Ae:Kq 226 A5.row.Div.spec:=Eb A5.row.Div.E Tryz.func226 (kc A5.Lu.Ae .nil) fun n y d hp=>by
 obtain⟨h1,h2⟩:=Ac.1 (show((Bq (1<=n/\n<=64/\n=length y)&&Ah y)&&Af d)=true from hp);obtain⟨h3,h4⟩:=Ac.1 h1;have h3:=Ak.1 h3;obtain⟨m,rfl⟩:∃m:Nat,n=m:=⟨n.toNat,by omega⟩
 refine⟨65,A5.row.Div.out [.i m,.l y,.i d],[],?_,.Rd⟩;show _=some (DV.ints .fresh .u64 (Ob (toNat (m:Int)) fun j=>E2 (getD y j 0) d));rw[A5.row.Div.ev,Ber];exact Aj6 65 (by omega) (by omega) (by omega) h4 h2 (m-1) 0 65 (by omega) (by omega)
theorem Ahx{x:List Int}{k:Int}{j:Nat}(h:j<x.length):(A4 x k).getD j 0=A7 (x.getD j 0) k:=by unfold A4;rw[Bez,Bf6,Be6 h,Bez,Be6 h]; rfl
theorem Au6(x:List Int)(k:Int):(A4 x k).length=x.length:=by unfold A4; rw[Bfv]
theorem Au7{x:List Int}(k:Int)(h:Ah x=true):Ah (A4 x k)=true:=W1 fun y hy=>by obtain⟨b,hb,rfl⟩:=zw.1 hy;exact Hs (Ak.1 h b hb)
theorem Akq:∀{x:List Int},Ah x=true->Af (Xj x)=true
 | [],_=>Md
 | b::l,h=>by
   unfold Xj;split
   ·exact Akq (W1 fun y hy=>Ak.1 h y (Bfu _ hy))
   ·exact Ak.1 h b Bf4
theorem W0{x:List Int}(h:By x=true):Ah x=true:=Ak.2 (Ak.1 h).2
theorem V5{drops:List Nat}{g:Aoz}:Wk drops .nil (.ints g .u64 []):=.nil g .u64
theorem Avd{n:Nat}{f g:Nat->Int}(h:∀j,j<n->f j=g j):Ob n f=Ob n g:=by unfold Ob;congr 1;exact List.map_congr_left fun j hj=>h _ (by have:=List.mem_range.1 hj; omega)
theorem A5.Uc.Ae:Kq 200 A5.Uc.spec:=Eb A5.Uc.E Tryz.func200 (kc compare.Tc.Ae (kc A5.lead.Ae (kc A5.Fp.Ae (.cons (E8.alt A5.row.Zero.Ae A5.row.Div.Ae) (kc A5.Bx.Ae (kc soft.Finite.Ae (kc soft.Eg.Ae (kc soft.Sign.Ae (kc Ai.Ck.Ae (kc Ai.Div.Ae (kc Ai.Finite.Ae (kc Ai.Norm.Ae (kc Ai.Cc.Ae (kc Ai.Sub.Ae .nil)))))))))))))) fun x hp=>by
 have hx:By x=true:=hp;have al:=W0 hx;have he:=Yh (Bi x);show ∃N dv drops,_=some dv/\Wk drops dv (DV.tup [.ints .fresh .u64 (Dm x).1,.int .u64 (Dm x).2.1,.int .u64 (Dm x).2.2.1,.int .i64 (Dm x).2.2.2]);unfold Dm;by_cases h1:x.length=0\/64<x.length
 ·rw[Bfc h1];refine⟨0,.tup [.nil,.int .u64 0,.int .u64 0,.int .i64 3],[],?_,Wk.Ik (.cons V5 (.cons .int (.cons .int (.cons .int .nil))))⟩
  have:(((length x:Int)==(0:Int))||(Bc (64:Int) (length x:Int)))=true:=by rw[As,zK,beq_iff_eq,Bew]; omega
  rw[A5.Uc.ev,this,Bep]
 have c1:(((length x:Int)==(0:Int))||(Bc (64:Int) (length x:Int)))=false:=by rw[As,yy,Bfk,Be8]; omega
 rw[Bfb h1];by_cases h2:Ds x=true
 ·rw[Bfc h2];unfold A4u;have ok1:By (x.drop 1)=true:=Gz (W1 fun y hy=>Ak.1 al y (List.mem_of_mem_drop hy)) (by rw[List.length_drop]; omega);have d1:decide ((1:Int)<=(x.length:Int))=true:=Beq (by omega);have d0:decide ((0:Int)<(x.length:Int))=true:=Beq (by omega);by_cases h3:O5 (x.drop 1)=true
  ·rw[Bfc h3];refine⟨0,.tup [.ints .fresh .u64 (Ob x.length fun _=>0),.int .u64 0,.int .u64 (x.getD 0 0),.int .i64 0],[],?_,Wk.Ik (.cons .Rd (.cons .int (.cons .int (.cons .int .nil))))⟩;rw[A5.Uc.ev,c1,Bet,hx,Bep,h2,Bfo,Bet,d1,Bep,ok1,Bep,h3,Bep,Ak.2 (show 1<=(x.length:Int)/\(x.length:Int)<=64 by omega),Bep,d0,Bep,Ber]
  ·rw[Bfb h3];have h3:O5 (x.drop 1)=false:=by simpa using h3
   have ew:Ad (0-Bs (Bi x))=-Bs (Bi x):=by rw[An (by omega) (by omega)]; omega
   have ly:=Au6 x (-Bs (Bi x));have ay:=Au7 (-Bs (Bi x)) al;have oky:By (A4 x (-Bs (Bi x)))=true:=Gz ay (by omega);have gy:=Ahx (x:=x) (k:=-Bs (Bi x)) (j:=0) (by omega);have iy:=S7 ay 0
   have key:∀mu:Int,muI x=mu->Af mu=true->∀b:Bool,Dl (Ma x)=b->∃dv:DV,(bif (!b) then
    some (.tup [.nil,.int .u64 (0:Int),.int .u64 (0:Int),.int .i64 (2:Int)])
    else some (.tup [.ints .fresh .u64 (Ob (toNat (length (A4 x (-Bs (Bi x))):Int)) (fun j=>E2 (getD (A4 x (-Bs (Bi x))) j 0) (Gg (getD (A4 x (-Bs (Bi x))) 0 0) mu))),.int .u64 (E2 (Gg mu (getD (A4 x (-Bs (Bi x))) 0 0)) mu),.int .u64 (A7 mu (Bs (Bi x))),.int .i64 (0:Int)]))=some dv /\
    Wk [] dv (DV.tup [.ints .fresh .u64 (if Dl (Ma x)=true then (Anb x,Aq1 x,Ma x,(0:Int)) else ([],0,0,2)).1,.int .u64 (if Dl (Ma x)=true then (Anb x,Aq1 x,Ma x,(0:Int)) else ([],0,0,2)).2.1,.int .u64 (if Dl (Ma x)=true then (Anb x,Aq1 x,Ma x,(0:Int)) else ([],0,0,2)).2.2.1,.int .i64 (if Dl (Ma x)=true then (Anb x,Aq1 x,Ma x,(0:Int)) else ([],0,0,2)).2.2.2]):=by
    intro mu hmu _ b hb;rw[hb];cases b with
    | false=>exact⟨_,rfl,Wk.Ik (.cons V5 (.cons .int (.cons .int (.cons .int .nil))))⟩
    | true =>
      refine⟨_,rfl,?_⟩;rw[Bfc rfl];dsimp only
      have e1:Ob (toNat (length (A4 x (-Bs (Bi x))):Int)) (fun j=>E2 (getD (A4 x (-Bs (Bi x))) j 0) (Gg (getD (A4 x (-Bs (Bi x))) 0 0) mu))=Anb x:=by unfold Anb;rw[Ber,ly,gy,<- hmu];exact Avd fun j hj=>by rw[Ahx hj]; rfl
      have e2:E2 (Gg mu (getD (A4 x (-Bs (Bi x))) 0 0)) mu=Aq1 x:=by unfold Aq1;rw[gy,hmu]; rfl
      have e3:A7 mu (Bs (Bi x))=Ma x:=by unfold Ma; rw[hmu]
      rw[e1,e2,e3];exact Wk.Ik (.cons .Rd (.cons .int (.cons .int (.cons .int .nil))))
   have dz:decide ((0:Int)<((A4 x (-Bs (Bi x))).length:Int))=true:=Beq (by omega);have cz':Bq (1<=((A4 x (-Bs (Bi x))).length:Int)/\((A4 x (-Bs (Bi x))).length:Int)<=64/\True)=true:=Ak.2 ⟨by omega,by omega,trivial⟩;have p1:Bq (x.length<=1000/\-2300<=-Bs (Bi x)/\-Bs (Bi x)<=2300)=true:=Ak.2 (by omega);have p2:Bq ((A4 x (-Bs (Bi x))).length<=64)=true:=Ak.2 (by omega);have sp:∀mu:Int,Af mu=true->Dk mu (Bs (Bi x))=true:=fun mu h=>Ac.2 ⟨h,Ak.2 (by omega)⟩
   have ny:=Le (A4 x (-Bs (Bi x)));cases hn:En (Xj x) with
   | true =>
     have hm:muI x=Bk (A4 x (-Bs (Bi x))):=by unfold muI; rw[Bfc hn]
     obtain⟨dv,k1,k2⟩:=key _ hm ny (Dl (Ma x)) rfl;refine⟨0,dv,[],?_,k2⟩;rw[<- k1];have eb:Ma x=A7 (Bk (A4 x (-Bs (Bi x)))) (Bs (Bi x)):=by unfold Ma; rw[hm]
     rw[A5.Uc.ev,ew,eb];simp only[c1,Bet,hx,Bep,h2,Bfo,d1,ok1,h3,Sd,p1,oky,p2,Bev,Akq al,hn,sp _ ny,Hs ny,dz,cz',ay,iy,ny,Tg iy ny,Tg ny iy]
   | false =>
     have hm:muI x=B7 (Bk (A4 x (-Bs (Bi x)))):=by unfold muI; rw[Bfb (by rw[hn]; decide)]
     have my:=O6 ny;obtain⟨dv,k1,k2⟩:=key _ hm my (Dl (Ma x)) rfl;refine⟨0,dv,[],?_,k2⟩;rw[<- k1];have eb:Ma x=A7 (B7 (Bk (A4 x (-Bs (Bi x))))) (Bs (Bi x)):=by unfold Ma; rw[hm]
     rw[A5.Uc.ev,ew,eb];simp only[c1,Bet,hx,Bep,h2,Bfo,d1,ok1,h3,Sd,p1,oky,p2,Bev,Akq al,hn,Bf8,sp _ my,Hs my,dz,cz',ay,iy,ny,my,Tg iy my,Tg my iy]
 ·rw[Bfb h2];have h2:Ds x=false:=by simpa using h2
  refine⟨0,.tup [.nil,.int .u64 0,.int .u64 0,.int .i64 4],[],?_,Wk.Ik (.cons V5 (.cons .int (.cons .int (.cons .int .nil))))⟩;rw[A5.Uc.ev,c1,Bet,hx,Bep,h2,Bf8,Bep]
def apD(i k c j a b:Nat):Bool:=decide (k<=b/\i<=a/\(b<c\/(b=c/\a<i+j)))
def apS(R C:Nat)(l:List Int)(i k:Nat)(v:List Int)(t:Int)(c j:Nat):List Int :=B0 R C fun a b=>if apD i k c j a b=true/\a<i+v.length then Vw (C:Int) l (i:Int) (k:Int) v t (a:Int) (b:Int) else C1 (C:Int) l (a:Int) (b:Int)
section
variable{R C i k:Nat}{l v:List Int}{t:Int}
theorem A6a(c j:Nat):(apS R C l i k v t c j).length=R*C:=B5 _ _ _
theorem A2g(h:l.length=R*C):apS R C l i k v t k 0=l:=by
 unfold apS
 conv=>rhs; rw[<- Wv h]
 refine Ef fun a b ha hb=>?_
 rw[Bfb]
 rintro ⟨h,_⟩
 have:=Bff h;omega
theorem A2h(c:Nat):apS R C l i k v t c v.length=apS R C l i k v t (c+1) 0:=by
 unfold apS;refine Ef fun a b ha hb=>?_
 have:(apD i k c v.length a b=true/\a<i+v.length)↔(apD i k (c+1) 0 a b=true/\a<i+v.length):=by unfold apD;rw[Bew,Bew];omega
 by_cases h:apD i k c v.length a b=true/\a<i+v.length
 ·rw[Bfc h,Bfc (this.1 h)]
 ·rw[Bfb h,Bfb (fun hh=>h (this.2 hh))]
theorem A6b:apS R C l i k v t C 0=Jj R C l (i:Int) (k:Int) v t:=by
 unfold apS Jj;refine Ef fun a b ha hb=>?_
 by_cases h:apD i k C 0 a b=true/\a<i+v.length
 ·rw[Bfc h]
 ·rw[Bfb h];unfold Vw;rw[Bfb];intro hh;refine h ⟨?_,by omega⟩;unfold apD;rw[Bew]; omega
theorem A59{c j:Nat}(hc:c<C)(hk:k<=c)(hj:j<v.length){x:Int}(hx:x=Vw (C:Int) l (i:Int) (k:Int) v t ((i+j:Nat):Int) (c:Int)) :
 zn (apS R C l i k v t c j) ((i+j)*C+c) x=apS R C l i k v t c (j+1):=by
 unfold apS;rw[S4 hc];refine Ef fun a b ha hb=>?_
 by_cases h:a=i+j/\b=c
 ·obtain⟨rfl,rfl⟩:=h;rw[Bfc ⟨rfl,rfl⟩,Bfc ⟨by unfold apD; rw[Bew]; omega,by omega⟩,hx]
 ·rw[Bfb h]
  have:(apD i k c j a b=true/\a<i+v.length)↔(apD i k c (j+1) a b=true/\a<i+v.length):=by unfold apD;rw[Bew,Bew];omega
  by_cases h2:apD i k c j a b=true/\a<i+v.length
  ·rw[Bfc h2,Bfc (this.1 h2)]
  ·rw[Bfb h2,Bfb (fun hh=>h2 (this.2 hh))]
theorem A2f{c j:Nat}(hk:k<=c)(hj:j<v.length):Vw (C:Int) l (i:Int) (k:Int) v t ((i+j:Nat):Int) (c:Int) =
 Gg ((B3 (C:Int) l (c:Int) (i:Int) v.length).getD j 0) (Bz (Alf (C:Int) l (i:Int) v t (c:Int)) (v.getD j 0)):=by
 unfold Vw;rw[Bfc ⟨by omega,by omega,by omega⟩];have e1:(((i+j:Nat):Int)-(i:Int)).toNat=j:=by omega
 have e2:(B3 (C:Int) l (c:Int) (i:Int) v.length).getD j 0=C1 (C:Int) l ((i+j:Nat):Int) (c:Int):=by unfold B3;rw[Bez,Bf6,List.getElem?_range hj];show C1 (C:Int) l ((i:Int)+(j:Int)) (c:Int)=_;rw[<- Int.natCast_add]
 rw[e1,e2]
theorem Ay3{c b i:Int}{l:List Int}{m n:Nat}(h:m<=n):zt m (B3 c l b i n)=B3 c l b i m:=by unfold B3;rw[<- List.map_take,List.take_range,Nat.min_eq_left h]
theorem Ar3(N M0:Nat)(r6:R<=6)(c6:C<=6)(al:Ah l=true)(av:Ah v=true)(hv:i+v.length<=R){c:Nat}(hc:c<C)(hk:k<=c):∀(cnt j F:Nat),j+cnt=v.length->cnt<F ->
 A5.Apply.L1 N M0 F (R:Int) (C:Int) l (i:Int) v t (j:Int) (apS R C l i k v t c j) (c:Int) (Alf (C:Int) l (i:Int) v t (c:Int)) (B3 (C:Int) l (c:Int) (i:Int) v.length) (v.length:Int) =
 A5.Apply.L0 N M0 (R:Int) (C:Int) l (i:Int) v t ((c+1:Nat):Int) (apS R C l i k v t (c+1) 0):=by
 intro cnt
 induction cnt with
 | zero =>
   intro j F hj hF;obtain⟨F,rfl⟩:∃G,F=G+1:=⟨F-1,by omega⟩
   obtain rfl:j=v.length:=by omega
   rw[A5.Apply.B6,As,Beu (by omega),Bet,An (by omega) (by omega),A2h];rfl
 | succ cnt ih =>
   intro j F hj hF;obtain⟨F,rfl⟩:∃G,F=G+1:=⟨F-1,by omega⟩
   have hm:=K3 (a:=((i+j:Nat):Int)) (b:=(C:Int)) (by omega) (by omega) (by omega) (by omega);have hpl:=Hk (show i+j<R by omega) hc;have e1:Ad ((i:Int)+(j:Int))=((i+j:Nat):Int):=by rw[An (by omega) (by omega)]; omega
   have e2:Ad (((i+j:Nat):Int)*(C:Int))=(((i+j)*C:Nat):Int):=by rw[An (by omega) (by omega)]; exact(Bfa _ _).symm
   have h36:=Bfl r6 c6;have e3:Ad ((((i+j)*C:Nat):Int)+(c:Int))=(((i+j)*C+c:Nat):Int):=by rw[An (by omega) (by omega)]; omega
   have hlen:=A6a (R:=R) (C:=C) (l:=l) (i:=i) (k:=k) (v:=v) (t:=t) c j;have sl:=Mj (C:Int) (c:Int) (i:Int) v.length l;rw[A5.Apply.B6,As,Beq (show(j:Int)<(v.length:Int) by omega),Bep,e1,e2,e3,sl,Beq (show(0:Int)<=(j:Int) by omega),Beq (show(j:Int)<(v.length:Int) by omega),Bev,Bep,Ber,Ber];have a1:=S7 av j;have a2:=S7 (Pj (c:=(C:Int)) (b:=(c:Int)) (i:=(i:Int)) (n:=v.length) al) j;have a3:Af (Alf (C:Int) l (i:Int) v t (c:Int))=true:=Fc _ _
   rw[Bep,a3,a1,Bev,Bep,a2,Fc,Bev,Bep,Beq (by omega),Beq (by omega),Bev,Bep,Beq (by omega),Bep,
    A59 hc hk (by omega) (A2f hk (by omega)).symm,An (by omega) (by omega)]
   exact ih (j+1) F (by omega) (by omega)
theorem Ar4(N:Nat)(r6:R<=6)(c6:C<=6)(hN:7<N)(hr:Az (R:Int) (C:Int) l=true)(al:Ah l=true)(av:Ah v=true)(ht:Af t=true)(hv:i+v.length<=R):∀(cnt c F:Nat),c+cnt=C->k<=c->cnt<F ->
 A5.Apply.L0 N F (R:Int) (C:Int) l (i:Int) v t (c:Int) (apS R C l i k v t c 0) =
 some (.tup [.agg [.int .i64 (R:Int),.int .i64 (C:Int),.ints (.own 114002 tB) .u64 (Jj R C l (i:Int) (k:Int) v t)],.int .i64 (0:Int)]):=by
 intro cnt
 induction cnt with
 | zero =>
   intro c F hc hk hF;obtain⟨F,rfl⟩:∃G,F=G+1:=⟨F-1,by omega⟩
   obtain rfl:c=C:=by omega
   rw[A5.Apply.Ar,As,Beu (by omega),Bet,A6b]
 | succ cnt ih =>
   intro c F hc hk hF;obtain⟨F,rfl⟩:∃G,F=G+1:=⟨F-1,by omega⟩
   have cp:Gu (R:Int) (C:Int) l (c:Int)=true:=Ac.2 ⟨hr,Ak.2 (by omega)⟩;have e0:toNat ((R:Int)-(i:Int))=R-i:=by omega
   have st:=Ay3 (c:=(C:Int)) (b:=(c:Int)) (i:=(i:Int)) (l:=l) (m:=v.length) (n:=R-i) (by omega);have sl:=Mj (C:Int) (c:Int) (i:Int) v.length l;have sl2:=Mj (C:Int) (c:Int) (i:Int) (R-i) l;have sa:=Pj (c:=(C:Int)) (b:=(c:Int)) (i:=(i:Int)) (n:=v.length) al;have ft:Re v (B3 (C:Int) l (c:Int) (i:Int) v.length)=true:=Ado.2 ⟨by omega,by omega⟩
   rw[A5.Apply.Ar,As,Beq (by omega),Bep,cp,Ak.2 (show 0<=(i:Int)/\(i:Int)<=(R:Int) by omega),Bev,Bep,e0,Ber,st,sl2,sl,
    Beq (show(0:Int)<=(v.length:Int) by omega),Beq (show(v.length:Int)<=(v.length:Int) by omega),Beq (show(v.length:Int)<=((R-i:Nat):Int) by omega),Bev,Bev,Bep,ft,av,sa,Bev,Bev,Bep,ht,Hz,Bev,Bep]
   have:=Ar3 (t:=t) N F r6 c6 al av hv (show c<C by omega) hk v.length 0 N (by omega) (by omega);exact this.trans (ih (c+1) F (by omega) (by omega) (by omega))
end
theorem A5.Apply.Ae:Kq 163 A5.Apply.spec:=Eb A5.Apply.E Tryz.func163 (kc Aa.Check.Ae (kc Aa.Fi.Ae (kc Ai.H6.Ae (kc Ai.Mul.Ae (kc Ai.Sub.Ae .nil))))) fun r c l i k v t hp=>by
 obtain⟨h1,ht⟩:=Ac.1 (show(((Az r c l&&T7 r c i k v)&&(Ah l&&Ah v))&&Af t)=true from hp);obtain⟨h2,h3⟩:=Ac.1 h1;obtain⟨hr,hb⟩:=Ac.1 h2;obtain⟨al,av⟩:=Ac.1 h3;have hb:=Bff hb;have hc:Ny r c l=0:=by unfold Ny; rw[Bfc hr]
 have h36:=Mt hr;obtain⟨R,C,rfl,rfl,r6,c6,hl⟩:=Cp hr;obtain⟨i,rfl⟩:∃j:Nat,i=j:=⟨i.toNat,by omega⟩
 obtain⟨k,rfl⟩:∃j:Nat,k=j:=⟨k.toNat,by omega⟩
 refine⟨8,A5.Apply.out [.i (R:Int),.i (C:Int),.l l,.i (i:Int),.i (k:Int),.l v,.i t],[],?_,Wk.Ik (.cons (Wk.H3 (.cons .int (.cons .int (.cons (.keep _ _ _ _ xV) .nil)))) (.cons .int .nil))⟩;show _=some (DV.tup [.agg [.int .i64 (R:Int),.int .i64 (C:Int),.ints (.own 114002 tB) .u64 (Jj (toNat (R:Int)) (toNat (C:Int)) l (i:Int) (k:Int) v t)],.int .i64 0])
 have hlt:(((((Bc (i:Int) (0:Int))||(Bc (R:Int) (length v:Int)))||(Bc (Ad ((R:Int)-(length v:Int))) (i:Int)))||(Bc (k:Int) (0:Int)))||(Bc (C:Int) (k:Int)))=false:=by rw[As,As,As,As,As,An (by omega) (by omega),Beu (by omega),Beu (by omega),Beu (by omega),Beu (by omega),Beu (by omega)]; rfl
 rw[A5.Apply.ev,hc,show((0:Int) !=(0:Int))=false from rfl,Bet,hlt,Bet,Beq (show 0+l.length<=G2 by unfold G2; omega),Bep,List.nil_append,Ber,Ber];have:=Ar4 (R:=R) (C:=C) (i:=i) (k:=k) (l:=l) (v:=v) (t:=t) 8 r6 c6 (by omega) hr al av ht (by omega) (C-k) k 8 (by omega) (by omega) (by omega);rw[A2g hl] at this;exact this
def solve.check.hint:Nat->Option A9
 | 0=>some { keep:=[2,3,11,12],objs:=[],boxes:=[2,3] }
 | 2=>some { keep:=[2,34,35],objs:=[],boxes:=[2] }
 | _=>none
def solve.check.E:=C6 (Cw [(69,D2.Check.spec),(165,soft.Kind.spec)]) (fun _=>false) solve.check.hint (fun _=>none)
section
variable(N M:Nat)(r c:Int)(l:List Int)(p q:Int)(m:List Int)(p35:Int)
def solve.check.L0:Option DV:=B2 solve.check.E N f220 (Aj f220) [1,1,1,0,1,0] [] M ⟨F3 51 [(2,.ptr 2 0 0),(34,.int .i64 r),(35,.int .i64 p35)],[(2,false,.box [.int .i64 r,.int .i64 c,.ints .arg .u64 l])]⟩
theorem solve.check.Ar:solve.check.L0 (N+4) (M+1) r c l p35=cond (Bc p35 r) (bif ((decide (0<=(Ad ((Ad (p35*c))+p35))))&&(decide ((Ad ((Ad (p35*c))+p35))<(length l:Int)))) then cond (Af (getD l (toNat (Ad ((Ad (p35*c))+p35))) 0)) (bif ((Bb (getD l (toNat (Ad ((Ad (p35*c))+p35))) 0))==(0:Int)) then some (.int .i64 5) else solve.check.L0 (N+4) M r c l (Ad (p35+1))) none else none) (some (.int .i64 0)):=by kernel_rfl
theorem solve.check.ev:Bv solve.check.E (N+4) f220 (Aj f220) [.agg [.int .i64 r,.int .i64 c,.ints .arg .u64 l],.agg [.int .i64 p,.int .i64 q,.ints .arg .u64 m]]=cond (Ah l) (bif ((Ci r c l) !=(0:Int)) then some (.int .i64 (Ci r c l)) else bif (Ah m) then cond ((Ci p q m) !=(0:Int)) (some (.int .i64 (Ci p q m))) (bif ((r !=c)||(r !=p)) then some (.int .i64 3) else solve.check.L0 (N+4) (N+4) r c l (0:Int)) else none) none :=Et (Es (Es rfl (Es (Es rfl (Ax (Uw (r !=c)) (Ax (Te (r !=c)) (Ax (Uw (r !=c)) (Ax (Te (r !=c)) (Ax (tt8 (r !=c)) (Ax (tt6 (r !=c)) (Co (tt5 _ _) rfl rfl)))))))) rfl)) rfl)
end
def N0.Nj.up.E:=E0 []
theorem N0.Nj.up.ev(N:Nat)(n k:Int):Bv N0.Nj.up.E N f222 (Aj f222) [.int .i64 n,.int .i64 k]=some (.int .i64 (Ad ((Ad (n-1))-k))):=by kernel_rfl
def solve.I5.E:=E0 []
theorem solve.I5.ev(N:Nat)(i k:Int):Bv solve.I5.E N f223 (Aj f223) [.int .i64 i,.int .i64 k]=some (.bool (Bc i k)):=by kernel_rfl
def Aa.of.Br.own.hint:Nat->Option A9
 | 0=>some { keep:=[1,2,6,7,13,14],objs:=[(8,2,108002,.ints 43 .u64 [])],boxes:=[6,7] }
 | 2=>some { keep:=[1,2,6,7,8,13,14,17,18],objs:=[(8,2,108002,.ints 43 .u64 [])],boxes:=[6,7] }
 | _=>none
def Aa.of.Br.own.E:=C6 (Cw [(193,Aa.Ib.spec)]) (fun _=>false) Aa.of.Br.own.hint (fun _=>none)
def Aa.Br.own.E:=C6 (Cw [(117,Aa.of.Br.own.spec),(164,Aa.size.spec)]) (fun n=>zg n 17) (fun _=>none) (fun _=>none)
theorem Aa.Br.own.ev(N:Nat)(a b:Int):Bv Aa.Br.own.E N f149 (Aj f149) [.int .i64 a,.int .i64 b]=cond ((!(Bp a))||(!(Bp b))) (some (.tup [.agg [.int .i64 0,.int .i64 0,.nil],.int .i64 3])) (bif (Bp a&&Bp b) then some (.tup [.agg [.int .i64 a,.int .i64 b,.ints (.own 1136 43) .u64 (B0 (toNat a) (toNat b) (fun _ _=>0))],.int .i64 0]) else none) :=Et (Ax (Xw (Bp a)) (Ax (R7 (Bp a)) (Ax (R7 (Bp a)) (Ax (Aau (Bp a)) (Co (Apm _ _) rfl rfl)))))
def solve.Cl.Up.hint:Nat->Option A9
 | 0=>some { keep:=[2,3,4,5,8,10,11,28,29],objs:=[(12,2,112002,.ints 43 .u64 [])],boxes:=[4,5,8,11] }
 | 2=>some { keep:=[2,3,4,5,8,10,11,13,28,29,32,33],objs:=[(12,2,112002,.ints 43 .u64 [])],boxes:=[4,5,8,11] }
 | 4=>some { keep:=[2,3,4,5,8,10,11,13,15,16,28,29,32,33,49,50],objs:=[(12,2,112002,.ints 43 .u64 [])],boxes:=[4,5,8,11] }
 | _=>none
def solve.Cl.Up.E:=C6 (Cw [(222,N0.Nj.up.spec),(149,Aa.Br.own.spec),(223,solve.I5.spec),(82,Ai.Div.spec),(66,Ai.Finite.spec),(138,Ai.Mul.spec),(201,Ai.Sub.spec)]) (fun n=>zg n 24) solve.Cl.Up.hint (fun _=>none)
section
variable(N M0 M1 M:Nat)(r c:Int)(l:List Int)(p q:Int)(m:List Int)(n p16 p50 p13_1 p15 p29_2 p33_1:Int)(p2_1:List Int)(p33:Int)(p2:List Int)(p13 p29_1 p29:Int)(p2_2:List Int)
def solve.Cl.Up.L0:Option DV:=B2 solve.Cl.Up.E N f221 (Aj f221) [1,1,1,0,1,0] [] M ⟨F3 108 [(2,.fn 222 [.int .i64 n] []),(3,.fn 223 [] []),(4,.ptr 4 0 0),(5,.ptr 5 0 0),(8,.ptr 8 0 0),(10,.int .i64 r),(11,.ptr 11 0 0),(28,.int .i64 q),(29,.int .i64 p29)],[(4,false,.box [.int .i64 r,.int .i64 c,.ints .arg .u64 l]),(5,false,.box [.int .i64 p,.int .i64 q,.ints .arg .u64 m]),(8,false,.box [.int .i64 0,.int .i64 0,.nil]),(11,false,.box [.int .i64 r,.int .i64 q,.oref 112002]),(112002,false,.ints 43 .u64 p2_2)]⟩
def solve.Cl.Up.L1:Option DV:=B2 solve.Cl.Up.E N f221 (Aj f221) [1,1,1,0,1,0,0,1,1,0,0,1,0,1,1,0] [M0] M ⟨F3 108 [(2,.fn 222 [.int .i64 n] []),(3,.fn 223 [] []),(4,.ptr 4 0 0),(5,.ptr 5 0 0),(8,.ptr 8 0 0),(10,.int .i64 r),(11,.ptr 11 0 0),(13,.int .i64 p13),(28,.int .i64 q),(29,.int .i64 p29_1),(32,.int .i64 r),(33,.int .i64 p33)],[(4,false,.box [.int .i64 r,.int .i64 c,.ints .arg .u64 l]),(5,false,.box [.int .i64 p,.int .i64 q,.ints .arg .u64 m]),(8,false,.box [.int .i64 0,.int .i64 0,.nil]),(11,false,.box [.int .i64 r,.int .i64 q,.oref 112002]),(112002,false,.ints 43 .u64 p2)]⟩
def solve.Cl.Up.L2:Option DV:=B2 solve.Cl.Up.E N f221 (Aj f221) [1,1,1,0,1,0,0,1,1,0,0,1,0,1,1,0,0,1,1,0,0,1,1,1,0,1,0] [M0,M1] M ⟨F3 108 [(2,.fn 222 [.int .i64 n] []),(3,.fn 223 [] []),(4,.ptr 4 0 0),(5,.ptr 5 0 0),(8,.ptr 8 0 0),(10,.int .i64 r),(11,.ptr 11 0 0),(13,.int .i64 p13_1),(15,.int .i64 p15),(16,.int .u64 p16),(28,.int .i64 q),(29,.int .i64 p29_2),(32,.int .i64 r),(33,.int .i64 p33_1),(49,.int .i64 r),(50,.int .i64 p50)],[(4,false,.box [.int .i64 r,.int .i64 c,.ints .arg .u64 l]),(5,false,.box [.int .i64 p,.int .i64 q,.ints .arg .u64 m]),(8,false,.box [.int .i64 0,.int .i64 0,.nil]),(11,false,.box [.int .i64 r,.int .i64 q,.oref 112002]),(112002,false,.ints 43 .u64 p2_1)]⟩
theorem solve.Cl.Up.Ar:solve.Cl.Up.L0 N (M+1) r c l p q m n p29 p2_2=cond (Bc p29 q) (solve.Cl.Up.L1 N M N r c l p q m n 0 p2_2 p29 p29) (bif (By p2_2) then cond (!(Ds p2_2)) (some (.tup [.agg [.int .i64 0,.int .i64 0,.nil],.int .i64 2])) (some (.tup [.agg [.int .i64 r,.int .i64 q,.ints (.own 112002 43) .u64 p2_2],.int .i64 0])) else none):=by kernel_rfl
theorem solve.Cl.Up.B6:solve.Cl.Up.L1 N M0 (M+1) r c l p q m n p33 p2 p13 p29_1=cond (Bc p33 r) (bif (Bq (0<=p33/\p33<n/\n<=10)) then cond ((decide (0<=(Ad ((Ad ((n-1-p33)*q))+p13))))&&(decide ((Ad ((Ad ((n-1-p33)*q))+p13))<(length m:Int)))) (solve.Cl.Up.L2 N M0 M N r c l p q m n (getD m (toNat (Ad ((Ad ((n-1-p33)*q))+p13))) 0) 0 p13 (n-1-p33) p29_1 p33 p2) none else none) (solve.Cl.Up.L0 N M0 r c l p q m n (Ad (p29_1+1)) p2):=by kernel_rfl
theorem solve.Cl.Up.Jw:solve.Cl.Up.L2 N M0 M1 (M+1) r c l p q m n p16 p50 p13_1 p15 p29_2 p33_1 p2_1=cond (Bc p50 r) (bif (decide (p15<p50)) then cond ((decide (0<=(Ad ((Ad (p15*r))+p50))))&&(decide ((Ad ((Ad (p15*r))+p50))<(length l:Int)))) (bif ((decide (0<=(Ad ((Ad (p50*q))+p13_1))))&&(decide ((Ad ((Ad (p50*q))+p13_1))<(length p2_1:Int)))) then cond (decide ((toNat (Ad ((Ad (p50*q))+p13_1)))<(length p2_1))) (bif (Af (getD l (toNat (Ad ((Ad (p15*r))+p50))) 0)&&Af (getD p2_1 (toNat (Ad ((Ad (p50*q))+p13_1))) 0)) then cond (Af p16&&Af (Bz (getD l (toNat (Ad ((Ad (p15*r))+p50))) 0) (getD p2_1 (toNat (Ad ((Ad (p50*q))+p13_1))) 0))) (solve.Cl.Up.L2 N M0 M1 M r c l p q m n (Gg p16 (Bz (getD l (toNat (Ad ((Ad (p15*r))+p50))) 0) (getD p2_1 (toNat (Ad ((Ad (p50*q))+p13_1))) 0))) (Ad (p50+1)) p13_1 p15 p29_2 p33_1 p2_1) none else none) none else none) none else solve.Cl.Up.L2 N M0 M1 M r c l p q m n p16 (Ad (p50+1)) p13_1 p15 p29_2 p33_1 p2_1) (bif ((decide (0<=(Ad ((Ad (p15*r))+p15))))&&(decide ((Ad ((Ad (p15*r))+p15))<(length l:Int)))) then cond (Af p16&&Af (getD l (toNat (Ad ((Ad (p15*r))+p15))) 0)) (bif ((decide (0<=(Ad ((Ad (p15*q))+p13_1))))&&(decide ((Ad ((Ad (p15*q))+p13_1))<(length p2_1:Int)))) then cond (decide ((toNat (Ad ((Ad (p15*q))+p13_1)))<(length p2_1))) (solve.Cl.Up.L1 N M0 M1 r c l p q m n (Ad (p33_1+1)) (zn p2_1 (toNat (Ad ((Ad (p15*q))+p13_1))) (E2 p16 (getD l (toNat (Ad ((Ad (p15*r))+p15))) 0))) p13_1 p29_2) none else none) none else none) :=Et (Es (Es (Co (Kz _ _) (Co (Kz _ _) (Co (Cb _) (Co (Cb _) (Co (Cb _) rfl rfl) rfl) rfl) rfl) rfl) rfl) (Co (Kz _ _) (Co (Cb _) (Co (Kz _ _) (Co (Cb _) rfl rfl) rfl) rfl) rfl))
theorem solve.Cl.Up.ev:Bv solve.Cl.Up.E N f221 (Aj f221) [.agg [.int .i64 r,.int .i64 c,.ints .arg .u64 l],.agg [.int .i64 p,.int .i64 q,.ints .arg .u64 m],.fn 222 [.int .i64 n] [],.fn 223 [] []]=cond (Bp r&&Bp q) (solve.Cl.Up.L0 N N r c l p q m n 0 (B0 (toNat r) (toNat q) (fun _ _=>0))) none:=by kernel_rfl
end
def solve.Pz.E:=E0 [(220,solve.check.spec),(221,solve.Cl.Up.spec)]
theorem solve.Pz.ev(N:Nat)(r c:Int)(l:List Int)(p q:Int)(m:List Int):Bv solve.Pz.E N f196 (Aj f196) [.agg [.int .i64 r,.int .i64 c,.ints .arg .u64 l],.agg [.int .i64 p,.int .i64 q,.ints .arg .u64 m]]=cond (Ah l&&Ah m) (bif ((Ac1 r c l p q m) !=(0:Int)) then some (.tup [.agg [.int .i64 0,.int .i64 0,.nil],.int .i64 (Ac1 r c l p q m)]) else bif (Ajn r c l p q m&&decide (r=r)) then some (.tup [.agg [.int .i64 ((W9 r q (upG c l q m (toNat r) (toNat q))).1),.int .i64 ((W9 r q (upG c l q m (toNat r) (toNat q))).2.1),.ints .fresh .u64 ((W9 r q (upG c l q m (toNat r) (toNat q))).2.2.1)],.int .i64 ((W9 r q (upG c l q m (toNat r) (toNat q))).2.2.2)]) else none) none:=by kernel_rfl
def solve.Flat.hint:Nat->Option A9
 | 0=>some { keep:=[1,5,6],objs:=[(0,5,100005,.ints 43 .u64 [])],boxes:=[1] }
 | 2=>some { keep:=[7,44,45,46],objs:=[(0,44,100044,.ints 43 .u64 [])],boxes:=[] }
 | _=>none
def solve.Flat.E:=C6 (Cw [(69,D2.Check.spec),(80,compare.Nc.spec),(78,compare.Ta.spec),(124,Ai.Ck.spec),(79,Ai.Cc.spec)]) (fun _=>false) solve.Flat.hint (fun _=>none)
section
variable(N M:Nat)(r c:Int)(l:List Int)(p6:Int)(p5:List Int)(p46:Int)
def solve.Flat.L0:Option DV:=B2 solve.Flat.E N f194 (Aj f194) [1,1,1,0,1,0] [] M ⟨F3 55 [(1,.ptr 1 0 0),(5,.oref 100005),(6,.int .i64 p6)],[(1,false,.box [.int .i64 r,.int .i64 c,.ints .arg .u64 l]),(100005,false,.ints 43 .u64 p5)]⟩
def solve.Flat.L1:Option DV:=B2 solve.Flat.E N f194 (Aj f194) [1,1,1,1,1,0,1,0] [] M ⟨F3 55 [(7,.int .u64 (A7 (Bi p5) (-40:Int))),(44,.oref 100044),(45,.int .i64 (length p5:Int)),(46,.int .i64 p46)],[(100044,false,.ints 43 .u64 p5)]⟩
theorem solve.Flat.Ar:solve.Flat.L0 N (M+1) r c l p6 p5=cond ((Bc p6 r)&&(Bc p6 c)) (bif ((decide (0<=(Ad ((Ad (p6*c))+p6))))&&(decide ((Ad ((Ad (p6*c))+p6))<(length l:Int)))) then cond (Af (getD l (toNat (Ad ((Ad (p6*c))+p6))) 0)) (bif (decide ((length p5)+1<=G2)) then solve.Flat.L0 N M r c l (Ad (p6+1)) (p5++[(Hq (getD l (toNat (Ad ((Ad (p6*c))+p6))) 0))]) else none) none else none) (bif (By p5) then cond (Dk (Bi p5) (-40:Int)) (solve.Flat.L1 N N p5 (0:Int)) none else none) :=Et (Ax (Un (Bc p6 r)) (Ax (Un (Bc p6 r)) (Ax (P7 (Bc p6 r)) (Ax (Auo (Bc p6 r)) (Ax (tt2 (Bc p6 r)) (Co (tt1 _ _) rfl rfl))))))
theorem solve.Flat.B6:solve.Flat.L1 N (M+1) p5 p46=cond (Bc p46 (length p5:Int)) (bif ((decide (0<=p46))&&(decide (p46<(length p5:Int)))) then cond (decide ((toNat p46)<(length p5))) (bif (Af (A7 (Bi p5) (-40:Int))&&Af (getD p5 (toNat p46) 0)) then cond (!(decide (Hp (A7 (Bi p5) (-40:Int)) (getD p5 (toNat p46) 0)<0))) (some (.tup [.bool true,.int .i64 0])) (solve.Flat.L1 N M p5 (Ad (p46+1))) else none) none else none) (some (.tup [.bool false,.int .i64 0])):=by kernel_rfl
theorem solve.Flat.ev:Bv solve.Flat.E N f194 (Aj f194) [.agg [.int .i64 r,.int .i64 c,.ints .arg .u64 l]]=cond (Ah l) (bif ((Ci r c l) !=(0:Int)) then some (.tup [.bool false,.int .i64 (Ci r c l)]) else solve.Flat.L0 N N r c l 0 []) none:=by kernel_rfl
end
theorem solve.I5.Ae:Kq 223 solve.I5.spec:=Eb solve.I5.E Tryz.func223 .nil fun i k _=>by refine⟨0,solve.I5.out [.i i,.i k],[],?_,.bool⟩;rw[solve.I5.ev,As]; rfl
theorem Az1.Ae:Kq 222 N0.Nj.up.spec:=Eb N0.Nj.up.E Tryz.func222 .nil fun n k hp=>by have hp:=Ak.1 (show Bq (0<=k/\k<n/\n<=10)=true from hp);refine⟨0,N0.Nj.up.out [.i n,.i k],[],?_,.int⟩;rw[N0.Nj.up.ev,An (x:=n-1) (by omega) (by omega),An (by omega) (by omega)]; rfl
theorem Aa.of.Br.own.Ae:Kq 117 Aa.of.Br.own.spec:=Eb Aa.of.Br.own.E Tryz.func117 (kc Aa.Ib.Ae .nil) fun a b hp=>by have h1:(Bp a&&Bp b)=true:=hp;obtain⟨ha,hb⟩:=Ac.1 h1;obtain⟨A,rfl,hA⟩:=F5 ha;obtain⟨B,rfl,hB⟩:=F5 hb;refine⟨8,.agg [.int .i64 (A:Int),.int .i64 (B:Int),.ints (.own 108002 tB) .u64 (B0 A B fun(i j:Nat)=>(0:Int))],[],?_,Wk.H3 (.cons .int (.cons .int (.cons (.keep _ _ _ _ xV) .nil)))⟩;have n:=of.Br.outer 8 hA hB (by omega) (F:=fun(i j:Nat)=>(0:Int)) (fun _ _=>rfl) A 0 8 (by omega) (by omega);rw[M4] at n;exact(Aa.of.Br.ev 8 (A:Int) (B:Int)).trans n
theorem Aa.Br.own.Ae:Kq 149 Aa.Br.own.spec:=Eb Aa.Br.own.E Tryz.func149 (kc Aa.of.Br.own.Ae (kc Aa.size.Ae .nil)) fun a b hp=>by
 have hp:(Bp a&&Bp b)=true:=hp;obtain⟨ha,hb⟩:=Ac.1 hp;refine⟨0,Aa.Br.own.out [.i a,.i b],[],?_,?_⟩
 ·rw[Aa.Br.own.ev,ha,hb]; rfl
 ·exact Wk.Ik (.cons (Wk.H3 (.cons .int (.cons .int (.cons (.keep _ _ _ _ xV) .nil)))) (.cons .int .nil))
section
variable{n Q:Nat}{l m:List Int}
def upF(n Q:Nat)(l m:List Int)(i j:Nat):Int:=(upL (n:Int) l (fun i=>C1 (Q:Int) m (i:Int) (j:Int)) n n).getD i 0
def upD(n j k a b:Nat):Bool:=decide (b<j\/(b=j/\n-k<=a))
def upS(n Q:Nat)(l m:List Int)(j k:Nat):List Int:=B0 n Q fun a b=>if upD n j k a b=true then upF n Q l m a b else 0
theorem Ax9(i j:Nat):Af (upF n Q l m i j)=true:=Att (Ax8 _ _ _ _ _) i
theorem A64(j k:Nat):Ah (upS n Q l m j k)=true:=I3 fun a b=>by
 split
 ·exact Ax9 _ _
 ·exact Cr (n:=0) (by decide)
theorem A3e{j k t:Nat}(ht:t<n)(hj:j<Q)(hk:n-k<=t):C1 (Q:Int) (upS n Q l m j k) (t:Int) (j:Int)=upF n Q l m t j:=by unfold upS;have hd:upD n j k t j=true:=Beq (.inr ⟨rfl,hk⟩);rw[Ju ht hj,hd,Bfc rfl]
theorem Ajk(j k:Nat):(upS n Q l m j k).length=n*Q:=B5 _ _ _
theorem Ax4(N:Nat)(n6:n<=6)(q6:Q<=6)(hl:l.length=n*n)(al:Ah l=true){i j k:Nat}(hi:i+k+1=n)(hj:j<Q)(M0 M1:Nat)(p29 p33:Int) :
 ∀(cnt t F:Nat) (s:Int),t+cnt=n->cnt<F->i+1<=t->Af s=true ->
 solve.Cl.Up.L2 N M0 M1 F (n:Int) (n:Int) l (n:Int) (Q:Int) m (n:Int) s (t:Int) (j:Int) (i:Int) p29 p33 (upS n Q l m j k) =
 solve.Cl.Up.L1 N M0 M1 (n:Int) (n:Int) l (n:Int) (Q:Int) m (n:Int) (Ad (p33+(1:Int))) (zn (upS n Q l m j k) (toNat ((i:Int)*(Q:Int)+(j:Int))) (E2 (Z1 (n:Int) l (i:Int) s (t:Int) ((upL (n:Int) l (fun i=>C1 (Q:Int) m (i:Int) (j:Int)) n n).drop t)) (C1 (n:Int) l (i:Int) (i:Int)))) (j:Int) p29:=by
 intro cnt
 induction cnt with
 | zero =>
   intro t F s ht hF hit hs;obtain⟨F,rfl⟩:∃G,F=G+1:=⟨F-1,by omega⟩
   obtain⟨e1,g1,g2⟩:=Ow (R:=(n:Int)) (Gi n6 n6 hl (show i<n by omega) (show i<n by omega));obtain⟨e2,g3,g4⟩:=Ow (R:=(n:Int)) (Gi n6 q6 (Ajk (l:=l) (m:=m) j k) (show i<n by omega) hj);rw[Be3 (by rw[Xv]; omega),Z1]
   rw[solve.Cl.Up.Jw,As,Beu (show ¬(t:Int)<(n:Int) by omega),Bet,e1,Beq g1,Beq g2,Bev,Bep,hs,show Af (getD l (toNat ((i:Int)*(n:Int)+(i:Int))) 0)=true from T5 (c:=(n:Int)) al,Bev,Bep,
    e2,Beq g3,Beq g4,Bev,Bep,Beq (show toNat ((i:Int)*(Q:Int)+(j:Int))<(upS n Q l m j k).length by omega),Bep]
   rfl
 | succ cnt ih =>
   intro t F s ht hF hit hs;obtain⟨F,rfl⟩:∃G,F=G+1:=⟨F-1,by omega⟩
   obtain⟨e1,g1,g2⟩:=Ow (R:=(n:Int)) (Gi n6 n6 hl (show i<n by omega) (show t<n by omega));obtain⟨e2,g3,g4⟩:=Ow (R:=(n:Int)) (Gi n6 q6 (Ajk (l:=l) (m:=m) j k) (show t<n by omega) hj);have hx:getD (upS n Q l m j k) (toNat ((t:Int)*(Q:Int)+(j:Int))) 0=upF n Q l m t j:=A3e (by omega) hj (by omega)
   rw[solve.Cl.Up.Jw,As,Beq (show(t:Int)<(n:Int) by omega),Bep,Beq (show(i:Int)<(t:Int) by omega),Bep,e1,Beq g1,Beq g2,Bev,Bep,
    e2,Beq g3,Beq g4,Bev,Bep,Beq (show toNat ((t:Int)*(Q:Int)+(j:Int))<(upS n Q l m j k).length by omega),Bep,hx,
    show Af (getD l (toNat ((i:Int)*(n:Int)+(t:Int))) 0)=true from T5 (c:=(n:Int)) al,Ax9,Bev,Bep,hs,Fc,Bev,Bep,An (x:=(t:Int)+1) (by omega) (by omega)]
   have:=ih (t+1) F (Gg s (Bz (C1 (n:Int) l (i:Int) (t:Int)) (upF n Q l m t j))) (by omega) (by omega) (by omega) (Tg hs (Fc _ _));rw[Awl (by rw[Xv]; omega)];exact this
theorem A3a(N:Nat)(n6:n<=6){i j k:Nat}(hi:i<n)(M0 M1:Nat)(p29 p33 s:Int):∀(cnt t F:Nat),t+cnt=i+1 ->
 solve.Cl.Up.L2 N M0 M1 (F+cnt) (n:Int) (n:Int) l (n:Int) (Q:Int) m (n:Int) s (t:Int) (j:Int) (i:Int) p29 p33 (upS n Q l m j k) =
 solve.Cl.Up.L2 N M0 M1 F (n:Int) (n:Int) l (n:Int) (Q:Int) m (n:Int) s ((i+1:Nat):Int) (j:Int) (i:Int) p29 p33 (upS n Q l m j k):=by
 intro cnt
 induction cnt with
 | zero =>
   intro t F ht;obtain rfl:t=i+1:=by omega
   rfl
 | succ cnt ih =>intro t F ht;rw[<- Nat.add_assoc,solve.Cl.Up.Jw,As,Beq (show(t:Int)<(n:Int) by omega),Bep,Beu (show ¬(i:Int)<(t:Int) by omega),Bet,An (by omega) (by omega)];exact ih (t+1) F (by omega)
theorem A3d{i j k:Nat}(hi:i+k+1=n)(hj:j<Q){x:Int}(hx:x=upF n Q l m i j):zn (upS n Q l m j k) (toNat ((i:Int)*(Q:Int)+(j:Int))) x=upS n Q l m j (k+1):=by
 refine Aok hj hx fun a b ha hb=>?_
 unfold upD;rw[Bew,Bew];omega
theorem A3b(N:Nat)(n6:n<=6)(q6:Q<=6)(hN:7<N)(hl:l.length=n*n)(hm:m.length=n*Q)(al:Ah l=true)(am:Ah m=true){j:Nat}(hj:j<Q)(M0:Nat):∀(cnt k F:Nat),k+cnt=n->cnt<F ->
 solve.Cl.Up.L1 N M0 F (n:Int) (n:Int) l (n:Int) (Q:Int) m (n:Int) (k:Int) (upS n Q l m j k) (j:Int) (j:Int) =
 solve.Cl.Up.L0 N M0 (n:Int) (n:Int) l (n:Int) (Q:Int) m (n:Int) ((j+1:Nat):Int) (upS n Q l m j n):=by
 intro cnt
 induction cnt with
 | zero =>
   intro k F hk hF;obtain⟨F,rfl⟩:∃G,F=G+1:=⟨F-1,by omega⟩
   obtain rfl:k=n:=by omega
   rw[solve.Cl.Up.B6,As,Beu (by omega),Bet,An (by omega) (by omega)];rfl
 | succ cnt ih =>
   intro k F hk hF;obtain⟨F,rfl⟩:∃G,F=G+1:=⟨F-1,by omega⟩
   obtain⟨i,hi⟩:∃i:Nat,i+k+1=n:=⟨n-k-1,by omega⟩
   have ei:(n:Int)-1-(k:Int)=(i:Int):=by omega
   obtain⟨e2,g3,g4⟩:=Ow (R:=(n:Int)) (Gi n6 q6 hm (show i<n by omega) hj);rw[solve.Cl.Up.B6,As,Beq (show(k:Int)<(n:Int) by omega),Bep,Ak.2 (show 0<=(k:Int)/\(k:Int)<(n:Int)/\(n:Int)<=10 by omega),Bep,ei,e2,Beq g3,Beq g4,Bev,Bep];obtain⟨G,rfl⟩:∃G,N=G+(i+1):=⟨N-(i+1),by omega⟩
   have hs:=A3a (n:=n) (Q:=Q) (l:=l) (m:=m) (G+(i+1)) n6 (i:=i) (j:=j) (k:=k) (by omega) M0 F (j:Int) (k:Int) (C1 (Q:Int) m (i:Int) (j:Int)) (i+1) 0 G (by omega);have hr:=Ax4 (n:=n) (Q:=Q) (l:=l) (m:=m) (G+(i+1)) n6 q6 hl al hi hj M0 F (j:Int) (k:Int) (n-(i+1)) (i+1) G (C1 (Q:Int) m (i:Int) (j:Int)) (by omega) (by omega) (by omega) (T5 (c:=(Q:Int)) am);rw[A3d hi hj (A3g (show i<n by omega)).symm,An (by omega) (by omega)] at hr;exact(hs.trans hr).trans (ih (k+1) F (by omega) (by omega))
theorem Ax7(j:Nat):upS n Q l m j n=upS n Q l m (j+1) 0:=by
 unfold upS;refine Ef fun a b ha hb=>?_
 have:upD n j n a b=upD n (j+1) 0 a b:=by unfold upD;rw[decide_eq_decide];omega
 rw[this]
theorem Ax6:upS n Q l m 0 0=B0 n Q fun _ _=>0:=by
 unfold upS;refine Ef fun a b ha hb=>?_
 have:upD n 0 0 a b=false:=Beu (by omega);rw[this]; rfl
theorem A3f:upS n Q l m Q 0=upG (n:Int) l (Q:Int) m n Q:=by
 unfold upS upG;refine Ef fun a b ha hb=>?_
 have:upD n Q 0 a b=true:=Beq (.inl hb);rw[this]; rfl
theorem A3c(N:Nat)(n6:n<=6)(q6:Q<=6)(hN:7<N)(hl:l.length=n*n)(hm:m.length=n*Q)(al:Ah l=true)(am:Ah m=true):∀(cnt j F:Nat),j+cnt=Q->cnt<F ->
 solve.Cl.Up.L0 N F (n:Int) (n:Int) l (n:Int) (Q:Int) m (n:Int) (j:Int) (upS n Q l m j 0) =
 cond (Ds (upS n Q l m Q 0)) (some (.tup [.agg [.int .i64 (n:Int),.int .i64 (Q:Int),.ints (.own 112002 tB) .u64 (upS n Q l m Q 0)],.int .i64 (0:Int)])) (some (A4q 2)):=by
 intro cnt
 induction cnt with
 | zero =>
   intro j F hj hF;obtain⟨F,rfl⟩:∃G,F=G+1:=⟨F-1,by omega⟩
   obtain rfl:j=Q:=by omega
   have h36:=Bfl n6 q6;rw[solve.Cl.Up.Ar,As,Beu (by omega),Bet,Gz (A64 _ _) (by rw[Ajk]; omega),Bep];cases Ds (upS n j l m j 0)<;>rfl
 | succ cnt ih =>
   intro j F hj hF;obtain⟨F,rfl⟩:∃G,F=G+1:=⟨F-1,by omega⟩
   have hr:=A3b N n6 q6 hN hl hm al am (show j<Q by omega) F n 0 N (by omega) (by omega);rw[Ax7] at hr;rw[solve.Cl.Up.Ar,As,Beq (show(j:Int)<(Q:Int) by omega),Bep];exact hr.trans (ih (j+1) F (by omega) (by omega))
end
theorem solve.Cl.Up.Ae:Kq 221 solve.Cl.Up.spec:=Eb solve.Cl.Up.E Tryz.func221 (kc Az1.Ae (kc Aa.Br.own.Ae (kc solve.I5.Ae (kc Ai.Div.Ae (kc Ai.Finite.Ae (kc Ai.Mul.Ae (kc Ai.Sub.Ae .nil))))))) fun r c l p q m n hp=>by
 show ∃N dv drops,_=some dv/\Wk drops dv (Uo (W9 r q (upG c l q m (toNat r) (toNat q))));obtain⟨h1,hn⟩:=Ac.1 (show(Ajn r c l p q m&&decide (n=r))=true from hp);obtain⟨h2,h3⟩:=Ac.1 h1;obtain⟨hr,hm⟩:=Ac.1 h2;obtain⟨h4,h5⟩:=Ac.1 h3;obtain⟨al,am⟩:=Ac.1 h4;obtain⟨rfl,rfl⟩:=Ak.1 h5;obtain rfl:=Bff hn;have s1:=(Km hr).1;have s2:=(Km hm).2;obtain⟨R,C,rfl,hC,r6,c6,hl⟩:=Cp hr;obtain⟨P,Q,hP,rfl,p6,q6,hl2⟩:=Cp hm;obtain rfl:R=C:=by omega
 obtain rfl:R=P:=by omega
 have h:=A3c (n:=R) (Q:=Q) (l:=l) (m:=m) 8 r6 q6 (by omega) hl hl2 al am Q 0 8 (by omega) (by omega);rw[Ax6,A3f,show((0:Nat):Int)=0 from rfl] at h;rw[Ber,Ber];unfold W9;cases hf:Ds (upG (R:Int) l (Q:Int) m R Q) with
 | true =>rw[hf,Bep] at h;rw[Bfc rfl];refine⟨8,.tup [.agg [.int .i64 (R:Int),.int .i64 (Q:Int),.ints (.own 112002 tB) .u64 (upG (R:Int) l (Q:Int) m R Q)],.int .i64 0],[112002],?_,Wk.Ik (.cons (Uu (zf.2 rfl)) (.cons .int .nil))⟩;rw[solve.Cl.Up.ev,s1,s2,Bev,Bep,Ber,Ber];exact h
 | false =>rw[hf,Bet] at h;rw[Bfb (by decide)];refine⟨8,A4q 2,[],?_,Jm⟩;rw[solve.Cl.Up.ev,s1,s2,Bev,Bep,Ber,Ber];exact h
def qr.Lr.E:=E0 [(65,Aa.Mul.spec),(203,Aa.D4.spec)]
theorem qr.Lr.ev(N:Nat)(r c:Int)(l:List Int)(p q:Int)(m:List Int):Bv qr.Lr.E N f195 (Aj f195) [.agg [.int .i64 r,.int .i64 c,.ints .arg .u64 l],.agg [.int .i64 p,.int .i64 q,.ints .arg .u64 m]]=cond (((Dy r c l).2.2.2) !=(0:Int)) (some (.tup [.agg [.int .i64 0,.int .i64 0,.nil],.int .i64 ((Dy r c l).2.2.2)])) (bif (Ah ((Dy r c l).2.2.1)&&Ah m) then some (.tup [.agg [.int .i64 ((Zs ((Dy r c l).1) ((Dy r c l).2.1) ((Dy r c l).2.2.1) p q m).1),.int .i64 ((Zs ((Dy r c l).1) ((Dy r c l).2.1) ((Dy r c l).2.2.1) p q m).2.1),.ints .fresh .u64 ((Zs ((Dy r c l).1) ((Dy r c l).2.1) ((Dy r c l).2.2.1) p q m).2.2.1)],.int .i64 ((Zs ((Dy r c l).1) ((Dy r c l).2.1) ((Dy r c l).2.2.1) p q m).2.2.2)]) else none):=by kernel_rfl
theorem Aqi{n i:Nat}(h:i<n):(zh n).drop i=i::(zh n).drop (i+1):=by rw[List.drop_eq_getElem_cons (by rw[Bfs]; exact h),List.getElem_range]
theorem L9{r c:Int}{l:List Int}(h:Ci r c l=0):Az r c l=true/\Ds l=true:=by
 unfold Ci at h;by_cases h1:Az r c l=true
 ·rw[Bfc h1] at h;by_cases h2:Ds l=true
  ·exact⟨h1,h2⟩
  ·rw[Bfb h2] at h; exact absurd h (by decide)
 ·rw[Bfb h1] at h; exact absurd h (by decide)
theorem Ak8{r c:Int}{l:List Int}(h1:Az r c l=true)(h2:Ds l=true):Ci r c l=0:=by unfold Ci; rw[Bfc h1,Bfc h2]
theorem neI{x:Int}(h:x≠0):(x !=(0:Int))=true:=by simpa using h
theorem Kh{x:Int}(h:x=0):(x !=(0:Int))=false:=by rw[h]; rfl
theorem Arw(N:Nat){n:Nat}{l:List Int}(n6:n<=6)(hl:l.length=n*n)(al:Ah l=true):∀(cnt i F:Nat),i+cnt=n->cnt<F ->
 solve.check.L0 (N+4) F (n:Int) (n:Int) l (i:Int)=some (.int .i64 (if ((zh n).drop i).any (fun i:Nat=>decide (Bb (C1 (n:Int) l (i:Int) (i:Int))=0))=true then 5 else 0)):=by
 intro cnt
 induction cnt with
 | zero =>
   intro i F hi hF;obtain⟨F,rfl⟩:∃G,F=G+1:=⟨F-1,by omega⟩
   rw[solve.check.Ar,As,Beu (by omega),Bet,Be3 (by rw[Bfs]; omega)]; rfl
 | succ cnt ih =>
   intro i F hi hF;obtain⟨F,rfl⟩:∃G,F=G+1:=⟨F-1,by omega⟩
   obtain⟨e1,g1,g2⟩:=Ow (R:=(n:Int)) (Gi n6 n6 hl (show i<n by omega) (show i<n by omega));have hx:getD l (toNat ((i:Int)*(n:Int)+(i:Int))) 0=C1 (n:Int) l (i:Int) (i:Int):=rfl;rw[solve.check.Ar,As,Beq (show(i:Int)<(n:Int) by omega),Bep,e1,Beq g1,Beq g2,Bev,Bep,hx,T5 al,Bep,Aqi (by omega),wM];by_cases hk:Bb (C1 (n:Int) l (i:Int) (i:Int))=0
   ·have e:(Bb (C1 (n:Int) l (i:Int) (i:Int))==(0:Int))=true:=by rw[hk]; rfl
    rw[e,Bep,Beq hk]; rfl
   ·have e:(Bb (C1 (n:Int) l (i:Int) (i:Int))==(0:Int))=false:=by simpa using hk
    rw[e,Bet,Beu hk,yH,An (by omega) (by omega)];exact ih (i+1) F (by omega) (by omega)
theorem Bbj{r c p:Int}:((r !=c)||(r !=p))=decide (r≠c\/r≠p):=by rw[Be5]; simp
theorem solve.check.Ae:Kq 220 solve.check.spec:=Eb solve.check.E Tryz.func220 (kc D2.Check.Ae (kc soft.Kind.Ae .nil)) fun r c l p q m hp=>by
 obtain⟨al,am⟩:=Ac.1 (show(Ah l&&Ah m)=true from hp);refine⟨14,solve.check.out [.i r,.i c,.l l,.i p,.i q,.l m],[],?_,.int⟩;show _=some (DV.int .i64 (Ac1 r c l p q m));rw[show(14:Nat)=10+4 from rfl,solve.check.ev,al,Bep,am,Bep,Bbj];unfold Ac1;by_cases h1:Ci r c l=0
 ·rw[Kh h1,Bet,Bfb (by rw[h1]; decide)];by_cases h2:Ci p q m=0
  ·rw[Kh h2,Bet,Bfb (by rw[h2]; decide)];by_cases h3:r≠c\/r≠p
   ·rw[Beq h3,Bep,Bfc h3]
   ·rw[Beu h3,Bet,Bfb h3];obtain rfl:r=c:=Decidable.byContradiction fun h=>h3 (.inl h)
    obtain⟨R,C,rfl,hC,r6,c6,hl⟩:=Cp (L9 h1).1;obtain rfl:R=C:=by omega
    rw[Ber];exact Arw 10 r6 hl al R 0 14 (by omega) (by omega)
  ·rw[neI h2,Bep,Bfc h2]
 ·rw[neI h1,Bep,Bfc h1]
theorem Axc{r c:Int}{l:List Int}{p q:Int}{m:List Int}(h:Ac1 r c l p q m=0):Az r c l=true/\Az p q m=true/\r=c/\r=p:=by
 unfold Ac1 at h;by_cases h1:Ci r c l=0
 ·rw[Bfb (by rw[h1]; decide)] at h;by_cases h2:Ci p q m=0
  ·rw[Bfb (by rw[h2]; decide)] at h;by_cases h3:r≠c\/r≠p
   ·rw[Bfc h3] at h; exact absurd h (by decide)
   ·exact⟨(L9 h1).1,(L9 h2).1,Decidable.byContradiction fun h=>h3 (.inl h),Decidable.byContradiction fun h=>h3 (.inr h)⟩
  ·rw[Bfc h2] at h; exact absurd h h2
 ·rw[Bfc h1] at h; exact absurd h h1
theorem solve.Pz.Ae:Kq 196 solve.Pz.spec:=Eb solve.Pz.E Tryz.func196 (kc solve.check.Ae (kc solve.Cl.Up.Ae .nil)) fun r c l p q m hp=>by
 have hp:(Ah l&&Ah m)=true:=hp;show ∃N dv drops,_=some dv/\Wk drops dv (Uo (upX r c l p q m));unfold upX;by_cases h:Ac1 r c l p q m=0
 ·obtain⟨h1,h2,h3,h4⟩:=Axc h;have ht:Ajn r c l p q m=true:=Ac.2 ⟨Ac.2 ⟨h1,h2⟩,Ac.2 ⟨hp,Ak.2 ⟨h3,h4⟩⟩⟩;rw[Bfb (by rw[h]; decide)];exact⟨0,_,[],by rw[solve.Pz.ev,hp,Bep,Kh h,Bet,ht,Beq rfl]; rfl,Qv⟩
 ·rw[Bfc h];exact⟨0,_,[],by rw[solve.Pz.ev,hp,Bep,neI h,Bep]; rfl,Jm⟩
theorem Ay5{b:Nat}{n:Int}(h:b<2^64):(Cq b n).1<2^64:=by
 unfold Cq;by_cases h4:Ag b=4
 ·rw[Bfc h4]; exact(by decide:P1<2^64)
 rw[Bfb h4];by_cases h3:Ag b=3\/Ag b=0
 ·rw[Bfc h3]; exact h
 rw[Bfb h3];exact U2 _ _ _
theorem Hs{b n:Int}(h:Af b=true):Af (A7 b n)=true:=by obtain⟨x,rfl,hx⟩:=Bu h;exact Cr (Ay5 (by rw[Ber]; exact hx))
theorem Agg:∀(l:List Int) (m:Nat),m<2^64->Nb l m<2^64
 | [],m,h=>h
 | x::l,m,h=>by
   unfold Nb;split
   ·exact(by decide:P1<2^64)
   ·have h2:E9 x.toNat<2^63:=Aja x.toNat;exact Agg l _ (by omega)
theorem Sd(l:List Int):Af (Bi l)=true:=Cr (Agg l 0 (by decide))
theorem Q7(x:Int):Af (Hq x)=true:=Cr (xf (Aja x.toNat) (by decide))
theorem Awz(N:Nat){d:List Int}(hd:By d=true)(h7:d.length<=1000):∀(cnt i F:Nat),i+cnt=d.length->cnt<F ->
 solve.Flat.L1 N F d (i:Int)=some (.tup [.bool ((d.drop i).any fun x=>!(decide (Hp (A7 (Bi d) (-40)) x<0))),.int .i64 0]):=by
 obtain⟨_,hu⟩:=Jr hd;intro cnt
 induction cnt with
 | zero =>
   intro i F hi hF;obtain⟨F,rfl⟩:∃G,F=G+1:=⟨F-1,by omega⟩
   rw[solve.Flat.B6,As,Beu (by omega),Bet,Be3 (by omega)]; rfl
 | succ cnt ih =>
   intro i F hi hF;obtain⟨F,rfl⟩:∃G,F=G+1:=⟨F-1,by omega⟩
   rw[solve.Flat.B6,As,Beq (show(i:Int)<(d.length:Int) by omega),Bep,Beq (show(0:Int)<=(i:Int) by omega),Bev,Bep,Ber,Beq (show i<d.length by omega),Bep,
    Hs (Sd d),hu i (by omega),Bev,Bep,Lh (by omega),wM]
   cases decide (Hp (A7 (Bi d) (-40)) (d.getD i 0)<0) with
   | false=>rfl
   | true =>rw[Bfo,Bet,yH,An (by omega) (by omega)];exact ih (i+1) F (by omega) (by omega)
theorem A5p(c:Int)(l:List Int)(n:Nat):Ah (Acq c l n)=true:=Ak.2 fun x hx=>by obtain⟨j,_,rfl⟩:=zw.1 hx;exact Q7 _
theorem R3(c:Int)(l:List Int)(n:Nat):(Acq c l n).length=n:=by unfold Acq; rw[Bfv,Bfs]
theorem Aw0(N:Nat){R C:Nat}{l:List Int}(r6:R<=6)(c6:C<=6)(hN:7<N)(hl:l.length=R*C)(al:Ah l=true):∀(cnt i F:Nat),i+cnt=min R C->cnt<F ->
 solve.Flat.L0 N F (R:Int) (C:Int) l (i:Int) (Acq (C:Int) l i)=some (.tup [.bool (A6v (Acq (C:Int) l (min R C))),.int .i64 0]):=by
 intro cnt
 induction cnt with
 | zero =>
   intro i F hi hF;obtain⟨F,rfl⟩:∃G,F=G+1:=⟨F-1,by omega⟩
   obtain rfl:i=min R C:=by omega
   have hlt:(Bc (((min R C:Nat)):Int) (R:Int)&&Bc (((min R C:Nat)):Int) (C:Int))=false:=by rw[As,As,Bool.and_eq_false_iff,Be8,Be8]; omega
   have ok:=Gz (A5p (C:Int) l (min R C)) (by rw[R3]; omega);have sp:Dk (Bi (Acq (C:Int) l (min R C))) (-40:Int)=true:=Ac.2 ⟨Sd _,Ak.2 (by omega)⟩;rw[solve.Flat.Ar,hlt,Bet,ok,Bep,sp,Bep];exact Awz N ok (by rw[R3]; omega) (min R C) 0 N (by rw[R3]; omega) (by omega)
 | succ cnt ih =>
   intro i F hi hF;obtain⟨F,rfl⟩:∃G,F=G+1:=⟨F-1,by omega⟩
   obtain⟨e1,g1,g2⟩:=Ow (R:=(R:Int)) (Gi r6 c6 hl (show i<R by omega) (show i<C by omega));have hx:getD l (toNat ((i:Int)*(C:Int)+(i:Int))) 0=C1 (C:Int) l (i:Int) (i:Int):=rfl
   rw[solve.Flat.Ar,As,As,Beq (show(i:Int)<(R:Int) by omega),Beq (show(i:Int)<(C:Int) by omega),Bev,Bep,e1,Beq g1,Beq g2,Bev,Bep,hx,T5 al,Bep,
    R3,Beq (show i+1<=G2 by unfold G2; omega),Bep,An (by omega) (by omega)]
   have:=ih (i+1) F (by omega) (by omega);unfold Acq at this ⊢;rw[Kl] at this;exact this
theorem solve.Flat.Ae:Kq 194 solve.Flat.spec:=Eb solve.Flat.E Tryz.func194 (kc D2.Check.Ae (kc compare.Nc.Ae (kc compare.Ta.Ae (kc Ai.Ck.Ae (kc Ai.Cc.Ae .nil))))) fun r c l hp=>by
 have hp:Ah l=true:=hp;refine⟨8,solve.Flat.out [.i r,.i c,.l l],[],?_,Wk.Ik (.cons .bool (.cons .int .nil))⟩;show _=some (DV.tup [.bool (Vp r c l).1,.int .i64 (Vp r c l).2]);rw[solve.Flat.ev,hp,Bep];unfold Vp A1f;by_cases h1:Ci r c l=0
 ·obtain⟨R,C,rfl,rfl,r6,c6,hl⟩:=Cp (L9 h1).1;rw[Kh h1,Bet,Bfb (by rw[h1]; decide),Ber,Ber];exact Aw0 8 r6 c6 (by omega) hl hp (min R C) 0 8 (by omega) (by omega)
 ·rw[neI h1,Bep,Bfc h1]
theorem Atf{r c:Int}{l:List Int}(al:Ah l=true)(x y a b:Int):Ah (L5 r c l x y a b).2.2.1=true:=by
 unfold L5;split
 ·split
  ·dsimp only;exact I3 fun i k=>T5 al
  ·exact Ak.2 fun x h=>by cases h
 ·exact Ak.2 fun x h=>by cases h
theorem A3i{r c:Int}{l:List Int}(al:Ah l=true):Ah (Dy r c l).2.2.1=true:=by
 unfold Dy;split
 ·dsimp only;exact I3 fun i k=>T5 al
 ·exact Ak.2 fun x h=>by cases h
theorem Hz(x y:List Int):Af (Hi x y)=true:=Cr (Adt x y 0 (by decide))
theorem A4t(r c:Int)(l:List Int)(p q:Int)(m:List Int):Ah (Zs r c l p q m).2.2.1=true:=by
 unfold Zs;split
 ·split
  ·dsimp only;exact I3 fun i k=>Hz _ _
  ·exact Ak.2 fun x h=>by cases h
 ·exact Ak.2 fun x h=>by cases h
theorem Auk(r c:Int)(l:List Int)(p q:Int)(m:List Int):Ah (Fe r c l p q m).2.2.1=true:=by
 unfold Fe;split
 ·exact Ak.2 fun x h=>by cases h
 ·exact A4t _ _ _ _ _ _
theorem qr.Lr.Ae:Kq 195 qr.Lr.spec:=Eb qr.Lr.E Tryz.func195 (kc Aa.Mul.Ae (kc Aa.D4.Ae .nil)) fun r c l p q m hp=>by
 obtain⟨al,am⟩:=Ac.1 (show(Ah l&&Ah m)=true from hp);show ∃N dv drops,_=some dv/\Wk drops dv (Uo (Fe r c l p q m));unfold Fe;by_cases h:(Dy r c l).2.2.2=0
 ·rw[Bfb (by rw[h]; decide)];exact⟨0,_,[],by rw[qr.Lr.ev,Kh h,Bet,A3i al,am]; rfl,Qv⟩
 ·rw[Bfc h];exact⟨0,_,[],by rw[qr.Lr.ev,neI h,Bep]; rfl,Jm⟩
def qr.down.hint:Nat->Option A9
 | 0=>some { keep:=[1,2,5,6,7],objs:=[(0,6,100006,.recs 161 2 []),(6,2,106002,.ints 43 .u64 [])],boxes:=[1,2,5] }
 | 2=>some { keep:=[1,2,5,6,7,8,9,12],objs:=[(6,2,106002,.ints 43 .u64 []),(0,6,100006,.recs 161 2 [])],boxes:=[1,2,5] }
 | _=>none
def qr.down.E:=C6 (Cw [(163,A5.Apply.spec),(200,A5.Uc.spec),(68,Aa.Fi.spec)]) (fun n=>zg n 46) qr.down.hint (fun _=>none)
section
variable(N M0 M:Nat)(r c:Int)(l:List Int)(p7:Int)(p6:List (List DV))(p2_2:List Int)(p12_1:Int)(p2_1:List Int)(p7_1:Int)(p8:List Int)(p9:Int)(p6_1:List (List DV))
def qr.down.L0:Option DV:=B2 qr.down.E N f162 (Aj f162) [1,1,1,0,1,0,0,1,0,0,1,1,1,1,0,1,0] [M0] M ⟨F3 88 [(1,.ptr 1 0 0),(2,.ptr 2 0 0),(5,.ptr 5 0 0),(6,.oref 100006),(7,.int .i64 p7_1),(8,.ints .fresh .u64 p8),(9,.int .u64 p9),(12,.int .i64 p12_1)],[(1,false,.box [.int .i64 r,.int .i64 c,.ints .arg .u64 l]),(2,false,.box [.int .i64 0,.int .i64 0,.nil]),(5,false,.box [.int .i64 r,.int .i64 c,.oref 106002]),(106002,false,.ints 43 .u64 p2_1),(100006,false,.recs 161 2 p6_1)]⟩
def qr.down.L1:Option DV:=B2 qr.down.E N f162 (Aj f162) [1,1,1,0,1,0] [] M ⟨F3 88 [(1,.ptr 1 0 0),(2,.ptr 2 0 0),(5,.ptr 5 0 0),(6,.oref 100006),(7,.int .i64 p7)],[(1,false,.box [.int .i64 r,.int .i64 c,.ints .arg .u64 l]),(2,false,.box [.int .i64 0,.int .i64 0,.nil]),(5,false,.box [.int .i64 r,.int .i64 c,.oref 106002]),(100006,false,.recs 161 2 p6),(106002,false,.ints 43 .u64 p2_2)]⟩
def qr.down.L2:Option DV:=B2 qr.down.E N f162 (Aj f162) [1,1,1,0,1,0] [] M ⟨F3 88 [(1,.ptr 1 0 0),(2,.ptr 2 0 0),(5,.ptr 5 0 0),(6,.oref 100006),(7,.int .i64 0)],[(1,false,.box [.int .i64 r,.int .i64 c,.ints .arg .u64 l]),(2,false,.box [.int .i64 0,.int .i64 0,.nil]),(5,false,.box [.int .i64 r,.int .i64 c,.ints .arg .u64 l]),(100006,false,.recs 161 2 [])]⟩
theorem qr.down.Ar:qr.down.L0 N M0 (M+1) r c l p12_1 p2_1 p7_1 p8 p9 p6_1=cond (Bc p12_1 r) (bif ((decide (0<=(Ad ((Ad (p12_1*c))+p7_1))))&&(decide ((Ad ((Ad (p12_1*c))+p7_1))<(length p2_1:Int)))) then cond (decide ((toNat (Ad ((Ad (p12_1*c))+p7_1)))<(length p2_1))) (qr.down.L0 N M0 M r c l (Ad (p12_1+1)) (zn p2_1 (toNat (Ad ((Ad (p12_1*c))+p7_1))) 0) p7_1 p8 p9 p6_1) none else none) (bif (decide ((length p6_1)+1<=A0t)) then qr.down.L1 N M0 r c l (Ad (p7_1+1)) (p6_1++[[.ints .arg .u64 p8,.int .u64 p9]]) p2_1 else none):=by kernel_rfl
theorem qr.down.B6:qr.down.L1 N (M+1) r c l p7 p6 p2_2=cond ((Bc p7 c)&&(Bc p7 (Ad (r-1)))) (bif (Gu r c p2_2 p7&&Bq (0<=p7/\p7<=r)) then cond (By (B3 c p2_2 p7 p7 (toNat (r-p7)))) (bif (((Dm (B3 c p2_2 p7 p7 (toNat (r-p7)))).2.2.2) !=(0:Int)) then some (.tup [.agg [.int .i64 0,.int .i64 0,.nil],.nil,.int .i64 2]) else bif (((Az r c p2_2&&T7 r c p7 p7 ((Dm (B3 c p2_2 p7 p7 (toNat (r-p7)))).1))&&(Ah p2_2&&Ah ((Dm (B3 c p2_2 p7 p7 (toNat (r-p7)))).1)))&&Af ((Dm (B3 c p2_2 p7 p7 (toNat (r-p7)))).2.1)) then cond ((decide (0<=(Ad ((Ad (p7*c))+p7))))&&(decide ((Ad ((Ad (p7*c))+p7))<(length (Jj (toNat r) (toNat c) p2_2 p7 p7 ((Dm (B3 c p2_2 p7 p7 (toNat (r-p7)))).1) ((Dm (B3 c p2_2 p7 p7 (toNat (r-p7)))).2.1)):Int)))) (bif (decide ((toNat (Ad ((Ad (p7*c))+p7)))<(length (Jj (toNat r) (toNat c) p2_2 p7 p7 ((Dm (B3 c p2_2 p7 p7 (toNat (r-p7)))).1) ((Dm (B3 c p2_2 p7 p7 (toNat (r-p7)))).2.1))))) then qr.down.L0 N M N r c l (Ad (p7+1)) (zn (Jj (toNat r) (toNat c) p2_2 p7 p7 ((Dm (B3 c p2_2 p7 p7 (toNat (r-p7)))).1) ((Dm (B3 c p2_2 p7 p7 (toNat (r-p7)))).2.1)) (toNat (Ad ((Ad (p7*c))+p7))) ((Dm (B3 c p2_2 p7 p7 (toNat (r-p7)))).2.2.1)) p7 ((Dm (B3 c p2_2 p7 p7 (toNat (r-p7)))).1) ((Dm (B3 c p2_2 p7 p7 (toNat (r-p7)))).2.1) p6 else none) none else none) none else none) (some (.tup [.agg [.int .i64 r,.int .i64 c,.ints (.own 106002 43) .u64 p2_2],.recs (.own 100006 161) 2 p6,.int .i64 0])) :=Et (Ax (Un (Bc p7 c)) (Ax (Un (Bc p7 c)) (Ax (P7 (Bc p7 c)) (Ax (P7 (Bc p7 c)) (Ax (Auo (Bc p7 c)) (Ax (tt2 (Bc p7 c)) (Co (tt1 _ _) rfl rfl)))))))
theorem qr.down.Jw:qr.down.L2 N (M+1) r c l=cond ((Bc 0 c)&&(Bc 0 (Ad (r-1)))) (bif (Gu r c l 0&&Bq (0<=(0:Int)/\(0:Int)<=r)) then cond (By (B3 c l 0 0 (toNat (r-0)))) (bif (((Dm (B3 c l 0 0 (toNat (r-0)))).2.2.2) !=(0:Int)) then some (.tup [.agg [.int .i64 0,.int .i64 0,.nil],.nil,.int .i64 2]) else bif (((Az r c l&&T7 r c 0 0 ((Dm (B3 c l 0 0 (toNat (r-0)))).1))&&(Ah l&&Ah ((Dm (B3 c l 0 0 (toNat (r-0)))).1)))&&Af ((Dm (B3 c l 0 0 (toNat (r-0)))).2.1)) then cond ((decide (0<=(Ad ((Ad ((0:Int)*c))+0))))&&(decide ((Ad ((Ad ((0:Int)*c))+0))<(length (Jj (toNat r) (toNat c) l 0 0 ((Dm (B3 c l 0 0 (toNat (r-0)))).1) ((Dm (B3 c l 0 0 (toNat (r-0)))).2.1)):Int)))) (bif (decide ((toNat (Ad ((Ad ((0:Int)*c))+0)))<(length (Jj (toNat r) (toNat c) l 0 0 ((Dm (B3 c l 0 0 (toNat (r-0)))).1) ((Dm (B3 c l 0 0 (toNat (r-0)))).2.1))))) then qr.down.L0 N M N r c l 1 (zn (Jj (toNat r) (toNat c) l 0 0 ((Dm (B3 c l 0 0 (toNat (r-0)))).1) ((Dm (B3 c l 0 0 (toNat (r-0)))).2.1)) (toNat (Ad ((Ad ((0:Int)*c))+0))) ((Dm (B3 c l 0 0 (toNat (r-0)))).2.2.1)) 0 ((Dm (B3 c l 0 0 (toNat (r-0)))).1) ((Dm (B3 c l 0 0 (toNat (r-0)))).2.1) [] else none) none else none) none else none) (some (.tup [.agg [.int .i64 r,.int .i64 c,.ints .arg .u64 l],.recs (.own 100006 161) 2 [],.int .i64 0])) :=Et (Ax (Un (Bc 0 c)) (Ax (Un (Bc 0 c)) (Ax (P7 (Bc 0 c)) (Ax (P7 (Bc 0 c)) (Ax (Auo (Bc 0 c)) (Ax (tt2 (Bc 0 c)) (Co (tt1 _ _) rfl rfl)))))))
theorem qr.down.ev:Bv qr.down.E N f162 (Aj f162) [.agg [.int .i64 r,.int .i64 c,.ints .arg .u64 l]] =
 qr.down.L2 N N r c l:=by kernel_rfl
end
def qr.Ez.hint:Nat->Option A9
 | 0=>some { keep:=[2,3,5,6],objs:=[],boxes:=[2,3] }
 | _=>none
def qr.Ez.J4:List (Nat × Fy):=[(69,D2.Check.spec),(163,A5.Apply.spec),(126,Aa.Hv.spec),(162,qr.down.spec),(66,Ai.Finite.spec)]
def qr.Ez.E:Env:=Af3 (Cw qr.Ez.J4) (fun _=>false) qr.Ez.hint (fun _=>none) (At9 [(22,[.s .u64]),(43,[.i .u64])])
section
variable(N M:Nat)(r c:Int)(l:List Int)(p6:Int)(p2:List Int)
def qr.Ez.L0:Option DV:=B2 qr.Ez.E N f120 (Aj f120) [1,0,1,1,1,1,1,1,0,0] [] M ⟨F3 81 [(2,.ptr 2 0 0),(3,.ptr 3 0 0),(5,.recs .fresh 2 (Sy r c ([]++l))),(6,.int .i64 p6)],[(2,false,.box [.int .i64 ((Rn r).1),.int .i64 ((Rn r).2.1),.ints .fresh .u64 p2]),(3,false,.box [.int .i64 ((Ig r c ([]++l)).1),.int .i64 ((Ig r c ([]++l)).2.1),.ints .arg .u64 ((Ig r c ([]++l)).2.2.1)])]⟩
theorem qr.Ez.Ar:qr.Ez.L0 N (M+1) r c l p6 p2=cond (Bc p6 0) (bif (By p2) then cond ((!(Ds p2))||(By ((Ig r c ([]++l)).2.2.1))) (bif ((!(Ds p2))||(!(Ds ((Ig r c ([]++l)).2.2.1)))) then some (.tup [.agg [.int .i64 0,.int .i64 0,.nil],.agg [.int .i64 0,.int .i64 0,.nil],.int .i64 2]) else some (.tup [.agg [.int .i64 ((Rn r).1),.int .i64 ((Rn r).2.1),.ints .fresh .u64 p2],.agg [.int .i64 ((Ig r c ([]++l)).1),.int .i64 ((Ig r c ([]++l)).2.1),.ints .arg .u64 ((Ig r c ([]++l)).2.2.1)],.int .i64 0])) none else none) (bif ((decide (0<=p6))&&(decide (p6<(length (Sy r c ([]++l)):Int)))) then cond (isC (.s .u64) (getD (getD (Sy r c ([]++l)) (toNat p6) []) 0 .undef)) (bif ((decide (0<=p6))&&(decide (p6<(length (Sy r c ([]++l)):Int)))) then cond (isC (.i .u64) (getD (getD (Sy r c ([]++l)) (toNat p6) []) 1 .undef)) (bif (((Az ((Rn r).1) ((Rn r).2.1) p2&&T7 ((Rn r).1) ((Rn r).2.1) p6 0 (Af4 (getD (getD (Sy r c ([]++l)) (toNat p6) []) 0 .undef)))&&(Ah p2&&Ah (Af4 (getD (getD (Sy r c ([]++l)) (toNat p6) []) 0 .undef))))&&Af (A1o (getD (getD (Sy r c ([]++l)) (toNat p6) []) 1 .undef))) then qr.Ez.L0 N M r c l (Ad (p6-1)) (Jj (toNat ((Rn r).1)) (toNat ((Rn r).2.1)) p2 p6 0 (Af4 (getD (getD (Sy r c ([]++l)) (toNat p6) []) 0 .undef)) (A1o (getD (getD (Sy r c ([]++l)) (toNat p6) []) 1 .undef))) else none) none else none) none else none) :=Et (Es (Es (Ax (Xw (Ds p2)) (Ax (R7 (Ds p2)) (Co (Apl _ _) (Ax (R7 (Ds p2)) (Ax (Aau (Ds p2)) (Co (Apm _ _) rfl rfl))) rfl))) rfl) (Co (Kz _ _) (Co (Cb _) (Co (Kz _ _) (Co (Cb _) (Co (Cb _) rfl rfl) rfl) rfl) rfl) rfl))
theorem qr.Ez.ev:Bv qr.Ez.E N f120 (Aj f120) [.agg [.int .i64 r,.int .i64 c,.ints .arg .u64 l]]=cond (Ah l) (bif ((Ci r c l) !=(0:Int)) then some (.tup [.agg [.int .i64 0,.int .i64 0,.nil],.agg [.int .i64 0,.int .i64 0,.nil],.int .i64 (Ci r c l)]) else bif (decide (0+(length l)<=G2)) then cond ((Az r c ([]++l)&&Ds ([]++l))&&Ah ([]++l)) (bif (((Ig r c ([]++l)).2.2.2) !=(0:Int)) then some (.tup [.agg [.int .i64 0,.int .i64 0,.nil],.agg [.int .i64 0,.int .i64 0,.nil],.int .i64 ((Ig r c ([]++l)).2.2.2)]) else qr.Ez.L0 N N r c l (Ad ((length (Sy r c ([]++l)):Int)-1)) ((Rn r).2.2.1)) none else none) none :=Et (Es (Es rfl (Co (Cb _) (Co (Cb _) rfl rfl) rfl)) rfl)
end
abbrev qr.Ez.Kn:=E8 prog 120 qr.Ez.spec
theorem qr.Ez.Ei(hk:Hh prog qr.Ez.J4)(h:Hyp qr.Ez.E f120 qr.Ez.ts qr.Ez.pre qr.Ez.out):qr.Ez.Kn :=Ij (Aky hk _ _ _ _) func120 (by kernel_rfl) (by kernel_rfl) h
def qr.Xd.E:=E0 [(63,Aa.Part.spec),(120,qr.Ez.spec)]
theorem qr.Xd.ev(N:Nat)(r c:Int)(l:List Int):Bv qr.Xd.E N f62 (Aj f62) [.agg [.int .i64 r,.int .i64 c,.ints .arg .u64 l]]=cond (Ah l) (bif ((Jg r c l) !=(0:Int)) then some (.tup [.agg [.int .i64 0,.int .i64 0,.nil],.agg [.int .i64 0,.int .i64 0,.nil],.int .i64 (Jg r c l)]) else some (.tup [.agg [.int .i64 ((L5 ((qX r c l).1) ((qX r c l).2.1) ((qX r c l).2.2.1) 0 0 r (min r c)).1),.int .i64 ((L5 ((qX r c l).1) ((qX r c l).2.1) ((qX r c l).2.2.1) 0 0 r (min r c)).2.1),.ints .fresh .u64 ((L5 ((qX r c l).1) ((qX r c l).2.1) ((qX r c l).2.2.1) 0 0 r (min r c)).2.2.1)],.agg [.int .i64 ((L5 ((rX r c l).1) ((rX r c l).2.1) ((rX r c l).2.2.1) 0 0 (min r c) c).1),.int .i64 ((L5 ((rX r c l).1) ((rX r c l).2.1) ((rX r c l).2.2.1) 0 0 (min r c) c).2.1),.ints .fresh .u64 ((L5 ((rX r c l).1) ((rX r c l).2.1) ((rX r c l).2.2.1) 0 0 (min r c) c).2.2.1)],.int .i64 0])) none:=by kernel_rfl
def solve.Pf.hint:Nat->Option A9
 | 0=>some { keep:=[2,3,4,17,18],objs:=[],boxes:=[2,3,4] }
 | _=>none
def solve.Pf.E:=C6 (Cw [(69,D2.Check.spec),(62,qr.Xd.spec),(195,qr.Lr.spec),(194,solve.Flat.spec),(196,solve.Pz.spec)]) (fun _=>false) solve.Pf.hint (fun _=>none)
theorem solve.Pf.ev(N:Nat)(r c:Int)(l:List Int)(p q:Int)(m:List Int):Bv solve.Pf.E (N+4) f150 (Aj f150) [.agg [.int .i64 r,.int .i64 c,.ints .arg .u64 l],.agg [.int .i64 p,.int .i64 q,.ints .arg .u64 m]]=cond (Ah l) (bif ((Ci r c l) !=(0:Int)) then some (.tup [.agg [.int .i64 0,.int .i64 0,.nil],.int .i64 (Ci r c l)]) else bif (Ah m) then cond ((Ci p q m) !=(0:Int)) (some (.tup [.agg [.int .i64 0,.int .i64 0,.nil],.int .i64 (Ci p q m)])) (bif ((Bc r c)||(r !=p)) then some (.tup [.agg [.int .i64 0,.int .i64 0,.nil],.int .i64 3]) else bif (Ah l) then cond ((Jg r c l) !=(0:Int)) (some (.tup [.agg [.int .i64 0,.int .i64 0,.nil],.int .i64 (Jg r c l)])) (bif (Ah ((Sl r c l).2.2.1)) then cond ((Vp ((Sl r c l).1) ((Sl r c l).2.1) ((Sl r c l).2.2.1)).1) (some (.tup [.agg [.int .i64 0,.int .i64 0,.nil],.int .i64 5])) (bif (Ah ((Me r c l).2.2.1)&&Ah m) then cond (((Fe ((Me r c l).1) ((Me r c l).2.1) ((Me r c l).2.2.1) p q m).2.2.2) !=(0:Int)) (some (.tup [.agg [.int .i64 0,.int .i64 0,.nil],.int .i64 ((Fe ((Me r c l).1) ((Me r c l).2.1) ((Me r c l).2.2.1) p q m).2.2.2)])) (bif (Ah ((Sl r c l).2.2.1)&&Ah ((Fe ((Me r c l).1) ((Me r c l).2.1) ((Me r c l).2.2.1) p q m).2.2.1)) then some (.tup [.agg [.int .i64 ((upX ((Sl r c l).1) ((Sl r c l).2.1) ((Sl r c l).2.2.1) ((Fe ((Me r c l).1) ((Me r c l).2.1) ((Me r c l).2.2.1) p q m).1) ((Fe ((Me r c l).1) ((Me r c l).2.1) ((Me r c l).2.2.1) p q m).2.1) ((Fe ((Me r c l).1) ((Me r c l).2.1) ((Me r c l).2.2.1) p q m).2.2.1)).1),.int .i64 ((upX ((Sl r c l).1) ((Sl r c l).2.1) ((Sl r c l).2.2.1) ((Fe ((Me r c l).1) ((Me r c l).2.1) ((Me r c l).2.2.1) p q m).1) ((Fe ((Me r c l).1) ((Me r c l).2.1) ((Me r c l).2.2.1) p q m).2.1) ((Fe ((Me r c l).1) ((Me r c l).2.1) ((Me r c l).2.2.1) p q m).2.2.1)).2.1),.ints .fresh .u64 ((upX ((Sl r c l).1) ((Sl r c l).2.1) ((Sl r c l).2.2.1) ((Fe ((Me r c l).1) ((Me r c l).2.1) ((Me r c l).2.2.1) p q m).1) ((Fe ((Me r c l).1) ((Me r c l).2.1) ((Me r c l).2.2.1) p q m).2.1) ((Fe ((Me r c l).1) ((Me r c l).2.1) ((Me r c l).2.2.1) p q m).2.2.1)).2.2.1)],.int .i64 ((upX ((Sl r c l).1) ((Sl r c l).2.1) ((Sl r c l).2.2.1) ((Fe ((Me r c l).1) ((Me r c l).2.1) ((Me r c l).2.2.1) p q m).1) ((Fe ((Me r c l).1) ((Me r c l).2.1) ((Me r c l).2.2.1) p q m).2.1) ((Fe ((Me r c l).1) ((Me r c l).2.1) ((Me r c l).2.2.1) p q m).2.2.1)).2.2.2)]) else none) else none) else none) else none) else none) none :=Et (Es (Es rfl (Es (Es rfl (Ax (Uw (Bc r c)) (Ax (Te (Bc r c)) (Ax (Uw (Bc r c)) (Ax (Te (Bc r c)) (Ax (tt8 (Bc r c)) (Ax (tt6 (Bc r c)) (Co (tt5 _ _) rfl rfl)))))))) rfl)) rfl)
end Go.Proofs.S1
end
