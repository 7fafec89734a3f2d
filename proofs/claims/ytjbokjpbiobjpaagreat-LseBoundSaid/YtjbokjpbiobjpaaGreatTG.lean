/- A verified evaluator of the program's form and its use for this seat: S1PNear, S1EqSum, S1PSum. -/
import Derived.Test.YtjbokjpbiobjpaaGreatTF
import Derived.Test.YtjbokjpbiobjpaaGreatTE
set_option linter.unusedVariables false
set_option linter.unusedSimpArgs false
noncomputable section
open Int (toNat)
open List (length getD)
open Go.Proofs.Tryz
namespace Go.Proofs.S1
open Go Go.Den Go.Rnd Go.Proofs
open EqSoft
theorem Aju {D:Nat} (h:D≤63):2^D<2^64:=Nat.pow_lt_pow_right (by decide) (by omega)
theorem N2 (n:Bool) {r:Nat} (h:r<2^63):Ny .u64 ((Bv n r:Nat):Int) (9223372036854775808:Int)=(r:Int):=by
 have hs:Bv n r<2^64:=by unfold Bv; split<;>omega
 unfold Ny
 rw [show (9223372036854775808:Int)=((2^63:Nat):Int) from rfl,BitVec.toNat_and,BitVec.toNat_not,Ia,Ia,show IntKind.u64.bits=64 from rfl,Axg hs,
  show 2^64-1-2^63%2^64=2^63-1 by decide,Nat.and_two_pow_sub_one_eq_mod]
 have:Bv n r%2^63=r:=by unfold Bv; cases n<;>simp<;>omega
 rw [this]
 exact U0 (by omega)
theorem Aek (N:Nat) (ex n:Bool) {r:Nat} (h:r≤Eg):soft.Cu.C18 N ex ((Bv n r:Nat):Int)=some (.tup [.int .u64 ((Bv n r:Nat):Int),.int .u8 ((flags r ex:Nat):Int)]):=by
 have h63:r<2^63:=by rw [Em] at h; omega
 have hs:Bv n r<2^64:=by unfold Bv; split<;>omega
 rw [soft.Cu.Afn,N2 n h63,B3 hs]
 unfold Av flags
 rw [Aw5,Ain n h]
 have hinf:(((r:Nat):Int)==(9218868437227405312:Int))=decide (r=Eg):=by
  rw [Em,Axj]; simp; omega
 rw [hinf]
 by_cases h1:r=Eg
 ·simp [h1]
 ·by_cases h2:2^52≤r
  ·cases ex<;>simp [h1]<;>simp [show 4503599627370496≤r by omega]
  ·by_cases h3:0<r
   ·cases ex<;>simp [h1,h3]<;>simp [show ¬ 4503599627370496≤r by omega]
   ·cases ex<;>simp [h1,h3]<;>simp [show ¬ 4503599627370496≤r by omega]
theorem Ah6 (N:Nat) (n:Bool) {m:Nat} {e:Int} (he:-1140≤e∧e≤50000) (r:Bool):∀ (k d F:Nat),d+k=62→k<F→(∀ d',d'<d→2^53≤m / 2^d'∨e+d' < -1074) →
 ∃ D:Nat,soft.Cu.L0 N F n m e r (d:Int)=soft.Cu.C7 N n m e r (D:Int)∧Drop m e D:=by
 intro k
 induction k with
 | zero =>
   intro d F hd hF hl
   obtain ⟨F,rfl⟩:∃ G,F=G+1:=⟨F-1,by omega⟩
   obtain rfl:d=62:=by omega
   rw [soft.Cu.Aw,Gz .u64 m 62 (by decide),Ao (by omega) (by omega),Ao (by omega) (by omega),Gu,Au]
   have a0:decide ((0:Int)≤((62:Nat):Int))=true:=by decide
   have a1:((((62:Nat):Int)+1)==63)=true:=by decide
   rw [a0,Aw3,a1,Aw3]
   by_cases h:2^53≤m / 2^62∨e+(62:Nat) < -1074
   ·refine ⟨63,?_,by omega,by omega,fun d' hd'=>?_⟩
    ·have:(decide ((9007199254740992:Int)≤((m / 2^62:Nat):Int))||decide (e+((62:Nat):Int) < -1074))=true:=by
      simp only [Bool.or_eq_true,Axa]; omega
     rw [this]; rfl
    ·rcases Ax0 d' 62 with h' | h'
     ·exact hl d' h'
     ·obtain rfl:d'=62:=by omega
      exact h
   ·refine ⟨62,?_,by omega,fun _=>by omega,hl⟩
    have:(decide ((9007199254740992:Int)≤((m / 2^62:Nat):Int))||decide (e+((62:Nat):Int) < -1074))=false:=by
     simp only [Bool.or_eq_false_iff,Axm]; omega
    rw [this]; rfl
 | succ k ih =>
   intro d F hd hF hl
   obtain ⟨F,rfl⟩:∃ G,F=G+1:=⟨F-1,by omega⟩
   rw [soft.Cu.Aw,Gz .u64 m d (by show d≤64; omega),Ao (by omega) (by omega),Ao (by omega) (by omega),Gu,Au]
   have a0:decide ((0:Int)≤(d:Int))=true:=by simp
   have a1:(((d:Int)+1)==63)=false:=by simp; omega
   rw [a0,Aw3,a1,Aw7]
   by_cases h:2^53≤m / 2^d∨e+d < -1074
   ·have:(decide ((9007199254740992:Int)≤((m / 2^d:Nat):Int))||decide (e+(d:Int) < -1074))=true:=by
     simp only [Bool.or_eq_true,Axa]; omega
    rw [this,Aw3,show (d:Int)+1=((d+1:Nat):Int) by omega]
    refine ih (d+1) F (by omega) (by omega) fun d' hd'=>?_
    rcases Ax0 d' d with h' | h'
    ·exact hl d' h'
    ·obtain rfl:d'=d:=by omega
     exact h
   ·refine ⟨d,?_,by omega,fun _=>by omega,hl⟩
    have:(decide ((9007199254740992:Int)≤((m / 2^d:Nat):Int))||decide (e+(d:Int) < -1074))=false:=by
     simp only [Bool.or_eq_false_iff,Axm]; omega
    rw [this]; rfl
theorem Ah5 (N:Nat) (n:Bool) {m D:Nat} (hm:m<2^64) {e:Int} (he:-1140≤e∧e≤50000) (r:Bool) (hD:D≤63) (hq:(if e+D < -1074 then 0 else qOf m D r.toNat)≤2^53) :
 soft.Cu.C7 N n m e r (D:Int)=soft.Cu.C18 N (decide (m%2^D=0∧r.toNat=0)) ((Bv n (Bu (if e+D < -1074 then 0 else qOf m D r.toNat) (max (e+D) (-1074))):Nat):Int):=by
 have hA:=B1 D
 have h2D:=Aju hD
 have hr:=Nat.mod_lt m hA
 have hqm:m / 2^D≤m:=Nat.div_le_self _ _
 rw [soft.Cu.Au6]
 have a0:decide ((0:Int)≤(D:Int))=true:=by simp
 have e1:Db .u64 (m:Int) (D:Int)=((m / 2^D:Nat):Int):=Gz .u64 m D (by show D≤64; omega)
 have e2:Bp .u64 (1:Int) (D:Int)=((2^D:Nat):Int):=by
  rw [show (1:Int)=((1:Nat):Int) from rfl,E8 1 D (by omega),Nat.one_mul,Axg h2D]
 have e3:Fz .u64 (m:Int) (Bg (Bp .u64 (1:Int) (D:Int)-(1:Int)))=((m%2^D:Nat):Int):=by
  rw [e2,Ea (by omega) (by omega),show ((2^D:Nat):Int)-1=((2^D-1:Nat):Int) by omega,Hh D hm (by omega)]
 have e5:(bif (((m%2^D:Nat):Int)==(0:Int)) then (!r) else false)=decide (m%2^D=0∧r.toNat=0):=by
  by_cases h:m%2^D=0
  ·cases r<;>simp [h]
  ·have:(((m%2^D:Nat):Int)==(0:Int))=false:=by simp only [Axy,ne_eq]; omega
   rw [this]; simp [h]
 rw [a0,Aw3,Aw3,e1,e3,e5,Au]
 have last:∀ (p:Bool) (q:Nat),q≤2^64-1→(if e+D < -1074 then 0 else q)≤2^53→soft.Cu.C14 N n e (D:Int) ((q:Nat):Int) p=soft.Cu.C18 N p ((Bv n (Bu (if e+D < -1074 then 0 else q) (max (e+D) (-1074))):Nat):Int):=by
  intro p q hq hq2
  rw [soft.Cu.Afo,Ao (by omega) (by omega),Au]
  have c16:∀ q':Nat,q'≤2^53→soft.Cu.C16 N n e (q':Int) (D:Int) p=soft.Cu.C18 N p ((Bv n (Bu q' (max (e+D) (-1074))):Nat):Int):=by
   intro q' hq'
   rw [soft.Cu.Asu,Ao (by omega) (by omega)]
   have:Js (q':Int) (max (e+(D:Int)) (-1074))=true:=At.2 (by omega)
   rw [this,Mp]; rfl
  by_cases h:e+D < -1074
  ·rw [Axq h] at hq2 ⊢
   have:decide (e+(D:Int) < -1074)=true:=by simpa using h
   rw [this]
   exact c16 0 hq2
  ·rw [Axp h] at hq2 ⊢
   have:decide (e+(D:Int) < -1074)=false:=by simpa using h
   rw [this]
   exact c16 q hq2
 have up:∀ (half:Nat) (hh:0<D→half=2^(D-1)) (p:Bool),soft.Cu.C12 N n e r (D:Int) ((m / 2^D:Nat):Int) ((m%2^D:Nat):Int) (half:Int) p=soft.Cu.C18 N p ((Bv n (Bu (if e+D < -1074 then 0 else qOf m D r.toNat) (max (e+D) (-1074))):Nat):Int):=by
  intro half hh p
  rw [soft.Cu.Afp,Au,Au]
  have odd:(Fz .u64 ((m / 2^D:Nat):Int) (1:Int)==(1:Int))=decide (m / 2^D%2=1):=by
   rw [show (1:Int)=((2^1-1:Nat):Int) from rfl,Hh 1 (by omega) (by decide),Axj]
   simp only [beq_iff_eq,Axa]
   omega
  rw [odd]
  have test:(decide ((0:Int)<(D:Int))&&(decide ((half:Int)<((m%2^D:Nat):Int))||((((m%2^D:Nat):Int)==(half:Int))&&(r||decide (m / 2^D%2=1))))) =
   decide (0<D∧(2^(D-1)<m%2^D∨(m%2^D=2^(D-1)∧(r.toNat=1∨m / 2^D%2=1)))):=by
   rw [Axj]
   generalize m%2^D=rr
   generalize m / 2^D=qq
   generalize hg:2^(D-1)=gg at hh
   by_cases h0:0<D
   ·have:=hh h0
    subst this
    cases r<;>simp [h0]<;>omega
   ·simp [h0]
  rw [test]
  by_cases ht:0<D∧(2^(D-1)<m%2^D∨(m%2^D=2^(D-1)∧(r.toNat=1∨m / 2^D%2=1)))
  ·have hq1:qOf m D r.toNat=m / 2^D+1:=by unfold qOf; rw [Axq ht]
   have hlt:m / 2^D+1<2^64:=by
    obtain ⟨d,rfl⟩:∃ d,D=d+1:=⟨D-1,by omega⟩
    have h1:m / 2^(d+1)≤m / 2:=Nat.div_le_div_left (by rw [Nat.pow_succ]; have:=B1 d; omega) (by decide)
    omega
   rw [hq1] at hq ⊢
   rw [Aw4 ht,Aw3,Ea (by omega) (by omega),show ((m / 2^D:Nat):Int)+1=((m / 2^D+1:Nat):Int) by omega]
   exact last p _ (by omega) hq
  ·have hq1:qOf m D r.toNat=m / 2^D:=by unfold qOf; rw [Axp ht]; rfl
   rw [hq1] at hq ⊢
   rw [Aw8 ht,Aw7]
   exact last p _ (by omega) hq
 rcases Nat.eq_zero_or_pos D with rfl | hpos
 ·have:decide ((0:Int)<((0:Nat):Int))=false:=by decide
  rw [this,Aw7]
  exact up 0 (fun h=>absurd h (by omega)) _
 ·have h1:decide ((0:Int)<(D:Int))=true:=by simpa using hpos
  have h2:Ab ((D:Int)-1)=((D-1:Nat):Int):=by rw [Ao (by omega) (by omega)]; omega
  have h3:decide ((0:Int)≤((D-1:Nat):Int))=true:=by simp
  have h4:Bp .u64 (1:Int) ((D-1:Nat):Int)=((2^(D-1):Nat):Int):=by
   rw [show (1:Int)=((1:Nat):Int) from rfl,E8 1 (D-1) (by omega),Nat.one_mul,Axg (Aju (by omega))]
  rw [h1,Aw3,h2,h3,Aw3,h4]
  exact up _ (fun _=>rfl) _
theorem soft.Cu.known:soft.Cu.Kn:=soft.Cu.Ad (.cons soft.Kind.known (.cons soft.Pack.known .nil)) fun n m e r hp=>by
 obtain ⟨m0,m1,e1,e2,hr⟩:=At.1 (show D1 m e r=true from hp)
 obtain ⟨M,rfl⟩:∃ M:Nat,m=M:=⟨m.toNat,by omega⟩
 refine ⟨63,soft.Cu.out [.b n,.i M,.i e,.b r],[],?_,Wk.G3 (.cons .int (.cons .int .nil))⟩
 show _=some (DV.tup [.int .u64 (Ee n M e r),.int .u8 (Ed n M e r)])
 unfold Ee Ed F4
 rw [Aw5,soft.Cu.ev]
 dsimp only
 by_cases h0:M=0∧r=false
 ·obtain ⟨rfl,rfl⟩:=h0
  have:Js (0:Int) (-1074)=true:=At.2 (by omega)
  have hp0:=Mp n 0 (-1074)
  rw [this]
  simp only [Aym,Bool.and_true,Aw3,Bool.toNat_false]
  have hz:(((0:Nat):Int)==0)=true:=rfl
  rw [hz,Aw3]
  have hp0:Rx n (0:Int) (-1074)=((Bv n (Bu 0 (-1074)):Nat):Int):=hp0
  have z:∀ E,Bu 0 E=0:=fun E=>Axq rfl
  have z3:∀ E,flagsOf 0 E=0:=fun E=>Axq rfl
  rw [hp0,z,show 4*0+0=0 from rfl,z,z3]
  rfl
 ·have hc:((((M:Nat):Int)==(0:Int))&&!r)=false:=by
   cases r
   ·have:M≠0:=fun h=>h0 ⟨h,rfl⟩
    simp; omega
   ·simp
  rw [hc,Aw7]
  have he:-1140≤e∧e≤50000:=by omega
  obtain ⟨D,hl,hD⟩:=Ah6 63 n (m:=M) he r 62 0 63 (by omega) (by omega) (fun d' h=>by omega)
  have hs:r.toNat≤1:=by cases r<;>decide
  have hV:4*M+r.toNat≠0:=by
   intro h
   refine h0 ⟨by omega,?_⟩
   cases r
   ·rfl
   ·simp at h
  obtain ⟨t1,t2,t3⟩:=Ah8 hD hs hV (by omega) (by omega) (fun h=>by
   have:r=true:=by cases r<;>simp_all
   have:=hr this
   omega)
  have hl:soft.Cu.L0 63 63 n (M:Int) e r (0:Int)=soft.Cu.C7 63 n (M:Int) e r (D:Int):=hl
  rw [hl,Ah5 63 n (by omega) he r hD.le t3,← t1,Aek 63 _ n (Rr _ _),t2]
set_option maxRecDepth 100000
namespace EqSum
def sum.right.A8:List (Nat × Entry):=[]
def sum.right.E:Env:=Ba (A7 sum.right.A8) (fun _=>false) (fun _=>none) (fun _=>none)
theorem sum.right.ev (N:Nat) (m d:Int):B0 sum.right.E N f249 (Ap f249) [.int .u64 m,.int .i64 d]=bif (A0 63 d) then bif ((Bp .u64 (Db .u64 m 63) 63) !=m) then some (.int .u64 (Hn .u64 (Db .u64 m 63) 1)) else some (.int .u64 (Db .u64 m 63)) else bif (decide (0≤d)) then bif (decide (0≤d)) then bif ((Bp .u64 (Db .u64 m d) d) !=m) then some (.int .u64 (Hn .u64 (Db .u64 m d) 1)) else some (.int .u64 (Db .u64 m d)) else none else none:=by kernel_rfl
abbrev _root_.Go.Proofs.S1.sum.right.Kn:=A4 prog 249 sum.right.spec
theorem sum.right.Ad (hk:Ay prog sum.right.A8) (h:Hyp sum.right.E f249 sum.right.ts sum.right.pre sum.right.out):sum.right.Kn :=
 Al (A1 hk _ _ _) func249 (by kernel_rfl) (by kernel_rfl) h
def sum.Dr.A8:List (Nat × Entry):=[(148,soft.Finite.spec),(155,soft.Kind.spec)]
def sum.Dr.E:Env:=Ba (A7 sum.Dr.A8) (fun _=>false) (fun _=>none) (fun _=>none)
theorem sum.Dr.ev (N:Nat) (a b:Int):B0 sum.Dr.E N f248 (Ap f248) [.int .u64 a,.int .u64 b]=bif (Ah a) then bif ((Av a)==(4:Int)) then some (.tup [.int .u64 9221120237041090560,.int .u8 0]) else bif (Ah b) then bif ((Av b)==(4:Int)) then some (.tup [.int .u64 9221120237041090560,.int .u8 0]) else bif (Ah a) then bif (Cq a) then some (.tup [.int .u64 b,.int .u8 0]) else bif (Ah b) then bif ((Cq b)||(a==b)) then some (.tup [.int .u64 a,.int .u8 0]) else some (.tup [.int .u64 9221120237041090560,.int .u8 16]) else none else none else none else none :=
 Eq.trans (by kernel_rfl)
 (Ev (Ev rfl (Ev (Ev rfl (Ev (Ev rfl (Ev (An (S4 (Cq b)) (An (S4 (Cq b)) (An (tt8 (Cq b)) (An (Zk (Cq b)) (Dw (tt5 (Cq b) (a==b)) rfl rfl))))) rfl)) rfl)) rfl)) rfl)
abbrev _root_.Go.Proofs.S1.sum.Dr.Kn:=A4 prog 248 sum.Dr.spec
theorem sum.Dr.Ad (hk:Ay prog sum.Dr.A8) (h:Hyp sum.Dr.E f248 sum.Dr.ts sum.Dr.pre sum.Dr.out):sum.Dr.Kn :=
 Al (A1 hk _ _ _) func248 (by kernel_rfl) (by kernel_rfl) h
def sum.Add.A8:List (Nat × Entry):=[(148,soft.Finite.spec),(212,soft.Cu.spec),(211,soft.Ex.spec),(213,soft.Sign.spec),(249,sum.right.spec),(248,sum.Dr.spec)]
def sum.Add.E:Env:=Ba (A7 sum.Add.A8) (fun _=>false) (fun _=>none) (fun _=>none)
theorem sum.Add.ev (N:Nat) (a b:Int):B0 sum.Add.E N f232 (Ap f232) [.int .u64 a,.int .u64 b]=bif (Ah a) then bif ((!(Cq a))||(Ah b)) then bif ((!(Cq a))||(!(Cq b))) then bif ((Ah a&&Ah b)&&(!(Cq a)||!(Cq b))) then some (.tup [.int .u64 (I8 a b),.int .u8 (Uu a b)]) else none else bif (Ah a) then bif (Ah b) then bif (Ah a) then bif (Ah b) then bif (A0 (A3 a) (A3 b)) then bif (Ah (Bp .u64 (Bc a) 9)&&Cw (0≤(Ab ((A3 b)-(A3 a)))∧(Ab ((A3 b)-(A3 a)))<1000000)) then bif ((Dm b)==(Dm a)) then bif (D1 (Bg ((Bp .u64 (Bc b) 9)+(Eo (Bp .u64 (Bc a) 9) (Ab ((A3 b)-(A3 a)))))) (Ab ((A3 b)-9)) false) then some (.tup [.int .u64 (Ee (Dm b) (Bg ((Bp .u64 (Bc b) 9)+(Eo (Bp .u64 (Bc a) 9) (Ab ((A3 b)-(A3 a)))))) (Ab ((A3 b)-9)) false),.int .u8 (Ed (Dm b) (Bg ((Bp .u64 (Bc b) 9)+(Eo (Bp .u64 (Bc a) 9) (Ab ((A3 b)-(A3 a)))))) (Ab ((A3 b)-9)) false)]) else none else bif (A0 (Eo (Bp .u64 (Bc a) 9) (Ab ((A3 b)-(A3 a)))) (Bp .u64 (Bc b) 9)) then bif (D1 (Bg ((Bp .u64 (Bc b) 9)-(Eo (Bp .u64 (Bc a) 9) (Ab ((A3 b)-(A3 a)))))) (Ab ((A3 b)-9)) false) then some (.tup [.int .u64 (Ee (Dm b) (Bg ((Bp .u64 (Bc b) 9)-(Eo (Bp .u64 (Bc a) 9) (Ab ((A3 b)-(A3 a)))))) (Ab ((A3 b)-9)) false),.int .u8 (Ed (Dm b) (Bg ((Bp .u64 (Bc b) 9)-(Eo (Bp .u64 (Bc a) 9) (Ab ((A3 b)-(A3 a)))))) (Ab ((A3 b)-9)) false)]) else none else bif (A0 (Bp .u64 (Bc b) 9) (Eo (Bp .u64 (Bc a) 9) (Ab ((A3 b)-(A3 a))))) then bif (D1 (Bg ((Eo (Bp .u64 (Bc a) 9) (Ab ((A3 b)-(A3 a))))-(Bp .u64 (Bc b) 9))) (Ab ((A3 b)-9)) false) then some (.tup [.int .u64 (Ee (Dm a) (Bg ((Eo (Bp .u64 (Bc a) 9) (Ab ((A3 b)-(A3 a))))-(Bp .u64 (Bc b) 9))) (Ab ((A3 b)-9)) false),.int .u8 (Ed (Dm a) (Bg ((Eo (Bp .u64 (Bc a) 9) (Ab ((A3 b)-(A3 a))))-(Bp .u64 (Bc b) 9))) (Ab ((A3 b)-9)) false)]) else none else some (.tup [.int .u64 0,.int .u8 0]) else none else bif (Ah (Bp .u64 (Bc b) 9)&&Cw (0≤(Ab ((A3 a)-(A3 b)))∧(Ab ((A3 a)-(A3 b)))<1000000)) then bif ((Dm a)==(Dm b)) then bif (D1 (Bg ((Bp .u64 (Bc a) 9)+(Eo (Bp .u64 (Bc b) 9) (Ab ((A3 a)-(A3 b)))))) (Ab ((A3 a)-9)) false) then some (.tup [.int .u64 (Ee (Dm a) (Bg ((Bp .u64 (Bc a) 9)+(Eo (Bp .u64 (Bc b) 9) (Ab ((A3 a)-(A3 b)))))) (Ab ((A3 a)-9)) false),.int .u8 (Ed (Dm a) (Bg ((Bp .u64 (Bc a) 9)+(Eo (Bp .u64 (Bc b) 9) (Ab ((A3 a)-(A3 b)))))) (Ab ((A3 a)-9)) false)]) else none else bif (A0 (Eo (Bp .u64 (Bc b) 9) (Ab ((A3 a)-(A3 b)))) (Bp .u64 (Bc a) 9)) then bif (D1 (Bg ((Bp .u64 (Bc a) 9)-(Eo (Bp .u64 (Bc b) 9) (Ab ((A3 a)-(A3 b)))))) (Ab ((A3 a)-9)) false) then some (.tup [.int .u64 (Ee (Dm a) (Bg ((Bp .u64 (Bc a) 9)-(Eo (Bp .u64 (Bc b) 9) (Ab ((A3 a)-(A3 b)))))) (Ab ((A3 a)-9)) false),.int .u8 (Ed (Dm a) (Bg ((Bp .u64 (Bc a) 9)-(Eo (Bp .u64 (Bc b) 9) (Ab ((A3 a)-(A3 b)))))) (Ab ((A3 a)-9)) false)]) else none else bif (A0 (Bp .u64 (Bc a) 9) (Eo (Bp .u64 (Bc b) 9) (Ab ((A3 a)-(A3 b))))) then bif (D1 (Bg ((Eo (Bp .u64 (Bc b) 9) (Ab ((A3 a)-(A3 b))))-(Bp .u64 (Bc a) 9))) (Ab ((A3 a)-9)) false) then some (.tup [.int .u64 (Ee (Dm b) (Bg ((Eo (Bp .u64 (Bc b) 9) (Ab ((A3 a)-(A3 b))))-(Bp .u64 (Bc a) 9))) (Ab ((A3 a)-9)) false),.int .u8 (Ed (Dm b) (Bg ((Eo (Bp .u64 (Bc b) 9) (Ab ((A3 a)-(A3 b))))-(Bp .u64 (Bc a) 9))) (Ab ((A3 a)-9)) false)]) else none else some (.tup [.int .u64 0,.int .u8 0]) else none else none else none else none else none else none else none :=
 Eq.trans (by kernel_rfl)
 (Ev (An (Adq (Cq a)) (Dw (An1 (Cq a) (Ah b)) (An (Uv (Cq a)) (An (Adr (Cq a)) (Dw (Arp (Cq a) (Cq b)) rfl rfl))) rfl)) rfl)
abbrev _root_.Go.Proofs.S1.sum.Add.Kn:=A4 prog 232 sum.Add.spec
theorem sum.Add.Ad (hk:Ay prog sum.Add.A8) (h:Hyp sum.Add.E f232 sum.Add.ts sum.Add.pre sum.Add.out):sum.Add.Kn :=
 Al (A1 hk _ _ _) func232 (by kernel_rfl) (by kernel_rfl) h
def sum.Sub.A8:List (Nat × Entry):=[(233,soft.E9.spec),(232,sum.Add.spec)]
def sum.Sub.E:Env:=Ba (A7 sum.Sub.A8) (fun _=>false) (fun _=>none) (fun _=>none)
theorem sum.Sub.ev (N:Nat) (a b:Int):B0 sum.Sub.E N f207 (Ap f207) [.int .u64 a,.int .u64 b]=bif (Ah b) then bif (Ah a&&Ah (Dk b)) then some (.tup [.int .u64 (I8 a (Dk b)),.int .u8 (Uu a (Dk b))]) else none else none:=by kernel_rfl
abbrev _root_.Go.Proofs.S1.sum.Sub.Kn:=A4 prog 207 sum.Sub.spec
theorem sum.Sub.Ad (hk:Ay prog sum.Sub.A8) (h:Hyp sum.Sub.E f207 sum.Sub.ts sum.Sub.pre sum.Sub.out):sum.Sub.Kn :=
 Al (A1 hk _ _ _) func207 (by kernel_rfl) (by kernel_rfl) h
end EqSum
open EqSum
theorem Ar3 (q:Nat):q ||| 1=2*(q / 2)+1:=by
 have e:q%2 ||| (q / 2*2^1)=q / 2*2^1+q%2:=R0 (Nat.mod_lt _ (by decide))
 have e1:1 ||| (q / 2*2^1)=q / 2*2^1+1:=R0 (k:=1) (by decide)
 have hq:q / 2*2^1+q%2=q:=by omega
 rw [hq] at e
 rcases Nat.mod_two_eq_zero_or_one q with h | h
 ·rw [h,Nat.zero_or] at e
  rw [e,Nat.or_comm] at e1
  omega
 ·rw [h] at e
  have:q ||| 1=q:=by
   conv=>lhs; rw [← e]
   rw [Nat.or_comm 1,Nat.or_assoc,Nat.or_self,Nat.or_comm,e]
  omega
theorem V8 {n s:Nat} (hn:n<2^64) (hs:s≤63) :
 (bif ((Bp .u64 (Db .u64 (n:Int) (s:Int)) (s:Int)) !=(n:Int)) then
  some (DV.int .u64 (Hn .u64 (Db .u64 (n:Int) (s:Int)) (1:Int)))
 else some (.int .u64 (Db .u64 (n:Int) (s:Int))))=some (.int .u64 ((Fe n s:Nat):Int)):=by
 have hq:n / 2^s≤n:=Nat.div_le_self _ _
 have hm:n / 2^s*2^s≤n:=Nat.div_mul_le_self _ _
 have hd:=Nat.div_add_mod n (2^s)
 rw [Axr] at hd
 rw [Gz .u64 n s (by show s≤64; omega),E8 _ s (by omega),Axg (by omega)]
 have h1:Hn .u64 ((n / 2^s:Nat):Int) (1:Int)=((n / 2^s ||| 1:Nat):Int):=Aay (by omega) (by decide)
 rw [h1,Ar3]
 unfold Fe
 by_cases h:n%2^s=0
 ·have:((((n / 2^s*2^s:Nat):Int)) !=(n:Int))=false:=by
   simp only [bne_eq_false_iff_eq]; omega
  rw [this,Axq h,Aw7]
 ·have:((((n / 2^s*2^s:Nat):Int)) !=(n:Int))=true:=by
   simp only [bne_iff_ne,ne_eq]; omega
  rw [this,Axp h,Aw3]
theorem sum.right.known:sum.right.Kn:=sum.right.Ad .nil fun m d hp=>by
 obtain ⟨h1,h2⟩:=Ae.1 hp
 obtain ⟨n,rfl,hn⟩:=Bt h1
 have h2:=At.1 h2
 obtain ⟨d,rfl⟩:∃ k:Nat,d=k:=⟨d.toNat,by omega⟩
 refine ⟨0,sum.right.out [.i n,.i d],[],?_,.int⟩
 rw [sum.right.ev,Au]
 show _=some (DV.int .u64 (Eo n d))
 unfold Eo
 rw [Aw5,Aw5]
 by_cases h:63<d
 ·have:decide ((63:Int)<(d:Int))=true:=by simp; omega
  rw [this,Aw3,Nat.min_eq_right (by omega)]
  exact V8 hn (Axx 63)
 ·have:decide ((63:Int)<(d:Int))=false:=by simp; omega
  have h0:decide ((0:Int)≤(d:Int))=true:=by simp
  rw [this,Aw7,h0,Aw3,Aw3,Nat.min_eq_left (by omega)]
  exact V8 hn (by omega)
theorem Afm:((Pe:Nat):Int)=9221120237041090560:=rfl
theorem sum.Dr.known:sum.Dr.Kn:=sum.Dr.Ad (.cons soft.Finite.known (.cons soft.Kind.known .nil)) fun a b hp=>by
 obtain ⟨h1,h2⟩:=Ae.1 hp
 obtain ⟨ha,hb⟩:=Ae.1 h1
 obtain ⟨a,rfl,hn⟩:=Bt ha
 obtain ⟨b,rfl,hm⟩:=Bt hb
 refine ⟨0,sum.Dr.out [.i a,.i b],[],?_,Wk.G3 (.cons .int (.cons .int .nil))⟩
 rw [sum.Dr.ev,ha,hb]
 show _=some (DV.tup [.int .u64 (I8 a b),.int .u8 (Uu a b)])
 unfold I8 Uu Ff Av Cq
 simp only [Aw5,Aw3]
 unfold Cq at h2
 simp only [Aw5] at h2
 by_cases a4:Ag a=4
 ·simp [a4,Afm]
 ·have e4:((Ag a:Int)==4)=false:=by simp; omega
  rw [e4,Aw7]
  by_cases b4:Ag b=4
  ·simp [b4,Afm]
  ·have f4:((Ag b:Int)==4)=false:=by simp; omega
   rw [f4,Aw7]
   have ka:=Wt a
   have kb:=Wt b
   by_cases a3:Ag a=3
   ·have fa:Gg a=false:=by rw [ka]; simp [a3]
    rw [fa,Aw7]
    by_cases b3:Ag b=3
    ·have fb:Gg b=false:=by rw [kb]; simp [b3]
     rw [fb]
     by_cases hab:a=b
     ·subst hab; simp [a3]
     ·have hab':((a:Int)==(b:Int))=false:=by simp; omega
      rw [hab']
      simp [a3,b3,hab,Afm]
    ·have fb:Gg b=true:=by rw [kb]; simp [b3,b4]
     rw [fb]
     simp [a3,b3,b4]
   ·have fa:Gg a=true:=by rw [ka]; simp [a3,a4]
    have b3:Ag b=3:=by
     rw [fa,kb] at h2
     simp [b4] at h2
     exact h2
    rw [fa,Aw3]
    simp [a3,b3,a4]
def Afu (na nb:Bool) (X r:Nat) (e:Int):Nat × Nat :=
 if na=nb then F4 na (X+r) e false else if r<X then F4 na (X-r) e false else if X<r then F4 nb (r-X) e false else (0,0)
theorem Tn {na:Bool} {m:Int} {n:Nat} {e e':Int} (h:m=n) (he:e'=e) (hn:n<2^64) (h1:-1100≤e) (h2:e≤1000) :
 (bif D1 m e' false then some (DV.tup [.int .u64 (Ee na m e' false),.int .u8 (Ed na m e' false)]) else none)
  = some (.tup [.int .u64 (((F4 na n e false).1:Nat):Int),.int .u8 (((F4 na n e false).2:Nat):Int)]):=by
 subst h; subst he
 have hp:D1 (n:Int) e' false=true:=At.2 ⟨by omega,by omega,by omega,.inl (by omega),fun h=>by cases h⟩
 rw [hp,Aw3]
 unfold Ee Ed
 rw [Aw5]
theorem Adc (na nb:Bool) {X r:Nat} {e e':Int} (hX:X<2^62) (hr:r≤2^62) (h:e'=e) (h1:-1100≤e) (h2:e≤1000) :
 (bif (na==nb) then
  bif D1 (Bg ((X:Int)+(r:Int))) e' false then some (DV.tup [.int .u64 (Ee na (Bg ((X:Int)+(r:Int))) e' false),.int .u8 (Ed na (Bg ((X:Int)+(r:Int))) e' false)]) else none
 else bif A0 (r:Int) (X:Int) then
  bif D1 (Bg ((X:Int)-(r:Int))) e' false then some (DV.tup [.int .u64 (Ee na (Bg ((X:Int)-(r:Int))) e' false),.int .u8 (Ed na (Bg ((X:Int)-(r:Int))) e' false)]) else none
 else bif A0 (X:Int) (r:Int) then
  bif D1 (Bg ((r:Int)-(X:Int))) e' false then some (DV.tup [.int .u64 (Ee nb (Bg ((r:Int)-(X:Int))) e' false),.int .u8 (Ed nb (Bg ((r:Int)-(X:Int))) e' false)]) else none
 else some (.tup [.int .u64 (0:Int),.int .u8 (0:Int)])) =
  some (.tup [.int .u64 (((Afu na nb X r e).1:Nat):Int),.int .u8 (((Afu na nb X r e).2:Nat):Int)]):=by
 unfold Afu
 rw [Au,Au]
 by_cases hs:na=nb
 ·have:(na==nb)=true:=by simp [hs]
  rw [this,Aw3,Axq hs]
  exact Tn (by rw [Ea (by omega) (by omega)]; omega) h (by omega) h1 h2
 ·have:(na==nb)=false:=by simp [hs]
  rw [this,Aw7,Axp hs]
  by_cases hl:r<X
  ·have:decide ((r:Int)<(X:Int))=true:=by simp; omega
   rw [this,Aw3,Axq hl]
   exact Tn (by rw [Ea (by omega) (by omega)]; omega) h (by omega) h1 h2
  ·have:decide ((r:Int)<(X:Int))=false:=by simp; omega
   rw [this,Aw7,Axp hl]
   by_cases hg:X<r
   ·have:decide ((X:Int)<(r:Int))=true:=by simp; omega
    rw [this,Aw3,Axq hg]
    exact Tn (by rw [Ea (by omega) (by omega)]; omega) h (by omega) h1 h2
   ·have:decide ((X:Int)<(r:Int))=false:=by simp; omega
    rw [this,Aw7,Axp hg]
    rfl
theorem Agy {a b:Nat} (ha:Gg a=true) (hb:Gg b=true) (hle:As b≤As a) :
 ∃ X r:Nat,X<2^62∧r≤2^62∧Bp .u64 (Bc a) (9:Int)=(X:Int)∧Eo (Bp .u64 (Bc b) (9:Int)) (Ab (A3 a-A3 b))=(r:Int)
  ∧ Ab (A3 a-9)=As a-9
  ∧ (Ah (Bp .u64 (Bc b) (9:Int))&&Cw (0≤(Ab ((A3 a)-(A3 b)))∧(Ab ((A3 a)-(A3 b)))<1000000))=true
  ∧ Afu (Dm a) (Dm b) X r (As a-9)=Ff a b:=by
 obtain ⟨d,hd⟩:∃ d:Nat,As a=As b+d:=⟨(As a-As b).toNat,by omega⟩
 have hx:=Ft a
 have hy:=Ft b
 have ea:=Ce a
 have eb:=Ce b
 have C:=Adb (Mx:=Am a) (My:=Am b) hd hx hy (fun h=>Yi (by omega))
 have sh:∀ m:Nat,m<2^53→Bp .u64 (m:Int) (9:Int)=((m*2^9:Nat):Int):=fun m hm=>by
  have:=E8 m 9 (by decide)
  rw [Axg (by omega)] at this
  exact this
 have h2:Ab (A3 a-A3 b)=(d:Int):=by
  unfold A3
  rw [Aw5,Aw5,Ao (by omega) (by omega)]; omega
 have s1:Bp .u64 (Bc a) (9:Int)=((Am a*2^9:Nat):Int):=by
  unfold Bc; rw [Aw5]; exact sh _ hx
 have s2:Bp .u64 (Bc b) (9:Int)=((Am b*2^9:Nat):Int):=by
  unfold Bc; rw [Aw5]; exact sh _ hy
 refine ⟨Am a*2^9,Fe (Am b*2^9) (min d 63),by omega,C.small,s1,?_,?_,?_,?_⟩
 ·rw [s2,h2]; unfold Eo; rw [Aw5,Aw5]
 ·unfold A3; rw [Aw5,Ao (by omega) (by omega)]
 ·rw [s2,h2,B3 (by omega),Ayg]
  exact At.2 ⟨by omega,by omega⟩
 ·unfold Dm
  rw [Aw5,Aw5,Ada ha hb hd]
  rfl
theorem sum.Add.known:sum.Add.Kn:=sum.Add.Ad (.cons soft.Finite.known (.cons soft.Cu.known (.cons soft.Ex.known (.cons soft.Sign.known (.cons sum.right.known (.cons sum.Dr.known .nil)))))) fun a b hp=>by
 obtain ⟨ha,hb⟩:=Ae.1 hp
 obtain ⟨a,rfl,hn⟩:=Bt ha
 obtain ⟨b,rfl,hm⟩:=Bt hb
 refine ⟨0,sum.Add.out [.i a,.i b],[],?_,Wk.G3 (.cons .int (.cons .int .nil))⟩
 rw [sum.Add.ev,ha,hb]
 show _=some (DV.tup [.int .u64 (I8 a b),.int .u8 (Uu a b)])
 rw [Ayf,Aw3,Aw3]
 by_cases hf:(!(Cq a)||!(Cq b))=true
 ·rw [hf]; rfl
 ·have hf:(!(Cq a)||!(Cq b))=false:=by simpa using hf
  rw [hf,Aw7,Aw3,Aw3,Aw3,Aw3]
  have fa:Gg a=true:=by
   have:=(Bool.or_eq_false_iff.1 hf).1
   unfold Cq at this
   simpa using this
  have fb:Gg b=true:=by
   have:=(Bool.or_eq_false_iff.1 hf).2
   unfold Cq at this
   simpa using this
  have xa:=Ce a
  have xb:=Ce b
  rw [Au]
  by_cases hl:As a<As b
  ·obtain ⟨X,r,hX,hr,e1,e2,e3,e4,e5⟩:=Agy fb fa (by omega)
   have:decide (A3 a<A3 b)=true:=by unfold A3; simpa using hl
   rw [this,Aw3,e4,Aw3,e1,e2,Adc _ _ hX hr e3 (by omega) (by omega),e5,Ajd]
   rfl
  ·obtain ⟨X,r,hX,hr,e1,e2,e3,e4,e5⟩:=Agy fa fb (by omega)
   have:decide (A3 a<A3 b)=false:=by unfold A3; simpa using hl
   rw [this,Aw7,e4,Aw3,e1,e2,Adc _ _ hX hr e3 (by omega) (by omega),e5]
   rfl
theorem sum.Sub.known:sum.Sub.Kn:=sum.Sub.Ad (.cons soft.E9.known (.cons sum.Add.known .nil)) fun a b hp=>by
 obtain ⟨ha,hb⟩:=Ae.1 hp
 obtain ⟨b,rfl,hm⟩:=Bt hb
 refine ⟨0,sum.Sub.out [.i a,.i b],[],?_,Wk.G3 (.cons .int (.cons .int .nil))⟩
 have:Ah (Dk (b:Int))=true:=by unfold Dk; rw [Aw5]; exact B3 (To hm)
 rw [sum.Sub.ev,ha,hb,this]
 unfold I8 Uu Dk
 rw [Aw5]
 rfl
end Go.Proofs.S1
end
