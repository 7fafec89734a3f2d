/- A verified evaluator of the program's form and its use for this seat: S1PNear, S1EqSum, S1PSum. -/
import Derived.Test.YthajngaadbanfaaGreatTG
import Derived.Test.YthajngaadbanfaaGreatTD
set_option linter.unusedVariables false
set_option linter.unusedSimpArgs false
open Bool renaming or_eq_true->zK,or_eq_false_iff->yy
open Nat renaming mod_lt->zv,div_le_self->yJ,one_mul->zC,or_comm->xw
noncomputable section
open Int (toNat)
open List (length getD)
open Go.Proofs.Tryz
namespace Go.Proofs.S1
open Go Go.Den Go.Ct Go.Proofs
theorem Aye{D:Nat}(h:D<=63):2^D<2^64:=Nat.pow_lt_pow_right (by decide) (by omega)
theorem Ua(n:Bool){r:Nat}(h:r<2^63):I4 .u64 ((Bf n r:Nat):Int) (9223372036854775808:Int)=(r:Int):=by
 have hs:Bf n r<2^64:=by unfold Bf; split<;>omega
 unfold I4
 rw[show(9223372036854775808:Int)=((2^63:Nat):Int) from rfl,BitVec.toNat_and,BitVec.toNat_not,Lc,Lc,show IntKind.u64.bits=64 from rfl,Be2 hs,
  show 2^64-1-2^63%2^64=2^63-1 by decide,Nat.and_two_pow_sub_one_eq_mod]
 have:Bf n r%2^63=r:=by unfold Bf; cases n<;>simp<;>omega
 rw[this];exact Yv (by omega)
theorem Aqy(N:Nat)(ex n:Bool){r:Nat}(h:r<=Ea):soft.Ex.C18 N ex ((Bf n r:Nat):Int)=some (.tup [.int .u64 ((Bf n r:Nat):Int),.int .u8 ((flags r ex:Nat):Int)]):=by
 have h63:r<2^63:=by rw[Ft] at h; omega
 have hs:Bf n r<2^64:=by unfold Bf; split<;>omega
 rw[soft.Ex.Asb,Ua n h63,Cr hs];unfold Bb flags;rw[Ber,Wr n h]
 have hinf:(((r:Nat):Int)==(9218868437227405312:Int))=decide (r=Ea):=by rw[Ft,Be5]; simp; omega
 rw[hinf];by_cases h1:r=Ea
 ·simp[h1]
 ·by_cases h2:2^52<=r
  ·cases ex<;>simp[h1]<;>simp[show 4503599627370496<=r by omega]
  ·by_cases h3:0<r
   ·cases ex<;>simp[h1,h3]<;>simp[show ¬4503599627370496<=r by omega]
   ·cases ex<;>simp[h1,h3]<;>simp[show ¬4503599627370496<=r by omega]
theorem Av7(N:Nat)(n:Bool){m:Nat}{e:Int}(he:-1140<=e/\e<=50000)(r:Bool):∀(k d F:Nat),d+k=62->k<F->(∀d',d'<d->2^53<=m / 2^d'\/e+d' < -1074) ->
 ∃D:Nat,soft.Ex.L0 N F n m e r (d:Int)=soft.Ex.C7 N n m e r (D:Int)/\Drop m e D:=by
 intro k
 induction k with
 | zero =>
   intro d F hd hF hl;obtain⟨F,rfl⟩:∃G,F=G+1:=⟨F-1,by omega⟩
   obtain rfl:d=62:=by omega
   rw[soft.Ex.Ar,J3 .u64 m 62 (by decide),An (by omega) (by omega),An (by omega) (by omega),Fs,As];have a0:decide ((0:Int)<=((62:Nat):Int))=true:=by decide
   have a1:((((62:Nat):Int)+1)==63)=true:=by decide
   rw[a0,Bep,a1,Bep];by_cases h:2^53<=m / 2^62\/e+(62:Nat) < -1074
   ·refine⟨63,?_,by omega,by omega,fun d' hd'=>?_⟩
    ·have:(decide ((9007199254740992:Int)<=((m / 2^62:Nat):Int))||decide (e+((62:Nat):Int) < -1074))=true:=by simp only[zK,Bew]; omega
     rw[this]; rfl
    ·rcases Bfm d' 62 with h' | h'
     ·exact hl d' h'
     ·obtain rfl:d'=62:=by omega
      exact h
   ·refine⟨62,?_,by omega,fun _=>by omega,hl⟩
    have:(decide ((9007199254740992:Int)<=((m / 2^62:Nat):Int))||decide (e+((62:Nat):Int) < -1074))=false:=by simp only[yy,Be8]; omega
    rw[this]; rfl
 | succ k ih =>
   intro d F hd hF hl;obtain⟨F,rfl⟩:∃G,F=G+1:=⟨F-1,by omega⟩
   rw[soft.Ex.Ar,J3 .u64 m d (by show d<=64; omega),An (by omega) (by omega),An (by omega) (by omega),Fs,As];have a0:decide ((0:Int)<=(d:Int))=true:=by simp
   have a1:(((d:Int)+1)==63)=false:=by simp; omega
   rw[a0,Bep,a1,Bet];by_cases h:2^53<=m / 2^d\/e+d < -1074
   ·have:(decide ((9007199254740992:Int)<=((m / 2^d:Nat):Int))||decide (e+(d:Int) < -1074))=true:=by simp only[zK,Bew]; omega
    rw[this,Bep,show(d:Int)+1=((d+1:Nat):Int) by omega];refine ih (d+1) F (by omega) (by omega) fun d' hd'=>?_
    rcases Bfm d' d with h' | h'
    ·exact hl d' h'
    ·obtain rfl:d'=d:=by omega
     exact h
   ·refine⟨d,?_,by omega,fun _=>by omega,hl⟩
    have:(decide ((9007199254740992:Int)<=((m / 2^d:Nat):Int))||decide (e+(d:Int) < -1074))=false:=by simp only[yy,Be8]; omega
    rw[this]; rfl
theorem Av6(N:Nat)(n:Bool){m D:Nat}(hm:m<2^64){e:Int}(he:-1140<=e/\e<=50000)(r:Bool)(hD:D<=63)(hq:(if e+D < -1074 then 0 else qOf m D r.toNat)<=2^53) :
 soft.Ex.C7 N n m e r (D:Int)=soft.Ex.C18 N (decide (m%2^D=0/\r.toNat=0)) ((Bf n (B9 (if e+D < -1074 then 0 else qOf m D r.toNat) (max (e+D) (-1074))):Nat):Int):=by
 have hA:=Cm D;have h2D:=Aye hD;have hr:=zv m hA;have hqm:m / 2^D<=m:=yJ _ _;rw[soft.Ex.Ao0];have a0:decide ((0:Int)<=(D:Int))=true:=by simp
 have e1:Eo .u64 (m:Int) (D:Int)=((m / 2^D:Nat):Int):=J3 .u64 m D (by show D<=64; omega)
 have e2:Cj .u64 (1:Int) (D:Int)=((2^D:Nat):Int):=by rw[show(1:Int)=((1:Nat):Int) from rfl,He 1 D (by omega),zC,Be2 h2D]
 have e3:Gl .u64 (m:Int) (Bo (Cj .u64 (1:Int) (D:Int)-(1:Int)))=((m%2^D:Nat):Int):=by rw[e2,Dx (by omega) (by omega),show((2^D:Nat):Int)-1=((2^D-1:Nat):Int) by omega,Li D hm (by omega)]
 have e5:(cond (((m%2^D:Nat):Int)==(0:Int)) (!r) false)=decide (m%2^D=0/\r.toNat=0):=by
  by_cases h:m%2^D=0
  ·cases r<;>simp[h]
  ·have:(((m%2^D:Nat):Int)==(0:Int))=false:=by simp only[Bfk,ne_eq]; omega
   rw[this]; simp[h]
 rw[a0,Bep,Bep,e1,e3,e5,As]
 have last:∀(p:Bool) (q:Nat),q<=2^64-1->(if e+D < -1074 then 0 else q)<=2^53->soft.Ex.C14 N n e (D:Int) ((q:Nat):Int) p=soft.Ex.C18 N p ((Bf n (B9 (if e+D < -1074 then 0 else q) (max (e+D) (-1074))):Nat):Int):=by
  intro p q hq hq2;rw[soft.Ex.A9a,An (by omega) (by omega),As]
  have c16:∀q':Nat,q'<=2^53->soft.Ex.C16 N n e (q':Int) (D:Int) p=soft.Ex.C18 N p ((Bf n (B9 q' (max (e+D) (-1074))):Nat):Int):=by intro q' hq';rw[soft.Ex.A89,An (by omega) (by omega)];have:Ot (q':Int) (max (e+(D:Int)) (-1074))=true:=Ak.2 (by omega);rw[this,Sq]; rfl
  by_cases h:e+D < -1074
  ·rw[Bfc h] at hq2 ⊢;have:decide (e+(D:Int) < -1074)=true:=by simpa using h
   rw[this];exact c16 0 hq2
  ·rw[Bfb h] at hq2 ⊢;have:decide (e+(D:Int) < -1074)=false:=by simpa using h
   rw[this];exact c16 q hq2
 have up:∀(half:Nat) (hh:0<D->half=2^(D-1)) (p:Bool),soft.Ex.C12 N n e r (D:Int) ((m / 2^D:Nat):Int) ((m%2^D:Nat):Int) (half:Int) p=soft.Ex.C18 N p ((Bf n (B9 (if e+D < -1074 then 0 else qOf m D r.toNat) (max (e+D) (-1074))):Nat):Int):=by
  intro half hh p;rw[soft.Ex.Agr,As,As]
  have odd:(Gl .u64 ((m / 2^D:Nat):Int) (1:Int)==(1:Int))=decide (m / 2^D%2=1):=by rw[show(1:Int)=((2^1-1:Nat):Int) from rfl,Li 1 (by omega) (by decide),Be5];simp only[beq_iff_eq,Bew];omega
  rw[odd]
  have test:(decide ((0:Int)<(D:Int))&&(decide ((half:Int)<((m%2^D:Nat):Int))||((((m%2^D:Nat):Int)==(half:Int))&&(r||decide (m / 2^D%2=1))))) =
   decide (0<D/\(2^(D-1)<m%2^D\/(m%2^D=2^(D-1)/\(r.toNat=1\/m / 2^D%2=1)))):=by
   rw[Be5];generalize m%2^D=rr;generalize m / 2^D=qq;generalize hg:2^(D-1)=gg at hh;by_cases h0:0<D
   ·have:=hh h0;subst this;cases r<;>simp[h0]<;>omega
   ·simp[h0]
  rw[test];by_cases ht:0<D/\(2^(D-1)<m%2^D\/(m%2^D=2^(D-1)/\(r.toNat=1\/m / 2^D%2=1)))
  ·have hq1:qOf m D r.toNat=m / 2^D+1:=by unfold qOf; rw[Bfc ht]
   have hlt:m / 2^D+1<2^64:=by
    obtain⟨d,rfl⟩:∃d,D=d+1:=⟨D-1,by omega⟩
    have h1:m / 2^(d+1)<=m / 2:=Nat.div_le_div_left (by rw[Nat.pow_succ]; have:=Cm d; omega) (by decide);omega
   rw[hq1] at hq ⊢;rw[Beq ht,Bep,Dx (by omega) (by omega),show((m / 2^D:Nat):Int)+1=((m / 2^D+1:Nat):Int) by omega];exact last p _ (by omega) hq
  ·have hq1:qOf m D r.toNat=m / 2^D:=by unfold qOf; rw[Bfb ht]; rfl
   rw[hq1] at hq ⊢;rw[Beu ht,Bet];exact last p _ (by omega) hq
 rcases Nat.eq_zero_or_pos D with rfl | hpos
 ·have:decide ((0:Int)<((0:Nat):Int))=false:=by decide
  rw[this,Bet];exact up 0 (fun h=>absurd h (by omega)) _
 ·have h1:decide ((0:Int)<(D:Int))=true:=by simpa using hpos
  have h2:Ad ((D:Int)-1)=((D-1:Nat):Int):=by rw[An (by omega) (by omega)]; omega
  have h3:decide ((0:Int)<=((D-1:Nat):Int))=true:=by simp
  have h4:Cj .u64 (1:Int) ((D-1:Nat):Int)=((2^(D-1):Nat):Int):=by rw[show(1:Int)=((1:Nat):Int) from rfl,He 1 (D-1) (by omega),zC,Be2 (Aye (by omega))]
  rw[h1,Bep,h2,h3,Bep,h4];exact up _ (fun _=>rfl) _
theorem soft.Ex.Ae:Kq 180 soft.Ex.spec:=Eb soft.Ex.E Tryz.func180 (kc soft.Kind.Ae (kc soft.Pack.Ae .nil)) fun n m e r hp=>by
 obtain⟨m0,m1,e1,e2,hr⟩:=Ak.1 (show F0 m e r=true from hp);obtain⟨M,rfl⟩:∃M:Nat,m=M:=⟨m.toNat,by omega⟩
 refine⟨63,soft.Ex.out [.b n,.i M,.i e,.b r],[],?_,Wk.Ik (.cons .int (.cons .int .nil))⟩;show _=some (DV.tup [.int .u64 (Gr n M e r),.int .u8 (Gq n M e r)]);unfold Gr Gq Ie;rw[Ber,soft.Ex.ev];dsimp only;by_cases h0:M=0/\r=false
 ·obtain⟨rfl,rfl⟩:=h0;have:Ot (0:Int) (-1074)=true:=Ak.2 (by omega);have hp0:=Sq n 0 (-1074);rw[this];simp only[Bf8,Bool.and_true,Bep,Bool.toNat_false];have hz:(((0:Nat):Int)==0)=true:=rfl;rw[hz,Bep];have hp0:Zf n (0:Int) (-1074)=((Bf n (B9 0 (-1074)):Nat):Int):=hp0;have z:∀E,B9 0 E=0:=fun E=>Bfc rfl
  have z3:∀E,flagsOf 0 E=0:=fun E=>Bfc rfl
  rw[hp0,z,show 4*0+0=0 from rfl,z,z3];rfl
 ·have hc:((((M:Nat):Int)==(0:Int))&&!r)=false:=by
   cases r
   ·have:M≠0:=fun h=>h0 ⟨h,rfl⟩
    simp; omega
   ·simp
  rw[hc,Bet];have he:-1140<=e/\e<=50000:=by omega
  obtain⟨D,hl,hD⟩:=Av7 63 n (m:=M) he r 62 0 63 (by omega) (by omega) (fun d' h=>by omega);have hs:r.toNat<=1:=by cases r<;>decide
  have hV:4*M+r.toNat≠0:=by
   intro h;refine h0 ⟨by omega,?_⟩;cases r
   ·rfl
   ·simp at h
  obtain⟨t1,t2,t3⟩:=Av9 hD hs hV (by omega) (by omega) (fun h=>by
   have:r=true:=by cases r<;>simp_all
   have:=hr this;omega)
  have hl:soft.Ex.L0 63 63 n (M:Int) e r (0:Int)=soft.Ex.C7 63 n (M:Int) e r (D:Int):=hl;rw[hl,Av6 63 n (by omega) he r hD.le t3,<- t1,Aqy 63 _ n (K5 _ _),t2]
open Go Go.Den Go.Ct Go.Proofs
set_option maxRecDepth 100000
def sum.right.E:=E0 []
theorem sum.right.ev(N:Nat)(m d:Int):Bv sum.right.E N f208 (Aj f208) [.int .u64 m,.int .i64 d]=cond (Bc 63 d) (bif ((Cj .u64 (Eo .u64 m 63) 63) !=m) then some (.int .u64 (Kc .u64 (Eo .u64 m 63) 1)) else some (.int .u64 (Eo .u64 m 63))) (bif (decide (0<=d)) then cond (decide (0<=d)) (bif ((Cj .u64 (Eo .u64 m d) d) !=m) then some (.int .u64 (Kc .u64 (Eo .u64 m d) 1)) else some (.int .u64 (Eo .u64 m d))) none else none):=by kernel_rfl
def sum.I2.E:=E0 [(136,soft.Finite.spec),(165,soft.Kind.spec)]
theorem sum.I2.ev(N:Nat)(a b:Int):Bv sum.I2.E N f207 (Aj f207) [.int .u64 a,.int .u64 b]=cond (Af a) (bif ((Bb a)==(4:Int)) then some (.tup [.int .u64 9221120237041090560,.int .u8 0]) else bif (Af b) then cond ((Bb b)==(4:Int)) (some (.tup [.int .u64 9221120237041090560,.int .u8 0])) (bif (Af a) then cond (Dl a) (some (.tup [.int .u64 b,.int .u8 0])) (bif (Af b) then cond ((Dl b)||(a==b)) (some (.tup [.int .u64 a,.int .u8 0])) (some (.tup [.int .u64 9221120237041090560,.int .u8 16])) else none) else none) else none) none :=Et (Es (Es rfl (Es (Es rfl (Es (Es rfl (Es (Ax (Uw (Dl b)) (Ax (Uw (Dl b)) (Ax (tt8 (Dl b)) (Ax (tt6 (Dl b)) (Co (tt5 _ _) rfl rfl))))) rfl)) rfl)) rfl)) rfl)
def sum.Add.E:=E0 [(136,soft.Finite.spec),(180,soft.Ex.spec),(166,soft.Hg.spec),(181,soft.Sign.spec),(208,sum.right.spec),(207,sum.I2.spec)]
theorem sum.Add.ev(N:Nat)(a b:Int):Bv sum.Add.E N f174 (Aj f174) [.int .u64 a,.int .u64 b]=cond (Af a) (bif ((!(Dl a))||(Af b)) then cond ((!(Dl a))||(!(Dl b))) (bif ((Af a&&Af b)&&(!(Dl a)||!(Dl b))) then some (.tup [.int .u64 (De a b),.int .u8 (Acw a b)]) else none) (bif (Af a) then cond (Af b) (bif (Af a) then cond (Af b) (bif (Bc (Bn a) (Bn b)) then cond (Af (Cj .u64 (B4 a) 9)&&Bq (0<=(Ad ((Bn b)-(Bn a)))/\(Ad ((Bn b)-(Bn a)))<1000000)) (bif ((En b)==(En a)) then cond (F0 (Bo ((Cj .u64 (B4 b) 9)+(G4 (Cj .u64 (B4 a) 9) (Ad ((Bn b)-(Bn a)))))) (Ad ((Bn b)-9)) false) (some (.tup [.int .u64 (Gr (En b) (Bo ((Cj .u64 (B4 b) 9)+(G4 (Cj .u64 (B4 a) 9) (Ad ((Bn b)-(Bn a)))))) (Ad ((Bn b)-9)) false),.int .u8 (Gq (En b) (Bo ((Cj .u64 (B4 b) 9)+(G4 (Cj .u64 (B4 a) 9) (Ad ((Bn b)-(Bn a)))))) (Ad ((Bn b)-9)) false)])) none else bif (Bc (G4 (Cj .u64 (B4 a) 9) (Ad ((Bn b)-(Bn a)))) (Cj .u64 (B4 b) 9)) then cond (F0 (Bo ((Cj .u64 (B4 b) 9)-(G4 (Cj .u64 (B4 a) 9) (Ad ((Bn b)-(Bn a)))))) (Ad ((Bn b)-9)) false) (some (.tup [.int .u64 (Gr (En b) (Bo ((Cj .u64 (B4 b) 9)-(G4 (Cj .u64 (B4 a) 9) (Ad ((Bn b)-(Bn a)))))) (Ad ((Bn b)-9)) false),.int .u8 (Gq (En b) (Bo ((Cj .u64 (B4 b) 9)-(G4 (Cj .u64 (B4 a) 9) (Ad ((Bn b)-(Bn a)))))) (Ad ((Bn b)-9)) false)])) none else bif (Bc (Cj .u64 (B4 b) 9) (G4 (Cj .u64 (B4 a) 9) (Ad ((Bn b)-(Bn a))))) then cond (F0 (Bo ((G4 (Cj .u64 (B4 a) 9) (Ad ((Bn b)-(Bn a))))-(Cj .u64 (B4 b) 9))) (Ad ((Bn b)-9)) false) (some (.tup [.int .u64 (Gr (En a) (Bo ((G4 (Cj .u64 (B4 a) 9) (Ad ((Bn b)-(Bn a))))-(Cj .u64 (B4 b) 9))) (Ad ((Bn b)-9)) false),.int .u8 (Gq (En a) (Bo ((G4 (Cj .u64 (B4 a) 9) (Ad ((Bn b)-(Bn a))))-(Cj .u64 (B4 b) 9))) (Ad ((Bn b)-9)) false)])) none else some (.tup [.int .u64 0,.int .u8 0])) none else bif (Af (Cj .u64 (B4 b) 9)&&Bq (0<=(Ad ((Bn a)-(Bn b)))/\(Ad ((Bn a)-(Bn b)))<1000000)) then cond ((En a)==(En b)) (bif (F0 (Bo ((Cj .u64 (B4 a) 9)+(G4 (Cj .u64 (B4 b) 9) (Ad ((Bn a)-(Bn b)))))) (Ad ((Bn a)-9)) false) then some (.tup [.int .u64 (Gr (En a) (Bo ((Cj .u64 (B4 a) 9)+(G4 (Cj .u64 (B4 b) 9) (Ad ((Bn a)-(Bn b)))))) (Ad ((Bn a)-9)) false),.int .u8 (Gq (En a) (Bo ((Cj .u64 (B4 a) 9)+(G4 (Cj .u64 (B4 b) 9) (Ad ((Bn a)-(Bn b)))))) (Ad ((Bn a)-9)) false)]) else none) (bif (Bc (G4 (Cj .u64 (B4 b) 9) (Ad ((Bn a)-(Bn b)))) (Cj .u64 (B4 a) 9)) then cond (F0 (Bo ((Cj .u64 (B4 a) 9)-(G4 (Cj .u64 (B4 b) 9) (Ad ((Bn a)-(Bn b)))))) (Ad ((Bn a)-9)) false) (some (.tup [.int .u64 (Gr (En a) (Bo ((Cj .u64 (B4 a) 9)-(G4 (Cj .u64 (B4 b) 9) (Ad ((Bn a)-(Bn b)))))) (Ad ((Bn a)-9)) false),.int .u8 (Gq (En a) (Bo ((Cj .u64 (B4 a) 9)-(G4 (Cj .u64 (B4 b) 9) (Ad ((Bn a)-(Bn b)))))) (Ad ((Bn a)-9)) false)])) none else bif (Bc (Cj .u64 (B4 a) 9) (G4 (Cj .u64 (B4 b) 9) (Ad ((Bn a)-(Bn b))))) then cond (F0 (Bo ((G4 (Cj .u64 (B4 b) 9) (Ad ((Bn a)-(Bn b))))-(Cj .u64 (B4 a) 9))) (Ad ((Bn a)-9)) false) (some (.tup [.int .u64 (Gr (En b) (Bo ((G4 (Cj .u64 (B4 b) 9) (Ad ((Bn a)-(Bn b))))-(Cj .u64 (B4 a) 9))) (Ad ((Bn a)-9)) false),.int .u8 (Gq (En b) (Bo ((G4 (Cj .u64 (B4 b) 9) (Ad ((Bn a)-(Bn b))))-(Cj .u64 (B4 a) 9))) (Ad ((Bn a)-9)) false)])) none else some (.tup [.int .u64 0,.int .u8 0])) else none) none else none) none else none) else none) none :=
 Et (Es (Ax (Xw (Dl a)) (Co (Apl _ _) (Ax (R7 (Dl a)) (Ax (Aau (Dl a)) (Co (Apm _ _) rfl rfl))) rfl)) rfl)
def sum.Sub.E:=E0 [(81,soft.Eg.spec),(174,sum.Add.spec)]
theorem sum.Sub.ev(N:Nat)(a b:Int):Bv sum.Sub.E N f231 (Aj f231) [.int .u64 a,.int .u64 b]=cond (Af b) (bif (Af a&&Af (B7 b)) then some (.tup [.int .u64 (De a (B7 b)),.int .u8 (Acw a (B7 b))]) else none) none:=by kernel_rfl
theorem A73(q:Nat):q ||| 1=2*(q / 2)+1:=by
 have e:q%2 ||| (q / 2*2^1)=q / 2*2^1+q%2:=Q4 (zv _ (by decide))
 have e1:1 ||| (q / 2*2^1)=q / 2*2^1+1:=Q4 (k:=1) (by decide)
 have hq:q / 2*2^1+q%2=q:=by omega
 rw[hq] at e;rcases Nat.mod_two_eq_zero_or_one q with h | h
 ·rw[h,Nat.zero_or] at e;rw[e,xw] at e1;omega
 ·rw[h] at e
  have:q ||| 1=q:=by
   conv=>lhs; rw[<- e]
   rw[xw 1,Nat.or_assoc,Nat.or_self,xw,e]
  omega
theorem Aep{n s:Nat}(hn:n<2^64)(hs:s<=63) :
 (bif ((Cj .u64 (Eo .u64 (n:Int) (s:Int)) (s:Int)) !=(n:Int)) then
  some (DV.int .u64 (Kc .u64 (Eo .u64 (n:Int) (s:Int)) (1:Int)))
 else some (.int .u64 (Eo .u64 (n:Int) (s:Int))))=some (.int .u64 ((Hy n s:Nat):Int)):=by
 have hq:n / 2^s<=n:=yJ _ _;have hm:n / 2^s*2^s<=n:=Nat.div_mul_le_self _ _;have hd:=Nat.div_add_mod n (2^s);rw[Bfd] at hd;rw[J3 .u64 n s (by show s<=64; omega),He _ s (by omega),Be2 (by omega)];have h1:Kc .u64 ((n / 2^s:Nat):Int) (1:Int)=((n / 2^s ||| 1:Nat):Int):=Aag (by omega) (by decide);rw[h1,A73];unfold Hy;by_cases h:n%2^s=0
 ·have:((((n / 2^s*2^s:Nat):Int)) !=(n:Int))=false:=by simp only[bne_eq_false_iff_eq]; omega
  rw[this,Bfc h,Bet]
 ·have:((((n / 2^s*2^s:Nat):Int)) !=(n:Int))=true:=by simp only[bne_iff_ne,ne_eq]; omega
  rw[this,Bfb h,Bep]
theorem sum.right.Ae:Kq 208 sum.right.spec:=Eb sum.right.E Tryz.func208 .nil fun m d hp=>by
 obtain⟨h1,h2⟩:=Ac.1 hp;obtain⟨n,rfl,hn⟩:=Bu h1;have h2:=Ak.1 h2;obtain⟨d,rfl⟩:∃k:Nat,d=k:=⟨d.toNat,by omega⟩
 refine⟨0,sum.right.out [.i n,.i d],[],?_,.int⟩;rw[sum.right.ev,As];show _=some (DV.int .u64 (G4 n d));unfold G4;rw[Ber,Ber];by_cases h:63<d
 ·have:decide ((63:Int)<(d:Int))=true:=by simp; omega
  rw[this,Bep,Nat.min_eq_right (by omega)];exact Aep hn (Bfj 63)
 ·have:decide ((63:Int)<(d:Int))=false:=by simp; omega
  have h0:decide ((0:Int)<=(d:Int))=true:=by simp
  rw[this,Bet,h0,Bep,Bep,Nat.min_eq_left (by omega)];exact Aep hn (by omega)
theorem Ar9:((P1:Nat):Int)=9221120237041090560:=rfl
theorem sum.I2.Ae:Kq 207 sum.I2.spec:=Eb sum.I2.E Tryz.func207 (kc soft.Finite.Ae (kc soft.Kind.Ae .nil)) fun a b hp=>by
 obtain⟨h1,h2⟩:=Ac.1 hp;obtain⟨ha,hb⟩:=Ac.1 h1;obtain⟨a,rfl,hn⟩:=Bu ha;obtain⟨b,rfl,hm⟩:=Bu hb;refine⟨0,sum.I2.out [.i a,.i b],[],?_,Wk.Ik (.cons .int (.cons .int .nil))⟩;rw[sum.I2.ev,ha,hb];show _=some (DV.tup [.int .u64 (De a b),.int .u8 (Acw a b)]);unfold De Acw Fh Bb Dl;simp only[Ber,Bep];unfold Dl at h2;simp only[Ber] at h2;by_cases a4:Ag a=4
 ·simp[a4,Ar9]
 ·have e4:((Ag a:Int)==4)=false:=by simp; omega
  rw[e4,Bet];by_cases b4:Ag b=4
  ·simp[b4,Ar9]
  ·have f4:((Ag b:Int)==4)=false:=by simp; omega
   rw[f4,Bet];have ka:=Afj a;have kb:=Afj b;by_cases a3:Ag a=3
   ·have fa:Iy a=false:=by rw[ka]; simp[a3]
    rw[fa,Bet];by_cases b3:Ag b=3
    ·have fb:Iy b=false:=by rw[kb]; simp[b3]
     rw[fb];by_cases hab:a=b
     ·subst hab; simp[a3]
     ·have hab':((a:Int)==(b:Int))=false:=by simp; omega
      rw[hab'];simp[a3,b3,hab,Ar9]
    ·have fb:Iy b=true:=by rw[kb]; simp[b3,b4]
     rw[fb];simp[a3,b3,b4]
   ·have fa:Iy a=true:=by rw[ka]; simp[a3,a4]
    have b3:Ag b=3:=by rw[fa,kb] at h2;simp[b4] at h2;exact h2
    rw[fa,Bep];simp[a3,b3,a4]
def Asv(na nb:Bool)(X r:Nat)(e:Int):Nat × Nat :=if na=nb then Ie na (X+r) e false else if r<X then Ie na (X-r) e false else if X<r then Ie nb (r-X) e false else (0,0)
theorem Abi{na:Bool}{m:Int}{n:Nat}{e e':Int}(h:m=n)(he:e'=e)(hn:n<2^64)(h1:-1100<=e)(h2:e<=1000) :
 (cond (F0 m e' false) (some (DV.tup [.int .u64 (Gr na m e' false),.int .u8 (Gq na m e' false)])) none)
  = some (.tup [.int .u64 (((Ie na n e false).1:Nat):Int),.int .u8 (((Ie na n e false).2:Nat):Int)]):=by
 subst h; subst he;have hp:F0 (n:Int) e' false=true:=Ak.2 ⟨by omega,by omega,by omega,.inl (by omega),fun h=>by cases h⟩;rw[hp,Bep];unfold Gr Gq;rw[Ber]
theorem Aow(na nb:Bool){X r:Nat}{e e':Int}(hX:X<2^62)(hr:r<=2^62)(h:e'=e)(h1:-1100<=e)(h2:e<=1000) :
 (bif (na==nb) then
  bif F0 (Bo ((X:Int)+(r:Int))) e' false then some (DV.tup [.int .u64 (Gr na (Bo ((X:Int)+(r:Int))) e' false),.int .u8 (Gq na (Bo ((X:Int)+(r:Int))) e' false)]) else none
 else bif Bc (r:Int) (X:Int) then
  bif F0 (Bo ((X:Int)-(r:Int))) e' false then some (DV.tup [.int .u64 (Gr na (Bo ((X:Int)-(r:Int))) e' false),.int .u8 (Gq na (Bo ((X:Int)-(r:Int))) e' false)]) else none
 else bif Bc (X:Int) (r:Int) then
  bif F0 (Bo ((r:Int)-(X:Int))) e' false then some (DV.tup [.int .u64 (Gr nb (Bo ((r:Int)-(X:Int))) e' false),.int .u8 (Gq nb (Bo ((r:Int)-(X:Int))) e' false)]) else none
 else some (.tup [.int .u64 (0:Int),.int .u8 (0:Int)])) =
  some (.tup [.int .u64 (((Asv na nb X r e).1:Nat):Int),.int .u8 (((Asv na nb X r e).2:Nat):Int)]):=by
 unfold Asv;rw[As,As];by_cases hs:na=nb
 ·have:(na==nb)=true:=by simp[hs]
  rw[this,Bep,Bfc hs];exact Abi (by rw[Dx (by omega) (by omega)]; omega) h (by omega) h1 h2
 ·have:(na==nb)=false:=by simp[hs]
  rw[this,Bet,Bfb hs];by_cases hl:r<X
  ·have:decide ((r:Int)<(X:Int))=true:=by simp; omega
   rw[this,Bep,Bfc hl];exact Abi (by rw[Dx (by omega) (by omega)]; omega) h (by omega) h1 h2
  ·have:decide ((r:Int)<(X:Int))=false:=by simp; omega
   rw[this,Bet,Bfb hl];by_cases hg:X<r
   ·have:decide ((X:Int)<(r:Int))=true:=by simp; omega
    rw[this,Bep,Bfc hg];exact Abi (by rw[Dx (by omega) (by omega)]; omega) h (by omega) h1 h2
   ·have:decide ((X:Int)<(r:Int))=false:=by simp; omega
    rw[this,Bet,Bfb hg];rfl
theorem Aua{a b:Nat}(ha:Iy a=true)(hb:Iy b=true)(hle:Aw b<=Aw a) :
 ∃X r:Nat,X<2^62/\r<=2^62/\Cj .u64 (B4 a) (9:Int)=(X:Int)/\G4 (Cj .u64 (B4 b) (9:Int)) (Ad (Bn a-Bn b))=(r:Int)
  /\ Ad (Bn a-9)=Aw a-9
  /\ (Af (Cj .u64 (B4 b) (9:Int))&&Bq (0<=(Ad ((Bn a)-(Bn b)))/\(Ad ((Bn a)-(Bn b)))<1000000))=true
  /\ Asv (En a) (En b) X r (Aw a-9)=Fh a b:=by
 obtain⟨d,hd⟩:∃d:Nat,Aw a=Aw b+d:=⟨(Aw a-Aw b).toNat,by omega⟩
 have hx:=F8 a;have hy:=F8 b;have ea:=Da a;have eb:=Da b;have C:=Aov (Mx:=Ap a) (My:=Ap b) hd hx hy (fun h=>Ah6 (by omega))
 have sh:∀m:Nat,m<2^53->Cj .u64 (m:Int) (9:Int)=((m*2^9:Nat):Int):=fun m hm=>by have:=He m 9 (by decide);rw[Be2 (by omega)] at this;exact this
 have h2:Ad (Bn a-Bn b)=(d:Int):=by unfold Bn;rw[Ber,Ber,An (by omega) (by omega)]; omega
 have s1:Cj .u64 (B4 a) (9:Int)=((Ap a*2^9:Nat):Int):=by unfold B4; rw[Ber]; exact sh _ hx
 have s2:Cj .u64 (B4 b) (9:Int)=((Ap b*2^9:Nat):Int):=by unfold B4; rw[Ber]; exact sh _ hy
 refine⟨Ap a*2^9,Hy (Ap b*2^9) (min d 63),by omega,C.small,s1,?_,?_,?_,?_⟩
 ·rw[s2,h2]; unfold G4; rw[Ber,Ber]
 ·unfold Bn; rw[Ber,An (by omega) (by omega)]
 ·rw[s2,h2,Cr (by omega),Bf2];exact Ak.2 ⟨by omega,by omega⟩
 ·unfold En;rw[Ber,Ber,Aou ha hb hd];rfl
theorem sum.Add.Ae:Kq 174 sum.Add.spec:=Eb sum.Add.E Tryz.func174 (kc soft.Finite.Ae (kc soft.Ex.Ae (kc soft.Hg.Ae (kc soft.Sign.Ae (kc sum.right.Ae (kc sum.I2.Ae .nil)))))) fun a b hp=>by
 obtain⟨ha,hb⟩:=Ac.1 hp;obtain⟨a,rfl,hn⟩:=Bu ha;obtain⟨b,rfl,hm⟩:=Bu hb;refine⟨0,sum.Add.out [.i a,.i b],[],?_,Wk.Ik (.cons .int (.cons .int .nil))⟩;rw[sum.Add.ev,ha,hb];show _=some (DV.tup [.int .u64 (De a b),.int .u8 (Acw a b)]);rw[Bf1,Bep,Bep];by_cases hf:(!(Dl a)||!(Dl b))=true
 ·rw[hf]; rfl
 ·have hf:(!(Dl a)||!(Dl b))=false:=by simpa using hf
  rw[hf,Bet,Bep,Bep,Bep,Bep]
  have fa:Iy a=true:=by have:=(yy.1 hf).1;unfold Dl at this;simpa using this
  have fb:Iy b=true:=by have:=(yy.1 hf).2;unfold Dl at this;simpa using this
  have xa:=Da a;have xb:=Da b;rw[As];by_cases hl:Aw a<Aw b
  ·obtain⟨X,r,hX,hr,e1,e2,e3,e4,e5⟩:=Aua fb fa (by omega);have:decide (Bn a<Bn b)=true:=by unfold Bn; simpa using hl
   rw[this,Bep,e4,Bep,e1,e2,Aow _ _ hX hr e3 (by omega) (by omega),e5,Axo];rfl
  ·obtain⟨X,r,hX,hr,e1,e2,e3,e4,e5⟩:=Aua fa fb (by omega);have:decide (Bn a<Bn b)=false:=by unfold Bn; simpa using hl
   rw[this,Bet,e4,Bep,e1,e2,Aow _ _ hX hr e3 (by omega) (by omega),e5];rfl
theorem sum.Sub.Ae:Kq 231 sum.Sub.spec:=Eb sum.Sub.E Tryz.func231 (kc soft.Eg.Ae (kc sum.Add.Ae .nil)) fun a b hp=>by
 obtain⟨ha,hb⟩:=Ac.1 hp;obtain⟨b,rfl,hm⟩:=Bu hb;refine⟨0,sum.Sub.out [.i a,.i b],[],?_,Wk.Ik (.cons .int (.cons .int .nil))⟩;have:Af (B7 (b:Int))=true:=by unfold B7; rw[Ber]; exact Cr (Abk hm)
 rw[sum.Sub.ev,ha,hb,this];unfold De Acw B7;rw[Ber];rfl
end Go.Proofs.S1
end
