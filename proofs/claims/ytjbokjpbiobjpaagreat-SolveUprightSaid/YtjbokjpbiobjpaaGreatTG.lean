/- A verified evaluator of the program's form and its use for this seat: S1PPack, S1PNear, S1EqSum, S1PSum. -/
import Derived.Test.YtjbokjpbiobjpaaGreatTF
import Derived.Test.YtjbokjpbiobjpaaGreatTE
set_option linter.unusedVariables false
set_option linter.unusedSimpArgs false
noncomputable section
open Int (toNat)
open List (length getD)
open Go.Proofs.Tryz
namespace Go.Proofs.S1
open Go Go.Den Go.Cv Go.Proofs
theorem Afl {r:Nat} (h:r<2^63):D6 r=((2^63+r:Nat):Int):=by
 unfold D6; rw [A5n,Ur h]
theorem O1 {r:Nat} (h:r<2^63) (n:Bool):(bif n then (bif (Ao (r:Int)) then some (DV.int .u64 (D6 r)) else none) else some (DV.int .u64 r))=some (DV.int .u64 ((B3 n r:Nat):Int)):=by
 cases n
 ·rfl
 ·rw [Ck (by omega),Afl h]; rfl
theorem P0 (n:Bool) (m:Nat) (e:Int):Vp n m e=((B3 n (B1 m e):Nat):Int):=by
 unfold Vp; rw [A5n]
theorem Aj0 {E M:Nat} (h1:1≤E) (h2:E≤2046) (h3:4503599627370496≤M) (h4:M<9007199254740992):E*2^52+M%2^52=min ((E-1)*2^52+M) Eo:=by
 obtain ⟨k,rfl⟩:∃ k,E=k+1:=⟨E-1,by omega⟩
 obtain ⟨r,rfl⟩:∃ r,M=2^52+r:=⟨M-2^52,by omega⟩
 have hr:r<2^52:=by omega
 have hm:(2^52+r)%2^52=r:=by rw [Nat.add_mod_left,A5y hr]
 have hk:k*2^52≤2045*2^52:=A5x _ (by omega)
 have hi:Eo=2045*2^52+2^52+2^52:=by unfold Eo; rfl
 rw [hm,Nat.add_sub_cancel,Nat.succ_mul,hi]
 generalize 2^52=c at *
 omega
theorem soft.Pack.known:soft.Pack.Kn:=EqSoft.soft.Pack.Ae (.cons soft.Gh.known .nil) fun rk n m e hp hr=>by
 have hp:=As.1 (show L9 m e=true from hp)
 have hr:Qq m e<rk+1:=hr
 obtain ⟨m0,m1,e0,e1⟩:=hp
 obtain ⟨M,rfl⟩:∃ M:Nat,m=M:=⟨m.toNat,by omega⟩
 refine ⟨0,soft.Pack.out [.b n,.i M,.i e],[],?_,.int⟩
 rw [EqSoft.soft.Pack.ev]
 show _=some (DV.int .u64 (Vp n M e))
 rw [P0]
 unfold Qq at hr
 by_cases h0:M=0
 ·subst h0
  have:=O1 (r:=0) (by decide) n
  have e0:B1 0 e=0:=rfl
  rw [e0]
  simpa using this
 ·have b0:((M:Int)==0)=false:=by simp; omega
  rw [b0,A5p]
  by_cases h1:M=9007199254740992
  ·have b1:Ev (9007199254740992:Int) (M:Int)=true:=by rw [E3]; simp; omega
   have s1:D1 .u64 (M:Int) (1:Int)=((2^52:Nat):Int):=by
    rw [show (1:Int)=((1:Nat):Int) from rfl,H8 .u64 M 1 (by decide),h1]
   have w1:Ac (e+1)=e+1:=Ap (by omega) (by omega)
   rw [A58 (by omega)] at hr
   have p1:L9 ((2^52:Nat):Int) (e+1)=true:=As.2 (by omega)
   have p2:Cz (Qq ((2^52:Nat):Int) (e+1)<rk)=true:=As.2 (by
    unfold Qq
    rw [A57 (by omega),A57 (by omega)]; omega)
   rw [b1,s1,w1,p1,p2,P0,h1]
   have:=(Db (2^52) 1 (e+1)).1
   have e2:e+1-((1:Nat):Int)=e:=by omega
   rw [e2] at this
   rw [← this]; rfl
  ·have b1:Ev (9007199254740992:Int) (M:Int)=false:=by rw [E3]; simp; omega
   rw [b1,A5p]
   rw [A57 (by omega)] at hr
   by_cases h2:M<4503599627370496
   ·have b2:Ba (M:Int) (4503599627370496:Int)=true:=by rw [Aw]; simp; omega
    rw [A58 (by omega)] at hr
    by_cases h3:e=-1074
    ·subst h3
     have b3:Ba (-1074:Int) (-1074)=false:=by decide
     rw [b2,b3,A6y,A5p,A5l,Aaj h2]
     exact O1 (by omega) n
    ·have b3:Ba (-1074:Int) e=true:=by rw [Aw]; simp; omega
     have s1:B5 .u64 (M:Int) (1:Int)=((M*2^1:Nat):Int):=by
      rw [show (1:Int)=((1:Nat):Int) from rfl,Gg M 1 (by decide),A5y (by omega)]
     have w1:Ac (e-1)=e-1:=Ap (by omega) (by omega)
     have p1:L9 ((M*2^1:Nat):Int) (e-1)=true:=As.2 (by omega)
     have p2:Cz (Qq ((M*2^1:Nat):Int) (e-1)<rk)=true:=As.2 (by
      unfold Qq
      rw [A57 (by omega)]
      split<;>omega)
     rw [b2,b3,s1,w1,p1,p2,P0]
     have:=(Db M 1 e).1
     have e2:e-((1:Nat):Int)=e-1:=by omega
     rw [e2] at this
     rw [this]; rfl
   ·have b2:Ba (M:Int) (4503599627370496:Int)=false:=by rw [Aw]; simp; omega
    have w1:Ac (e+1075)=e+1075:=Ap (by omega) (by omega)
    rw [b2,w1,Bool.false_and,A5p,A5p]
    have hr:=Tb (m:=M) (e:=e) (by omega) (by omega) e0
    by_cases h4:2047≤e+1075
    ·have b4:Ev (2047:Int) (e+1075)=true:=by rw [E3]; simp; omega
     have:B1 M e=9218868437227405312:=by rw [hr,Fc]; omega
     rw [b4,this,A5l]
     exact O1 (r:=9218868437227405312) (by decide) n
    ·have b4:Ev (2047:Int) (e+1075)=false:=by rw [E3]; simp; omega
     obtain ⟨E,hE⟩:∃ E:Nat,e+1075=E:=⟨(e+1075).toNat,by omega⟩
     have s1:Jf .u64 (B5 .u64 (Bc (e+1075)) (52:Int)) (Gy .u64 (M:Int) (4503599627370495:Int))=((B1 M e:Nat):Int):=by
      rw [hE,C5 (by omega) (by omega),show (52:Int)=((52:Nat):Int) from rfl,Gg E 52 (by decide),A5y (by omega),
       show (4503599627370495:Int)=((2^52-1:Nat):Int) from rfl,I7 52 (by omega) (by decide),On (by omega) (by omega)]
      have hE2:(e+1074).toNat=E-1:=by omega
      have hE3:1≤E∧E≤2046:=by omega
      have hM:4503599627370496≤M∧M<9007199254740992:=by omega
      rw [hr,hE2]
      exact congrArg (fun (x:Nat)=>(x:Int)) (Aj0 hE3.1 hE3.2 hM.1 hM.2)
     rw [b4,s1,A5p]
     exact O1 (I1 M e) n
open Go Go.Den Go.Cv Go.Proofs
open EqSoft
theorem Aqt {D:Nat} (h:D≤63):2^D<2^64:=Nat.pow_lt_pow_right (by decide) (by omega)
theorem Rb (n:Bool) {r:Nat} (h:r<2^63):Tt .u64 ((B3 n r:Nat):Int) (9223372036854775808:Int)=(r:Int):=by
 have hs:B3 n r<2^64:=by unfold B3; split<;>omega
 unfold Tt
 rw [show (9223372036854775808:Int)=((2^63:Nat):Int) from rfl,BitVec.toNat_and,BitVec.toNat_not,Kc,Kc,show IntKind.u64.bits=64 from rfl,A5y hs,
  show 2^64-1-2^63%2^64=2^63-1 by decide,Nat.and_two_pow_sub_one_eq_mod]
 have:B3 n r%2^63=r:=by unfold B3; cases n<;>simp<;>omega
 rw [this]
 exact Y2 (by omega)
theorem Aj7 (N:Nat) (ex n:Bool) {r:Nat} (h:r≤Eo):soft.Df.C18 N ex ((B3 n r:Nat):Int)=some (.tup [.int .u64 ((B3 n r:Nat):Int),.int .u8 ((flags r ex:Nat):Int)]):=by
 have h63:r<2^63:=by rw [Fc] at h; omega
 have hs:B3 n r<2^64:=by unfold B3; split<;>omega
 rw [soft.Df.A0d,Rb n h63,Ck hs]
 unfold A3 flags
 rw [A5n,Adt n h]
 have hinf:(((r:Nat):Int)==(9218868437227405312:Int))=decide (r=Eo):=by
  rw [Fc,A51]; simp; omega
 rw [hinf]
 by_cases h1:r=Eo
 ·simp [h1]
 ·by_cases h2:2^52≤r
  ·cases ex<;>simp [h1]<;>simp [show 4503599627370496≤r by omega]
  ·by_cases h3:0<r
   ·cases ex<;>simp [h1,h3]<;>simp [show ¬ 4503599627370496≤r by omega]
   ·cases ex<;>simp [h1,h3]<;>simp [show ¬ 4503599627370496≤r by omega]
theorem Aom (N:Nat) (n:Bool) {m:Nat} {e:Int} (he:-1140≤e∧e≤50000) (r:Bool):∀ (k d F:Nat),d+k=62→k<F→(∀ d',d'<d→2^53≤m / 2^d'∨e+d' < -1074) →
 ∃ D:Nat,soft.Df.L0 N F n m e r (d:Int)=soft.Df.C7 N n m e r (D:Int)∧Drop m e D:=by
 intro k
 induction k with
 | zero =>
   intro d F hd hF hl
   obtain ⟨F,rfl⟩:∃ G,F=G+1:=⟨F-1,by omega⟩
   obtain rfl:d=62:=by omega
   rw [soft.Df.Ax,H8 .u64 m 62 (by decide),Ap (by omega) (by omega),Ap (by omega) (by omega),E3,Aw]
   have a0:decide ((0:Int)≤((62:Nat):Int))=true:=by decide
   have a1:((((62:Nat):Int)+1)==63)=true:=by decide
   rw [a0,A5l,a1,A5l]
   by_cases h:2^53≤m / 2^62∨e+(62:Nat) < -1074
   ·refine ⟨63,?_,by omega,by omega,fun d' hd'=>?_⟩
    ·have:(decide ((9007199254740992:Int)≤((m / 2^62:Nat):Int))||decide (e+((62:Nat):Int) < -1074))=true:=by
      simp only [Bool.or_eq_true,A5s]; omega
     rw [this]; rfl
    ·rcases A6i d' 62 with h' | h'
     ·exact hl d' h'
     ·obtain rfl:d'=62:=by omega
      exact h
   ·refine ⟨62,?_,by omega,fun _=>by omega,hl⟩
    have:(decide ((9007199254740992:Int)≤((m / 2^62:Nat):Int))||decide (e+((62:Nat):Int) < -1074))=false:=by
     simp only [Bool.or_eq_false_iff,A54]; omega
    rw [this]; rfl
 | succ k ih =>
   intro d F hd hF hl
   obtain ⟨F,rfl⟩:∃ G,F=G+1:=⟨F-1,by omega⟩
   rw [soft.Df.Ax,H8 .u64 m d (by show d≤64; omega),Ap (by omega) (by omega),Ap (by omega) (by omega),E3,Aw]
   have a0:decide ((0:Int)≤(d:Int))=true:=by simp
   have a1:(((d:Int)+1)==63)=false:=by simp; omega
   rw [a0,A5l,a1,A5p]
   by_cases h:2^53≤m / 2^d∨e+d < -1074
   ·have:(decide ((9007199254740992:Int)≤((m / 2^d:Nat):Int))||decide (e+(d:Int) < -1074))=true:=by
     simp only [Bool.or_eq_true,A5s]; omega
    rw [this,A5l,show (d:Int)+1=((d+1:Nat):Int) by omega]
    refine ih (d+1) F (by omega) (by omega) fun d' hd'=>?_
    rcases A6i d' d with h' | h'
    ·exact hl d' h'
    ·obtain rfl:d'=d:=by omega
     exact h
   ·refine ⟨d,?_,by omega,fun _=>by omega,hl⟩
    have:(decide ((9007199254740992:Int)≤((m / 2^d:Nat):Int))||decide (e+(d:Int) < -1074))=false:=by
     simp only [Bool.or_eq_false_iff,A54]; omega
    rw [this]; rfl
theorem Aol (N:Nat) (n:Bool) {m D:Nat} (hm:m<2^64) {e:Int} (he:-1140≤e∧e≤50000) (r:Bool) (hD:D≤63) (hq:(if e+D < -1074 then 0 else qOf m D r.toNat)≤2^53) :
 soft.Df.C7 N n m e r (D:Int)=soft.Df.C18 N (decide (m%2^D=0∧r.toNat=0)) ((B3 n (B1 (if e+D < -1074 then 0 else qOf m D r.toNat) (max (e+D) (-1074))):Nat):Int):=by
 have hA:=B4 D
 have h2D:=Aqt hD
 have hr:=Nat.mod_lt m hA
 have hqm:m / 2^D≤m:=Nat.div_le_self _ _
 rw [soft.Df.A24]
 have a0:decide ((0:Int)≤(D:Int))=true:=by simp
 have e1:D1 .u64 (m:Int) (D:Int)=((m / 2^D:Nat):Int):=H8 .u64 m D (by show D≤64; omega)
 have e2:B5 .u64 (1:Int) (D:Int)=((2^D:Nat):Int):=by
  rw [show (1:Int)=((1:Nat):Int) from rfl,Gg 1 D (by omega),Nat.one_mul,A5y h2D]
 have e3:Gy .u64 (m:Int) (Bc (B5 .u64 (1:Int) (D:Int)-(1:Int)))=((m%2^D:Nat):Int):=by
  rw [e2,C5 (by omega) (by omega),show ((2^D:Nat):Int)-1=((2^D-1:Nat):Int) by omega,I7 D hm (by omega)]
 have e5:(bif (((m%2^D:Nat):Int)==(0:Int)) then (!r) else false)=decide (m%2^D=0∧r.toNat=0):=by
  by_cases h:m%2^D=0
  ·cases r<;>simp [h]
  ·have:(((m%2^D:Nat):Int)==(0:Int))=false:=by simp only [A6g,ne_eq]; omega
   rw [this]; simp [h]
 rw [a0,A5l,A5l,e1,e3,e5,Aw]
 have last:∀ (p:Bool) (q:Nat),q≤2^64-1→(if e+D < -1074 then 0 else q)≤2^53→soft.Df.C14 N n e (D:Int) ((q:Nat):Int) p=soft.Df.C18 N p ((B3 n (B1 (if e+D < -1074 then 0 else q) (max (e+D) (-1074))):Nat):Int):=by
  intro p q hq hq2
  rw [soft.Df.A0g,Ap (by omega) (by omega),Aw]
  have c16:∀ q':Nat,q'≤2^53→soft.Df.C16 N n e (q':Int) (D:Int) p=soft.Df.C18 N p ((B3 n (B1 q' (max (e+D) (-1074))):Nat):Int):=by
   intro q' hq'
   rw [soft.Df.A0f,Ap (by omega) (by omega)]
   have:L9 (q':Int) (max (e+(D:Int)) (-1074))=true:=As.2 (by omega)
   rw [this,P0]; rfl
  by_cases h:e+D < -1074
  ·rw [A58 h] at hq2 ⊢
   have:decide (e+(D:Int) < -1074)=true:=by simpa using h
   rw [this]
   exact c16 0 hq2
  ·rw [A57 h] at hq2 ⊢
   have:decide (e+(D:Int) < -1074)=false:=by simpa using h
   rw [this]
   exact c16 q hq2
 have up:∀ (half:Nat) (hh:0<D→half=2^(D-1)) (p:Bool),soft.Df.C12 N n e r (D:Int) ((m / 2^D:Nat):Int) ((m%2^D:Nat):Int) (half:Int) p=soft.Df.C18 N p ((B3 n (B1 (if e+D < -1074 then 0 else qOf m D r.toNat) (max (e+D) (-1074))):Nat):Int):=by
  intro half hh p
  rw [soft.Df.A0h,Aw,Aw]
  have odd:(Gy .u64 ((m / 2^D:Nat):Int) (1:Int)==(1:Int))=decide (m / 2^D%2=1):=by
   rw [show (1:Int)=((2^1-1:Nat):Int) from rfl,I7 1 (by omega) (by decide),A51]
   simp only [beq_iff_eq,A5s]
   omega
  rw [odd]
  have test:(decide ((0:Int)<(D:Int))&&(decide ((half:Int)<((m%2^D:Nat):Int))||((((m%2^D:Nat):Int)==(half:Int))&&(r||decide (m / 2^D%2=1))))) =
   decide (0<D∧(2^(D-1)<m%2^D∨(m%2^D=2^(D-1)∧(r.toNat=1∨m / 2^D%2=1)))):=by
   rw [A51]
   generalize m%2^D=rr
   generalize m / 2^D=qq
   generalize hg:2^(D-1)=gg at hh
   by_cases h0:0<D
   ·have:=hh h0
    subst this
    cases r<;>simp [h0]<;>omega
   ·simp [h0]
  rw [test]
  by_cases ht:0<D∧(2^(D-1)<m%2^D∨(m%2^D=2^(D-1)∧(r.toNat=1∨m / 2^D%2=1)))
  ·have hq1:qOf m D r.toNat=m / 2^D+1:=by unfold qOf; rw [A58 ht]
   have hlt:m / 2^D+1<2^64:=by
    obtain ⟨d,rfl⟩:∃ d,D=d+1:=⟨D-1,by omega⟩
    have h1:m / 2^(d+1)≤m / 2:=Nat.div_le_div_left (by rw [Nat.pow_succ]; have:=B4 d; omega) (by decide)
    omega
   rw [hq1] at hq ⊢
   rw [A5m ht,A5l,C5 (by omega) (by omega),show ((m / 2^D:Nat):Int)+1=((m / 2^D+1:Nat):Int) by omega]
   exact last p _ (by omega) hq
  ·have hq1:qOf m D r.toNat=m / 2^D:=by unfold qOf; rw [A57 ht]; rfl
   rw [hq1] at hq ⊢
   rw [A5q ht,A5p]
   exact last p _ (by omega) hq
 rcases Nat.eq_zero_or_pos D with rfl | hpos
 ·have:decide ((0:Int)<((0:Nat):Int))=false:=by decide
  rw [this,A5p]
  exact up 0 (fun h=>absurd h (by omega)) _
 ·have h1:decide ((0:Int)<(D:Int))=true:=by simpa using hpos
  have h2:Ac ((D:Int)-1)=((D-1:Nat):Int):=by rw [Ap (by omega) (by omega)]; omega
  have h3:decide ((0:Int)≤((D-1:Nat):Int))=true:=by simp
  have h4:B5 .u64 (1:Int) ((D-1:Nat):Int)=((2^(D-1):Nat):Int):=by
   rw [show (1:Int)=((1:Nat):Int) from rfl,Gg 1 (D-1) (by omega),Nat.one_mul,A5y (Aqt (by omega))]
  rw [h1,A5l,h2,h3,A5l,h4]
  exact up _ (fun _=>rfl) _
theorem soft.Df.known:soft.Df.Kn:=soft.Df.Ae (.cons soft.Kind.known (.cons soft.Pack.known .nil)) fun n m e r hp=>by
 obtain ⟨m0,m1,e1,e2,hr⟩:=As.1 (show El m e r=true from hp)
 obtain ⟨M,rfl⟩:∃ M:Nat,m=M:=⟨m.toNat,by omega⟩
 refine ⟨63,soft.Df.out [.b n,.i M,.i e,.b r],[],?_,Wk.Jc (.cons .int (.cons .int .nil))⟩
 show _=some (DV.tup [.int .u64 (E6 n M e r),.int .u8 (E5 n M e r)])
 unfold E6 E5 Gz
 rw [A5n,soft.Df.ev]
 dsimp only
 by_cases h0:M=0∧r=false
 ·obtain ⟨rfl,rfl⟩:=h0
  have:L9 (0:Int) (-1074)=true:=As.2 (by omega)
  have hp0:=P0 n 0 (-1074)
  rw [this]
  simp only [A64,Bool.and_true,A5l,Bool.toNat_false]
  have hz:(((0:Nat):Int)==0)=true:=rfl
  rw [hz,A5l]
  have hp0:Vp n (0:Int) (-1074)=((B3 n (B1 0 (-1074)):Nat):Int):=hp0
  have z:∀ E,B1 0 E=0:=fun E=>A58 rfl
  have z3:∀ E,flagsOf 0 E=0:=fun E=>A58 rfl
  rw [hp0,z,show 4*0+0=0 from rfl,z,z3]
  rfl
 ·have hc:((((M:Nat):Int)==(0:Int))&&!r)=false:=by
   cases r
   ·have:M≠0:=fun h=>h0 ⟨h,rfl⟩
    simp; omega
   ·simp
  rw [hc,A5p]
  have he:-1140≤e∧e≤50000:=by omega
  obtain ⟨D,hl,hD⟩:=Aom 63 n (m:=M) he r 62 0 63 (by omega) (by omega) (fun d' h=>by omega)
  have hs:r.toNat≤1:=by cases r<;>decide
  have hV:4*M+r.toNat≠0:=by
   intro h
   refine h0 ⟨by omega,?_⟩
   cases r
   ·rfl
   ·simp at h
  obtain ⟨t1,t2,t3⟩:=Aoo hD hs hV (by omega) (by omega) (fun h=>by
   have:r=true:=by cases r<;>simp_all
   have:=hr this
   omega)
  have hl:soft.Df.L0 63 63 n (M:Int) e r (0:Int)=soft.Df.C7 63 n (M:Int) e r (D:Int):=hl
  rw [hl,Aol 63 n (by omega) he r hD.le t3,← t1,Aj7 63 _ n (Tc _ _),t2]
open Go Go.Den Go.Cv Go.Proofs
set_option maxRecDepth 100000
namespace EqSum
def sum.right.Bi:List (Nat × Entry):=[]
def sum.right.E:Env:=Bn (Bh sum.right.Bi) (fun _=>false) (fun _=>none) (fun _=>none)
theorem sum.right.ev (N:Nat) (m d:Int):Ci sum.right.E N f249 (Au f249) [.int .u64 m,.int .i64 d]=bif (Ba 63 d) then bif ((B5 .u64 (D1 .u64 m 63) 63) !=m) then some (.int .u64 (Jf .u64 (D1 .u64 m 63) 1)) else some (.int .u64 (D1 .u64 m 63)) else bif (decide (0≤d)) then bif (decide (0≤d)) then bif ((B5 .u64 (D1 .u64 m d) d) !=m) then some (.int .u64 (Jf .u64 (D1 .u64 m d) 1)) else some (.int .u64 (D1 .u64 m d)) else none else none:=by kernel_rfl
abbrev _root_.Go.Proofs.S1.sum.right.Kn:=A8 prog 249 sum.right.spec
theorem sum.right.Ae (hk:A4 prog sum.right.Bi) (h:Hyp sum.right.E f249 sum.right.ts sum.right.pre sum.right.out):sum.right.Kn :=
 Ar (A5 hk _ _ _) func249 (by kernel_rfl) (by kernel_rfl) h
def sum.Ee.Bi:List (Nat × Entry):=[(148,soft.Finite.spec),(155,soft.Kind.spec)]
def sum.Ee.E:Env:=Bn (Bh sum.Ee.Bi) (fun _=>false) (fun _=>none) (fun _=>none)
theorem sum.Ee.ev (N:Nat) (a b:Int):Ci sum.Ee.E N f248 (Au f248) [.int .u64 a,.int .u64 b]=bif (Ao a) then bif ((A3 a)==(4:Int)) then some (.tup [.int .u64 9221120237041090560,.int .u8 0]) else bif (Ao b) then bif ((A3 b)==(4:Int)) then some (.tup [.int .u64 9221120237041090560,.int .u8 0]) else bif (Ao a) then bif (Dm a) then some (.tup [.int .u64 b,.int .u8 0]) else bif (Ao b) then bif ((Dm b)||(a==b)) then some (.tup [.int .u64 a,.int .u8 0]) else some (.tup [.int .u64 9221120237041090560,.int .u8 16]) else none else none else none else none :=
 Eq.trans (by kernel_rfl)
 (Fe (Fe rfl (Fe (Fe rfl (Fe (Fe rfl (Fe (Ay (Z0 (Dm b)) (Ay (Z0 (Dm b)) (Ay (tt8 (Dm b)) (Ay (tt6 (Dm b)) (C4 (tt5 _ _) rfl rfl))))) rfl)) rfl)) rfl)) rfl)
abbrev _root_.Go.Proofs.S1.sum.Ee.Kn:=A8 prog 248 sum.Ee.spec
theorem sum.Ee.Ae (hk:A4 prog sum.Ee.Bi) (h:Hyp sum.Ee.E f248 sum.Ee.ts sum.Ee.pre sum.Ee.out):sum.Ee.Kn :=
 Ar (A5 hk _ _ _) func248 (by kernel_rfl) (by kernel_rfl) h
def sum.Add.Bi:List (Nat × Entry):=[(148,soft.Finite.spec),(212,soft.Df.spec),(211,soft.F1.spec),(213,soft.Sign.spec),(249,sum.right.spec),(248,sum.Ee.spec)]
def sum.Add.E:Env:=Bn (Bh sum.Add.Bi) (fun _=>false) (fun _=>none) (fun _=>none)
theorem sum.Add.ev (N:Nat) (a b:Int):Ci sum.Add.E N f232 (Au f232) [.int .u64 a,.int .u64 b]=bif (Ao a) then bif ((!(Dm a))||(Ao b)) then bif ((!(Dm a))||(!(Dm b))) then bif ((Ao a&&Ao b)&&(!(Dm a)||!(Dm b))) then some (.tup [.int .u64 (Le a b),.int .u8 (Yr a b)]) else none else bif (Ao a) then bif (Ao b) then bif (Ao a) then bif (Ao b) then bif (Ba (Bb a) (Bb b)) then bif (Ao (B5 .u64 (Bt a) 9)&&Cz (0≤(Ac ((Bb b)-(Bb a)))∧(Ac ((Bb b)-(Bb a)))<1000000)) then bif ((Ea b)==(Ea a)) then bif (El (Bc ((B5 .u64 (Bt b) 9)+(Fk (B5 .u64 (Bt a) 9) (Ac ((Bb b)-(Bb a)))))) (Ac ((Bb b)-9)) false) then some (.tup [.int .u64 (E6 (Ea b) (Bc ((B5 .u64 (Bt b) 9)+(Fk (B5 .u64 (Bt a) 9) (Ac ((Bb b)-(Bb a)))))) (Ac ((Bb b)-9)) false),.int .u8 (E5 (Ea b) (Bc ((B5 .u64 (Bt b) 9)+(Fk (B5 .u64 (Bt a) 9) (Ac ((Bb b)-(Bb a)))))) (Ac ((Bb b)-9)) false)]) else none else bif (Ba (Fk (B5 .u64 (Bt a) 9) (Ac ((Bb b)-(Bb a)))) (B5 .u64 (Bt b) 9)) then bif (El (Bc ((B5 .u64 (Bt b) 9)-(Fk (B5 .u64 (Bt a) 9) (Ac ((Bb b)-(Bb a)))))) (Ac ((Bb b)-9)) false) then some (.tup [.int .u64 (E6 (Ea b) (Bc ((B5 .u64 (Bt b) 9)-(Fk (B5 .u64 (Bt a) 9) (Ac ((Bb b)-(Bb a)))))) (Ac ((Bb b)-9)) false),.int .u8 (E5 (Ea b) (Bc ((B5 .u64 (Bt b) 9)-(Fk (B5 .u64 (Bt a) 9) (Ac ((Bb b)-(Bb a)))))) (Ac ((Bb b)-9)) false)]) else none else bif (Ba (B5 .u64 (Bt b) 9) (Fk (B5 .u64 (Bt a) 9) (Ac ((Bb b)-(Bb a))))) then bif (El (Bc ((Fk (B5 .u64 (Bt a) 9) (Ac ((Bb b)-(Bb a))))-(B5 .u64 (Bt b) 9))) (Ac ((Bb b)-9)) false) then some (.tup [.int .u64 (E6 (Ea a) (Bc ((Fk (B5 .u64 (Bt a) 9) (Ac ((Bb b)-(Bb a))))-(B5 .u64 (Bt b) 9))) (Ac ((Bb b)-9)) false),.int .u8 (E5 (Ea a) (Bc ((Fk (B5 .u64 (Bt a) 9) (Ac ((Bb b)-(Bb a))))-(B5 .u64 (Bt b) 9))) (Ac ((Bb b)-9)) false)]) else none else some (.tup [.int .u64 0,.int .u8 0]) else none else bif (Ao (B5 .u64 (Bt b) 9)&&Cz (0≤(Ac ((Bb a)-(Bb b)))∧(Ac ((Bb a)-(Bb b)))<1000000)) then bif ((Ea a)==(Ea b)) then bif (El (Bc ((B5 .u64 (Bt a) 9)+(Fk (B5 .u64 (Bt b) 9) (Ac ((Bb a)-(Bb b)))))) (Ac ((Bb a)-9)) false) then some (.tup [.int .u64 (E6 (Ea a) (Bc ((B5 .u64 (Bt a) 9)+(Fk (B5 .u64 (Bt b) 9) (Ac ((Bb a)-(Bb b)))))) (Ac ((Bb a)-9)) false),.int .u8 (E5 (Ea a) (Bc ((B5 .u64 (Bt a) 9)+(Fk (B5 .u64 (Bt b) 9) (Ac ((Bb a)-(Bb b)))))) (Ac ((Bb a)-9)) false)]) else none else bif (Ba (Fk (B5 .u64 (Bt b) 9) (Ac ((Bb a)-(Bb b)))) (B5 .u64 (Bt a) 9)) then bif (El (Bc ((B5 .u64 (Bt a) 9)-(Fk (B5 .u64 (Bt b) 9) (Ac ((Bb a)-(Bb b)))))) (Ac ((Bb a)-9)) false) then some (.tup [.int .u64 (E6 (Ea a) (Bc ((B5 .u64 (Bt a) 9)-(Fk (B5 .u64 (Bt b) 9) (Ac ((Bb a)-(Bb b)))))) (Ac ((Bb a)-9)) false),.int .u8 (E5 (Ea a) (Bc ((B5 .u64 (Bt a) 9)-(Fk (B5 .u64 (Bt b) 9) (Ac ((Bb a)-(Bb b)))))) (Ac ((Bb a)-9)) false)]) else none else bif (Ba (B5 .u64 (Bt a) 9) (Fk (B5 .u64 (Bt b) 9) (Ac ((Bb a)-(Bb b))))) then bif (El (Bc ((Fk (B5 .u64 (Bt b) 9) (Ac ((Bb a)-(Bb b))))-(B5 .u64 (Bt a) 9))) (Ac ((Bb a)-9)) false) then some (.tup [.int .u64 (E6 (Ea b) (Bc ((Fk (B5 .u64 (Bt b) 9) (Ac ((Bb a)-(Bb b))))-(B5 .u64 (Bt a) 9))) (Ac ((Bb a)-9)) false),.int .u8 (E5 (Ea b) (Bc ((Fk (B5 .u64 (Bt b) 9) (Ac ((Bb a)-(Bb b))))-(B5 .u64 (Bt a) 9))) (Ac ((Bb a)-9)) false)]) else none else some (.tup [.int .u64 0,.int .u8 0]) else none else none else none else none else none else none else none :=
 Eq.trans (by kernel_rfl)
 (Fe (Ay (Agx (Dm a)) (C4 (Aqy _ _) (Ay (Wz (Dm a)) (Ay (Agy (Dm a)) (C4 (Avh _ _) rfl rfl))) rfl)) rfl)
abbrev _root_.Go.Proofs.S1.sum.Add.Kn:=A8 prog 232 sum.Add.spec
theorem sum.Add.Ae (hk:A4 prog sum.Add.Bi) (h:Hyp sum.Add.E f232 sum.Add.ts sum.Add.pre sum.Add.out):sum.Add.Kn :=
 Ar (A5 hk _ _ _) func232 (by kernel_rfl) (by kernel_rfl) h
def sum.Sub.Bi:List (Nat × Entry):=[(233,soft.Gh.spec),(232,sum.Add.spec)]
def sum.Sub.E:Env:=Bn (Bh sum.Sub.Bi) (fun _=>false) (fun _=>none) (fun _=>none)
theorem sum.Sub.ev (N:Nat) (a b:Int):Ci sum.Sub.E N f207 (Au f207) [.int .u64 a,.int .u64 b]=bif (Ao b) then bif (Ao a&&Ao (D6 b)) then some (.tup [.int .u64 (Le a (D6 b)),.int .u8 (Yr a (D6 b))]) else none else none:=by kernel_rfl
abbrev _root_.Go.Proofs.S1.sum.Sub.Kn:=A8 prog 207 sum.Sub.spec
theorem sum.Sub.Ae (hk:A4 prog sum.Sub.Bi) (h:Hyp sum.Sub.E f207 sum.Sub.ts sum.Sub.pre sum.Sub.out):sum.Sub.Kn :=
 Ar (A5 hk _ _ _) func207 (by kernel_rfl) (by kernel_rfl) h
end EqSum
open Go Go.Den Go.Cv Go.Proofs
open EqSum
theorem Azg (q:Nat):q ||| 1=2*(q / 2)+1:=by
 have e:q%2 ||| (q / 2*2^1)=q / 2*2^1+q%2:=Vs (Nat.mod_lt _ (by decide))
 have e1:1 ||| (q / 2*2^1)=q / 2*2^1+1:=Vs (k:=1) (by decide)
 have hq:q / 2*2^1+q%2=q:=by omega
 rw [hq] at e
 rcases Nat.mod_two_eq_zero_or_one q with h | h
 ·rw [h,Nat.zero_or] at e
  rw [e,Nat.or_comm] at e1
  omega
 ·rw [h] at e
  have:q ||| 1=q:=by
   conv=>lhs; rw [← e]
   rw [Nat.or_comm 1,Nat.or_assoc,Nat.or_self,Nat.or_comm,e]
  omega
theorem Aao {n s:Nat} (hn:n<2^64) (hs:s≤63) :
 (bif ((B5 .u64 (D1 .u64 (n:Int) (s:Int)) (s:Int)) !=(n:Int)) then
  some (DV.int .u64 (Jf .u64 (D1 .u64 (n:Int) (s:Int)) (1:Int)))
 else some (.int .u64 (D1 .u64 (n:Int) (s:Int))))=some (.int .u64 ((Gj n s:Nat):Int)):=by
 have hq:n / 2^s≤n:=Nat.div_le_self _ _
 have hm:n / 2^s*2^s≤n:=Nat.div_mul_le_self _ _
 have hd:=Nat.div_add_mod n (2^s)
 rw [A59] at hd
 rw [H8 .u64 n s (by show s≤64; omega),Gg _ s (by omega),A5y (by omega)]
 have h1:Jf .u64 ((n / 2^s:Nat):Int) (1:Int)=((n / 2^s ||| 1:Nat):Int):=Agf (by omega) (by decide)
 rw [h1,Azg]
 unfold Gj
 by_cases h:n%2^s=0
 ·have:((((n / 2^s*2^s:Nat):Int)) !=(n:Int))=false:=by
   simp only [bne_eq_false_iff_eq]; omega
  rw [this,A58 h,A5p]
 ·have:((((n / 2^s*2^s:Nat):Int)) !=(n:Int))=true:=by
   simp only [bne_iff_ne,ne_eq]; omega
  rw [this,A57 h,A5l]
theorem sum.right.known:sum.right.Kn:=sum.right.Ae .nil fun m d hp=>by
 obtain ⟨h1,h2⟩:=Ag.1 hp
 obtain ⟨n,rfl,hn⟩:=Cb h1
 have h2:=As.1 h2
 obtain ⟨d,rfl⟩:∃ k:Nat,d=k:=⟨d.toNat,by omega⟩
 refine ⟨0,sum.right.out [.i n,.i d],[],?_,.int⟩
 rw [sum.right.ev,Aw]
 show _=some (DV.int .u64 (Fk n d))
 unfold Fk
 rw [A5n,A5n]
 by_cases h:63<d
 ·have:decide ((63:Int)<(d:Int))=true:=by simp; omega
  rw [this,A5l,Nat.min_eq_right (by omega)]
  exact Aao hn (A6f 63)
 ·have:decide ((63:Int)<(d:Int))=false:=by simp; omega
  have h0:decide ((0:Int)≤(d:Int))=true:=by simp
  rw [this,A5p,h0,A5l,A5l,Nat.min_eq_left (by omega)]
  exact Aao hn (by omega)
theorem Alg:((Sw:Nat):Int)=9221120237041090560:=rfl
theorem sum.Ee.known:sum.Ee.Kn:=sum.Ee.Ae (.cons soft.Finite.known (.cons soft.Kind.known .nil)) fun a b hp=>by
 obtain ⟨h1,h2⟩:=Ag.1 hp
 obtain ⟨ha,hb⟩:=Ag.1 h1
 obtain ⟨a,rfl,hn⟩:=Cb ha
 obtain ⟨b,rfl,hm⟩:=Cb hb
 refine ⟨0,sum.Ee.out [.i a,.i b],[],?_,Wk.Jc (.cons .int (.cons .int .nil))⟩
 rw [sum.Ee.ev,ha,hb]
 show _=some (DV.tup [.int .u64 (Le a b),.int .u8 (Yr a b)])
 unfold Le Yr Fz A3 Dm
 simp only [A5n,A5l]
 unfold Dm at h2
 simp only [A5n] at h2
 by_cases a4:Aj a=4
 ·simp [a4,Alg]
 ·have e4:((Aj a:Int)==4)=false:=by simp; omega
  rw [e4,A5p]
  by_cases b4:Aj b=4
  ·simp [b4,Alg]
  ·have f4:((Aj b:Int)==4)=false:=by simp; omega
   rw [f4,A5p]
   have ka:=Abi a
   have kb:=Abi b
   by_cases a3:Aj a=3
   ·have fa:H0 a=false:=by rw [ka]; simp [a3]
    rw [fa,A5p]
    by_cases b3:Aj b=3
    ·have fb:H0 b=false:=by rw [kb]; simp [b3]
     rw [fb]
     by_cases hab:a=b
     ·subst hab; simp [a3]
     ·have hab':((a:Int)==(b:Int))=false:=by simp; omega
      rw [hab']
      simp [a3,b3,hab,Alg]
    ·have fb:H0 b=true:=by rw [kb]; simp [b3,b4]
     rw [fb]
     simp [a3,b3,b4]
   ·have fa:H0 a=true:=by rw [ka]; simp [a3,a4]
    have b3:Aj b=3:=by
     rw [fa,kb] at h2
     simp [b4] at h2
     exact h2
    rw [fa,A5l]
    simp [a3,b3,a4]
def Alo (na nb:Bool) (X r:Nat) (e:Int):Nat × Nat :=
 if na=nb then Gz na (X+r) e false else if r<X then Gz na (X-r) e false else if X<r then Gz nb (r-X) e false else (0,0)
theorem Xg {na:Bool} {m:Int} {n:Nat} {e e':Int} (h:m=n) (he:e'=e) (hn:n<2^64) (h1:-1100≤e) (h2:e≤1000) :
 (bif El m e' false then some (DV.tup [.int .u64 (E6 na m e' false),.int .u8 (E5 na m e' false)]) else none)
  = some (.tup [.int .u64 (((Gz na n e false).1:Nat):Int),.int .u8 (((Gz na n e false).2:Nat):Int)]):=by
 subst h; subst he
 have hp:El (n:Int) e' false=true:=As.2 ⟨by omega,by omega,by omega,.inl (by omega),fun h=>by cases h⟩
 rw [hp,A5l]
 unfold E6 E5
 rw [A5n]
theorem Ai0 (na nb:Bool) {X r:Nat} {e e':Int} (hX:X<2^62) (hr:r≤2^62) (h:e'=e) (h1:-1100≤e) (h2:e≤1000) :
 (bif (na==nb) then
  bif El (Bc ((X:Int)+(r:Int))) e' false then some (DV.tup [.int .u64 (E6 na (Bc ((X:Int)+(r:Int))) e' false),.int .u8 (E5 na (Bc ((X:Int)+(r:Int))) e' false)]) else none
 else bif Ba (r:Int) (X:Int) then
  bif El (Bc ((X:Int)-(r:Int))) e' false then some (DV.tup [.int .u64 (E6 na (Bc ((X:Int)-(r:Int))) e' false),.int .u8 (E5 na (Bc ((X:Int)-(r:Int))) e' false)]) else none
 else bif Ba (X:Int) (r:Int) then
  bif El (Bc ((r:Int)-(X:Int))) e' false then some (DV.tup [.int .u64 (E6 nb (Bc ((r:Int)-(X:Int))) e' false),.int .u8 (E5 nb (Bc ((r:Int)-(X:Int))) e' false)]) else none
 else some (.tup [.int .u64 (0:Int),.int .u8 (0:Int)])) =
  some (.tup [.int .u64 (((Alo na nb X r e).1:Nat):Int),.int .u8 (((Alo na nb X r e).2:Nat):Int)]):=by
 unfold Alo
 rw [Aw,Aw]
 by_cases hs:na=nb
 ·have:(na==nb)=true:=by simp [hs]
  rw [this,A5l,A58 hs]
  exact Xg (by rw [C5 (by omega) (by omega)]; omega) h (by omega) h1 h2
 ·have:(na==nb)=false:=by simp [hs]
  rw [this,A5p,A57 hs]
  by_cases hl:r<X
  ·have:decide ((r:Int)<(X:Int))=true:=by simp; omega
   rw [this,A5l,A58 hl]
   exact Xg (by rw [C5 (by omega) (by omega)]; omega) h (by omega) h1 h2
  ·have:decide ((r:Int)<(X:Int))=false:=by simp; omega
   rw [this,A5p,A57 hl]
   by_cases hg:X<r
   ·have:decide ((X:Int)<(r:Int))=true:=by simp; omega
    rw [this,A5l,A58 hg]
    exact Xg (by rw [C5 (by omega) (by omega)]; omega) h (by omega) h1 h2
   ·have:decide ((X:Int)<(r:Int))=false:=by simp; omega
    rw [this,A5p,A57 hg]
    rfl
theorem Am9 {a b:Nat} (ha:H0 a=true) (hb:H0 b=true) (hle:Av b≤Av a) :
 ∃ X r:Nat,X<2^62∧r≤2^62∧B5 .u64 (Bt a) (9:Int)=(X:Int)∧Fk (B5 .u64 (Bt b) (9:Int)) (Ac (Bb a-Bb b))=(r:Int)
  ∧ Ac (Bb a-9)=Av a-9
  ∧ (Ao (B5 .u64 (Bt b) (9:Int))&&Cz (0≤(Ac ((Bb a)-(Bb b)))∧(Ac ((Bb a)-(Bb b)))<1000000))=true
  ∧ Alo (Ea a) (Ea b) X r (Av a-9)=Fz a b:=by
 obtain ⟨d,hd⟩:∃ d:Nat,Av a=Av b+d:=⟨(Av a-Av b).toNat,by omega⟩
 have hx:=Fi a
 have hy:=Fi b
 have ea:=Cq a
 have eb:=Cq b
 have C:=Aiz (Mx:=An a) (My:=An b) hd hx hy (fun h=>Adj (by omega))
 have sh:∀ m:Nat,m<2^53→B5 .u64 (m:Int) (9:Int)=((m*2^9:Nat):Int):=fun m hm=>by
  have:=Gg m 9 (by decide)
  rw [A5y (by omega)] at this
  exact this
 have h2:Ac (Bb a-Bb b)=(d:Int):=by
  unfold Bb
  rw [A5n,A5n,Ap (by omega) (by omega)]; omega
 have s1:B5 .u64 (Bt a) (9:Int)=((An a*2^9:Nat):Int):=by
  unfold Bt; rw [A5n]; exact sh _ hx
 have s2:B5 .u64 (Bt b) (9:Int)=((An b*2^9:Nat):Int):=by
  unfold Bt; rw [A5n]; exact sh _ hy
 refine ⟨An a*2^9,Gj (An b*2^9) (min d 63),by omega,C.small,s1,?_,?_,?_,?_⟩
 ·rw [s2,h2]; unfold Fk; rw [A5n,A5n]
 ·unfold Bb; rw [A5n,Ap (by omega) (by omega)]
 ·rw [s2,h2,Ck (by omega),A6y]
  exact As.2 ⟨by omega,by omega⟩
 ·unfold Ea
  rw [A5n,A5n,Aiy ha hb hd]
  rfl
theorem sum.Add.known:sum.Add.Kn:=sum.Add.Ae (.cons soft.Finite.known (.cons soft.Df.known (.cons soft.F1.known (.cons soft.Sign.known (.cons sum.right.known (.cons sum.Ee.known .nil)))))) fun a b hp=>by
 obtain ⟨ha,hb⟩:=Ag.1 hp
 obtain ⟨a,rfl,hn⟩:=Cb ha
 obtain ⟨b,rfl,hm⟩:=Cb hb
 refine ⟨0,sum.Add.out [.i a,.i b],[],?_,Wk.Jc (.cons .int (.cons .int .nil))⟩
 rw [sum.Add.ev,ha,hb]
 show _=some (DV.tup [.int .u64 (Le a b),.int .u8 (Yr a b)])
 rw [A6x,A5l,A5l]
 by_cases hf:(!(Dm a)||!(Dm b))=true
 ·rw [hf]; rfl
 ·have hf:(!(Dm a)||!(Dm b))=false:=by simpa using hf
  rw [hf,A5p,A5l,A5l,A5l,A5l]
  have fa:H0 a=true:=by
   have:=(Bool.or_eq_false_iff.1 hf).1
   unfold Dm at this
   simpa using this
  have fb:H0 b=true:=by
   have:=(Bool.or_eq_false_iff.1 hf).2
   unfold Dm at this
   simpa using this
  have xa:=Cq a
  have xb:=Cq b
  rw [Aw]
  by_cases hl:Av a<Av b
  ·obtain ⟨X,r,hX,hr,e1,e2,e3,e4,e5⟩:=Am9 fb fa (by omega)
   have:decide (Bb a<Bb b)=true:=by unfold Bb; simpa using hl
   rw [this,A5l,e4,A5l,e1,e2,Ai0 _ _ hX hr e3 (by omega) (by omega),e5,Ap2]
   rfl
  ·obtain ⟨X,r,hX,hr,e1,e2,e3,e4,e5⟩:=Am9 fa fb (by omega)
   have:decide (Bb a<Bb b)=false:=by unfold Bb; simpa using hl
   rw [this,A5p,e4,A5l,e1,e2,Ai0 _ _ hX hr e3 (by omega) (by omega),e5]
   rfl
theorem sum.Sub.known:sum.Sub.Kn:=sum.Sub.Ae (.cons soft.Gh.known (.cons sum.Add.known .nil)) fun a b hp=>by
 obtain ⟨ha,hb⟩:=Ag.1 hp
 obtain ⟨b,rfl,hm⟩:=Cb hb
 refine ⟨0,sum.Sub.out [.i a,.i b],[],?_,Wk.Jc (.cons .int (.cons .int .nil))⟩
 have:Ao (D6 (b:Int))=true:=by unfold D6; rw [A5n]; exact Ck (Xj hm)
 rw [sum.Sub.ev,ha,hb,this]
 unfold Le Yr D6
 rw [A5n]
 rfl
end Go.Proofs.S1
end
