/- A verified evaluator of the program's form and its use for this seat: S1PSoft, S1PPack, S1PNear, S1EqSum, S1PSum. -/
import Derived.Test.YthajngaadbanfaaGreatTF
import Derived.Test.YthajngaadbanfaaGreatTE
set_option linter.unusedVariables false
set_option linter.unusedSimpArgs false
noncomputable section
open Int (toNat)
open List (length getD)
open Go.Proofs.Tryz
namespace Go.Proofs.S1
open Go Go.Den Go.Rnd Go.Proofs
theorem Ac {a b:Bool}:(a&&b)=true↔a=true∧b=true:=by simp
theorem Amc {n:Nat} (hn:n<2^64):((Ef .u64 (n:Int) (63:Int))==(1:Int))=Eb n:=by
 rw [show (63:Int)=((63:Nat):Int) from rfl,Jc .u64 n 63 (by decide)]
 unfold Eb By
 rw [A4i,A4w]
 simp only [beq_iff_eq,A4n]
 omega
theorem Avb {n:Nat} (hn:n<2^64):Ab (Fx .u64 (Ef .u64 (n:Int) (52:Int)) (2047:Int))=Nt n:=by
 rw [show (52:Int)=((52:Nat):Int) from rfl,Jc .u64 n 52 (by decide),show (2047:Int)=((2^11-1:Nat):Int) from rfl,J9 11 (by omega) (by decide)]
 unfold Nt Ea
 rw [A4i,An (by omega) (by omega)]
theorem As7 {n:Nat} (hn:n<2^64):Fx .u64 (n:Int) (4503599627370495:Int)=Dw n:=by
 rw [show (4503599627370495:Int)=((2^52-1:Nat):Int) from rfl,J9 52 hn (by decide)]
 unfold Dw Dr
 rw [A4i]
theorem soft.Split.known:soft.Split.Kn:=EqSoft.soft.Split.Ad .nil fun x hp=>by
 obtain ⟨n,rfl,hn⟩:=Bw (x:=x) hp
 refine ⟨0,soft.Split.out [.i n],[],?_,Wk.F7 (.cons .bool (.cons .int (.cons .int .nil)))⟩
 rw [EqSoft.soft.Split.ev,Amc hn,Avb hn,As7 hn]
 rfl
theorem soft.Kind.known:soft.Kind.Kn:=EqSoft.soft.Kind.Ad (.cons soft.Split.known .nil) fun x hp=>by
 obtain ⟨n,rfl,hn⟩:=Bw (x:=x) hp
 refine ⟨0,soft.Kind.out [.i n],[],?_,.int⟩
 rw [EqSoft.soft.Kind.ev,Cm hn]
 show _=some (DV.int .i64 (Bz n))
 unfold Bz Aj Nt Dw
 simp only [A4i,A4g,Av]
 have:=J4 n
 by_cases h1:Ea n=2047
 ·by_cases h2:Dr n=0
  ·simp [h1,h2]
  ·have:((Dr n:Int)==0)=false:=by simp; exact h2
   simp [h1,this,h2]
 ·have h1':((Ea n:Int)==2047)=false:=by simp; omega
  rw [h1']
  by_cases h3:0<Ea n
  ·simp [h1,h3]
  ·by_cases h4:0<Dr n
   ·simp [h1,h3,h4]
   ·simp [h1,h3,h4]
theorem soft.Sign.known:soft.Sign.Kn:=EqSoft.soft.Sign.Ad .nil fun x hp=>by
 obtain ⟨n,rfl,hn⟩:=Bw (x:=x) hp
 refine ⟨0,soft.Sign.out [.i n],[],?_,.bool⟩
 rw [EqSoft.soft.Sign.ev,Amc hn]
 rfl
theorem Aa8 (n:Nat):Jy n=!(decide (Aj n=3)||decide (Aj n=4)):=by
 have:=J4 n
 unfold Jy Aj
 by_cases h1:Ea n=2047
 ·by_cases h2:Dr n=0<;>simp [h1,h2]
 ·have:Ea n<2047:=by omega
  by_cases h3:0<Ea n
  ·simp [h1,h3,this]
  ·by_cases h4:0<Dr n<;>simp [h1,h3,h4,this]
theorem soft.Finite.known:soft.Finite.Kn:=EqSoft.soft.Finite.Ad (.cons soft.Kind.known .nil) fun x hp=>by
 obtain ⟨n,rfl,hn⟩:=Bw (x:=x) hp
 refine ⟨0,soft.Finite.out [.i n],[],?_,.bool⟩
 rw [EqSoft.soft.Finite.ev,Cm hn]
 show _=some (DV.bool (Dz n))
 unfold Dz Bz
 rw [A4i,Aa8]
 by_cases h3:Aj n=3
 ·simp [h3]
 ·by_cases h4:Aj n=4
  ·simp [h4]
  ·have e3:((Aj n:Int)==3)=false:=by simp; omega
   have e4:((Aj n:Int)==4)=false:=by simp; omega
   simp [h3,h4,e3,e4]
theorem Aov {n:Nat} (hn:n<2^64):Awr .u64 (n:Int) (9223372036854775808:Int)=Cz n:=by
 rw [show (9223372036854775808:Int)=((2^63:Nat):Int) from rfl,At6 hn (by decide),Aum hn]
 unfold Cz I5
 rw [A4i]
theorem soft.Du.known:soft.Du.Kn:=EqSoft.soft.Du.Ad .nil fun x hp=>by
 obtain ⟨n,rfl,hn⟩:=Bw (x:=x) hp
 refine ⟨0,soft.Du.out [.i n],[],?_,.int⟩
 rw [EqSoft.soft.Du.ev,Aov hn]
 rfl
theorem soft.G0.known:soft.G0.Kn:=EqSoft.soft.G0.Ad (.cons soft.Split.known .nil) fun x hp=>by
 obtain ⟨n,rfl,hn⟩:=Bw (x:=x) hp
 refine ⟨0,soft.G0.out [.i n],[],?_,Wk.Hm (.cons .int (.cons .int .nil))⟩
 rw [EqSoft.soft.G0.ev,Cm hn]
 show _=some (DV.tup [.int .u64 (B6 n),.int .i64 (Bp n)])
 have hf:=Kj n
 have hp:=J4 n
 unfold B6 Bp Nt Dw Ay A3
 rw [A4i]
 by_cases h:Ea n=0
 ·simp [h]
 ·have e:((Ea n:Int)==0)=false:=by simp; omega
  have e2:Jk .u64 ((Dr n:Nat):Int) (4503599627370496:Int)=((Dr n+2^52:Nat):Int):=by
   rw [show (4503599627370496:Int)=((1*2^52:Nat):Int) from rfl,Apx (by omega) (by omega)]
   congr 1; omega
  rw [e,e2,An (by omega) (by omega)]
  simp [h]
theorem Afk {r:Nat} (h:r<2^63):Cz r=((2^63+r:Nat):Int):=by
 unfold Cz; rw [A4i,Aax h]
theorem Pg {r:Nat} (h:r<2^63) (n:Bool):(bif n then (bif (Af (r:Int)) then some (DV.int .u64 (Cz r)) else none) else some (DV.int .u64 r))=some (DV.int .u64 ((Bo n r:Nat):Int)):=by
 cases n
 ·rfl
 ·rw [Cm (by omega),Afk h]; rfl
theorem Qe (n:Bool) (m:Nat) (e:Int):Vy n m e=((Bo n (Ck m e):Nat):Int):=by
 unfold Vy; rw [A4i]
theorem Ake {E M:Nat} (h1:1≤E) (h2:E≤2046) (h3:4503599627370496≤M) (h4:M<9007199254740992):E*2^52+M%2^52=min ((E-1)*2^52+M) Ek:=by
 obtain ⟨k,rfl⟩:∃ k,E=k+1:=⟨E-1,by omega⟩
 obtain ⟨r,rfl⟩:∃ r,M=2^52+r:=⟨M-2^52,by omega⟩
 have hr:r<2^52:=by omega
 have hm:(2^52+r)%2^52=r:=by rw [Nat.add_mod_left,A4t hr]
 have hk:k*2^52≤2045*2^52:=A4s _ (by omega)
 have hi:Ek=2045*2^52+2^52+2^52:=by unfold Ek; rfl
 rw [hm,Nat.add_sub_cancel,Nat.succ_mul,hi]
 generalize 2^52=c at *
 omega
theorem soft.Pack.known:soft.Pack.Kn:=EqSoft.soft.Pack.Ad (.cons soft.Du.known .nil) fun rk n m e hp hr=>by
 have hp:=Aq.1 (show Mi m e=true from hp)
 have hr:Q7 m e<rk+1:=hr
 obtain ⟨m0,m1,e0,e1⟩:=hp
 obtain ⟨M,rfl⟩:∃ M:Nat,m=M:=⟨m.toNat,by omega⟩
 refine ⟨0,soft.Pack.out [.b n,.i M,.i e],[],?_,.int⟩
 rw [EqSoft.soft.Pack.ev]
 show _=some (DV.int .u64 (Vy n M e))
 rw [Qe]
 unfold Q7 at hr
 by_cases h0:M=0
 ·subst h0
  have:=Pg (r:=0) (by decide) n
  have e0:Ck 0 e=0:=rfl
  rw [e0]
  simpa using this
 ·have b0:((M:Int)==0)=false:=by simp; omega
  rw [b0,A4k]
  by_cases h1:M=9007199254740992
  ·have b1:Ex (9007199254740992:Int) (M:Int)=true:=by rw [Fk]; simp; omega
   have s1:Ef .u64 (M:Int) (1:Int)=((2^52:Nat):Int):=by
    rw [show (1:Int)=((1:Nat):Int) from rfl,Jc .u64 M 1 (by decide),h1]
   have w1:Ab (e+1)=e+1:=An (by omega) (by omega)
   rw [A43 (by omega)] at hr
   have p1:Mi ((2^52:Nat):Int) (e+1)=true:=Aq.2 (by omega)
   have p2:B5 (Q7 ((2^52:Nat):Int) (e+1)<rk)=true:=Aq.2 (by
    unfold Q7
    rw [A42 (by omega),A42 (by omega)]; omega)
   rw [b1,s1,w1,p1,p2,Qe,h1]
   have:=(D1 (2^52) 1 (e+1)).1
   have e2:e+1-((1:Nat):Int)=e:=by omega
   rw [e2] at this
   rw [← this]; rfl
  ·have b1:Ex (9007199254740992:Int) (M:Int)=false:=by rw [Fk]; simp; omega
   rw [b1,A4k]
   rw [A42 (by omega)] at hr
   by_cases h2:M<4503599627370496
   ·have b2:Bb (M:Int) (4503599627370496:Int)=true:=by rw [Av]; simp; omega
    rw [A43 (by omega)] at hr
    by_cases h3:e=-1074
    ·subst h3
     have b3:Bb (-1074:Int) (-1074)=false:=by decide
     rw [b2,b3,A5t,A4k,A4g,Z7 h2]
     exact Pg (by omega) n
    ·have b3:Bb (-1074:Int) e=true:=by rw [Av]; simp; omega
     have s1:Ch .u64 (M:Int) (1:Int)=((M*2^1:Nat):Int):=by
      rw [show (1:Int)=((1:Nat):Int) from rfl,Gx M 1 (by decide),A4t (by omega)]
     have w1:Ab (e-1)=e-1:=An (by omega) (by omega)
     have p1:Mi ((M*2^1:Nat):Int) (e-1)=true:=Aq.2 (by omega)
     have p2:B5 (Q7 ((M*2^1:Nat):Int) (e-1)<rk)=true:=Aq.2 (by
      unfold Q7
      rw [A42 (by omega)]
      split<;>omega)
     rw [b2,b3,s1,w1,p1,p2,Qe]
     have:=(D1 M 1 e).1
     have e2:e-((1:Nat):Int)=e-1:=by omega
     rw [e2] at this
     rw [this]; rfl
   ·have b2:Bb (M:Int) (4503599627370496:Int)=false:=by rw [Av]; simp; omega
    have w1:Ab (e+1075)=e+1075:=An (by omega) (by omega)
    rw [b2,w1,Bool.false_and,A4k,A4k]
    have hr:=N7 (m:=M) (e:=e) (by omega) (by omega) e0
    by_cases h4:2047≤e+1075
    ·have b4:Ex (2047:Int) (e+1075)=true:=by rw [Fk]; simp; omega
     have:Ck M e=9218868437227405312:=by rw [hr,Gb]; omega
     rw [b4,this,A4g]
     exact Pg (r:=9218868437227405312) (by decide) n
    ·have b4:Ex (2047:Int) (e+1075)=false:=by rw [Fk]; simp; omega
     obtain ⟨E,hE⟩:∃ E:Nat,e+1075=E:=⟨(e+1075).toNat,by omega⟩
     have s1:Jk .u64 (Ch .u64 (Bq (e+1075)) (52:Int)) (Fx .u64 (M:Int) (4503599627370495:Int))=((Ck M e:Nat):Int):=by
      rw [hE,Eh (by omega) (by omega),show (52:Int)=((52:Nat):Int) from rfl,Gx E 52 (by decide),A4t (by omega),
       show (4503599627370495:Int)=((2^52-1:Nat):Int) from rfl,J9 52 (by omega) (by decide),O0 (by omega) (by omega)]
      have hE2:(e+1074).toNat=E-1:=by omega
      have hE3:1≤E∧E≤2046:=by omega
      have hM:4503599627370496≤M∧M<9007199254740992:=by omega
      rw [hr,hE2]
      exact congrArg (fun (x:Nat)=>(x:Int)) (Ake hE3.1 hE3.2 hM.1 hM.2)
     rw [b4,s1,A4k]
     exact Pg (Q2 M e) n
open EqSoft
theorem Aqf {D:Nat} (h:D≤63):2^D<2^64:=Nat.pow_lt_pow_right (by decide) (by omega)
theorem Rv (n:Bool) {r:Nat} (h:r<2^63):Ie .u64 ((Bo n r:Nat):Int) (9223372036854775808:Int)=(r:Int):=by
 have hs:Bo n r<2^64:=by unfold Bo; split<;>omega
 unfold Ie
 rw [show (9223372036854775808:Int)=((2^63:Nat):Int) from rfl,BitVec.toNat_and,BitVec.toNat_not,J6,J6,show IntKind.u64.bits=64 from rfl,A4t hs,
  show 2^64-1-2^63%2^64=2^63-1 by decide,Nat.and_two_pow_sub_one_eq_mod]
 have:Bo n r%2^63=r:=by unfold Bo; cases n<;>simp<;>omega
 rw [this]
 exact Vf (by omega)
theorem Akm (N:Nat) (ex n:Bool) {r:Nat} (h:r≤Ek):soft.D9.C18 N ex ((Bo n r:Nat):Int)=some (.tup [.int .u64 ((Bo n r:Nat):Int),.int .u8 ((flags r ex:Nat):Int)]):=by
 have h63:r<2^63:=by rw [Gb] at h; omega
 have hs:Bo n r<2^64:=by unfold Bo; split<;>omega
 rw [soft.D9.Alj,Rv n h63,Cm hs]
 unfold Bz flags
 rw [A4i,Xw n h]
 have hinf:(((r:Nat):Int)==(9218868437227405312:Int))=decide (r=Ek):=by
  rw [Gb,A4w]; simp; omega
 rw [hinf]
 by_cases h1:r=Ek
 ·simp [h1]
 ·by_cases h2:2^52≤r
  ·cases ex<;>simp [h1]<;>simp [show 4503599627370496≤r by omega]
  ·by_cases h3:0<r
   ·cases ex<;>simp [h1,h3]<;>simp [show ¬ 4503599627370496≤r by omega]
   ·cases ex<;>simp [h1,h3]<;>simp [show ¬ 4503599627370496≤r by omega]
theorem Aoo (N:Nat) (n:Bool) {m:Nat} {e:Int} (he:-1140≤e∧e≤50000) (r:Bool):∀ (k d F:Nat),d+k=62→k<F→(∀ d',d'<d→2^53≤m / 2^d'∨e+d' < -1074) →
 ∃ D:Nat,soft.D9.L0 N F n m e r (d:Int)=soft.D9.C7 N n m e r (D:Int)∧Drop m e D:=by
 intro k
 induction k with
 | zero =>
   intro d F hd hF hl
   obtain ⟨F,rfl⟩:∃ G,F=G+1:=⟨F-1,by omega⟩
   obtain rfl:d=62:=by omega
   rw [soft.D9.Ar,Jc .u64 m 62 (by decide),An (by omega) (by omega),An (by omega) (by omega),Fk,Av]
   have a0:decide ((0:Int)≤((62:Nat):Int))=true:=by decide
   have a1:((((62:Nat):Int)+1)==63)=true:=by decide
   rw [a0,A4g,a1,A4g]
   by_cases h:2^53≤m / 2^62∨e+(62:Nat) < -1074
   ·refine ⟨63,?_,by omega,by omega,fun d' hd'=>?_⟩
    ·have:(decide ((9007199254740992:Int)≤((m / 2^62:Nat):Int))||decide (e+((62:Nat):Int) < -1074))=true:=by
      simp only [Bool.or_eq_true,A4n]; omega
     rw [this]; rfl
    ·rcases A5d d' 62 with h' | h'
     ·exact hl d' h'
     ·obtain rfl:d'=62:=by omega
      exact h
   ·refine ⟨62,?_,by omega,fun _=>by omega,hl⟩
    have:(decide ((9007199254740992:Int)≤((m / 2^62:Nat):Int))||decide (e+((62:Nat):Int) < -1074))=false:=by
     simp only [Bool.or_eq_false_iff,A4z]; omega
    rw [this]; rfl
 | succ k ih =>
   intro d F hd hF hl
   obtain ⟨F,rfl⟩:∃ G,F=G+1:=⟨F-1,by omega⟩
   rw [soft.D9.Ar,Jc .u64 m d (by show d≤64; omega),An (by omega) (by omega),An (by omega) (by omega),Fk,Av]
   have a0:decide ((0:Int)≤(d:Int))=true:=by simp
   have a1:(((d:Int)+1)==63)=false:=by simp; omega
   rw [a0,A4g,a1,A4k]
   by_cases h:2^53≤m / 2^d∨e+d < -1074
   ·have:(decide ((9007199254740992:Int)≤((m / 2^d:Nat):Int))||decide (e+(d:Int) < -1074))=true:=by
     simp only [Bool.or_eq_true,A4n]; omega
    rw [this,A4g,show (d:Int)+1=((d+1:Nat):Int) by omega]
    refine ih (d+1) F (by omega) (by omega) fun d' hd'=>?_
    rcases A5d d' d with h' | h'
    ·exact hl d' h'
    ·obtain rfl:d'=d:=by omega
     exact h
   ·refine ⟨d,?_,by omega,fun _=>by omega,hl⟩
    have:(decide ((9007199254740992:Int)≤((m / 2^d:Nat):Int))||decide (e+(d:Int) < -1074))=false:=by
     simp only [Bool.or_eq_false_iff,A4z]; omega
    rw [this]; rfl
theorem Aon (N:Nat) (n:Bool) {m D:Nat} (hm:m<2^64) {e:Int} (he:-1140≤e∧e≤50000) (r:Bool) (hD:D≤63) (hq:(if e+D < -1074 then 0 else qOf m D r.toNat)≤2^53) :
 soft.D9.C7 N n m e r (D:Int)=soft.D9.C18 N (decide (m%2^D=0∧r.toNat=0)) ((Bo n (Ck (if e+D < -1074 then 0 else qOf m D r.toNat) (max (e+D) (-1074))):Nat):Int):=by
 have hA:=Cp D
 have h2D:=Aqf hD
 have hr:=Nat.mod_lt m hA
 have hqm:m / 2^D≤m:=Nat.div_le_self _ _
 rw [soft.D9.Aeg]
 have a0:decide ((0:Int)≤(D:Int))=true:=by simp
 have e1:Ef .u64 (m:Int) (D:Int)=((m / 2^D:Nat):Int):=Jc .u64 m D (by show D≤64; omega)
 have e2:Ch .u64 (1:Int) (D:Int)=((2^D:Nat):Int):=by
  rw [show (1:Int)=((1:Nat):Int) from rfl,Gx 1 D (by omega),Nat.one_mul,A4t h2D]
 have e3:Fx .u64 (m:Int) (Bq (Ch .u64 (1:Int) (D:Int)-(1:Int)))=((m%2^D:Nat):Int):=by
  rw [e2,Eh (by omega) (by omega),show ((2^D:Nat):Int)-1=((2^D-1:Nat):Int) by omega,J9 D hm (by omega)]
 have e5:(bif (((m%2^D:Nat):Int)==(0:Int)) then (!r) else false)=decide (m%2^D=0∧r.toNat=0):=by
  by_cases h:m%2^D=0
  ·cases r<;>simp [h]
  ·have:(((m%2^D:Nat):Int)==(0:Int))=false:=by simp only [A5b,ne_eq]; omega
   rw [this]; simp [h]
 rw [a0,A4g,A4g,e1,e3,e5,Av]
 have last:∀ (p:Bool) (q:Nat),q≤2^64-1→(if e+D < -1074 then 0 else q)≤2^53→soft.D9.C14 N n e (D:Int) ((q:Nat):Int) p=soft.D9.C18 N p ((Bo n (Ck (if e+D < -1074 then 0 else q) (max (e+D) (-1074))):Nat):Int):=by
  intro p q hq hq2
  rw [soft.D9.Azc,An (by omega) (by omega),Av]
  have c16:∀ q':Nat,q'≤2^53→soft.D9.C16 N n e (q':Int) (D:Int) p=soft.D9.C18 N p ((Bo n (Ck q' (max (e+D) (-1074))):Nat):Int):=by
   intro q' hq'
   rw [soft.D9.Alk,An (by omega) (by omega)]
   have:Mi (q':Int) (max (e+(D:Int)) (-1074))=true:=Aq.2 (by omega)
   rw [this,Qe]; rfl
  by_cases h:e+D < -1074
  ·rw [A43 h] at hq2 ⊢
   have:decide (e+(D:Int) < -1074)=true:=by simpa using h
   rw [this]
   exact c16 0 hq2
  ·rw [A42 h] at hq2 ⊢
   have:decide (e+(D:Int) < -1074)=false:=by simpa using h
   rw [this]
   exact c16 q hq2
 have up:∀ (half:Nat) (hh:0<D→half=2^(D-1)) (p:Bool),soft.D9.C12 N n e r (D:Int) ((m / 2^D:Nat):Int) ((m%2^D:Nat):Int) (half:Int) p=soft.D9.C18 N p ((Bo n (Ck (if e+D < -1074 then 0 else qOf m D r.toNat) (max (e+D) (-1074))):Nat):Int):=by
  intro half hh p
  rw [soft.D9.Ve,Av,Av]
  have odd:(Fx .u64 ((m / 2^D:Nat):Int) (1:Int)==(1:Int))=decide (m / 2^D%2=1):=by
   rw [show (1:Int)=((2^1-1:Nat):Int) from rfl,J9 1 (by omega) (by decide),A4w]
   simp only [beq_iff_eq,A4n]
   omega
  rw [odd]
  have test:(decide ((0:Int)<(D:Int))&&(decide ((half:Int)<((m%2^D:Nat):Int))||((((m%2^D:Nat):Int)==(half:Int))&&(r||decide (m / 2^D%2=1))))) =
   decide (0<D∧(2^(D-1)<m%2^D∨(m%2^D=2^(D-1)∧(r.toNat=1∨m / 2^D%2=1)))):=by
   rw [A4w]
   generalize m%2^D=rr
   generalize m / 2^D=qq
   generalize hg:2^(D-1)=gg at hh
   by_cases h0:0<D
   ·have:=hh h0
    subst this
    cases r<;>simp [h0]<;>omega
   ·simp [h0]
  rw [test]
  by_cases ht:0<D∧(2^(D-1)<m%2^D∨(m%2^D=2^(D-1)∧(r.toNat=1∨m / 2^D%2=1)))
  ·have hq1:qOf m D r.toNat=m / 2^D+1:=by unfold qOf; rw [A43 ht]
   have hlt:m / 2^D+1<2^64:=by
    obtain ⟨d,rfl⟩:∃ d,D=d+1:=⟨D-1,by omega⟩
    have h1:m / 2^(d+1)≤m / 2:=Nat.div_le_div_left (by rw [Nat.pow_succ]; have:=Cp d; omega) (by decide)
    omega
   rw [hq1] at hq ⊢
   rw [A4h ht,A4g,Eh (by omega) (by omega),show ((m / 2^D:Nat):Int)+1=((m / 2^D+1:Nat):Int) by omega]
   exact last p _ (by omega) hq
  ·have hq1:qOf m D r.toNat=m / 2^D:=by unfold qOf; rw [A42 ht]; rfl
   rw [hq1] at hq ⊢
   rw [A4l ht,A4k]
   exact last p _ (by omega) hq
 rcases Nat.eq_zero_or_pos D with rfl | hpos
 ·have:decide ((0:Int)<((0:Nat):Int))=false:=by decide
  rw [this,A4k]
  exact up 0 (fun h=>absurd h (by omega)) _
 ·have h1:decide ((0:Int)<(D:Int))=true:=by simpa using hpos
  have h2:Ab ((D:Int)-1)=((D-1:Nat):Int):=by rw [An (by omega) (by omega)]; omega
  have h3:decide ((0:Int)≤((D-1:Nat):Int))=true:=by simp
  have h4:Ch .u64 (1:Int) ((D-1:Nat):Int)=((2^(D-1):Nat):Int):=by
   rw [show (1:Int)=((1:Nat):Int) from rfl,Gx 1 (D-1) (by omega),Nat.one_mul,A4t (Aqf (by omega))]
  rw [h1,A4g,h2,h3,A4g,h4]
  exact up _ (fun _=>rfl) _
theorem soft.D9.known:soft.D9.Kn:=soft.D9.Ad (.cons soft.Kind.known (.cons soft.Pack.known .nil)) fun n m e r hp=>by
 obtain ⟨m0,m1,e1,e2,hr⟩:=Aq.1 (show Fe m e r=true from hp)
 obtain ⟨M,rfl⟩:∃ M:Nat,m=M:=⟨m.toNat,by omega⟩
 refine ⟨63,soft.D9.out [.b n,.i M,.i e,.b r],[],?_,Wk.Hm (.cons .int (.cons .int .nil))⟩
 show _=some (DV.tup [.int .u64 (F0 n M e r),.int .u8 (Fz n M e r)])
 unfold F0 Fz Hu
 rw [A4i,soft.D9.ev]
 dsimp only
 by_cases h0:M=0∧r=false
 ·obtain ⟨rfl,rfl⟩:=h0
  have:Mi (0:Int) (-1074)=true:=Aq.2 (by omega)
  have hp0:=Qe n 0 (-1074)
  rw [this]
  simp only [A5z,Bool.and_true,A4g,Bool.toNat_false]
  have hz:(((0:Nat):Int)==0)=true:=rfl
  rw [hz,A4g]
  have hp0:Vy n (0:Int) (-1074)=((Bo n (Ck 0 (-1074)):Nat):Int):=hp0
  have z:∀ E,Ck 0 E=0:=fun E=>A43 rfl
  have z3:∀ E,flagsOf 0 E=0:=fun E=>A43 rfl
  rw [hp0,z,show 4*0+0=0 from rfl,z,z3]
  rfl
 ·have hc:((((M:Nat):Int)==(0:Int))&&!r)=false:=by
   cases r
   ·have:M≠0:=fun h=>h0 ⟨h,rfl⟩
    simp; omega
   ·simp
  rw [hc,A4k]
  have he:-1140≤e∧e≤50000:=by omega
  obtain ⟨D,hl,hD⟩:=Aoo 63 n (m:=M) he r 62 0 63 (by omega) (by omega) (fun d' h=>by omega)
  have hs:r.toNat≤1:=by cases r<;>decide
  have hV:4*M+r.toNat≠0:=by
   intro h
   refine h0 ⟨by omega,?_⟩
   cases r
   ·rfl
   ·simp at h
  obtain ⟨t1,t2,t3⟩:=Aoq hD hs hV (by omega) (by omega) (fun h=>by
   have:r=true:=by cases r<;>simp_all
   have:=hr this
   omega)
  have hl:soft.D9.L0 63 63 n (M:Int) e r (0:Int)=soft.D9.C7 63 n (M:Int) e r (D:Int):=hl
  rw [hl,Aon 63 n (by omega) he r hD.le t3,← t1,Akm 63 _ n (Km _ _),t2]
set_option maxRecDepth 100000
namespace EqSum
def sum.right.Bc:List (Nat × Entry):=[]
def sum.right.E:Env:=Bi (Be sum.right.Bc) (fun _=>false) (fun _=>none) (fun _=>none)
theorem sum.right.ev (N:Nat) (m d:Int):B0 sum.right.E N f208 (Ak f208) [.int .u64 m,.int .i64 d]=bif (Bb 63 d) then bif ((Ch .u64 (Ef .u64 m 63) 63) !=m) then some (.int .u64 (Jk .u64 (Ef .u64 m 63) 1)) else some (.int .u64 (Ef .u64 m 63)) else bif (decide (0≤d)) then bif (decide (0≤d)) then bif ((Ch .u64 (Ef .u64 m d) d) !=m) then some (.int .u64 (Jk .u64 (Ef .u64 m d) 1)) else some (.int .u64 (Ef .u64 m d)) else none else none:=by kernel_rfl
abbrev _root_.Go.Proofs.S1.sum.right.Kn:=A8 prog 208 sum.right.spec
theorem sum.right.Ad (hk:A2 prog sum.right.Bc) (h:Hyp sum.right.E f208 sum.right.ts sum.right.pre sum.right.out):sum.right.Kn :=
 Am (A5 hk _ _ _) func208 (by kernel_rfl) (by kernel_rfl) h
def sum.E2.Bc:List (Nat × Entry):=[(136,soft.Finite.spec),(165,soft.Kind.spec)]
def sum.E2.E:Env:=Bi (Be sum.E2.Bc) (fun _=>false) (fun _=>none) (fun _=>none)
theorem sum.E2.ev (N:Nat) (a b:Int):B0 sum.E2.E N f207 (Ak f207) [.int .u64 a,.int .u64 b]=bif (Af a) then bif ((Bz a)==(4:Int)) then some (.tup [.int .u64 9221120237041090560,.int .u8 0]) else bif (Af b) then bif ((Bz b)==(4:Int)) then some (.tup [.int .u64 9221120237041090560,.int .u8 0]) else bif (Af a) then bif (Dz a) then some (.tup [.int .u64 b,.int .u8 0]) else bif (Af b) then bif ((Dz b)||(a==b)) then some (.tup [.int .u64 a,.int .u8 0]) else some (.tup [.int .u64 9221120237041090560,.int .u8 16]) else none else none else none else none :=
 Eq.trans (by kernel_rfl)
 (E1 (E1 rfl (E1 (E1 rfl (E1 (E1 rfl (E1 (Ax (W4 (Dz b)) (Ax (W4 (Dz b)) (Ax (tt8 (Dz b)) (Ax (tt6 (Dz b)) (Cw (tt5 _ _) rfl rfl))))) rfl)) rfl)) rfl)) rfl)
abbrev _root_.Go.Proofs.S1.sum.E2.Kn:=A8 prog 207 sum.E2.spec
theorem sum.E2.Ad (hk:A2 prog sum.E2.Bc) (h:Hyp sum.E2.E f207 sum.E2.ts sum.E2.pre sum.E2.out):sum.E2.Kn :=
 Am (A5 hk _ _ _) func207 (by kernel_rfl) (by kernel_rfl) h
def sum.Add.Bc:List (Nat × Entry):=[(136,soft.Finite.spec),(180,soft.D9.spec),(166,soft.G0.spec),(181,soft.Sign.spec),(208,sum.right.spec),(207,sum.E2.spec)]
def sum.Add.E:Env:=Bi (Be sum.Add.Bc) (fun _=>false) (fun _=>none) (fun _=>none)
theorem sum.Add.ev (N:Nat) (a b:Int):B0 sum.Add.E N f174 (Ak f174) [.int .u64 a,.int .u64 b]=bif (Af a) then bif ((!(Dz a))||(Af b)) then bif ((!(Dz a))||(!(Dz b))) then bif ((Af a&&Af b)&&(!(Dz a)||!(Dz b))) then some (.tup [.int .u64 (Dt a b),.int .u8 (Y2 a b)]) else none else bif (Af a) then bif (Af b) then bif (Af a) then bif (Af b) then bif (Bb (Bp a) (Bp b)) then bif (Af (Ch .u64 (B6 a) 9)&&B5 (0≤(Ab ((Bp b)-(Bp a)))∧(Ab ((Bp b)-(Bp a)))<1000000)) then bif ((Eb b)==(Eb a)) then bif (Fe (Bq ((Ch .u64 (B6 b) 9)+(Gi (Ch .u64 (B6 a) 9) (Ab ((Bp b)-(Bp a)))))) (Ab ((Bp b)-9)) false) then some (.tup [.int .u64 (F0 (Eb b) (Bq ((Ch .u64 (B6 b) 9)+(Gi (Ch .u64 (B6 a) 9) (Ab ((Bp b)-(Bp a)))))) (Ab ((Bp b)-9)) false),.int .u8 (Fz (Eb b) (Bq ((Ch .u64 (B6 b) 9)+(Gi (Ch .u64 (B6 a) 9) (Ab ((Bp b)-(Bp a)))))) (Ab ((Bp b)-9)) false)]) else none else bif (Bb (Gi (Ch .u64 (B6 a) 9) (Ab ((Bp b)-(Bp a)))) (Ch .u64 (B6 b) 9)) then bif (Fe (Bq ((Ch .u64 (B6 b) 9)-(Gi (Ch .u64 (B6 a) 9) (Ab ((Bp b)-(Bp a)))))) (Ab ((Bp b)-9)) false) then some (.tup [.int .u64 (F0 (Eb b) (Bq ((Ch .u64 (B6 b) 9)-(Gi (Ch .u64 (B6 a) 9) (Ab ((Bp b)-(Bp a)))))) (Ab ((Bp b)-9)) false),.int .u8 (Fz (Eb b) (Bq ((Ch .u64 (B6 b) 9)-(Gi (Ch .u64 (B6 a) 9) (Ab ((Bp b)-(Bp a)))))) (Ab ((Bp b)-9)) false)]) else none else bif (Bb (Ch .u64 (B6 b) 9) (Gi (Ch .u64 (B6 a) 9) (Ab ((Bp b)-(Bp a))))) then bif (Fe (Bq ((Gi (Ch .u64 (B6 a) 9) (Ab ((Bp b)-(Bp a))))-(Ch .u64 (B6 b) 9))) (Ab ((Bp b)-9)) false) then some (.tup [.int .u64 (F0 (Eb a) (Bq ((Gi (Ch .u64 (B6 a) 9) (Ab ((Bp b)-(Bp a))))-(Ch .u64 (B6 b) 9))) (Ab ((Bp b)-9)) false),.int .u8 (Fz (Eb a) (Bq ((Gi (Ch .u64 (B6 a) 9) (Ab ((Bp b)-(Bp a))))-(Ch .u64 (B6 b) 9))) (Ab ((Bp b)-9)) false)]) else none else some (.tup [.int .u64 0,.int .u8 0]) else none else bif (Af (Ch .u64 (B6 b) 9)&&B5 (0≤(Ab ((Bp a)-(Bp b)))∧(Ab ((Bp a)-(Bp b)))<1000000)) then bif ((Eb a)==(Eb b)) then bif (Fe (Bq ((Ch .u64 (B6 a) 9)+(Gi (Ch .u64 (B6 b) 9) (Ab ((Bp a)-(Bp b)))))) (Ab ((Bp a)-9)) false) then some (.tup [.int .u64 (F0 (Eb a) (Bq ((Ch .u64 (B6 a) 9)+(Gi (Ch .u64 (B6 b) 9) (Ab ((Bp a)-(Bp b)))))) (Ab ((Bp a)-9)) false),.int .u8 (Fz (Eb a) (Bq ((Ch .u64 (B6 a) 9)+(Gi (Ch .u64 (B6 b) 9) (Ab ((Bp a)-(Bp b)))))) (Ab ((Bp a)-9)) false)]) else none else bif (Bb (Gi (Ch .u64 (B6 b) 9) (Ab ((Bp a)-(Bp b)))) (Ch .u64 (B6 a) 9)) then bif (Fe (Bq ((Ch .u64 (B6 a) 9)-(Gi (Ch .u64 (B6 b) 9) (Ab ((Bp a)-(Bp b)))))) (Ab ((Bp a)-9)) false) then some (.tup [.int .u64 (F0 (Eb a) (Bq ((Ch .u64 (B6 a) 9)-(Gi (Ch .u64 (B6 b) 9) (Ab ((Bp a)-(Bp b)))))) (Ab ((Bp a)-9)) false),.int .u8 (Fz (Eb a) (Bq ((Ch .u64 (B6 a) 9)-(Gi (Ch .u64 (B6 b) 9) (Ab ((Bp a)-(Bp b)))))) (Ab ((Bp a)-9)) false)]) else none else bif (Bb (Ch .u64 (B6 a) 9) (Gi (Ch .u64 (B6 b) 9) (Ab ((Bp a)-(Bp b))))) then bif (Fe (Bq ((Gi (Ch .u64 (B6 b) 9) (Ab ((Bp a)-(Bp b))))-(Ch .u64 (B6 a) 9))) (Ab ((Bp a)-9)) false) then some (.tup [.int .u64 (F0 (Eb b) (Bq ((Gi (Ch .u64 (B6 b) 9) (Ab ((Bp a)-(Bp b))))-(Ch .u64 (B6 a) 9))) (Ab ((Bp a)-9)) false),.int .u8 (Fz (Eb b) (Bq ((Gi (Ch .u64 (B6 b) 9) (Ab ((Bp a)-(Bp b))))-(Ch .u64 (B6 a) 9))) (Ab ((Bp a)-9)) false)]) else none else some (.tup [.int .u64 0,.int .u8 0]) else none else none else none else none else none else none else none :=
 Eq.trans (by kernel_rfl)
 (E1 (Ax (W7 (Dz a)) (Cw (Ajt _ _) (Ax (R3 (Dz a)) (Ax (Zu (Dz a)) (Cw (Aqo _ _) rfl rfl))) rfl)) rfl)
abbrev _root_.Go.Proofs.S1.sum.Add.Kn:=A8 prog 174 sum.Add.spec
theorem sum.Add.Ad (hk:A2 prog sum.Add.Bc) (h:Hyp sum.Add.E f174 sum.Add.ts sum.Add.pre sum.Add.out):sum.Add.Kn :=
 Am (A5 hk _ _ _) func174 (by kernel_rfl) (by kernel_rfl) h
def sum.Sub.Bc:List (Nat × Entry):=[(81,soft.Du.spec),(174,sum.Add.spec)]
def sum.Sub.E:Env:=Bi (Be sum.Sub.Bc) (fun _=>false) (fun _=>none) (fun _=>none)
theorem sum.Sub.ev (N:Nat) (a b:Int):B0 sum.Sub.E N f231 (Ak f231) [.int .u64 a,.int .u64 b]=bif (Af b) then bif (Af a&&Af (Cz b)) then some (.tup [.int .u64 (Dt a (Cz b)),.int .u8 (Y2 a (Cz b))]) else none else none:=by kernel_rfl
abbrev _root_.Go.Proofs.S1.sum.Sub.Kn:=A8 prog 231 sum.Sub.spec
theorem sum.Sub.Ad (hk:A2 prog sum.Sub.Bc) (h:Hyp sum.Sub.E f231 sum.Sub.ts sum.Sub.pre sum.Sub.out):sum.Sub.Kn :=
 Am (A5 hk _ _ _) func231 (by kernel_rfl) (by kernel_rfl) h
end EqSum
open EqSum
theorem Ayf (q:Nat):q ||| 1=2*(q / 2)+1:=by
 have e:q%2 ||| (q / 2*2^1)=q / 2*2^1+q%2:=Om (Nat.mod_lt _ (by decide))
 have e1:1 ||| (q / 2*2^1)=q / 2*2^1+1:=Om (k:=1) (by decide)
 have hq:q / 2*2^1+q%2=q:=by omega
 rw [hq] at e
 rcases Nat.mod_two_eq_zero_or_one q with h | h
 ·rw [h,Nat.zero_or] at e
  rw [e,Nat.or_comm] at e1
  omega
 ·rw [h] at e
  have:q ||| 1=q:=by
   conv=>lhs; rw [← e]
   rw [Nat.or_comm 1,Nat.or_assoc,Nat.or_self,Nat.or_comm,e]
  omega
theorem Aab {n s:Nat} (hn:n<2^64) (hs:s≤63) :
 (bif ((Ch .u64 (Ef .u64 (n:Int) (s:Int)) (s:Int)) !=(n:Int)) then
  some (DV.int .u64 (Jk .u64 (Ef .u64 (n:Int) (s:Int)) (1:Int)))
 else some (.int .u64 (Ef .u64 (n:Int) (s:Int))))=some (.int .u64 ((He n s:Nat):Int)):=by
 have hq:n / 2^s≤n:=Nat.div_le_self _ _
 have hm:n / 2^s*2^s≤n:=Nat.div_mul_le_self _ _
 have hd:=Nat.div_add_mod n (2^s)
 rw [A44] at hd
 rw [Jc .u64 n s (by show s≤64; omega),Gx _ s (by omega),A4t (by omega)]
 have h1:Jk .u64 ((n / 2^s:Nat):Int) (1:Int)=((n / 2^s ||| 1:Nat):Int):=Ww (by omega) (by decide)
 rw [h1,Ayf]
 unfold He
 by_cases h:n%2^s=0
 ·have:((((n / 2^s*2^s:Nat):Int)) !=(n:Int))=false:=by
   simp only [bne_eq_false_iff_eq]; omega
  rw [this,A43 h,A4k]
 ·have:((((n / 2^s*2^s:Nat):Int)) !=(n:Int))=true:=by
   simp only [bne_iff_ne,ne_eq]; omega
  rw [this,A42 h,A4g]
theorem sum.right.known:sum.right.Kn:=sum.right.Ad .nil fun m d hp=>by
 obtain ⟨h1,h2⟩:=Ac.1 hp
 obtain ⟨n,rfl,hn⟩:=Bw h1
 have h2:=Aq.1 h2
 obtain ⟨d,rfl⟩:∃ k:Nat,d=k:=⟨d.toNat,by omega⟩
 refine ⟨0,sum.right.out [.i n,.i d],[],?_,.int⟩
 rw [sum.right.ev,Av]
 show _=some (DV.int .u64 (Gi n d))
 unfold Gi
 rw [A4i,A4i]
 by_cases h:63<d
 ·have:decide ((63:Int)<(d:Int))=true:=by simp; omega
  rw [this,A4g,Nat.min_eq_right (by omega)]
  exact Aab hn (A5a 63)
 ·have:decide ((63:Int)<(d:Int))=false:=by simp; omega
  have h0:decide ((0:Int)≤(d:Int))=true:=by simp
  rw [this,A4k,h0,A4g,A4g,Nat.min_eq_left (by omega)]
  exact Aab hn (by omega)
theorem Alh:((Oc:Nat):Int)=9221120237041090560:=rfl
theorem sum.E2.known:sum.E2.Kn:=sum.E2.Ad (.cons soft.Finite.known (.cons soft.Kind.known .nil)) fun a b hp=>by
 obtain ⟨h1,h2⟩:=Ac.1 hp
 obtain ⟨ha,hb⟩:=Ac.1 h1
 obtain ⟨a,rfl,hn⟩:=Bw ha
 obtain ⟨b,rfl,hm⟩:=Bw hb
 refine ⟨0,sum.E2.out [.i a,.i b],[],?_,Wk.Hm (.cons .int (.cons .int .nil))⟩
 rw [sum.E2.ev,ha,hb]
 show _=some (DV.tup [.int .u64 (Dt a b),.int .u8 (Y2 a b)])
 unfold Dt Y2 H4 Bz Dz
 simp only [A4i,A4g]
 unfold Dz at h2
 simp only [A4i] at h2
 by_cases a4:Aj a=4
 ·simp [a4,Alh]
 ·have e4:((Aj a:Int)==4)=false:=by simp; omega
  rw [e4,A4k]
  by_cases b4:Aj b=4
  ·simp [b4,Alh]
  ·have f4:((Aj b:Int)==4)=false:=by simp; omega
   rw [f4,A4k]
   have ka:=Aa8 a
   have kb:=Aa8 b
   by_cases a3:Aj a=3
   ·have fa:Jy a=false:=by rw [ka]; simp [a3]
    rw [fa,A4k]
    by_cases b3:Aj b=3
    ·have fb:Jy b=false:=by rw [kb]; simp [b3]
     rw [fb]
     by_cases hab:a=b
     ·subst hab; simp [a3]
     ·have hab':((a:Int)==(b:Int))=false:=by simp; omega
      rw [hab']
      simp [a3,b3,hab,Alh]
    ·have fb:Jy b=true:=by rw [kb]; simp [b3,b4]
     rw [fb]
     simp [a3,b3,b4]
   ·have fa:Jy a=true:=by rw [ka]; simp [a3,a4]
    have b3:Aj b=3:=by
     rw [fa,kb] at h2
     simp [b4] at h2
     exact h2
    rw [fa,A4g]
    simp [a3,b3,a4]
def Alv (na nb:Bool) (X r:Nat) (e:Int):Nat × Nat :=
 if na=nb then Hu na (X+r) e false else if r<X then Hu na (X-r) e false else if X<r then Hu nb (r-X) e false else (0,0)
theorem Xq {na:Bool} {m:Int} {n:Nat} {e e':Int} (h:m=n) (he:e'=e) (hn:n<2^64) (h1:-1100≤e) (h2:e≤1000) :
 (bif Fe m e' false then some (DV.tup [.int .u64 (F0 na m e' false),.int .u8 (Fz na m e' false)]) else none)
  = some (.tup [.int .u64 (((Hu na n e false).1:Nat):Int),.int .u8 (((Hu na n e false).2:Nat):Int)]):=by
 subst h; subst he
 have hp:Fe (n:Int) e' false=true:=Aq.2 ⟨by omega,by omega,by omega,.inl (by omega),fun h=>by cases h⟩
 rw [hp,A4g]
 unfold F0 Fz
 rw [A4i]
theorem Ajd (na nb:Bool) {X r:Nat} {e e':Int} (hX:X<2^62) (hr:r≤2^62) (h:e'=e) (h1:-1100≤e) (h2:e≤1000) :
 (bif (na==nb) then
  bif Fe (Bq ((X:Int)+(r:Int))) e' false then some (DV.tup [.int .u64 (F0 na (Bq ((X:Int)+(r:Int))) e' false),.int .u8 (Fz na (Bq ((X:Int)+(r:Int))) e' false)]) else none
 else bif Bb (r:Int) (X:Int) then
  bif Fe (Bq ((X:Int)-(r:Int))) e' false then some (DV.tup [.int .u64 (F0 na (Bq ((X:Int)-(r:Int))) e' false),.int .u8 (Fz na (Bq ((X:Int)-(r:Int))) e' false)]) else none
 else bif Bb (X:Int) (r:Int) then
  bif Fe (Bq ((r:Int)-(X:Int))) e' false then some (DV.tup [.int .u64 (F0 nb (Bq ((r:Int)-(X:Int))) e' false),.int .u8 (Fz nb (Bq ((r:Int)-(X:Int))) e' false)]) else none
 else some (.tup [.int .u64 (0:Int),.int .u8 (0:Int)])) =
  some (.tup [.int .u64 (((Alv na nb X r e).1:Nat):Int),.int .u8 (((Alv na nb X r e).2:Nat):Int)]):=by
 unfold Alv
 rw [Av,Av]
 by_cases hs:na=nb
 ·have:(na==nb)=true:=by simp [hs]
  rw [this,A4g,A43 hs]
  exact Xq (by rw [Eh (by omega) (by omega)]; omega) h (by omega) h1 h2
 ·have:(na==nb)=false:=by simp [hs]
  rw [this,A4k,A42 hs]
  by_cases hl:r<X
  ·have:decide ((r:Int)<(X:Int))=true:=by simp; omega
   rw [this,A4g,A43 hl]
   exact Xq (by rw [Eh (by omega) (by omega)]; omega) h (by omega) h1 h2
  ·have:decide ((r:Int)<(X:Int))=false:=by simp; omega
   rw [this,A4k,A42 hl]
   by_cases hg:X<r
   ·have:decide ((X:Int)<(r:Int))=true:=by simp; omega
    rw [this,A4g,A43 hg]
    exact Xq (by rw [Eh (by omega) (by omega)]; omega) h (by omega) h1 h2
   ·have:decide ((X:Int)<(r:Int))=false:=by simp; omega
    rw [this,A4k,A42 hg]
    rfl
theorem Am3 {a b:Nat} (ha:Jy a=true) (hb:Jy b=true) (hle:A3 b≤A3 a) :
 ∃ X r:Nat,X<2^62∧r≤2^62∧Ch .u64 (B6 a) (9:Int)=(X:Int)∧Gi (Ch .u64 (B6 b) (9:Int)) (Ab (Bp a-Bp b))=(r:Int)
  ∧ Ab (Bp a-9)=A3 a-9
  ∧ (Af (Ch .u64 (B6 b) (9:Int))&&B5 (0≤(Ab ((Bp a)-(Bp b)))∧(Ab ((Bp a)-(Bp b)))<1000000))=true
  ∧ Alv (Eb a) (Eb b) X r (A3 a-9)=H4 a b:=by
 obtain ⟨d,hd⟩:∃ d:Nat,A3 a=A3 b+d:=⟨(A3 a-A3 b).toNat,by omega⟩
 have hx:=Ge a
 have hy:=Ge b
 have ea:=Dy a
 have eb:=Dy b
 have C:=Ajc (Mx:=Ay a) (My:=Ay b) hd hx hy (fun h=>Ade (by omega))
 have sh:∀ m:Nat,m<2^53→Ch .u64 (m:Int) (9:Int)=((m*2^9:Nat):Int):=fun m hm=>by
  have:=Gx m 9 (by decide)
  rw [A4t (by omega)] at this
  exact this
 have h2:Ab (Bp a-Bp b)=(d:Int):=by
  unfold Bp
  rw [A4i,A4i,An (by omega) (by omega)]; omega
 have s1:Ch .u64 (B6 a) (9:Int)=((Ay a*2^9:Nat):Int):=by
  unfold B6; rw [A4i]; exact sh _ hx
 have s2:Ch .u64 (B6 b) (9:Int)=((Ay b*2^9:Nat):Int):=by
  unfold B6; rw [A4i]; exact sh _ hy
 refine ⟨Ay a*2^9,He (Ay b*2^9) (min d 63),by omega,C.small,s1,?_,?_,?_,?_⟩
 ·rw [s2,h2]; unfold Gi; rw [A4i,A4i]
 ·unfold Bp; rw [A4i,An (by omega) (by omega)]
 ·rw [s2,h2,Cm (by omega),A5t]
  exact Aq.2 ⟨by omega,by omega⟩
 ·unfold Eb
  rw [A4i,A4i,Ajb ha hb hd]
  rfl
theorem sum.Add.known:sum.Add.Kn:=sum.Add.Ad (.cons soft.Finite.known (.cons soft.D9.known (.cons soft.G0.known (.cons soft.Sign.known (.cons sum.right.known (.cons sum.E2.known .nil)))))) fun a b hp=>by
 obtain ⟨ha,hb⟩:=Ac.1 hp
 obtain ⟨a,rfl,hn⟩:=Bw ha
 obtain ⟨b,rfl,hm⟩:=Bw hb
 refine ⟨0,sum.Add.out [.i a,.i b],[],?_,Wk.Hm (.cons .int (.cons .int .nil))⟩
 rw [sum.Add.ev,ha,hb]
 show _=some (DV.tup [.int .u64 (Dt a b),.int .u8 (Y2 a b)])
 rw [A5s,A4g,A4g]
 by_cases hf:(!(Dz a)||!(Dz b))=true
 ·rw [hf]; rfl
 ·have hf:(!(Dz a)||!(Dz b))=false:=by simpa using hf
  rw [hf,A4k,A4g,A4g,A4g,A4g]
  have fa:Jy a=true:=by
   have:=(Bool.or_eq_false_iff.1 hf).1
   unfold Dz at this
   simpa using this
  have fb:Jy b=true:=by
   have:=(Bool.or_eq_false_iff.1 hf).2
   unfold Dz at this
   simpa using this
  have xa:=Dy a
  have xb:=Dy b
  rw [Av]
  by_cases hl:A3 a<A3 b
  ·obtain ⟨X,r,hX,hr,e1,e2,e3,e4,e5⟩:=Am3 fb fa (by omega)
   have:decide (Bp a<Bp b)=true:=by unfold Bp; simpa using hl
   rw [this,A4g,e4,A4g,e1,e2,Ajd _ _ hX hr e3 (by omega) (by omega),e5,Ap1]
   rfl
  ·obtain ⟨X,r,hX,hr,e1,e2,e3,e4,e5⟩:=Am3 fa fb (by omega)
   have:decide (Bp a<Bp b)=false:=by unfold Bp; simpa using hl
   rw [this,A4k,e4,A4g,e1,e2,Ajd _ _ hX hr e3 (by omega) (by omega),e5]
   rfl
theorem sum.Sub.known:sum.Sub.Kn:=sum.Sub.Ad (.cons soft.Du.known (.cons sum.Add.known .nil)) fun a b hp=>by
 obtain ⟨ha,hb⟩:=Ac.1 hp
 obtain ⟨b,rfl,hm⟩:=Bw hb
 refine ⟨0,sum.Sub.out [.i a,.i b],[],?_,Wk.Hm (.cons .int (.cons .int .nil))⟩
 have:Af (Cz (b:Int))=true:=by unfold Cz; rw [A4i]; exact Cm (Xt hm)
 rw [sum.Sub.ev,ha,hb,this]
 unfold Dt Y2 Cz
 rw [A4i]
 rfl
end Go.Proofs.S1
end
