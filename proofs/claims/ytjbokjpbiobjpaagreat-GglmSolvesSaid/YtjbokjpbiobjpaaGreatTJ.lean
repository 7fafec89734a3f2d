/- A verified evaluator of the program's form and its use for this seat: S1PRootA, LdxL, S1EqLdx, S1PLdx, S1PLdxA, S1EqRef08, S1EqRef13, S1PRef08, S1EqOf, S1POf, S1PMatA, S1EqRef10. -/
import Derived.Test.YtjbokjpbiobjpaaGreatTI
import Derived.Test.YtjbokjpbiobjpaaGreatTE
import Derived.Test.YtjbokjpbiobjpaaGreatTF
import Derived.Test.YtjbokjpbiobjpaaGreatTG
set_option linter.unusedVariables false
set_option linter.unusedSimpArgs false
noncomputable section
open Int (toNat)
open List (length getD)
open Go.Proofs.Tryz
namespace Go.Proofs.S1
open Go Go.Den Go.Rnd Go.Proofs
open EqRoot
theorem Zs {b:Nat} (h:Ay b≠0):Ff (Ay b:Int)=((Ay b).log2:Int)+1:=by
 unfold Ff
 rw [A1q (by omega),A06]
theorem Alx {w:Nat} {E:Int} {s:Bool} (hw:2^62≤w) (n:Nat) (h:Tv n=w) (hs:s=decide (w*w≠n)) :
 Gz false (w / 2) (E+2) (bif s then true else decide (w%2=1))=(Cv (G0 n) E,flagsOf (G0 n) E):=by
 have e1:G0 n / 2^2=w / 2:=by unfold G0; rw [h]; split<;>omega
 have e2:(bif s then true else decide (w%2=1))=decide (G0 n%2^2≠0):=by
  rw [hs]
  unfold G0
  rw [h]
  by_cases h0:w*w=n
  ·rw [A09 (by omega),A08,A1r h0,decide_eq_decide]; omega
  ·rw [A05 h0,A04,A1q h0]; symm; exact A05 (by omega)
 rw [← e1]
 have:=U8 false (V:=G0 n) (k:=2) (E:=E) (e:=E+2) rfl e2 (by rw [e1]; omega) (by left; rw [e1]; omega)
 rw [Um] at this
 exact this
theorem root.Sqrt.num {b:Nat} (hb:b<2^64) (h4:Ao b≠4) (h:¬ (Ao b=0∨b=Eh)) (hn:B0 b=false) {z:Nat} (hz:2^60≤Ay b*2^z) (hz2:Ay b*2^z<2^62) (he:(A9 b-(z:Int))%2=0) (z60:z≤62) :
 root.Sqrt.L0 2 2 (A9 b-(z:Int)) (Ve ((Ay b*2^z:Nat):Int)) (!(Vf ((Ay b*2^z:Nat):Int)))=some (.tup [.int .u64 (Gc (b:Int)),.int .u8 (Q3 (b:Int))]):=by
 have hE:=Ey b
 have hM:=E1 b
 have h3:Ao b≠3:=fun h3=>by
  refine h (.inr ?_)
  have hpn:B0 b=false:=hn
  unfold B0 at hpn
  have hlt:b<2^63:=by simpa using hpn
  unfold Ao at h3
  have hp:=Jx b
  unfold Ea at h3
  unfold Di at h3
  unfold Eh
  split at h3
  ·split at h3
   ·omega
   ·omega
  ·split at h3
   ·omega
   ·split at h3<;>omega
 have hm:Ay b≠0:=fun h0=>h (.inl ((H3 h3 h4).1 h0))
 have eN:Ay b*2^z*2^64=Ay b*2^(z+64):=by rw [A1v,← A1t]
 have i1:2^62≤Tv (Ay b*2^z*2^64):=Ad9 (t:=62) (by omega)
 have i2:=(Ri (Ay b*2^z*2^64)).1
 have i3:Tv (Ay b*2^z*2^64)<2^63:=by
  refine Afk (A16 i2 ?_)
  show _<9223372036854775808*9223372036854775808
  omega
 have r1:Ve ((Ay b*2^z:Nat):Int)=(Tv (Ay b*2^z*2^64):Int):=by unfold Ve; rw [A06]
 have r2:(!(Vf ((Ay b*2^z:Nat):Int)))=decide (Tv (Ay b*2^z*2^64)*Tv (Ay b*2^z*2^64)≠Ay b*2^z*2^64):=by
  unfold Vf; rw [A06,← decide_not]
 obtain ⟨k1,k2⟩:=Afu hm
 have same:=Abo (m:=Ay b) (k:=z+64) (l:=Mf b) (E:=(A9 b-(z:Int)) / 2-33) (F:=(A9 b-(Mf b:Int)) / 2-1) (by rw [← eN]; omega) k1 (by omega)
 rw [← eN] at same
 have near:=Alx (E:=(A9 b-(z:Int)) / 2-33) i1 _ rfl r2
 rw [same.1,same.2] at near
 have sq:Oz b=_:=Afj h4 h hn
 rw [r1,r2]
 rw [r2] at near
 generalize Tv (Ay b*2^z*2^64)=w at *
 have w1:Es (4611686018427387904:Int) (w:Int)=true:=by rw [Ej]; exact A05 (by omega)
 have w2:Dy .u64 (w:Int) (1:Int)=((w / 2:Nat):Int):=by rw [show (1:Int)=((1:Nat):Int) from rfl,Rr _ _ (by decide)]
 have w3:((E6 .u64 (w:Int) (1:Int))==(1:Int))=decide (w%2=1):=by
  rw [show E6 .u64 (w:Int) (1:Int)=((w%2^1:Nat):Int) from Ji 1 (by omega) (by decide),A1k,beq_iff_eq,A1b]
  omega
 have w4:Es (4611686018427387904:Int) ((w / 2:Nat):Int)=false:=by rw [Ej]; exact A09 (by omega)
 have w5:Ab (Ab (Int.tdiv (A9 b-(z:Int)+2) 2)-32)=(A9 b-(z:Int)) / 2-33+2:=by
  have:Int.tdiv (A9 b-(z:Int)+2) 2=(A9 b-(z:Int)) / 2+1:=by
   rw [Int.tdiv_eq_ediv]
   split<;>omega
  rw [this,An (x:=(A9 b-(z:Int)) / 2+1) (by omega) (by omega),An (by omega) (by omega)]
  omega
 have w6:Ab (A9 b-(z:Int)+2)=A9 b-(z:Int)+2:=An (by omega) (by omega)
 generalize hs:decide (w*w≠Ay b*2^z*2^64)=s at *
 have pre:Er ((w / 2:Nat):Int) ((A9 b-(z:Int)) / 2-33+2) (bif s then true else decide (w%2=1))=true:=Au.2 ⟨by omega,by omega,by omega,by omega,fun _=>.inl (by omega)⟩
 rw [show (2:Nat)=1+1 from rfl,root.Sqrt.Av,w1,A04,w2,w3,w6,show (1:Nat)=0+1 from rfl,root.Sqrt.Av,w4,A08,w5,pre,A04]
 unfold Fe Fc Gc Q3
 rw [A06,A06,near,sq]
theorem root.Sqrt.known:root.Sqrt.Kn:=root.Sqrt.Ac (.cons Cz.B5.known (.cons root.G2.known (.cons soft.Kind.known (.cons soft.Du.known (.cons soft.Fz.known (.cons soft.Sign.known .nil)))))) fun a hp=>by
 obtain ⟨b,rfl,hb⟩:=Bo (x:=a) hp
 refine ⟨2,root.Sqrt.out [.i b],[],?_,Wk.Gv (.cons .int (.cons .int .nil))⟩
 show _=some (DV.tup [.int .u64 (Gc (b:Int)),.int .u8 (Q3 (b:Int))])
 have hk:Bk (b:Int)=(Ao b:Int):=rfl
 rw [root.Sqrt.ev,Ce hb,A04,A04,A04,A04,hk]
 by_cases h4:Ao b=4
 ·rw [h4,show (((4:Nat):Int)==(4:Int))=true from rfl,A04]
  unfold Gc Q3
  rw [A06,Ym h4]; rfl
 have k4:(((Ao b:Nat):Int)==(4:Int))=false:=by rw [A1z]; omega
 rw [k4,A08]
 by_cases h0:Ao b=0
 ·rw [h0,show (((0:Nat):Int)==(0:Int))=true from rfl,A04]
  unfold Gc Q3
  rw [A06,Oy h4 (.inl h0)]; rfl
 have k0:(((Ao b:Nat):Int)==(0:Int))=false:=by rw [A1z]; omega
 rw [k0,A08]
 by_cases hi:b=Eh
 ·rw [show (((b:Nat):Int)==(9218868437227405312:Int))=true by rw [hi]; rfl,A04]
  unfold Gc Q3
  rw [A06,Oy h4 (.inr hi)]; rfl
 have ki:(((b:Nat):Int)==(9218868437227405312:Int))=false:=by
  rw [A1z]; intro hh; refine hi (show b=9218868437227405312 from ?_); omega
 rw [ki,A08]
 have hh:¬ (Ao b=0∨b=Eh):=by rintro (h | h); exact h0 h; exact hi h
 have hneg:D4 (b:Int)=B0 b:=rfl
 rw [hneg]
 cases hn:B0 b with
 | true =>
   rw [A04]
   unfold Gc Q3
   rw [A06,Ul h4 hh hn]; rfl
 | false =>
   rw [A08]
   have hm:Ay b≠0:=fun hz=>by
    have h3:Ao b≠3:=fun h3=>by
     rcases H9 b with ⟨p,_,_⟩ | ⟨_,_,q⟩ | ⟨_,q,_⟩
     ·unfold Ay at hz
      rw [A1q (by omega)] at hz
      omega
     ·omega
     ·exact q h3
    exact hh (.inl ((H3 h3 h4).1 hz))
   have hM:=E1 b
   have hE:=Ey b
   have hl:(Ay b).log2≤52:=by have:=(A2k hm).2 (show Ay b<2^53 by omega); omega
   have e1:B1 (b:Int)=(Ay b:Int):=rfl
   have e2:Ba (b:Int)=A9 b:=rfl
   have l1:∀ z:Nat,(Ay b).log2+z=60∨(Ay b).log2+z=61→2^60≤Ay b*2^z∧Ay b*2^z<2^62:=by
    intro z hz
    have hlz:=Lu (Ay b) z hm
    have hne:Ay b*2^z≠0:=I3 hm
    constructor
    ·rw [← Nat.le_log2 hne]; omega
    ·rw [← A2k hne]; omega
   have ez:Ab ((64-(((Ay b).log2:Int)+1))-(2:Int))=((61-(Ay b).log2:Nat):Int):=by rw [An (by omega) (by omega)]; omega
   have ez':Ab (((61-(Ay b).log2:Nat):Int)-(1:Int))=((60-(Ay b).log2:Nat):Int):=by rw [An (by omega) (by omega)]; omega
   rw [e1,e2,Ce (n:=Ay b) (by omega),A04,Zs hm,ez,ez',An (x:=A9 b-((61-(Ay b).log2:Nat):Int)) (by omega) (by omega),An (x:=A9 b-((60-(Ay b).log2:Nat):Int)) (by omega) (by omega)]
   by_cases hp2:(A9 b-((61-(Ay b).log2:Nat):Int))%2=0
   ·have t0:(Int.tmod (A9 b-((61-(Ay b).log2:Nat):Int)) (2:Int) !=(0:Int))=false:=by
     rw [bne_eq_false_iff_eq]; exact Int.tmod_eq_zero_of_dvd (Int.dvd_of_emod_eq_zero hp2)
    obtain ⟨m1,m2⟩:=l1 (61-(Ay b).log2) (by omega)
    rw [t0,A08,A05 (by omega),A04,Fw _ _ (by omega),A1h (by omega),Au.2 (by omega),A04]
    exact root.Sqrt.num hb h4 hh hn m1 m2 hp2 (by omega)
   ·have t0:(Int.tmod (A9 b-((61-(Ay b).log2:Nat):Int)) (2:Int) !=(0:Int))=true:=by
     rw [bne_iff_ne]; intro hz; exact hp2 (Int.emod_eq_zero_of_dvd (Int.dvd_of_tmod_eq_zero hz))
    obtain ⟨m1,m2⟩:=l1 (60-(Ay b).log2) (by omega)
    rw [t0,A04,A05 (by omega),A04,Fw _ _ (by omega),A1h (by omega),Au.2 (by omega),A04]
    exact root.Sqrt.num hb h4 hh hn m1 m2 (by omega) (by omega)
theorem Ah.Sqrt.known:Ah.Sqrt.Kn:=Ah.Sqrt.Ac (.cons root.Sqrt.known .nil) fun a hp=>by
 have hp:Ak a=true:=hp
 refine ⟨0,Ah.Sqrt.out [.i a],[],?_,.int⟩
 rw [Ah.Sqrt.ev,hp]; rfl
theorem compare.K3.known:compare.K3.Kn:=compare.K3.Ac (.cons Cz.K1.known (.cons soft.Finite.known (.cons soft.Kind.known (.cons soft.Fz.known .nil)))) fun a hp=>by
 obtain ⟨b,rfl,hb⟩:=Bo (x:=a) hp
 refine ⟨0,compare.K3.out [.i b],[],?_,.int⟩
 show _=some (DV.int .i64 (Bz (b:Int)))
 have hk:Bk (b:Int)=(Ao b:Int):=rfl
 have hf:Dg (b:Int)=Ku b:=rfl
 have hE:=Ey b
 have hM:=E1 b
 rw [compare.K3.ev,Ce hb,A04,A2g,A04,hk,hf]
 unfold Bz
 rw [A06]
 unfold Ane
 cases hfin:Ku b with
 | false=>rfl
 | true =>
   by_cases h0:Ao b=0
   ·rw [h0]; rfl
   ·have k0:(((Ao b:Nat):Int)==(0:Int))=false:=by rw [A1z]; omega
    have hm:Ay b≠0:=fun hz=>by
     obtain ⟨f4,f3⟩:=Rl hfin
     exact h0 ((H3 f3 f4).1 hz)
    have hl:(Ay b).log2≤52:=by have:=(A2k hm).2 (show Ay b<2^53 by omega); omega
    have e1:B1 (b:Int)=(Ay b:Int):=rfl
    have e2:Ba (b:Int)=A9 b:=rfl
    rw [k0,A1r ⟨rfl,h0⟩,A13,Bool.false_or,A08,A04,e1,e2,Ce (n:=Ay b) (by omega),A04,Zs hm,An (x:=((Ay b).log2:Int)+1-1) (by omega) (by omega),An (by omega) (by omega)]
    congr 2; omega
theorem Afg {x:List Int} {i:Nat} (h:i<x.length) (k s:Int):Afh k s (x.drop i)=Afh k (Kd s (D5 (B3 (x.getD i 0) k) (B3 (x.getD i 0) k))) (x.drop (i+1)):=by
 rw [Hh h,Afh]
theorem Amj (N:Nat) {x:List Int} (hx:Cy x=true) (hl:x.length≤1000):∀ (k i F:Nat) (s:Int),i+k=x.length→k<F→Ak s=true →
 Ah.Norm.L0 N F x s (i:Int)=some (.tup [.int .u64 (B3 (Gc (Afh (-Bz (Bl x)) s (x.drop i))) (Bz (Bl x))),.int .i64 0]):=by
 obtain ⟨_,hu⟩:=Ip hx
 have he:=Aaa (Bl x)
 intro k
 induction k with
 | zero =>
   intro i F s hi hF hs
   obtain ⟨F,rfl⟩:∃ G,F=G+1:=⟨F-1,by omega⟩
   rw [Ah.Norm.Av,Aw,A09 (by omega),A08,hs,A04,show Ds (Gc s) (Bz (Bl x))=true from Ad.2 ⟨Ac6 hs,Au.2 (by omega)⟩,A04,A1i (by omega)]
   rfl
 | succ k ih =>
   intro i F s hi hF hs
   obtain ⟨F,rfl⟩:∃ G,F=G+1:=⟨F-1,by omega⟩
   rw [Ah.Norm.Av,Aw,A05 (show (i:Int)<(x.length:Int) by omega),A04,A05 (show (0:Int)≤(i:Int) by omega),A1a,A04,A06,An (x:=0-Bz (Bl x)) (by omega) (by omega),show (0:Int)-Bz (Bl x)=-Bz (Bl x) by omega,
    show Ds (getD x i 0) (-Bz (Bl x))=true from Ad.2 ⟨hu i (by omega),Au.2 (by omega)⟩,A04,Ig (hu i (by omega)),A1a,A04,hs,Il,A1a,A04,Afg (by omega),An (by omega) (by omega)]
   exact ih (i+1) F _ (by omega) (by omega) (Ajw hs (Il _ _))
theorem Ah.Norm.known:Ah.Norm.Kn:=Ah.Norm.Ac (.cons compare.K3.known (.cons soft.Finite.known (.cons Ah.Add.known (.cons Ah.Br.known (.cons Ah.Mul.known (.cons Ah.Bt.known (.cons Ah.Sqrt.known .nil))))))) fun x hp=>by
 obtain ⟨hx,hl⟩:=Ad.1 (show (Cy x&&Co (length x≤64))=true from hp)
 have hl:=Au.1 hl
 refine ⟨65,Ah.Norm.out [.l x],[],?_,Wk.Gv (.cons .int (.cons .int .nil))⟩
 show _=some (DV.tup [.int .u64 (Dz x),.int .i64 0])
 rw [Ah.Norm.ev,Aw,A09 (by omega),A08,hx,A04,Oo,A2g,A04]
 unfold Dz
 by_cases h:Bl x=0∨Dg (Bl x)=false
 ·have:((Bl x==(0:Int))||(!(Dg (Bl x))))=true:=by
   rcases h with h | h
   ·rw [h]; rfl
   ·rw [h,A2n,A2g]
  rw [this,A04,A1r h]
 ·have:((Bl x==(0:Int))||(!(Dg (Bl x))))=false:=by
   rw [Bool.or_eq_false_iff,A1z,Bool.not_eq_false']
   refine ⟨fun h0=>h (.inl h0),?_⟩
   cases hf:Dg (Bl x) with
   | true=>rfl
   | false=>exact absurd (.inr hf) h
  rw [this,A08,A04,A1q h]
  exact Amj 65 hx (by omega) x.length 0 65 0 (by omega) (by omega) I8
end Go.Proofs.S1
namespace Go.Rnd
open Go.Den
theorem p52:Ay 4841369599423283200=2^52∧A9 4841369599423283200=0∧Ao 4841369599423283200=2∧B0 4841369599423283200=false:=by decide +kernel
theorem p53:Ay 4368491638549381120=2^52∧A9 4368491638549381120=-105∧Ao 4368491638549381120=2∧B0 4368491638549381120=false:=by decide +kernel
theorem Afr {L:Int} {q:Nat} (b1:2^52≤q) (b2:q<2^53) (he:-1074≤L) (hi:L+1074≤2045):min ((L+1074).toNat*2^52+q) 9218868437227405312=(L+1075).toNat*2^52+(q-2^52):=by
 obtain ⟨t,rfl⟩:∃ t:Nat,L=t-1074:=⟨(L+1074).toNat,by omega⟩
 have e1:((t:Int)-1074+1074).toNat=t:=by omega
 have e2:((t:Int)-1074+1075).toNat=t+1:=by omega
 rw [e1,e2]
 omega
theorem Aoy {m:Nat} (h0:m≠0) (h:m.log2≤52) {e:Int} (he:-1074≤e+m.log2-52) (hi:e+m.log2-52+1074≤2045) :
 Cv m e=(e+m.log2-52+1075).toNat*2^52+(m*2^(52-m.log2)-2^52)∧2^52≤m*2^(52-m.log2)∧m*2^(52-m.log2)<2^53:=by
 have hl:=Lu m (52-m.log2) h0
 have hne:m*2^(52-m.log2)≠0:=I3 h0
 have b1:2^52≤m*2^(52-m.log2):=by rw [← Nat.le_log2 hne,hl]; omega
 have b2:m*2^(52-m.log2)<2^53:=by rw [← A2k hne,hl]; omega
 have hs:=(Eo m (52-m.log2) e).1
 have ee:e-((52-m.log2:Nat):Int)=e+m.log2-52:=by omega
 rw [ee] at hs
 exact ⟨hs.symm.trans ((M4 b1 b2 (by omega)).trans (Afr b1 b2 he hi)),b1,b2⟩
theorem Api {x:Nat} (hx:x<2^64) (h3:Ao x≠3) (h4:Ao x≠4) (h0:Ao x≠0) :
 ∃ P f d:Nat,1≤P∧P≤2046∧f<2^52∧Mm x=Bp (B0 x) (P*2^52+f)∧f+2^52=Ay x*2^d∧(P:Int)-1075=A9 x-Je x-d:=by
 have hf:=Ks x
 have hp:=Jx x
 have hm:Ay x≠0:=fun h=>h0 ((H3 h3 h4).1 h)
 have hw:=M3 hx
 have hab:Hj x=Ea x*2^52+Di x:=by unfold Hj Ea Di; omega
 have hp2:Ea x≠2047:=fun h=>by
  rcases H9 x with ⟨_,_,k⟩ | ⟨_,_,k⟩ | ⟨k,_,_⟩
  ·exact h3 k
  ·exact h4 k
  ·omega
 unfold Mm Je
 by_cases hs:Hj x<4503599627370496
 ·have hz:Ea x=0:=by omega
  have eM:Ay x=Di x:=by unfold Ay; rw [A1r hz]
  have eE:A9 x=-1074:=by unfold A9; rw [A1r hz]
  have hl:(Ay x).log2≤51:=by have:=(A2k hm).2 (show Ay x<2^52 by omega); omega
  rw [A1r hs,A1r hs]
  have hmul:=mul_pow h3 h4 (by rw [p52.2.2.1]; decide) (by rw [p52.2.2.1]; decide) p52.1 p52.2.2.2
  rw [hmul,p52.2.1,eE]
  obtain ⟨r1,r2,r3⟩:=Aoy (e:=-1074+0+52) hm (by omega) (by omega) (by omega)
  refine ⟨(Ay x).log2+1,Ay x*2^(52-(Ay x).log2)-2^52,52-(Ay x).log2,by omega,by omega,by omega,?_,by omega,by omega⟩
  have ht:(-1074+0+52+((Ay x).log2:Int)-52+1075).toNat=(Ay x).log2+1:=by omega
  rw [ht] at r1
  exact congrArg (Bp (B0 x)) r1
 ·rw [A1q hs,A1q hs]
  have hz:Ea x≠0:=by
   intro h
   rw [h] at hab
   omega
  have eM:Ay x=Di x+2^52:=by unfold Ay; rw [A1q hz]
  have eE:A9 x=(Ea x:Int)-1075:=by unfold A9; rw [A1q hz]
  refine ⟨Ea x,Di x,0,by omega,by omega,hf,?_,by rw [eM,A12,A2d],by omega⟩
  rw [← hab]
  exact hw.symm
theorem Rx {s:Bool} {P f:Nat} (h1:1≤P) (h2:P≤2046) (hf:f<2^52) :
 Ea (Bp s (P*2^52+f))=P∧Di (Bp s (P*2^52+f))=f∧B0 (Bp s (P*2^52+f))=s∧Bp s (P*2^52+f)<2^64∧Ao (Bp s (P*2^52+f))=2 ∧
 Ay (Bp s (P*2^52+f))=f+2^52∧A9 (Bp s (P*2^52+f))=(P:Int)-1075:=by
 have e1:Ea (Bp s (P*2^52+f))=P:=by
  unfold Ea Bp
  cases s
  ·rw [A1q (by decide)]; omega
  ·rw [A1r rfl]; omega
 have e2:Di (Bp s (P*2^52+f))=f:=by
  unfold Di Bp
  cases s
  ·rw [A1q (by decide)]; omega
  ·rw [A1r rfl]; omega
 have e3:B0 (Bp s (P*2^52+f))=s:=sign_neg s (by omega)
 have e4:Bp s (P*2^52+f)<2^64:=by
  unfold Bp
  cases s
  ·rw [A1q (by decide)]; omega
  ·rw [A1r rfl]; omega
 refine ⟨e1,e2,e3,e4,?_,?_,?_⟩
 ·unfold Ao; rw [e1,A1q (by omega),A1r (by omega)]
 ·unfold Ay; rw [e1,e2,A1q (by omega)]
 ·unfold A9; rw [e1,A1q (by omega)]
theorem Aox {L:Int} {q f:Nat} (hf:f<2^52) (h1:-1074≤L) (h2:L+1074≤2045) (hq:(L+1075).toNat=q):Cv (f+2^52) L=q*2^52+f:=by
 have em:=Afr (L:=L) (q:=f+2^52) (by omega) (by omega) h1 h2
 rw [hq,Nat.add_sub_cancel] at em
 exact (M4 (by omega) (by omega) h1).trans em
theorem A0j {V:Nat} {E:Int} (h0:V≠0) (h:1024≤E+V.log2):Cv V E=Eh:=by
 have hl:Cs V E=E+V.log2-52:=by unfold Cs; omega
 have hk:=Ad8 h0 hl
 have hle:=Lj V E
 unfold Cv at hle ⊢
 rw [A1q h0] at hle ⊢
 rw [hl,Ir] at hle ⊢
 generalize kept V E=q at *
 obtain ⟨t,ht⟩:∃ t:Nat,E+(V.log2:Int)-52=t:=⟨(E+(V.log2:Int)-52).toNat,by omega⟩
 rw [ht]
 have:((t:Int)+1074).toNat=t+1074:=by omega
 rw [this]
 omega
theorem Y4 {y m:Nat} (h:D8 y=m) (hm:Ao m≠4):y=m:=by
 unfold D8 at h
 by_cases h4:Ao y=4
 ·rw [A1r h4] at h
  exact absurd (by rw [← h]; decide) hm
 ·rw [A1q h4] at h; exact h
theorem Rf (s:Bool) (V:Nat) (E:Int):Ao (Bp s (Cv V E))≠4:=by
 rw [Wp s (Lj V E)]
 split
 ·decide
 ·split
  ·decide
  ·split<;>decide
theorem Aow {x P f d:Nat} {k:Int} (hm:Ay x≠0) (he:f+2^52=Ay x*2^d) (hP:(P:Int)-1075=A9 x-Je x-d) :
 Cv (Ay x) (A9 x+k)=Cv (f+2^52) ((P:Int)-1075+Je x+k):=by
 have:=(Eo (Ay x) d (A9 x+k)).1
 rw [← he] at this
 rw [← this]
 congr 1
 omega
end Go.Rnd
namespace Go.Proofs.S1
open Go Go.Den Go.Rnd Go.Proofs
set_option maxRecDepth 100000
namespace EqLdx
def math.G7.Bc:List (Nat × Entry):=[]
def math.G7.E:Env:=Be (Bb math.G7.Bc) (fun _=>false) (fun _=>none) (fun _=>none)
theorem math.G7.ev (N x:Nat):Bu math.G7.E N f251 (Am f251) [.fl x]=some (.fl (x%9223372036854775808)):=by kernel_rfl
abbrev _root_.Go.Proofs.S1.math.G7.Kn:=A7 prog 251 math.G7.spec
theorem math.G7.Ac (hk:A1 prog math.G7.Bc) (h:Hyp math.G7.E f251 math.G7.ts math.G7.pre math.G7.out):math.G7.Kn :=
 Al (A2 hk _ _ _) func251 (by kernel_rfl) (by kernel_rfl) h
def math.Ho.Bc:List (Nat × Entry):=[]
def math.Ho.E:Env:=Be (Bb math.Ho.Bc) (fun _=>false) (fun _=>none) (fun _=>none)
theorem math.Ho.ev (N x:Nat):Bu math.Ho.E N f241 (Am f241) [.fl x]=some (.bool (Ieee.double.order x x !=some .eq)):=by kernel_rfl
abbrev _root_.Go.Proofs.S1.math.Ho.Kn:=A7 prog 241 math.Ho.spec
theorem math.Ho.Ac (hk:A1 prog math.Ho.Bc) (h:Hyp math.Ho.E f241 math.Ho.ts math.Ho.pre math.Ho.out):math.Ho.Kn :=
 Al (A2 hk _ _ _) func241 (by kernel_rfl) (by kernel_rfl) h
def math.Hp.Bc:List (Nat × Entry):=[(251,math.G7.spec)]
def math.Hp.E:Env:=Be (Bb math.Hp.Bc) (fun _=>false) (fun _=>none) (fun _=>none)
theorem math.Hp.ev (N x:Nat) (s:Int):Bu math.Hp.E N f240 (Am f240) [.fl x,.int .i64 s]=bif (s==(0:Int)) then some (.bool (Ieee.double.order (Hj x) 9218868437227405311==some .gt)) else bif (Bd s 0) then none else some (.bool (Ieee.double.order x 9218868437227405311==some .gt)):=by kernel_rfl
abbrev _root_.Go.Proofs.S1.math.Hp.Kn:=A7 prog 240 math.Hp.spec
theorem math.Hp.Ac (hk:A1 prog math.Hp.Bc) (h:Hyp math.Hp.E f240 math.Hp.ts math.Hp.pre math.Hp.out):math.Hp.Kn :=
 Al (A2 hk _ _ _) func240 (by kernel_rfl) (by kernel_rfl) h
def math.normalize.Bc:List (Nat × Entry):=[(251,math.G7.spec)]
def math.normalize.E:Env:=Be (Bb math.normalize.Bc) (fun _=>false) (fun _=>none) (fun _=>none)
theorem math.normalize.ev (N x:Nat):Bu math.normalize.E N f242 (Am f242) [.fl x]=bif (Ieee.double.order (Hj x) 4503599627370496==some .lt) then some (.tup [.fl ((Ieee.double.mul x 4841369599423283200).getD nanBits),.int .i64 (-52:Int)]) else some (.tup [.fl x,.int .i64 0]):=by kernel_rfl
abbrev _root_.Go.Proofs.S1.math.normalize.Kn:=A7 prog 242 math.normalize.spec
theorem math.normalize.Ac (hk:A1 prog math.normalize.Bc) (h:Hyp math.normalize.E f242 math.normalize.ts math.normalize.pre math.normalize.out):math.normalize.Kn :=
 Al (A2 hk _ _ _) func242 (by kernel_rfl) (by kernel_rfl) h
def math.D2.Bc:List (Nat × Entry):=[]
def math.D2.E:Env:=Ws (Bb math.D2.Bc) (fun _=>false) (fun _=>none) (fun _=>none) (Ahr [])
theorem math.D2.ev (N x y:Nat):Bu math.D2.E N f243 (Am f243) [.fl x,.fl y]=bif (!(F4 x)) then bif (!(F4 y)) then bif (decide (0≤(Iu .u64 (G5 .u64 (x:Int) 9223372036854775808) (E6 .u64 (y:Int) 9223372036854775808)))) then some (.fl (toNat (Iu .u64 (G5 .u64 (x:Int) 9223372036854775808) (E6 .u64 (y:Int) 9223372036854775808)))) else none else none else none:=by kernel_rfl
abbrev _root_.Go.Proofs.S1.math.D2.Kn:=A7 prog 243 math.D2.spec
theorem math.D2.Ac (hk:A1 prog math.D2.Bc) (h:Hyp math.D2.E f243 math.D2.ts math.D2.pre math.D2.out):math.D2.Kn :=
 Al (X6 hk _ _ _ _) func243 (by kernel_rfl) (by kernel_rfl) h
def math.W4.Bc:List (Nat × Entry):=[]
def math.W4.E:Env:=Be (Bb math.W4.Bc) (fun _=>false) (fun _=>none) (fun _=>none)
theorem math.W4.ev (N:Nat) (s:Int):Bu math.W4.E N f244 (Am f244) [.int .i64 s]=bif (Es 0 s) then some (.fl 9218868437227405312) else some (.fl 18442240474082181120):=by kernel_rfl
abbrev _root_.Go.Proofs.S1.math.W4.Kn:=A7 prog 244 math.W4.spec
theorem math.W4.Ac (hk:A1 prog math.W4.Bc) (h:Hyp math.W4.E f244 math.W4.ts math.W4.pre math.W4.out):math.W4.Kn :=
 Al (A2 hk _ _ _) func244 (by kernel_rfl) (by kernel_rfl) h
def math.G4.Bc:List (Nat × Entry):=[(243,math.D2.spec),(244,math.W4.spec),(240,math.Hp.spec),(241,math.Ho.spec),(242,math.normalize.spec)]
def math.G4.E:Env:=Ws (Bb math.G4.Bc) (fun _=>false) (fun _=>none) (fun _=>none) (Ahr [])
theorem math.G4.ev (N x:Nat) (k:Int):Bu math.G4.E N f216 (Am f216) [.fl x,.int .i64 k]=bif (Ieee.double.order x 0==some .eq) then some (.fl x) else bif (T7 x&&decide ((0:Int)=0)) then bif ((decide (Ao x=3))||(T7 x)) then bif ((decide (Ao x=3))||(decide (Ao x=4))) then some (.fl x) else bif (Ag8 x) then bif (!(F4 (Mm x))) then bif (Bd (Ab ((Ab (k+(Je x)))+(Ab ((E6 .i64 (Ab (Dy .u64 ((Mm x):Int) 52)) 2047)-1023)))) (-1075:Int)) then bif (Ag8 (Mm x)&&decide ((0:Int)=0)) then some (.fl (Bp (B0 (Mm x)) 0)) else none else bif (Bd 1023 (Ab ((Ab (k+(Je x)))+(Ab ((E6 .i64 (Ab (Dy .u64 ((Mm x):Int) 52)) 2047)-1023))))) then bif (Ieee.double.order (Mm x) 0==some .lt) then some (.fl (Bp (decide ((-1:Int)<0)) Eh)) else some (.fl (Bp (decide ((1:Int)<0)) Eh)) else bif (Bd (Ab ((Ab (k+(Je x)))+(Ab ((E6 .i64 (Ab (Dy .u64 ((Mm x):Int) 52)) 2047)-1023)))) (-1022:Int)) then bif (decide (0≤(Iu .u64 (G5 .u64 ((Mm x):Int) 9218868437227405312) (B9 .u64 (Bm (Ab ((Ab ((Ab ((Ab (k+(Je x)))+(Ab ((E6 .i64 (Ab (Dy .u64 ((Mm x):Int) 52)) 2047)-1023))))+53))+1023))) 52)))) then some (.fl ((Ieee.double.mul 4368491638549381120 (toNat (Iu .u64 (G5 .u64 ((Mm x):Int) 9218868437227405312) (B9 .u64 (Bm (Ab ((Ab ((Ab ((Ab (k+(Je x)))+(Ab ((E6 .i64 (Ab (Dy .u64 ((Mm x):Int) 52)) 2047)-1023))))+53))+1023))) 52)))).getD nanBits)) else none else bif (decide (0≤(Iu .u64 (G5 .u64 ((Mm x):Int) 9218868437227405312) (B9 .u64 (Bm (Ab ((Ab ((Ab (k+(Je x)))+(Ab ((E6 .i64 (Ab (Dy .u64 ((Mm x):Int) 52)) 2047)-1023))))+1023))) 52)))) then some (.fl ((Ieee.double.mul 4607182418800017408 (toNat (Iu .u64 (G5 .u64 ((Mm x):Int) 9218868437227405312) (B9 .u64 (Bm (Ab ((Ab ((Ab (k+(Je x)))+(Ab ((E6 .i64 (Ab (Dy .u64 ((Mm x):Int) 52)) 2047)-1023))))+1023))) 52)))).getD nanBits)) else none else none else none else none else none :=
 Eq.trans (by kernel_rfl)
 (Ec rfl (Ec (Ax (Uc (decide (Ao x=3))) (Cp (Alp (decide (Ao x=3)) (T7 x)) (Ax (Ye (decide (Ao x=3))) (Cp (tt5 (decide (Ao x=3)) (decide (Ao x=4))) rfl rfl)) rfl)) rfl))
abbrev _root_.Go.Proofs.S1.math.G4.Kn:=A7 prog 216 math.G4.spec
theorem math.G4.Ac (hk:A1 prog math.G4.Bc) (h:Hyp math.G4.E f216 math.G4.ts math.G4.pre math.G4.out):math.G4.Kn :=
 Al (X6 hk _ _ _ _) func216 (by kernel_rfl) (by kernel_rfl) h
def math.H2.Bc:List (Nat × Entry):=[(216,math.G4.spec)]
def math.H2.E:Env:=Be (Bb math.H2.Bc) (fun _=>false) (fun _=>none) (fun _=>none)
theorem math.H2.ev (N x:Nat) (k:Int):Bu math.H2.E N f165 (Am f165) [.fl x,.int .i64 k]=bif (T7 x&&Co (-2300≤k∧k≤2300)) then some (.fl (I4 x k)) else none:=by kernel_rfl
abbrev _root_.Go.Proofs.S1.math.H2.Kn:=A7 prog 165 math.H2.spec
theorem math.H2.Ac (hk:A1 prog math.H2.Bc) (h:Hyp math.H2.E f165 math.H2.ts math.H2.pre math.H2.out):math.H2.Kn :=
 Al (A2 hk _ _ _) func165 (by kernel_rfl) (by kernel_rfl) h
def Ai.Bt.Bc:List (Nat × Entry):=[(165,math.H2.spec),(102,Ai.B.spec),(159,Ai.F.spec)]
def Ai.Bt.E:Env:=Be (Bb Ai.Bt.Bc) (fun _=>false) (fun _=>none) (fun _=>none)
theorem Ai.Bt.ev (N:Nat) (a k:Int):Bu Ai.Bt.E N f96 (Am f96) [.int .u64 a,.int .i64 k]=bif (Ak a) then bif (T7 (toNat a)&&Co (-2300≤k∧k≤2300)) then some (.int .u64 (Ge (I4 (toNat a) k))) else none else none:=by kernel_rfl
abbrev _root_.Go.Proofs.S1.Ai.Bt.Kn:=A7 prog 96 Ai.Bt.spec
theorem Ai.Bt.Ac (hk:A1 prog Ai.Bt.Bc) (h:Hyp Ai.Bt.E f96 Ai.Bt.ts Ai.Bt.pre Ai.Bt.out):Ai.Bt.Kn :=
 Al (A2 hk _ _ _) func96 (by kernel_rfl) (by kernel_rfl) h
end EqLdx
open EqLdx
theorem Zx (n:Nat):F4 n=decide (Ao n=4):=Zc n
theorem Aet (x:Nat):Hj x<2^64:=Nat.lt_trans (Sm x) (by decide)
theorem Rg (x:Nat):Ao (Hj x)=Ao x:=by
 have e1:Ea (Hj x)=Ea x:=by unfold Ea Hj; omega
 have e2:Di (Hj x)=Di x:=by unfold Di Hj; omega
 unfold Ao
 rw [e1,e2]
theorem Rp (x y:Int):(compare x y=.lt↔x<y)∧(compare x y=.gt↔y<x)∧(compare x y=.eq↔x=y):=by
 rcases Int.lt_trichotomy x y with h | h | h
 ·rw [Ajm h]; refine ⟨by simp [h],?_,?_⟩<;>simp<;>omega
 ·subst h
  have:compare x x=.eq:=by simp [compare,compareOfLessAndEq]
  rw [this]; simp
 ·rw [Ajn h]; refine ⟨?_,by simp [h],?_⟩<;>simp<;>omega
theorem math.G7.known:math.G7.Kn:=math.G7.Ac .nil fun x _=>⟨0,math.G7.out [.f x],[],by rw [math.G7.ev]; rfl,.fl⟩
theorem math.Ho.known:math.Ho.Kn:=math.Ho.Ac .nil fun x hp=>by
 have hx:=Au.1 (show T7 x=true from hp)
 refine ⟨0,math.Ho.out [.f x],[],?_,.bool⟩
 show _=some (DV.bool (decide (Ao x=4)))
 rw [math.Ho.ev]
 by_cases h:Ao x=4
 ·rw [Wg hx hx (.inl h),A05 h]; rfl
 ·rw [O7 hx hx h h,A09 h,(Rp _ _).2.2.2 rfl]; rfl
theorem At9 {x:Nat} (hx:x<2^64) (h4:Ao x≠4):(Ieee.double.order (Hj x) 9218868437227405311==some .gt)=decide (Ao x=3):=by
 have k1:Ao 9218868437227405311≠4:=by decide +kernel
 have k2:Im 9218868437227405311=9218868437227405311:=by decide +kernel
 have ka:Im (Hj x)=((Hj x:Nat):Int):=by
  have:=Pg false (r:=Hj x) (Sm x)
  exact this
 rw [O7 (Aet x) (by decide) (by rw [Rg]; exact h4) k1,k2,ka]
 have hl:=Av4 h4
 rw [A1k,beq_iff_eq,A07,(Rp _ _).2.1,A1b]
 constructor
 ·intro h
  refine Decidable.byContradiction fun h3=>?_
  have:=Vk h3 h4
  rw [Ir] at this
  unfold Hj at h
  omega
 ·intro h3
  have:=Vj h3
  rw [Ir] at this
  unfold Hj
  omega
theorem math.Hp.known:math.Hp.Kn:=math.Hp.Ac (.cons math.G7.known .nil) fun x s hp=>by
 obtain ⟨h1,h2⟩:=Ad.1 (show (T7 x&&decide (s=0))=true from hp)
 have hx:=Au.1 h1
 obtain rfl:=A1u h2
 refine ⟨0,math.Hp.out [.f x,.i 0],[],?_,.bool⟩
 show _=some (DV.bool (decide (Ao x=3)))
 rw [math.Hp.ev,show ((0:Int)==(0:Int))=true from rfl,A04]
 by_cases h4:Ao x=4
 ·rw [Wg (Aet x) (by decide) (.inl (by rw [Rg]; exact h4)),A09 (by omega)]; rfl
 ·rw [At9 hx h4]
theorem math.normalize.known:math.normalize.Kn:=math.normalize.Ac (.cons math.G7.known .nil) fun x hp=>by
 obtain ⟨hx,h3,h4⟩:=Au.1 (show Ag8 x=true from hp)
 refine ⟨0,math.normalize.out [.f x],[],?_,Wk.Gv (.cons .fl (.cons .int .nil))⟩
 show _=some (DV.tup [.fl (Mm x),.int .i64 (Je x)])
 have k1:Ao 4503599627370496≠4:=by decide +kernel
 have k2:Im 4503599627370496=4503599627370496:=by decide +kernel
 have ka:Im (Hj x)=((Hj x:Nat):Int):=Pg false (r:=Hj x) (Sm x)
 have hc:(Ieee.double.order (Hj x) 4503599627370496==some .lt)=decide (Hj x<4503599627370496):=by
  rw [O7 (Aet x) (by decide) (by rw [Rg]; exact h4) k1,k2,ka,A1k,beq_iff_eq,A07,(Rp _ _).1,A1b]
  omega
 rw [math.normalize.ev,hc]
 unfold Mm Je
 by_cases h:Hj x<4503599627370496
 ·rw [A05 h,A04,A1r h,A1r h]
  have hm:=mul_pow h3 h4 (by rw [p52.2.2.1]; decide) (by rw [p52.2.2.1]; decide) p52.1 p52.2.2.2
  have:=Y4 (Va hx (b:=4841369599423283200) (by decide) G3) (by rw [hm]; exact Rf _ _ _)
  rw [this]
 ·rw [A09 h,A08,A1q h,A1q h]
theorem As7 {n:Nat} (h:n<2^64):n &&& 9227875636482146303=n / 2^63*2^63+n%2^52:=by
 have hf:n%2^52<2^63:=by omega
 apply Nat.eq_of_testBit_eq
 intro j
 rw [Nat.testBit_and,show (9227875636482146303:Nat)=2^63*1+(2^52-1) from rfl,A1s (n / 2^63),Nat.testBit_two_pow_mul_add _ (by decide:2^52-1<2^63),Nat.testBit_two_pow_mul_add _ hf]
 by_cases hj:j<63
 ·rw [A1r hj,A1r hj,Nat.testBit_mod_two_pow,Nat.testBit_two_pow_sub_one,Bool.and_comm]
 ·rw [A1q hj,A1q hj,Nat.testBit_div_two_pow,Nat.sub_add_cancel (by omega)]
  by_cases h63:j=63
  ·subst h63
   show (n.testBit 63&&true)=_
   rw [Bool.and_true]
  ·have e1:Nat.testBit 1 (j-63)=false:=by rw [show (1:Nat)=2^0 from rfl,Nat.testBit_two_pow]; exact A09 (by omega)
   have e2:n.testBit j=false:=Nat.testBit_lt_two_pow (A2f h (A1j (by decide) (by omega)))
   rw [e1,e2]; rfl
theorem Ahp {n:Nat} (h:n<2^64):G5 .u64 (n:Int) (9218868437227405312:Int)=((n / 2^63*2^63+n%2^52:Nat):Int):=by
 have e:(BitVec.ofInt 64 (n:Int) &&& ~~~(BitVec.ofInt 64 9218868437227405312)).toNat=n / 2^63*2^63+n%2^52:=by
  have e1 : ~~~(BitVec.ofInt 64 9218868437227405312)=BitVec.ofNat 64 9227875636482146303:=by decide
  rw [e1,BitVec.toNat_and,BitVec.toNat_ofNat,BitVec.toNat_ofInt]
  have e2:(((n:Int)%((2^64:Nat):Int)).toNat)=n:=by omega
  rw [e2]
  exact As7 h
 have e':(BitVec.ofInt IntKind.u64.bits (n:Int) &&& ~~~(BitVec.ofInt IntKind.u64.bits 9218868437227405312)).toNat=n / 2^63*2^63+n%2^52:=e
 unfold G5
 rw [e']
 exact Ui (by omega)
theorem or3 {A X Y Z W V f:Nat} (h1:A=f ||| X) (h2:X ||| Y=Z) (h3:f ||| Z=W) (h4:W=V):A ||| Y=V:=by rw [h1,Nat.or_assoc,h2,h3,h4]
theorem A0h (s p f:Nat):(s*2^11+p)*2^52+f=s*2^63+p*2^52+f:=by
 rw [A18,A1v,← A1t]
theorem Avs {s f p:Nat} (hs:s<2) (hf:f<2^52) (hp:p<2048):(s*2^63+f) ||| (p*2^52)=s*2^63+p*2^52+f:=by
 have e1:s*2^63+f=f ||| s*2^11*2^52:=by rw [Nk hf]; omega
 have e2:s*2^11*2^52 ||| p*2^52=(s*2^11+p)*2^52:=by
  have:=Nk (a:=s) (b:=p) (k:=11) hp
  rw [← Nat.shiftLeft_eq,← Nat.shiftLeft_eq p,← Nat.shiftLeft_or_distrib,Nat.or_comm,this,Nat.shiftLeft_eq]
 exact or3 e1 e2 (Nk hf) (A0h s p f)
theorem Aki {s:Bool} {P f:Nat} (h2:P≤2046) (hf:f<2^52) {q:Nat} (hq:q<2048) :
 Iu .u64 (G5 .u64 ((Bp s (P*2^52+f):Nat):Int) (9218868437227405312:Int)) (B9 .u64 (Bm (q:Int)) (52:Int))=((Bp s (q*2^52+f):Nat):Int):=by
 have h64:Bp s (P*2^52+f)<2^64:=by
  unfold Bp
  cases s
  ·rw [A1q (by decide)]; omega
  ·rw [A1r rfl]; omega
 have ef:Bp s (P*2^52+f)%2^52=f:=by
  unfold Bp
  cases s
  ·rw [A1q (by decide)]; omega
  ·rw [A1r rfl]; omega
 have es:Bp s (P*2^52+f) / 2^63=if s then 1 else 0:=by
  unfold Bp
  cases s
  ·rw [A1q (by decide),A1q (by decide)]; omega
  ·rw [A1r rfl,A1r rfl]; omega
 rw [Ahp h64,ef,es,Dh (by omega) (by omega),show (52:Int)=((52:Nat):Int) from rfl,Fw q 52 (by decide),A1h (by omega),Vx (by split<;>omega) (by omega),Avs (by split<;>decide) hf hq]
 refine congrArg (fun n:Nat=>(n:Int)) ?_
 unfold Bp
 cases s
 ·rw [A1q (by decide),A1q (by decide)]; omega
 ·rw [A1r rfl,A1r rfl]; omega
theorem Aqw {s:Bool} {P f:Nat} (h1:1≤P) (h2:P≤2046) (hf:f<2^52):E6 .i64 (Ab (Dy .u64 ((Bp s (P*2^52+f):Nat):Int) (52:Int))) (2047:Int)=(P:Int):=by
 obtain ⟨e1,_,_,h64,_⟩:=Rx (s:=s) h1 h2 hf
 rw [show (52:Int)=((52:Nat):Int) from rfl,Rr _ _ (by decide),An (by omega) (by omega)]
 have hb:E6 .i64 ((Bp s (P*2^52+f) / 2^52:Nat):Int) (2047:Int)=Ab ((Bp s (P*2^52+f) / 2^52%2048:Nat):Int):=by
  unfold E6
  have e:(BitVec.ofInt 64 ((Bp s (P*2^52+f) / 2^52:Nat):Int) &&& BitVec.ofInt 64 2047).toNat=Bp s (P*2^52+f) / 2^52%2048:=by
   rw [BitVec.toNat_and,Jd,show (BitVec.ofInt 64 2047).toNat=2^11-1 from rfl,Nat.and_two_pow_sub_one_eq_mod]
   omega
  have e':(BitVec.ofInt IntKind.i64.bits ((Bp s (P*2^52+f) / 2^52:Nat):Int) &&& BitVec.ofInt IntKind.i64.bits 2047).toNat=Bp s (P*2^52+f) / 2^52%2048:=e
  rw [e']
  rfl
 unfold Ea at e1
 rw [hb,e1,An (by omega) (by omega)]
theorem math.D2.known:math.D2.Kn:=math.D2.Ac .nil fun x y hp=>by
 obtain ⟨h1,h2⟩:=Ad.1 (show (Ag8 y&&decide (x=0))=true from hp)
 obtain ⟨hy,h3,h4⟩:=Au.1 (show Co _=true from h1)
 obtain rfl:=A1u h2
 refine ⟨0,math.D2.out [.f 0,.f y],[],?_,.fl⟩
 show _=some (DV.fl (Bp (B0 y) 0))
 have n0:F4 0=false:=by decide +kernel
 have ny:F4 y=false:=by rw [Zx]; exact A09 h4
 have e1:G5 .u64 ((0:Nat):Int) (9223372036854775808:Int)=((0:Nat):Int):=Aaq (by decide)
 have e2:E6 .u64 (y:Int) (9223372036854775808:Int)=((Bp (B0 y) 0:Nat):Int):=by
  rw [show (9223372036854775808:Int)=((9223372036854775808:Nat):Int) from rfl,Ahl hy (by decide)]
  congr 1
  apply Nat.eq_of_testBit_eq
  intro j
  rw [Nat.testBit_and,show (9223372036854775808:Nat)=2^63 from rfl,Nat.testBit_two_pow]
  unfold Bp B0
  by_cases hn:2^63≤y
  ·rw [A05 hn,A1r rfl,A2c,Nat.testBit_two_pow]
   by_cases hj:63=j
   ·subst hj
    have:y.testBit 63=true:=by
     rw [Nat.testBit_eq_decide_div_mod_eq,A1b]; omega
    rw [this]; rfl
   ·rw [A09 hj,Bool.and_false]
  ·rw [A09 hn,A1q (by decide),Nat.zero_testBit]
   by_cases hj:63=j
   ·subst hj
    rw [Nat.testBit_lt_two_pow (by omega)]; rfl
   ·rw [A09 hj,Bool.and_false]
 have e3:Iu .u64 ((0:Nat):Int) ((Bp (B0 y) 0:Nat):Int)=((Bp (B0 y) 0:Nat):Int):=by
  rw [Vx (by decide) (by unfold Bp; split<;>decide),Nat.zero_or]
 rw [math.D2.ev,n0,ny,e1,e2,e3,A05 (by omega)]
 rfl
theorem math.W4.known:math.W4.Kn:=math.W4.Ac .nil fun s _=>by
 refine ⟨0,math.W4.out [.i s],[],?_,.fl⟩
 show _=some (DV.fl (Bp (decide (s<0)) Eh))
 rw [math.W4.ev,Ej]
 by_cases h:s<0
 ·rw [A09 (by omega),A05 h]; rfl
 ·rw [A05 (by omega),A09 h]; rfl
open EqLdx
theorem P4 {x:Nat} (hx:x<2^64):(Ieee.double.order x 0==some .eq)=decide (Ao x=0):=by
 by_cases h4:Ao x=4
 ·rw [Wg hx (by decide) (.inl h4),A09 (by omega)]; rfl
 ·have k0:Ao 0≠4:=by decide +kernel
  have z:Im 0=0:=by decide +kernel
  have hk:Im x=0↔x%2^63=0:=by
   have:=Pg (B0 x) (r:=x%2^63) (Nat.mod_lt _ (by decide))
   rw [M3 hx] at this
   rw [this]
   unfold Hv
   cases B0 x
   ·rw [A1q (by decide)]; omega
   ·rw [A1r rfl]; omega
  have h0:Ao x=0↔x%2^63=0:=by
   have hp:x%2^63=Ea x*2^52+Di x:=by unfold Ea Di; omega
   rw [hp]
   have:=Jx x
   unfold Ao
   split
   ·split<;>omega
   ·split
    ·omega
    ·split<;>omega
  rw [O7 hx (by decide) h4 k0,z,A1k,beq_iff_eq,A07,(Rp _ _).2.2,A1b,hk,h0]
theorem Amg {x:Nat} (hx:x<2^64) (h4:Ao x≠4) (h0:Ao x≠0):(Ieee.double.order x 0==some .lt)=B0 x:=by
 have k0:Ao 0≠4:=by decide +kernel
 have z:Im 0=0:=by decide +kernel
 have hp:x%2^63=Ea x*2^52+Di x:=by unfold Ea Di; omega
 have hne:x%2^63≠0:=by
  intro h
  refine h0 ?_
  unfold Ao
  rw [A1q (by omega),A1q (by omega),A1q (by omega)]
 have:=Pg (B0 x) (r:=x%2^63) (Nat.mod_lt _ (by decide))
 rw [M3 hx] at this
 rw [O7 hx (by decide) h4 k0,z,A1k,beq_iff_eq,A07,(Rp _ _).1,this]
 unfold Hv
 cases B0 x
 ·rw [A1q (by decide)]
  constructor
  ·intro h; omega
  ·intro h; cases h
 ·rw [A1r rfl]
  constructor
  ·intro _; rfl
  ·intro _; omega
theorem Ami (x:Nat):Je x=-52∨Je x=0:=by unfold Je; split<;>simp
theorem Atc {f:Nat} (hf:f<2^52):(f+2^52).log2=52:=Vg (a:=52) (by omega) (by omega)
theorem math.G4.known:math.G4.Kn:=math.G4.Ac (.cons math.D2.known (.cons math.W4.known (.cons math.Hp.known (.cons math.Ho.known (.cons math.normalize.known .nil))))) fun x k hp=>by
 obtain ⟨h1,h2⟩:=Ad.1 (show (T7 x&&Co (-2300≤k∧k≤2300))=true from hp)
 have hx:=Au.1 (show Co (x<2^64)=true from h1)
 have hk:=Au.1 h2
 refine ⟨0,.fl (I4 x k),[],?_,.fl⟩
 by_cases h0:Ao x=0
 ·have:I4 x k=x:=by unfold I4 G1; rw [A1q (by omega),A1q (by omega),A1r (.inr h0)]
  rw [math.G4.ev,P4 hx,A05 h0,A04,this]
 by_cases h3:Ao x=3
 ·have:I4 x k=x:=by unfold I4 G1; rw [A1q (by omega),A1q (by omega),A1r (.inl h3)]
  rw [math.G4.ev,P4 hx,A09 h0,A08,h1,A05 (rfl:(0:Int)=0),A1a,A04,A2g,A04,A05 h3,Bool.true_or,A04,this]
 by_cases h4:Ao x=4
 ·have:I4 x k=x:=by unfold I4; rw [A1r h4]
  rw [math.G4.ev,P4 hx,A09 h0,A08,h1,A05 (rfl:(0:Int)=0),A1a,A04,A2g,A04,A05 h4,A2g,A04,this]
 obtain ⟨P,f,d,p1,p2,hf,hw,hM,hP⟩:=Api hx h3 h4 h0
 obtain ⟨w1,w2,w3,w4,w5,w6,w7⟩:=Rx (s:=B0 x) p1 p2 hf
 have hm:Ay x≠0:=fun h=>h0 ((H3 h3 h4).1 h)
 have hr:=Ami x
 have hl:=Atc hf
 have hld:I4 x k=Bp (B0 x) (Cv (f+2^52) ((P:Int)-1075+Je x+k)):=by
  have:=Aow (k:=k) hm hM hP
  unfold I4 G1
  rw [A1q h4,A1q h4,A1q (by omega),this]
 have hp:T7 x=true:=Au.2 hx
 have hfp:Ag8 x=true:=Au.2 ⟨hx,h3,h4⟩
 have hnn:F4 (Mm x)=false:=by rw [Zx,hw,w5]; rfl
 have hfw:Ag8 (Mm x)=true:=by rw [hw]; exact Au.2 ⟨w4,by omega,by omega⟩
 have ee:Ab (Ab (k+Je x)+Ab (E6 .i64 (Ab (Dy .u64 ((Mm x:Nat):Int) (52:Int))) (2047:Int)-(1023:Int)))=k+Je x+(P:Int)-1023:=by
  rw [hw,Aqw p1 p2 hf,An (x:=k+Je x) (by omega) (by omega),An (x:=(P:Int)-1023) (by omega) (by omega),An (by omega) (by omega)]
  omega
 have hrun:=math.G4.ev 0 x k
 rw [P4 hx,A09 h0,A08,hp,A05 (rfl:(0:Int)=0),A1a,A04,A2g,A04,A09 h3,A09 h4,Bool.or_self,A08,hfp,A04,hnn,A2n,A04,ee,hfw,A1a,A04] at hrun
 refine hrun.trans ?_
 rw [hld]
 rw [Aw,Aw,Aw]
 by_cases c1:k+Je x+(P:Int)-1023 < -1075
 ·rw [A05 c1,A04,hw,w3,(Go.Rnd.Alv (V:=f+2^52) (by omega) (by rw [hl]; omega)).1]
 ·rw [A09 c1,A08]
  by_cases c2:1023<k+Je x+(P:Int)-1023
  ·have hng:(Ieee.double.order (Mm x) 0==some .lt)=B0 x:=by
    rw [hw,Amg w4 (by omega) (by omega),w3]
   rw [A05 c2,A04,hng,A0j (by omega) (by rw [hl]; omega)]
   cases B0 x<;>rfl
  ·rw [A09 c2,A08]
   by_cases c3:k+Je x+(P:Int)-1023 < -1022
   ·obtain ⟨q,hq⟩:∃ q:Nat,k+Je x+(P:Int)-1023+53+1023=q:=⟨(k+Je x+(P:Int)-1023+53+1023).toNat,by omega⟩
    have e1:Ab (Ab (k+Je x+(P:Int)-1023+53)+1023)=(q:Int):=by
     rw [An (x:=k+Je x+(P:Int)-1023+53) (by omega) (by omega),An (by omega) (by omega)]; exact hq
    have e2:=Aki (s:=B0 x) (P:=P) (f:=f) p2 hf (q:=q) (by omega)
    obtain ⟨v1,v2,v3,v4,v5,v6,v7⟩:=Rx (s:=B0 x) (P:=q) (f:=f) (by omega) (by omega) hf
    have hmul:=mul_pow (a:=Bp (B0 x) (q*2^52+f)) (p:=4368491638549381120) (by omega) (by omega) (by rw [p53.2.2.1]; decide) (by rw [p53.2.2.1]; decide) p53.1 p53.2.2.2
    have hmi:=Va (a:=4368491638549381120) (b:=Bp (B0 x) (q*2^52+f)) (by decide) v4 G3
    rw [Ab0] at hmi
    have:=Y4 hmi (by rw [hmul]; exact Rf _ _ _)
    have e3:(q:Int)-1075+-105+52=(P:Int)-1075+Je x+k:=by omega
    have e4:(Nz (Bp (B0 x) (q*2^52+f)) 4368491638549381120).1=Bp (B0 x) (Cv (f+2^52) ((P:Int)-1075+Je x+k)):=by
     rw [hmul,v3,v6,v7,p53.2.1,e3]
    rw [e4] at this
    rw [A05 c3,A04,e1,hw,e2,A05 (by omega),A04,A06,this]
   ·obtain ⟨q,hq⟩:∃ q:Nat,k+Je x+(P:Int)-1023+1023=q:=⟨(k+Je x+(P:Int)-1023+1023).toNat,by omega⟩
    have e1:Ab (k+Je x+(P:Int)-1023+1023)=(q:Int):=by rw [An (by omega) (by omega)]; exact hq
    have e2:=Aki (s:=B0 x) (P:=P) (f:=f) p2 hf (q:=q) (by omega)
    obtain ⟨v1,v2,v3,v4,v5,v6,v7⟩:=Rx (s:=B0 x) (P:=q) (f:=f) (by omega) (by omega) hf
    have hone:Nz 4607182418800017408 (Bp (B0 x) (q*2^52+f))=(Bp (B0 x) (q*2^52+f),0):=by
     rw [Ab0]; exact mul_one v4 (by omega) (by omega)
    have hmi:=Va (a:=4607182418800017408) (b:=Bp (B0 x) (q*2^52+f)) (by decide) v4 G3
    have:=Y4 hmi (by rw [hone]; show Ao (Bp (B0 x) (q*2^52+f))≠4; omega)
    have er:=Aox (L:=(P:Int)-1075+Je x+k) (q:=q) hf (by omega) (by omega) (by omega)
    rw [A09 c3,A08,e1,hw,e2,A05 (by omega),A04,A06,this,hone,er]
theorem math.H2.known:math.H2.Kn:=math.H2.Ac (.cons math.G4.known .nil) fun x k hp=>by
 have hp:(T7 x&&Co (-2300≤k∧k≤2300))=true:=hp
 exact ⟨0,.fl (I4 x k),[],by rw [math.H2.ev,hp,A04],.fl⟩
theorem Ahj {x:Nat} (k:Int):D8 (I4 x k)=(G1 x k).1:=by
 unfold I4
 by_cases h4:Ao x=4
 ·rw [A1r h4]
  unfold D8 G1
  rw [A1r h4,A1r h4]
 ·rw [A1q h4]
  unfold D8
  rw [A1q]
  unfold G1
  rw [A1q h4]
  by_cases h3:Ao x=3∨Ao x=0
  ·rw [A1r h3]; exact h4
  ·rw [A1q h3]; exact Rf _ _ _
theorem Ai.Bt.known:Ai.Bt.Kn:=Ai.Bt.Ac (.cons math.H2.known (.cons Ai.B.known (.cons Ai.F.known .nil))) fun a k hp=>by
 obtain ⟨h1,h2⟩:=Ad.1 (show Ds a k=true from hp)
 obtain ⟨x,rfl,hx⟩:=Bo h1
 refine ⟨0,.int .u64 (B3 (x:Int) k),[],?_,.int⟩
 have hp:T7 x=true:=Au.2 hx
 have:Ge (I4 x k)=B3 (x:Int) k:=by
  unfold Ge B3
  rw [A06,Ahj]
 rw [Ai.Bt.ev,h1,A04,A06,hp,h2,A1a,A04,this]
namespace EqRef08
def Bq.ends.Bc:List (Nat × Entry):=[(131,A5.Finite.spec),(142,A5.Neg.spec)]
def Bq.ends.E:Env:=Be (Bb Bq.ends.Bc) (fun _=>false) (fun _=>none) (fun _=>none)
theorem Bq.ends.ev (N:Nat) (b:Int):Bu Bq.ends.E N f164 (Am f164) [.int .u64 b]=bif (Ak b) then bif (Dg b) then some (.int .i64 0) else bif (Ak b) then bif (D4 b) then some (.int .i64 (-1:Int)) else some (.int .i64 1) else none else none:=by kernel_rfl
abbrev _root_.Go.Proofs.S1.Bq.ends.Kn:=A7 prog 164 Bq.ends.spec
theorem Bq.ends.Ac (hk:A1 prog Bq.ends.Bc) (h:Hyp Bq.ends.E f164 Bq.ends.ts Bq.ends.pre Bq.ends.out):Bq.ends.Kn :=
 Al (A2 hk _ _ _) func164 (by kernel_rfl) (by kernel_rfl) h
def Bq.Order.Bc:List (Nat × Entry):=[(116,Aq.Compare.spec),(62,A5.Kind.spec),(63,A5.Value.spec),(164,Bq.ends.spec)]
def Bq.Order.E:Env:=Be (Bb Bq.Order.Bc) (fun _=>false) (fun _=>none) (fun _=>none)
theorem Bq.Order.ev (N:Nat) (a b:Int):Bu Bq.Order.E N f95 (Am f95) [.int .u64 a,.int .u64 b]=bif (K9 a) then bif (((Bk a)==(4:Int))||(K9 b)) then bif (((Bk a)==(4:Int))||((Bk b)==(4:Int))) then some (.tup [.int .i64 0,.bool false]) else bif (Ak a) then bif (Ak b) then bif (((Rm a) !=(0:Int))||((Rm b) !=(0:Int))) then some (.tup [.int .i64 (max (-1:Int) (min 1 (Ab ((Rm a)-(Rm b))))),.bool true]) else bif (Ak a) then bif (Ak b) then bif (((R8 (A6 (mD (Bj a))) (Aj (mD (Bj a)))&&R8 (A6 (mD (Bj b))) (Aj (mD (Bj b))))&&Nl (eD (Bj a) (Ba a)))&&Nl (eD (Bj b) (Ba b))) then some (.tup [.int .i64 (Xr (wv (A6 (mD (Bj a))) (Aj (mD (Bj a)))) (eD (Bj a) (Ba a)) (wv (A6 (mD (Bj b))) (Aj (mD (Bj b)))) (eD (Bj b) (Ba b))),.bool true]) else none else none else none else none else none else none else none :=
 Eq.trans (by kernel_rfl)
 (Ec (Ax (Uc ((Bk a)==(4:Int))) (Cp (Alp ((Bk a)==(4:Int)) (K9 b)) (Ax (Sr ((Bk a)==(4:Int))) (Ax (Ye ((Bk a)==(4:Int))) (Cp (tt5 ((Bk a)==(4:Int)) ((Bk b)==(4:Int))) rfl (Ec (Ec (Ax (Uc ((Rm a) !=(0:Int))) (Ax (Sr ((Rm a) !=(0:Int))) (Ax (Ye ((Rm a) !=(0:Int))) (Cp (tt5 ((Rm a) !=(0:Int)) ((Rm b) !=(0:Int))) rfl rfl)))) rfl) rfl)))) rfl)) rfl)
abbrev _root_.Go.Proofs.S1.Bq.Order.Kn:=A7 prog 95 Bq.Order.spec
theorem Bq.Order.Ac (hk:A1 prog Bq.Order.Bc) (h:Hyp Bq.Order.E f95 Bq.Order.ts Bq.Order.pre Bq.Order.out):Bq.Order.Kn :=
 Al (A2 hk _ _ _) func95 (by kernel_rfl) (by kernel_rfl) h
def Bq.G7.Bc:List (Nat × Entry):=[(163,A5.Dp.spec),(142,A5.Neg.spec)]
def Bq.G7.E:Env:=Be (Bb Bq.G7.Bc) (fun _=>false) (fun _=>none) (fun _=>none)
theorem Bq.G7.ev (N:Nat) (a:Int):Bu Bq.G7.E N f94 (Am f94) [.int .u64 a]=bif (Ak a) then bif (D4 a) then bif (Ak a) then some (.int .u64 (Dk a)) else none else some (.int .u64 a) else none:=by kernel_rfl
abbrev _root_.Go.Proofs.S1.Bq.G7.Kn:=A7 prog 94 Bq.G7.spec
theorem Bq.G7.Ac (hk:A1 prog Bq.G7.Bc) (h:Hyp Bq.G7.E f94 Bq.G7.ts Bq.G7.pre Bq.G7.out):Bq.G7.Kn :=
 Al (A2 hk _ _ _) func94 (by kernel_rfl) (by kernel_rfl) h
def Bq.Max.Bc:List (Nat × Entry):=[(95,Bq.Order.spec)]
def Bq.Max.E:Env:=Be (Bb Bq.Max.Bc) (fun _=>false) (fun _=>none) (fun _=>none)
theorem Bq.Max.ev (N:Nat) (a b:Int):Bu Bq.Max.E N f93 (Am f93) [.int .u64 a,.int .u64 b]=bif (Ak a&&Ak b) then bif (!(Aby a b)) then some (.int .u64 9221120237041090560) else bif (Bd (Tn a b) 0) then some (.int .u64 b) else some (.int .u64 a) else none:=by kernel_rfl
abbrev _root_.Go.Proofs.S1.Bq.Max.Kn:=A7 prog 93 Bq.Max.spec
theorem Bq.Max.Ac (hk:A1 prog Bq.Max.Bc) (h:Hyp Bq.Max.E f93 Bq.Max.ts Bq.Max.pre Bq.Max.out):Bq.Max.Kn :=
 Al (A2 hk _ _ _) func93 (by kernel_rfl) (by kernel_rfl) h
end EqRef08
namespace EqRef13
def Bq.K3.Bc:List (Nat × Entry):=[(180,Aq.V1.spec),(131,A5.Finite.spec),(62,A5.Kind.spec),(63,A5.Value.spec)]
def Bq.K3.E:Env:=Be (Bb Bq.K3.Bc) (fun _=>false) (fun _=>none) (fun _=>none)
theorem Bq.K3.ev (N:Nat) (a:Int):Bu Bq.K3.E N f132 (Am f132) [.int .u64 a]=bif (Ak a) then bif ((!(Dg a))||(K9 a)) then bif ((!(Dg a))||((Bk a)==(0:Int))) then some (.int .i64 0) else bif (Ak a) then bif (Hs (A6 (mD (Bj a))) (Aj (mD (Bj a)))&&Nl (eD (Bj a) (Ba a))) then some (.int .i64 (Ab ((Iw (wv (A6 (mD (Bj a))) (Aj (mD (Bj a)))) (eD (Bj a) (Ba a)))-1))) else none else none else none else none :=
 Eq.trans (by kernel_rfl)
 (Ec (Ax (Aaw (Dg a)) (Cp (Aol (Dg a) (K9 a)) (Ax (Q0 (Dg a)) (Ax (Ac1 (Dg a)) (Cp (Ava (Dg a) ((Bk a)==(0:Int))) rfl rfl))) rfl)) rfl)
abbrev _root_.Go.Proofs.S1.Bq.K3.Kn:=A7 prog 132 Bq.K3.spec
theorem Bq.K3.Ac (hk:A1 prog Bq.K3.Bc) (h:Hyp Bq.K3.E f132 Bq.K3.ts Bq.K3.pre Bq.K3.out):Bq.K3.Kn :=
 Al (A2 hk _ _ _) func132 (by kernel_rfl) (by kernel_rfl) h
def Ai.Br.hint:Nat→Option Bg
 | 0=>some { keep:=[0,3,4],objs:=[],boxes:=[] }
 | _=>none
def Ai.Br.Bc:List (Nat × Entry):=[(94,Bq.G7.spec),(93,Bq.Max.spec)]
def Ai.Br.E:Env:=Be (Bb Ai.Br.Bc) (fun _=>false) Ai.Br.hint (fun _=>none)
section
variable (N M:Nat) (x:List Int) (p3 p4:Int)
def Ai.Br.L0:Option DV:=Bx Ai.Br.E N f228 (Am f228) [1,1,0,1,0] [] M ⟨E5 19 [(0,.ints .arg .u64 x),(3,.int .u64 p3),(4,.int .i64 p4)],[]⟩
theorem Ai.Br.Av:Ai.Br.L0 N (M+1) x p3 p4=bif (Bd p4 (length x:Int)) then bif ((decide (0≤p4))&&(decide (p4<(length x:Int)))) then bif (Ak (getD x (toNat p4) 0)) then bif (Ak p3&&Ak (Jt (getD x (toNat p4) 0))) then Ai.Br.L0 N M x (Pc p3 (Jt (getD x (toNat p4) 0))) (Ab (p4+1)) else none else none else none else some (.int .u64 p3):=by kernel_rfl
theorem Ai.Br.ev:Bu Ai.Br.E N f228 (Am f228) [.ints .arg .u64 x] =
 Ai.Br.L0 N N x 0 0:=by kernel_rfl
end
abbrev _root_.Go.Proofs.S1.Ai.Br.Kn:=A7 prog 228 Ai.Br.spec
theorem Ai.Br.Ac (hk:A1 prog Ai.Br.Bc) (h:Hyp Ai.Br.E f228 Ai.Br.ts Ai.Br.pre Ai.Br.out):Ai.Br.Kn :=
 Al (A2 hk _ _ _) func228 (by kernel_rfl) (by kernel_rfl) h
def math.Sqrt.Bc:List (Nat × Entry):=[]
def math.Sqrt.E:Env:=Be (Bb math.Sqrt.Bc) (fun _=>false) (fun _=>none) (fun _=>none)
theorem math.Sqrt.ev (N x:Nat):Bu math.Sqrt.E N f260 (Am f260) [.fl x]=some (.fl ((Ieee.double.sqrt x).getD nanBits)):=by kernel_rfl
abbrev _root_.Go.Proofs.S1.math.Sqrt.Kn:=A7 prog 260 math.Sqrt.spec
theorem math.Sqrt.Ac (hk:A1 prog math.Sqrt.Bc) (h:Hyp math.Sqrt.E f260 math.Sqrt.ts math.Sqrt.pre math.Sqrt.out):math.Sqrt.Kn :=
 Al (A2 hk _ _ _) func260 (by kernel_rfl) (by kernel_rfl) h
def Ai.Sqrt.Bc:List (Nat × Entry):=[(260,math.Sqrt.spec),(102,Ai.B.spec),(159,Ai.F.spec)]
def Ai.Sqrt.E:Env:=Be (Bb Ai.Sqrt.Bc) (fun _=>false) (fun _=>none) (fun _=>none)
theorem Ai.Sqrt.ev (N:Nat) (a:Int):Bu Ai.Sqrt.E N f247 (Am f247) [.int .u64 a]=bif (Ak a) then some (.int .u64 (Ge (((Ieee.double.sqrt (toNat a)).getD nanBits)))) else none:=by kernel_rfl
abbrev _root_.Go.Proofs.S1.Ai.Sqrt.Kn:=A7 prog 247 Ai.Sqrt.spec
theorem Ai.Sqrt.Ac (hk:A1 prog Ai.Sqrt.Bc) (h:Hyp Ai.Sqrt.E f247 Ai.Sqrt.ts Ai.Sqrt.pre Ai.Sqrt.out):Ai.Sqrt.Kn :=
 Al (A2 hk _ _ _) func247 (by kernel_rfl) (by kernel_rfl) h
def Ai.Norm.hint:Nat→Option Bg
 | 0=>some { keep:=[0,4,5,6],objs:=[],boxes:=[] }
 | _=>none
def Ai.Norm.Bc:List (Nat × Entry):=[(131,A5.Finite.spec),(132,Bq.K3.spec),(181,Ai.Add.spec),(228,Ai.Br.spec),(82,Ai.Mul.spec),(96,Ai.Bt.spec),(247,Ai.Sqrt.spec)]
def Ai.Norm.E:Env:=Be (Bb Ai.Norm.Bc) (fun _=>false) Ai.Norm.hint (fun _=>none)
section
variable (N M:Nat) (x:List Int) (p5 p6:Int)
def Ai.Norm.L0:Option DV:=Bx Ai.Norm.E N f229 (Am f229) [1,1,1,1,1,0,1,0] [] M ⟨E5 42 [(0,.ints .arg .u64 x),(4,.int .i64 (Bz (Bl x))),(5,.int .u64 p5),(6,.int .i64 p6)],[]⟩
theorem Ai.Norm.Av:Ai.Norm.L0 N (M+1) x p5 p6=bif (Bd p6 (length x:Int)) then bif ((decide (0≤p6))&&(decide (p6<(length x:Int)))) then bif (Ds (getD x (toNat p6) 0) (Ab ((0:Int)-(Bz (Bl x))))) then bif (Ak (B3 (getD x (toNat p6) 0) (Ab ((0:Int)-(Bz (Bl x)))))&&Ak (B3 (getD x (toNat p6) 0) (Ab ((0:Int)-(Bz (Bl x)))))) then bif (Ak p5&&Ak (D5 (B3 (getD x (toNat p6) 0) (Ab ((0:Int)-(Bz (Bl x))))) (B3 (getD x (toNat p6) 0) (Ab ((0:Int)-(Bz (Bl x))))))) then Ai.Norm.L0 N M x (Kd p5 (D5 (B3 (getD x (toNat p6) 0) (Ab ((0:Int)-(Bz (Bl x))))) (B3 (getD x (toNat p6) 0) (Ab ((0:Int)-(Bz (Bl x))))))) (Ab (p6+1)) else none else none else none else none else bif (Ak p5) then bif (Ds (Gc p5) (Bz (Bl x))) then some (.int .u64 (B3 (Gc p5) (Bz (Bl x)))) else none else none:=by kernel_rfl
theorem Ai.Norm.ev:Bu Ai.Norm.E N f229 (Am f229) [.ints .arg .u64 x]=bif (Cy x) then bif (((Bl x)==(0:Int))||(Ak (Bl x))) then bif (((Bl x)==(0:Int))||(!(Dg (Bl x)))) then some (.int .u64 (Bl x)) else bif (Ak (Bl x)) then Ai.Norm.L0 N N x 0 (0:Int) else none else none else none :=
 Eq.trans (by kernel_rfl)
 (Ec (Ax (Uc ((Bl x)==(0:Int))) (Cp (Alp ((Bl x)==(0:Int)) (Ak (Bl x))) (Ax (Sr ((Bl x)==(0:Int))) (Ax (Ye ((Bl x)==(0:Int))) (Cp (Axk ((Bl x)==(0:Int)) (Dg (Bl x))) rfl rfl))) rfl)) rfl)
end
abbrev _root_.Go.Proofs.S1.Ai.Norm.Kn:=A7 prog 229 Ai.Norm.spec
theorem Ai.Norm.Ac (hk:A1 prog Ai.Norm.Bc) (h:Hyp Ai.Norm.E f229 Ai.Norm.ts Ai.Norm.pre Ai.Norm.out):Ai.Norm.Kn :=
 Al (A2 hk _ _ _) func229 (by kernel_rfl) (by kernel_rfl) h
def Bf.Bw.hint:Nat→Option Bg
 | 0=>some { keep:=[0,3],objs:=[],boxes:=[] }
 | _=>none
def Bf.Bw.Bc:List (Nat × Entry):=[(62,A5.Kind.spec)]
def Bf.Bw.E:Env:=Be (Bb Bf.Bw.Bc) (fun _=>false) Bf.Bw.hint (fun _=>none)
section
variable (N M:Nat) (x:List Int) (p3:Int)
def Bf.Bw.L0:Option DV:=Bx Bf.Bw.E N f227 (Am f227) [1,0,1,0] [] M ⟨E5 16 [(0,.ints .arg .u64 x),(3,.int .i64 p3)],[]⟩
theorem Bf.Bw.Av:Bf.Bw.L0 N (M+1) x p3=bif (Bd p3 (length x:Int)) then bif ((decide (0≤p3))&&(decide (p3<(length x:Int)))) then bif (K9 (getD x (toNat p3) 0)) then bif ((Bk (getD x (toNat p3) 0)) !=(0:Int)) then some (.bool false) else Bf.Bw.L0 N M x (Ab (p3+1)) else none else none else some (.bool true):=by kernel_rfl
theorem Bf.Bw.ev:Bu Bf.Bw.E N f227 (Am f227) [.ints .arg .u64 x] =
 Bf.Bw.L0 N N x 1:=by kernel_rfl
end
abbrev _root_.Go.Proofs.S1.Bf.Bw.Kn:=A7 prog 227 Bf.Bw.spec
theorem Bf.Bw.Ac (hk:A1 prog Bf.Bw.Bc) (h:Hyp Bf.Bw.E f227 Bf.Bw.ts Bf.Bw.pre Bf.Bw.out):Bf.Bw.Kn :=
 Al (A2 hk _ _ _) func227 (by kernel_rfl) (by kernel_rfl) h
def Bf.lead.hint:Nat→Option Bg
 | 0=>some { keep:=[0,3],objs:=[],boxes:=[] }
 | _=>none
def Bf.lead.Bc:List (Nat × Entry):=[(62,A5.Kind.spec)]
def Bf.lead.E:Env:=Be (Bb Bf.lead.Bc) (fun _=>false) Bf.lead.hint (fun _=>none)
section
variable (N M:Nat) (x:List Int) (p3:Int)
def Bf.lead.L0:Option DV:=Bx Bf.lead.E N f230 (Am f230) [1,0,1,0] [] M ⟨E5 17 [(0,.ints .arg .u64 x),(3,.int .i64 p3)],[]⟩
theorem Bf.lead.Av:Bf.lead.L0 N (M+1) x p3=bif (Bd p3 (length x:Int)) then bif ((decide (0≤p3))&&(decide (p3<(length x:Int)))) then bif (K9 (getD x (toNat p3) 0)) then bif ((Bk (getD x (toNat p3) 0)) !=(0:Int)) then some (.int .i64 p3) else Bf.lead.L0 N M x (Ab (p3+1)) else none else none else some (.int .i64 0):=by kernel_rfl
theorem Bf.lead.ev:Bu Bf.lead.E N f230 (Am f230) [.ints .arg .u64 x] =
 Bf.lead.L0 N N x 0:=by kernel_rfl
end
abbrev _root_.Go.Proofs.S1.Bf.lead.Kn:=A7 prog 230 Bf.lead.spec
theorem Bf.lead.Ac (hk:A1 prog Bf.lead.Bc) (h:Hyp Bf.lead.E f230 Bf.lead.ts Bf.lead.pre Bf.lead.out):Bf.lead.Kn :=
 Al (A2 hk _ _ _) func230 (by kernel_rfl) (by kernel_rfl) h
def Bf.Dw.hint:Nat→Option Bg
 | 0=>some { keep:=[0,2,4,5],objs:=[(0,4,100004,.ints 37 .u64 [])],boxes:=[2] }
 | 2=>some { keep:=[0,2,4,6,7,8],objs:=[(0,4,100004,.ints 37 .u64 []),(0,7,100007,.ints 37 .u64 [])],boxes:=[2] }
 | 4=>some { keep:=[2,4,7,9,10,11,12],objs:=[(0,4,100004,.ints 37 .u64 []),(0,7,100007,.ints 37 .u64 [])],boxes:=[2] }
 | _=>none
def Bf.Dw.Bc:List (Nat × Entry):=[(131,A5.Finite.spec),(163,A5.Dp.spec),(142,A5.Neg.spec),(132,Bq.K3.spec),(228,Ai.Br.spec),(84,Ai.Div.spec),(229,Ai.Norm.spec),(96,Ai.Bt.spec),(81,Ai.Sub.spec),(230,Bf.lead.spec),(227,Bf.Bw.spec)]
def Bf.Dw.E:Env:=Be (Bb Bf.Dw.Bc) (fun _=>false) Bf.Dw.hint (fun _=>none)
section
variable (N M:Nat) (x:List Int) (p8:Int) (p7:List Int) (p9 p10 p11 p12:Int) (p4_1:List Int) (p5:Int) (p4:List Int)
def Bf.Dw.L0:Option DV:=Bx Bf.Dw.E N f196 (Am f196) [1,1,0,1,0,0,1,0] [] M ⟨E5 98 [(0,.ints .arg .u64 x),(2,.ptr 2 0 0),(4,.oref 100004),(5,.int .i64 p5)],[(2,false,.box [.nil,.int .u64 0,.int .u64 0]),(100004,false,.ints 37 .u64 p4)]⟩
def Bf.Dw.L1:Option DV:=Bx Bf.Dw.E N f196 (Am f196) [1,1,1,1,1,0,1,0] [] M ⟨E5 98 [(0,.ints .arg .u64 x),(2,.ptr 2 0 0),(4,.oref 100004),(6,.int .i64 (Bz (Bl x))),(7,.oref 100007),(8,.int .i64 p8)],[(2,false,.box [.nil,.int .u64 0,.int .u64 0]),(100004,false,.ints 37 .u64 [(4607182418800017408:Int)]),(100007,false,.ints 37 .u64 p7)]⟩
def Bf.Dw.L2:Option DV:=Bx Bf.Dw.E N f196 (Am f196) [1,1,1,1,1,1,1,1,1,1,1,0,1,0] [] M ⟨E5 98 [(2,.ptr 2 0 0),(4,.oref 100004),(7,.oref 100007),(9,.int .u64 p9),(10,.int .u64 p10),(11,.int .u64 p11),(12,.int .i64 p12)],[(2,false,.box [.nil,.int .u64 0,.int .u64 0]),(100004,false,.ints 37 .u64 p4_1),(100007,false,.ints 37 .u64 p7)]⟩
theorem Bf.Dw.Av:Bf.Dw.L0 N (M+1) x p5 p4=bif (Bd p5 (length x:Int)) then bif (decide ((length p4)+1≤Gw)) then Bf.Dw.L0 N M x (Ab (p5+1)) (p4++[(0:Int)]) else none else bif (decide ((0:Int)<(length x:Int))) then some (.tup [.agg [.ints (.own 100004 37) .u64 p4,.int .u64 0,.int .u64 (getD x 0 0)],.bool true]) else none:=by kernel_rfl
theorem Bf.Dw.B6:Bf.Dw.L1 N (M+1) x p8 p7=bif (Bd p8 (length x:Int)) then bif ((decide (0≤p8))&&(decide (p8<(length x:Int)))) then bif (Ds (getD x (toNat p8) 0) (Ab ((0:Int)-(Bz (Bl x))))) then bif (decide ((length p7)+1≤Gw)) then Bf.Dw.L1 N M x (Ab (p8+1)) (p7++[(B3 (getD x (toNat p8) 0) (Ab ((0:Int)-(Bz (Bl x)))))]) else none else none else none else bif (Cy p7) then bif (Cy x) then bif ((decide (0≤(Qr x 0)))&&(decide ((Qr x 0)<(length x:Int)))) then bif (Ak (getD x (toNat (Qr x 0)) 0)) then bif (!(D4 (getD x (toNat (Qr x 0)) 0))) then bif (Ak (Dz p7)) then bif (Ds (Dk (Dz p7)) (Bz (Bl x))) then bif (Ak (B3 (Dk (Dz p7)) (Bz (Bl x)))) then bif (!(Dg (B3 (Dk (Dz p7)) (Bz (Bl x))))) then some (.tup [.agg [.nil,.int .u64 0,.int .u64 0],.bool false]) else bif (decide ((0:Int)<(length p7:Int))) then bif (decide (0<(length p7))) then bif (Ak (getD p7 0 0)&&Ak (Dk (Dz p7))) then Bf.Dw.L2 N N p7 (Dk (Dz p7)) (B3 (Dk (Dz p7)) (Bz (Bl x))) (Dl (getD p7 0 0) (Dk (Dz p7))) 1 [(4607182418800017408:Int)] else none else none else none else none else none else none else bif (Ds (Dz p7) (Bz (Bl x))) then bif (Ak (B3 (Dz p7) (Bz (Bl x)))) then bif (!(Dg (B3 (Dz p7) (Bz (Bl x))))) then some (.tup [.agg [.nil,.int .u64 0,.int .u64 0],.bool false]) else bif (decide ((0:Int)<(length p7:Int))) then bif (decide (0<(length p7))) then bif (Ak (getD p7 0 0)&&Ak (Dz p7)) then Bf.Dw.L2 N N p7 (Dz p7) (B3 (Dz p7) (Bz (Bl x))) (Dl (getD p7 0 0) (Dz p7)) 1 [(4607182418800017408:Int)] else none else none else none else none else none else none else none else none else none:=by kernel_rfl
theorem Bf.Dw.Fl:Bf.Dw.L2 N (M+1) p7 p9 p10 p11 p12 p4_1=bif (Bd p12 (length p7:Int)) then bif ((decide (0≤p12))&&(decide (p12<(length p7:Int)))) then bif (decide ((toNat p12)<(length p7))) then bif (Ak (getD p7 (toNat p12) 0)&&Ak p11) then bif (decide ((length p4_1)+1≤Gw)) then Bf.Dw.L2 N M p7 p9 p10 p11 (Ab (p12+1)) (p4_1++[(Ez (getD p7 (toNat p12) 0) p11)]) else none else none else none else none else bif (decide ((0:Int)<(length p7:Int))) then bif (decide (0<(length p7))) then bif (Ak p9&&Ak (getD p7 0 0)) then bif (Ak (Dl p9 (getD p7 0 0))&&Ak p9) then some (.tup [.agg [.ints (.own 100004 37) .u64 p4_1,.int .u64 (Ez (Dl p9 (getD p7 0 0)) p9),.int .u64 p10],.bool true]) else none else none else none else none:=by kernel_rfl
theorem Bf.Dw.ev:Bu Bf.Dw.E N f196 (Am f196) [.ints .arg .u64 x]=bif (Cy x) then bif (En (List.drop 1 x)) then Bf.Dw.L0 N N x 1 [(4607182418800017408:Int)] else bif (Cy x) then bif (Ak (Bl x)) then Bf.Dw.L1 N N x 0 [] else none else none else none:=by kernel_rfl
end
abbrev _root_.Go.Proofs.S1.Bf.Dw.Kn:=A7 prog 196 Bf.Dw.spec
theorem Bf.Dw.Ac (hk:A1 prog Bf.Dw.Bc) (h:Hyp Bf.Dw.E f196 Bf.Dw.ts Bf.Dw.pre Bf.Dw.out):Bf.Dw.Kn :=
 Al (A2 hk _ _ _) func196 (by kernel_rfl) (by kernel_rfl) h
def Bf.Apply.hint:Nat→Option Bg
 | 0=>some { keep:=[1,3,4,5,10,11,12],objs:=[],boxes:=[5,10,11] }
 | 2=>some { keep:=[1,3,4,5,10,11,12,13,14,15],objs:=[],boxes:=[5,10,11] }
 | _=>none
def Bf.Apply.Bc:List (Nat × Entry):=[(118,Ai.Hu.spec),(82,Ai.Mul.spec),(81,Ai.Sub.spec),(108,Af.Pp.spec),(83,Af.Fp.arg.spec)]
def Bf.Apply.E:Env:=Be (Bb Bf.Apply.Bc) (fun _=>false) Bf.Apply.hint (fun _=>none)
section
variable (N M0 M:Nat) (r c:Int) (l:List Int) (i k:Int) (v:List Int) (t p15:Int) (p11:List Int) (p12_1:Int) (p13:List Int) (p14 p12:Int) (p11_1:List Int)
def Bf.Apply.L0:Option DV:=Bx Bf.Apply.E N f198 (Am f198) [1,1,0,1,0] [] M ⟨E5 60 [(1,.int .i64 i),(3,.ints .arg .u64 v),(4,.int .u64 t),(5,.ptr 5 0 0),(10,.ptr 10 0 0),(11,.ptr 11 0 0),(12,.int .i64 p12)],[(5,false,.box [.int .i64 r,.int .i64 c,.ints .arg .u64 l]),(10,false,.box [.int .i64 0,.int .i64 0,.nil]),(11,false,.box [.int .i64 r,.int .i64 c,.ints .arg .u64 p11_1])]⟩
def Bf.Apply.L1:Option DV:=Bx Bf.Apply.E N f198 (Am f198) [1,1,0,1,0,0,1,0,0,1,1,1,0] [M0] M ⟨E5 60 [(1,.int .i64 i),(3,.ints .arg .u64 v),(4,.int .u64 t),(5,.ptr 5 0 0),(10,.ptr 10 0 0),(11,.ptr 11 0 0),(12,.int .i64 p12_1),(13,.ints .fresh .u64 p13),(14,.int .u64 p14),(15,.int .i64 p15)],[(5,false,.box [.int .i64 r,.int .i64 c,.ints .arg .u64 l]),(10,false,.box [.int .i64 0,.int .i64 0,.nil]),(11,false,.box [.int .i64 r,.int .i64 c,.ints .arg .u64 p11])]⟩
theorem Bf.Apply.Av:Bf.Apply.L0 N (M+1) r c l i v t p12 p11_1=bif (Bd p12 c) then bif (Hi r c l p12&&Co (0≤i∧i≤r)) then bif ((decide ((0:Int)≤(length v:Int)))&&(decide ((length v:Int)≤(length (C0 c l p12 i (toNat (r-i))):Int)))) then bif ((Pk v (List.take (toNat (length v:Int)) (C0 c l p12 i (toNat (r-i))))&&Ag v)&&Ag (List.take (toNat (length v:Int)) (C0 c l p12 i (toNat (r-i))))) then bif (Ak t&&Ak (Ms v (List.take (toNat (length v:Int)) (C0 c l p12 i (toNat (r-i)))))) then Bf.Apply.L1 N M N r c l i v t 0 p11_1 p12 (C0 c l p12 i (toNat (r-i))) (D5 t (Ms v (List.take (toNat (length v:Int)) (C0 c l p12 i (toNat (r-i)))))) else none else none else none else none else some (.agg [.int .i64 r,.int .i64 c,.ints .arg .u64 p11_1]) :=
 Eq.trans (by kernel_rfl)
 (Ec (Ec (Cp (I9 (decide ((0:Int)≤(length v:Int))) (decide ((length v:Int)≤(length (C0 c l p12 i (toNat (r-i))):Int)))) rfl rfl) rfl) rfl)
theorem Bf.Apply.B6:Bf.Apply.L1 N M0 (M+1) r c l i v t p15 p11 p12_1 p13 p14=bif (Bd p15 (length v:Int)) then bif ((decide (0≤p15))&&(decide (p15<(length p13:Int)))) then bif ((decide (0≤p15))&&(decide (p15<(length v:Int)))) then bif (Ak p14&&Ak (getD v (toNat p15) 0)) then bif (Ak (getD p13 (toNat p15) 0)&&Ak (D5 p14 (getD v (toNat p15) 0))) then bif (Cj r c p11 (Ab (i+p15)) p12_1) then Bf.Apply.L1 N M0 M r c l i v t (Ab (p15+1)) (List.set p11 (toNat ((Ab (i+p15))*c+p12_1)) (Dl (getD p13 (toNat p15) 0) (D5 p14 (getD v (toNat p15) 0)))) p12_1 p13 p14 else none else none else none else none else none else Bf.Apply.L0 N M0 r c l i v t (Ab (p12_1+1)) p11 :=
 Eq.trans (by kernel_rfl)
 (Ec (Cp (I9 (decide (0≤p15)) (decide (p15<(length p13:Int)))) (Cp (I9 (decide (0≤p15)) (decide (p15<(length v:Int)))) (Cp (Cd (Ak p14&&Ak (getD v (toNat p15) 0))) (Cp (Cd (Ak (getD p13 (toNat p15) 0)&&Ak (D5 p14 (getD v (toNat p15) 0)))) (Cp (Cd (Cj r c p11 (Ab (i+p15)) p12_1)) rfl rfl) rfl) rfl) rfl) rfl) rfl)
theorem Bf.Apply.ev:Bu Bf.Apply.E N f198 (Am f198) [.agg [.int .i64 r,.int .i64 c,.ints .arg .u64 l],.int .i64 i,.int .i64 k,.ints .arg .u64 v,.int .u64 t] =
 Bf.Apply.L0 N N r c l i v t k l:=by kernel_rfl
end
abbrev _root_.Go.Proofs.S1.Bf.Apply.Kn:=A7 prog 198 Bf.Apply.spec
theorem Bf.Apply.Ac (hk:A1 prog Bf.Apply.Bc) (h:Hyp Bf.Apply.E f198 Bf.Apply.ts Bf.Apply.pre Bf.Apply.out):Bf.Apply.Kn :=
 Al (A2 hk _ _ _) func198 (by kernel_rfl) (by kernel_rfl) h
def Cm.Dr.hint:Nat→Option Bg
 | 0=>some { keep:=[1,3,6,7],objs:=[],boxes:=[3,6] }
 | _=>none
def Cm.Dr.Bc:List (Nat × Entry):=[(83,Af.Fp.arg.spec)]
def Cm.Dr.E:Env:=Be (Bb Cm.Dr.Bc) (fun _=>false) Cm.Dr.hint (fun _=>none)
section
variable (N M:Nat) (r c:Int) (l:List Int) (j b p7:Int) (p3:List Int)
def Cm.Dr.L0:Option DV:=Bx Cm.Dr.E N f197 (Am f197) [1,1,0,1,0] [] M ⟨E5 26 [(1,.int .i64 j),(3,.ptr 3 0 0),(6,.ptr 6 0 0),(7,.int .i64 p7)],[(3,false,.box [.int .i64 r,.int .i64 c,.ints .arg .u64 p3]),(6,false,.box [.int .i64 0,.int .i64 0,.nil])]⟩
theorem Cm.Dr.Av:Cm.Dr.L0 N (M+1) r c j p7 p3=bif (Bd p7 r) then bif (Cj r c p3 p7 j) then Cm.Dr.L0 N M r c j (Ab (p7+1)) (List.set p3 (toNat (p7*c+j)) 0) else none else some (.agg [.int .i64 r,.int .i64 c,.ints .arg .u64 p3]):=by kernel_rfl
theorem Cm.Dr.ev:Bu Cm.Dr.E N f197 (Am f197) [.agg [.int .i64 r,.int .i64 c,.ints .arg .u64 l],.int .i64 j,.int .u64 b]=bif (Cj r c l j j) then Cm.Dr.L0 N N r c j (Ab (j+1)) (List.set l (toNat (j*c+j)) b) else none:=by kernel_rfl
end
abbrev _root_.Go.Proofs.S1.Cm.Dr.Kn:=A7 prog 197 Cm.Dr.spec
theorem Cm.Dr.Ac (hk:A1 prog Cm.Dr.Bc) (h:Hyp Cm.Dr.E f197 Cm.Dr.ts Cm.Dr.pre Cm.Dr.out):Cm.Dr.Kn :=
 Al (A2 hk _ _ _) func197 (by kernel_rfl) (by kernel_rfl) h
end EqRef13
open EqRef08 EqRef13
theorem Bq.ends.known:Bq.ends.Kn:=Bq.ends.Ac (.cons A5.Finite.known (.cons A5.Neg.known .nil)) fun b hp=>by
 have hp:Ak b=true:=hp
 refine ⟨0,.int .i64 (Rm b),[],?_,.int⟩
 rw [Bq.ends.ev,hp,A04,A04]
 unfold Rm
 cases Dg b with
 | true=>rfl
 | false =>
   rw [A08,A1q (by decide)]
   cases D4 b<;>rfl
theorem Bq.G7.known:Bq.G7.Kn:=Bq.G7.Ac (.cons A5.Dp.known (.cons A5.Neg.known .nil)) fun a hp=>by
 obtain ⟨n,rfl,hn⟩:=Bo (x:=a) hp
 refine ⟨0,.int .u64 (Jt (n:Int)),[],?_,.int⟩
 rw [Bq.G7.ev,Ce hn,A04,A04]
 unfold Jt D4 Dk Hj H4 B0
 rw [A06]
 by_cases h:2^63≤n
 ·rw [A05 h,A04,A1r h,show n%2^63=n-2^63 by omega]
 ·rw [A09 h,A08,show n%2^63=n by omega]
theorem Adt (b:Nat):R8 (A6 (mD (Bj (b:Int)))) (Aj (mD (Bj (b:Int))))=true∧Hs (A6 (mD (Bj (b:Int)))) (Aj (mD (Bj (b:Int))))=true∧Nl (eD (Bj (b:Int)) (A9 b))=true:=by
 obtain ⟨v1,v2,v3⟩:=An6 b
 have hl:Dv (mD (Bj (b:Int))).natAbs<3:=A16 (Ka (Pd _)) v1
 exact ⟨Adu (by omega),Iz (by omega),Au.2 ⟨v2,v3⟩⟩
theorem At2 {a b:Nat} (ha:Ao a≠4) (hb:Ao b≠4):Xr (mD (Bj (a:Int))) (eD (Bj (a:Int)) (A9 a)) (mD (Bj (b:Int))) (eD (Bj (b:Int)) (A9 b))=if Im a<Im b then -1 else if Im b<Im a then 1 else 0:=by
 have pa:=Ey a
 have pb:=Ey b
 have ga:mD (Bj (a:Int))≠0→(-1074:Int)≤eD (Bj (a:Int)) (A9 a):=fun h=>Aqz pa.1 (fun h0=>h (P7.2 h0))
 have gb:mD (Bj (b:Int))≠0→(-1074:Int)≤eD (Bj (b:Int)) (A9 b):=fun h=>Aqz pb.1 (fun h0=>h (P7.2 h0))
 rw [At3 ga gb,Aj3 pa.1,Aj3 pb.1,← An7,← An7]
 have h1:=Acy (f:=-1074) ha hb pa.1 pb.1
 have h2:=Acy (f:=-1074) hb ha pb.1 pa.1
 unfold Xq
 by_cases c1:Kh a (-1074)<Kh b (-1074)
 ·rw [A1r c1,A1r (h1.1 c1)]
 ·rw [A1q c1,A1q (fun h=>c1 (h1.2 h))]
  by_cases c2:Kh b (-1074)<Kh a (-1074)
  ·rw [A1r c2,A1r (h2.1 c2)]
  ·rw [A1q c2,A1q (fun h=>c2 (h2.2 h))]
theorem Aqd {b:Nat} (hb:b<2^64):Im b=Hv (B0 b) (b%2^63):=by
 have:=Pg (B0 b) (r:=b%2^63) (Nat.mod_lt _ (by decide))
 rw [M3 hb] at this
 exact this
theorem Ak3 {b:Nat} (hb:b<2^64) (h4:Ao b≠4):(Ku b=true→Rm (b:Int)=0∧-(Eh:Int)<Im b∧Im b<Eh)∧(Ku b=false→Ao b=3∧((Rm (b:Int)=1∧Im b=Eh)∨(Rm (b:Int)=-1∧Im b=-(Eh:Int)))):=by
 have hk:=Aqd hb
 constructor
 ·intro hf
  obtain ⟨_,f3⟩:=Rl hf
  have hl:=Vk f3 h4
  refine ⟨by unfold Rm Dg; rw [A06,hf,A1r rfl],?_⟩
  rw [hk]
  unfold Hv
  cases B0 b
  ·rw [A1q (by decide)]; omega
  ·rw [A1r rfl]; omega
 ·intro hf
  have h3:Ao b=3:=by
   unfold Ku at hf
   have:=of_decide_eq_false hf
   rcases H9 b with ⟨_,_,k⟩ | ⟨_,_,k⟩ | ⟨k,_,_⟩
   ·exact k
   ·exact absurd k h4
   ·omega
  have hi:=Vj h3
  refine ⟨h3,?_⟩
  rw [hk,hi]
  unfold Rm Dg D4 Hv
  rw [A06,hf,A1q (by decide)]
  cases B0 b
  ·left; exact ⟨rfl,rfl⟩
  ·right; exact ⟨rfl,rfl⟩
theorem Bq.Order.known:Bq.Order.Kn:=Bq.Order.Ac (.cons Aq.Compare.known (.cons A5.Kind.known (.cons A5.Value.known (.cons Bq.ends.known .nil)))) fun a b hp=>by
 obtain ⟨ha,hb⟩:=Ad.1 (show (Ak a&&Ak b)=true from hp)
 obtain ⟨a,rfl,hn⟩:=Bo ha
 obtain ⟨b,rfl,hm⟩:=Bo hb
 refine ⟨0,.tup [.int .i64 (Tn (a:Int) (b:Int)),.bool (Aby (a:Int) (b:Int))],[],?_,Wk.Gv (.cons .int (.cons .bool .nil))⟩
 have kk:∀ n:Nat,Bk (n:Int)=(Ao n:Int):=fun _=>rfl
 have pe:∀ n:Nat,Ba (n:Int)=A9 n:=fun _=>rfl
 rw [Bq.Order.ev,I2,I2,ha,hb,A04,A2g,A04,A04,A04,A04,A04,kk,kk,pe,pe,F1,F1]
 unfold Tn Aby Af6 Aa4
 rw [A06,A06]
 by_cases n4:Ao a=4∨Ao b=4
 ·have:(((Ao a:Nat):Int)==4||((Ao b:Nat):Int)==4)=true:=by
   rw [Bool.or_eq_true,beq_iff_eq,beq_iff_eq]; omega
  rw [this,A04,A1r n4,A05 n4]; rfl
 ·have:(((Ao a:Nat):Int)==4||((Ao b:Nat):Int)==4)=false:=by
   rw [Bool.or_eq_false_iff,A1z,A1z]; omega
  rw [this,A08,A1q n4,A09 n4,A2n]
  have a4:Ao a≠4:=fun h=>n4 (.inl h)
  have b4:Ao b≠4:=fun h=>n4 (.inr h)
  obtain ⟨a1,a2⟩:=Ak3 hn a4
  obtain ⟨b1,b2⟩:=Ak3 hm b4
  have hinf:(0:Int)<(Eh:Int):=by decide
  cases hfa:Ku a with
  | true =>
    obtain ⟨ea,ka1,ka2⟩:=a1 hfa
    cases hfb:Ku b with
    | true =>
      obtain ⟨eb,kb1,kb2⟩:=b1 hfb
      obtain ⟨o1,_,o3⟩:=Adt a
      obtain ⟨p1,_,p3⟩:=Adt b
      have hc:=At2 a4 b4
      rw [ea,eb,show (((0:Int) !=(0:Int))||((0:Int) !=(0:Int)))=false from rfl,A08,o1,o3,p1,p3,hc]
      rfl
    | false =>
      obtain ⟨_,hb2⟩:=b2 hfb
      rcases hb2 with ⟨eb,kb⟩ | ⟨eb,kb⟩
      ·rw [ea,eb,kb,A1r ka2]; rfl
      ·rw [ea,eb,kb,A1q (by omega),A1r ka1]; rfl
  | false =>
    obtain ⟨_,ha2⟩:=a2 hfa
    cases hfb:Ku b with
    | true =>
      obtain ⟨eb,kb1,kb2⟩:=b1 hfb
      rcases ha2 with ⟨ea,ka⟩ | ⟨ea,ka⟩
      ·rw [ea,eb,ka,A1q (by omega),A1r kb2]; rfl
      ·rw [ea,eb,ka,A1r kb1]; rfl
    | false =>
      obtain ⟨_,hb2⟩:=b2 hfb
      rcases ha2 with ⟨ea,ka⟩ | ⟨ea,ka⟩<;>rcases hb2 with ⟨eb,kb⟩ | ⟨eb,kb⟩
      ·rw [ea,eb,ka,kb,A1q (by omega),A1q (by omega)]; rfl
      ·rw [ea,eb,ka,kb,A1q (by omega),A1r (by omega)]; rfl
      ·rw [ea,eb,ka,kb,A1r (by omega)]; rfl
      ·rw [ea,eb,ka,kb,A1q (by omega),A1q (by omega)]; rfl
theorem Bq.Max.known:Bq.Max.Kn:=Bq.Max.Ac (.cons Bq.Order.known .nil) fun a b hp=>by
 have hp:(Ak a&&Ak b)=true:=hp
 refine ⟨0,.int .u64 (Pc a b),[],?_,.int⟩
 rw [Bq.Max.ev,hp,A04,Aw]
 unfold Pc Aiz Aby Tn
 cases Aa4 a.toNat b.toNat with
 | false=>rfl
 | true =>
   rw [A13,A08,A1r rfl]
   obtain ⟨h1,h2⟩:=Ad.1 hp
   obtain ⟨x,rfl,_⟩:=Bo h1
   obtain ⟨y,rfl,_⟩:=Bo h2
   rw [A06,A06]
   by_cases h:Af6 x y<0
   ·rw [A05 h,A04,A1r h]
   ·rw [A09 h,A08,A1q h]
theorem Bq.K3.known:Bq.K3.Kn:=Bq.K3.Ac (.cons Aq.V1.known (.cons A5.Finite.known (.cons A5.Kind.known (.cons A5.Value.known .nil)))) fun a hp=>by
 obtain ⟨b,rfl,hb⟩:=Bo (x:=a) hp
 refine ⟨0,.int .i64 (Bz (b:Int)),[],?_,.int⟩
 have kk:Bk (b:Int)=(Ao b:Int):=rfl
 have hf:Dg (b:Int)=Ku b:=rfl
 have pe:Ba (b:Int)=A9 b:=rfl
 obtain ⟨_,o2,o3⟩:=Adt b
 have hE:=Ey b
 have hM:=E1 b
 rw [Bq.K3.ev,Ce hb,A04,I2,A2g,A04,kk,hf,pe,o2,o3,F1,A1a,A04,A04]
 unfold Bz
 rw [A06]
 unfold Ane
 cases hfin:Ku b with
 | false=>rfl
 | true =>
   by_cases h0:Ao b=0
   ·rw [h0]; rfl
   ·have k0:(((Ao b:Nat):Int)==(0:Int))=false:=by rw [A1z]; omega
    obtain ⟨f4,f3⟩:=Rl hfin
    have hm:Ay b≠0:=fun hz=>h0 ((H3 f3 f4).1 hz)
    have hv:Bj (b:Int)≠0:=by
     intro h
     have:=Ug b
     rw [h] at this
     exact hm this.symm
    have hl:(Ay b).log2≤52:=by have:=(A2k hm).2 (show Ay b<2^53 by omega); omega
    have ht:Iw (mD (Bj (b:Int))) (eD (Bj (b:Int)) (A9 b))=((Ay b).log2:Int)+1+A9 b:=by
     unfold Iw Zr
     rw [A1q (fun h=>hv (P7.1 h)),A1q (fun h=>hv (P7.1 h))]
     unfold eD
     rw [A1q hv]
     have hs:=X3 (Bj (b:Int))
     have ha:Ay b=(mD (Bj (b:Int))).natAbs*2^Sq (Bj (b:Int)).natAbs:=by
      have e:=congrArg Int.natAbs hs
      rw [Int.natAbs_mul,Int.natAbs_natCast] at e
      rw [← Ug b]
      exact e
     have hmd:(mD (Bj (b:Int))).natAbs≠0:=fun h=>hv (P7.1 (Int.natAbs_eq_zero.1 h))
     have hlog:=Lu (mD (Bj (b:Int))).natAbs (Sq (Bj (b:Int)).natAbs) hmd
     rw [← ha] at hlog
     rw [hlog]
     omega
    rw [k0,A1r ⟨rfl,h0⟩,ht,An (by omega) (by omega)]
    show some (DV.int .i64 _)=_
    congr 2; omega
theorem Aky {b:Nat} (h:b<2^63):Im b=(b:Int):=Pg false h
theorem As8 {m x:Nat} (hm:m<2^63) (m4:Ao m≠4) (hx:x<2^63) (x4:Ao x≠4):Aiz m x=max m x:=by
 have o:Aa4 m x=true:=by unfold Aa4; rw [A09 (by omega)]; rfl
 have ho:Af6 m x=if (m:Int)<(x:Int) then -1 else if (x:Int)<(m:Int) then 1 else 0:=by
  unfold Af6
  rw [A1q (by omega),Aky hm,Aky hx]
 unfold Aiz
 rw [o,A1r rfl,ho]
 by_cases h:m<x
 ·rw [A1r (show (m:Int)<(x:Int) by omega),A1r (by decide),Nat.max_eq_right (by omega)]
 ·rw [A1q (show ¬ (m:Int)<(x:Int) by omega)]
  by_cases h2:x<m
  ·rw [A1r (show (x:Int)<(m:Int) by omega),A1q (by decide),Nat.max_eq_left (by omega)]
  ·rw [A1q (show ¬ (x:Int)<(m:Int) by omega),A1q (by decide),Nat.max_eq_left (by omega)]
theorem Akq {m x:Nat} (h:Ao m=4∨Ao x=4):Aiz m x=Qw:=by
 have o:Aa4 m x=false:=by unfold Aa4; rw [A05 h]; rfl
 unfold Aiz
 rw [o,A1q (by decide)]
theorem Ams:Ao Qw=4:=by decide
theorem Ag2:∀ l:List Int,l.foldl (fun m x=>Pc m (Jt x)) ((Qw:Nat):Int)=((Qw:Nat):Int)
 | []=>rfl
 | x::l=>by
   rw [List.foldl_cons]
   have:Pc ((Qw:Nat):Int) (Jt x)=((Qw:Nat):Int):=by unfold Pc; rw [A06,Akq (.inl Ams)]
   rw [this]
   exact Ag2 l
theorem Z2:∀ (l:List Int) (m:Nat),m<2^63→Ao m≠4→l.foldl (fun m x=>Pc m (Jt x)) (m:Int)=((Aao l m:Nat):Int)
 | [],m,_,_=>rfl
 | x::l,m,hm,m4=>by
   rw [List.foldl_cons]
   unfold Aao
   have e1:(Jt x).toNat=Hj x.toNat:=by unfold Jt; rw [A06]
   by_cases h:Ao x.toNat=4
   ·rw [A1r h]
    have:Pc (m:Int) (Jt x)=((Qw:Nat):Int):=by
     unfold Pc
     rw [e1,Akq (.inr (by rw [Rg]; exact h))]
    rw [this]
    exact Ag2 l
   ·rw [A1q h]
    have hx:=Sm x.toNat
    have x4:Ao (Hj x.toNat)≠4:=by rw [Rg]; exact h
    have:Pc (m:Int) (Jt x)=((max m (Hj x.toNat):Nat):Int):=by
     unfold Pc
     rw [A06,e1,As8 hm m4 hx x4]
    rw [this]
    refine Z2 l _ (by omega) ?_
    rcases Nat.le_total m (Hj x.toNat) with h2 | h2
    ·rw [Nat.max_eq_right h2]; exact x4
    ·rw [Nat.max_eq_left h2]; exact m4
theorem Apv {a b:Int} (ha:Ak a=true) (hb:Ak b=true):Ak (Pc a b)=true:=by
 obtain ⟨x,rfl,hx⟩:=Bo ha
 obtain ⟨y,rfl,hy⟩:=Bo hb
 unfold Pc Aiz
 rw [A06,A06]
 split
 ·split
  ·exact hb
  ·exact ha
 ·exact Ce (by decide)
theorem Adn (N:Nat) {x:List Int} (hx:Cy x=true):∀ (k i F:Nat) (m:Int),i+k=x.length→k<F→Ak m=true→Ai.Br.L0 N F x m (i:Int)=some (.int .u64 ((x.drop i).foldl (fun m x=>Pc m (Jt x)) m)):=by
 obtain ⟨hl,hu⟩:=Ip hx
 intro k
 induction k with
 | zero =>
   intro i F m hi hF hm
   obtain ⟨F,rfl⟩:∃ G,F=G+1:=⟨F-1,by omega⟩
   rw [Ai.Br.Av,Aw,A09 (by omega),A08,A1i (by omega)]; rfl
 | succ k ih =>
   intro i F m hi hF hm
   obtain ⟨F,rfl⟩:∃ G,F=G+1:=⟨F-1,by omega⟩
   rw [Ai.Br.Av,Aw,A05 (show (i:Int)<(x.length:Int) by omega),A04,A05 (show (0:Int)≤(i:Int) by omega),A1a,A04,A06,hu i (by omega),A04,hm,Tu,A1a,A04,Hh (by omega),List.foldl_cons,An (by omega) (by omega)]
   exact ih (i+1) F _ (by omega) (by omega) (Apv hm (Tu _))
theorem Ai.Br.known:Ai.Br.Kn:=Ai.Br.Ac (.cons Bq.G7.known (.cons Bq.Max.known .nil)) fun x hp=>by
 refine ⟨x.length+1,.int .u64 (Bl x),[],?_,.int⟩
 rw [Ai.Br.ev]
 have h:=Adn (x.length+1) hp x.length 0 (x.length+1) 0 (by omega) (by omega) I8
 rw [List.drop_zero] at h
 have h2:=Z2 x 0 (by decide) (by decide +kernel)
 exact h.trans (congrArg (fun n:Int=>some (DV.int .u64 n)) h2)
theorem math.Sqrt.known:math.Sqrt.Kn:=math.Sqrt.Ac .nil fun x _=>⟨0,.fl ((Ieee.double.sqrt x).getD nanBits),[],by rw [math.Sqrt.ev],.fl⟩
theorem Ai.Sqrt.known:Ai.Sqrt.Kn:=Ai.Sqrt.Ac (.cons math.Sqrt.known (.cons Ai.B.known (.cons Ai.F.known .nil))) fun a hp=>by
 obtain ⟨x,rfl,hx⟩:=Bo (x:=a) hp
 refine ⟨0,.int .u64 (Gc (x:Int)),[],?_,.int⟩
 have:Ge ((Ieee.double.sqrt (toNat (x:Int))).getD nanBits)=Gc (x:Int):=by
  unfold Ge Gc
  rw [A06,Al8 hx G3]
 rw [Ai.Sqrt.ev,Ce hx,A04,this]
theorem Aa0 (N:Nat) {x:List Int} (hx:Cy x=true):∀ (k i F:Nat) (s:Int),i+k=x.length→k<F→Ak s=true →
 Ai.Norm.L0 N F x s (i:Int)=some (.int .u64 (B3 (Gc (Afh (-Bz (Bl x)) s (x.drop i))) (Bz (Bl x)))):=by
 obtain ⟨hl,hu⟩:=Ip hx
 have he:=Aaa (Bl x)
 intro k
 induction k with
 | zero =>
   intro i F s hi hF hs
   obtain ⟨F,rfl⟩:∃ G,F=G+1:=⟨F-1,by omega⟩
   rw [Ai.Norm.Av,Aw,A09 (by omega),A08,hs,A04,show Ds (Gc s) (Bz (Bl x))=true from Ad.2 ⟨Ac6 hs,Au.2 (by omega)⟩,A04,A1i (by omega)]
   rfl
 | succ k ih =>
   intro i F s hi hF hs
   obtain ⟨F,rfl⟩:∃ G,F=G+1:=⟨F-1,by omega⟩
   rw [Ai.Norm.Av,Aw,A05 (show (i:Int)<(x.length:Int) by omega),A04,A05 (show (0:Int)≤(i:Int) by omega),A1a,A04,A06,An (x:=(0:Int)-Bz (Bl x)) (by omega) (by omega),show (0:Int)-Bz (Bl x)=-Bz (Bl x) by omega,
    show Ds (getD x i 0) (-Bz (Bl x))=true from Ad.2 ⟨hu i (by omega),Au.2 (by omega)⟩,A04,Ig (hu i (by omega)),A1a,A04,hs,Il,A1a,A04,Afg (by omega),An (by omega) (by omega)]
   exact ih (i+1) F _ (by omega) (by omega) (Ajw hs (Il _ _))
theorem Ai.Norm.known:Ai.Norm.Kn:=Ai.Norm.Ac (.cons A5.Finite.known (.cons Bq.K3.known (.cons Ai.Add.known (.cons Ai.Br.known (.cons Ai.Mul.known (.cons Ai.Bt.known (.cons Ai.Sqrt.known .nil))))))) fun x hp=>by
 have hx:Cy x=true:=hp
 refine ⟨x.length+1,.int .u64 (Dz x),[],?_,.int⟩
 rw [Ai.Norm.ev,hx,A04,Oo,A2g,A04]
 unfold Dz
 by_cases h:Bl x=0∨Dg (Bl x)=false
 ·have:((Bl x==(0:Int))||(!(Dg (Bl x))))=true:=by
   rcases h with h | h
   ·rw [h]; rfl
   ·rw [h,A2n,A2g]
  rw [this,A04,A1r h]
 ·have:((Bl x==(0:Int))||(!(Dg (Bl x))))=false:=by
   rw [Bool.or_eq_false_iff,A1z,Bool.not_eq_false']
   refine ⟨fun h0=>h (.inl h0),?_⟩
   cases hf:Dg (Bl x) with
   | true=>rfl
   | false=>exact absurd (.inr hf) h
  rw [this,A08,A04,A1q h]
  exact Aa0 (x.length+1) hx x.length 0 (x.length+1) 0 (by omega) (by omega) I8
namespace EqOf
def Aa.of.Bn.hint:Nat→Option Bg
 | 0=>some { keep:=[1,2,6,7,13,14],objs:=[(8,2,108002,.ints 37 .u64 [])],boxes:=[6,7] }
 | 2=>some { keep:=[1,2,6,7,8,13,14,17,18],objs:=[(8,2,108002,.ints 37 .u64 [])],boxes:=[6,7] }
 | _=>none
def Aa.of.Bn.Bc:List (Nat × Entry):=[(205,Aa.Ed.spec)]
def Aa.of.Bn.E:Env:=Be (Bb Aa.of.Bn.Bc) (fun _=>false) Aa.of.Bn.hint (fun _=>none)
section
variable (N M0 M:Nat) (a b p8 p14_1 p18:Int) (p2:List Int) (p14:Int) (p2_1:List Int)
def Aa.of.Bn.L0:Option DV:=Bx Aa.of.Bn.E N f187 (Am f187) [1,1,0,1,0] [] M ⟨E5 33 [(1,.int .i64 b),(2,.fn 205 [] []),(6,.ptr 6 0 0),(7,.ptr 7 0 0),(13,.int .i64 a),(14,.int .i64 p14)],[(6,false,.box [.int .i64 0,.int .i64 0,.nil]),(7,false,.box [.int .i64 a,.int .i64 b,.oref 108002]),(108002,false,.ints 37 .u64 p2_1)]⟩
def Aa.of.Bn.L1:Option DV:=Bx Aa.of.Bn.E N f187 (Am f187) [1,1,0,1,0,0,1,1,0,0,1,1,0] [M0] M ⟨E5 33 [(1,.int .i64 b),(2,.fn 205 [] []),(6,.ptr 6 0 0),(7,.ptr 7 0 0),(8,.int .i64 p8),(13,.int .i64 a),(14,.int .i64 p14_1),(17,.int .i64 b),(18,.int .i64 p18)],[(6,false,.box [.int .i64 0,.int .i64 0,.nil]),(7,false,.box [.int .i64 a,.int .i64 b,.oref 108002]),(108002,false,.ints 37 .u64 p2)]⟩
theorem Aa.of.Bn.Av:Aa.of.Bn.L0 N (M+1) a b p14 p2_1=bif (Bd p14 a) then Aa.of.Bn.L1 N M N a b p14 p14 0 p2_1 else some (.agg [.int .i64 a,.int .i64 b,.ints (.own 108002 37) .u64 p2_1]):=by kernel_rfl
theorem Aa.of.Bn.B6:Aa.of.Bn.L1 N M0 (M+1) a b p8 p14_1 p18 p2=bif (Bd p18 b) then bif (decide ((length p2)+1≤Gw)) then Aa.of.Bn.L1 N M0 M a b p8 p14_1 (Ab (p18+1)) (p2++[(0:Int)]) else none else Aa.of.Bn.L0 N M0 a b (Ab (p14_1+1)) p2 :=
 Eq.trans (by kernel_rfl)
 (Ec (Cp (Cd (decide ((length p2)+1≤Gw))) rfl rfl) rfl)
theorem Aa.of.Bn.ev:Bu Aa.of.Bn.E N f187 (Am f187) [.int .i64 a,.int .i64 b,.fn 205 [] []] =
 Aa.of.Bn.L0 N N a b 0 []:=by kernel_rfl
end
def Aa.of.Ew.hint:Nat→Option Bg
 | 0=>some { keep:=[1,2,6,7,13,14],objs:=[(8,2,108002,.ints 37 .u64 [])],boxes:=[6,7] }
 | 2=>some { keep:=[1,2,6,7,8,13,14,17,18],objs:=[(8,2,108002,.ints 37 .u64 [])],boxes:=[6,7] }
 | _=>none
def Aa.of.Ew.Bc:List (Nat × Entry):=[(246,Aa.Hq.spec)]
def Aa.of.Ew.E:Env:=Be (Bb Aa.of.Ew.Bc) (fun _=>false) Aa.of.Ew.hint (fun _=>none)
section
variable (N M0 M:Nat) (a b p8 p14_1 p18:Int) (p2:List Int) (p14:Int) (p2_1:List Int)
def Aa.of.Ew.L0:Option DV:=Bx Aa.of.Ew.E N f187 (Am f187) [1,1,0,1,0] [] M ⟨E5 33 [(1,.int .i64 b),(2,.fn 246 [] []),(6,.ptr 6 0 0),(7,.ptr 7 0 0),(13,.int .i64 a),(14,.int .i64 p14)],[(6,false,.box [.int .i64 0,.int .i64 0,.nil]),(7,false,.box [.int .i64 a,.int .i64 b,.oref 108002]),(108002,false,.ints 37 .u64 p2_1)]⟩
def Aa.of.Ew.L1:Option DV:=Bx Aa.of.Ew.E N f187 (Am f187) [1,1,0,1,0,0,1,1,0,0,1,1,0] [M0] M ⟨E5 33 [(1,.int .i64 b),(2,.fn 246 [] []),(6,.ptr 6 0 0),(7,.ptr 7 0 0),(8,.int .i64 p8),(13,.int .i64 a),(14,.int .i64 p14_1),(17,.int .i64 b),(18,.int .i64 p18)],[(6,false,.box [.int .i64 0,.int .i64 0,.nil]),(7,false,.box [.int .i64 a,.int .i64 b,.oref 108002]),(108002,false,.ints 37 .u64 p2)]⟩
theorem Aa.of.Ew.Av:Aa.of.Ew.L0 N (M+1) a b p14 p2_1=bif (Bd p14 a) then Aa.of.Ew.L1 N M N a b p14 p14 0 p2_1 else some (.agg [.int .i64 a,.int .i64 b,.ints (.own 108002 37) .u64 p2_1]):=by kernel_rfl
theorem Aa.of.Ew.B6:Aa.of.Ew.L1 N M0 (M+1) a b p8 p14_1 p18 p2=bif (Bd p18 b) then bif (decide ((length p2)+1≤Gw)) then Aa.of.Ew.L1 N M0 M a b p8 p14_1 (Ab (p18+1)) (p2++[(N0 p8 p18)]) else none else Aa.of.Ew.L0 N M0 a b (Ab (p14_1+1)) p2 :=
 Eq.trans (by kernel_rfl)
 (Ec (Cp (Cd (decide ((length p2)+1≤Gw))) rfl rfl) rfl)
theorem Aa.of.Ew.ev:Bu Aa.of.Ew.E N f187 (Am f187) [.int .i64 a,.int .i64 b,.fn 246 [] []] =
 Aa.of.Ew.L0 N N a b 0 []:=by kernel_rfl
end
abbrev _root_.Go.Proofs.S1.Aa.of.Ew.Kn:=A7 prog 187 Aa.of.Ew.spec
theorem Aa.of.Ew.Ac (hk:A1 prog Aa.of.Ew.Bc) (h:Hyp Aa.of.Ew.E f187 Aa.of.Ew.ts Aa.of.Ew.pre Aa.of.Ew.out):Aa.of.Ew.Kn :=
 Al (A2 hk _ _ _) func187 (by kernel_rfl) (by kernel_rfl) h
def Aa.of.Cb.hint:Nat→Option Bg
 | 0=>some { keep:=[1,2,6,7,13,14],objs:=[(8,2,108002,.ints 37 .u64 [])],boxes:=[6,7] }
 | 2=>some { keep:=[1,2,6,7,8,13,14,17,18],objs:=[(8,2,108002,.ints 37 .u64 [])],boxes:=[6,7] }
 | _=>none
def Aa.of.Cb.Bc:List (Nat × Entry):=[(220,Aa.Fq.spec)]
def Aa.of.Cb.E:Env:=Be (Bb Aa.of.Cb.Bc) (fun _=>false) Aa.of.Cb.hint (fun _=>none)
section
variable (N M0 M:Nat) (a b r c:Int) (l:List Int) (p8 p14_1 p18:Int) (p2:List Int) (p14:Int) (p2_1:List Int)
def Aa.of.Cb.L0:Option DV:=Bx Aa.of.Cb.E N f187 (Am f187) [1,1,0,1,0] [] M ⟨E5 33 [(1,.int .i64 b),(2,.fn 220 [] [.cellp [.int .i64 r,.int .i64 c,.ints .arg .u64 l]]),(6,.ptr 6 0 0),(7,.ptr 7 0 0),(13,.int .i64 a),(14,.int .i64 p14)],[(6,false,.box [.int .i64 0,.int .i64 0,.nil]),(7,false,.box [.int .i64 a,.int .i64 b,.oref 108002]),(108002,false,.ints 37 .u64 p2_1)]⟩
def Aa.of.Cb.L1:Option DV:=Bx Aa.of.Cb.E N f187 (Am f187) [1,1,0,1,0,0,1,1,0,0,1,1,0] [M0] M ⟨E5 33 [(1,.int .i64 b),(2,.fn 220 [] [.cellp [.int .i64 r,.int .i64 c,.ints .arg .u64 l]]),(6,.ptr 6 0 0),(7,.ptr 7 0 0),(8,.int .i64 p8),(13,.int .i64 a),(14,.int .i64 p14_1),(17,.int .i64 b),(18,.int .i64 p18)],[(6,false,.box [.int .i64 0,.int .i64 0,.nil]),(7,false,.box [.int .i64 a,.int .i64 b,.oref 108002]),(108002,false,.ints 37 .u64 p2)]⟩
theorem Aa.of.Cb.Av:Aa.of.Cb.L0 N (M+1) a b r c l p14 p2_1=bif (Bd p14 a) then Aa.of.Cb.L1 N M N a b r c l p14 p14 0 p2_1 else some (.agg [.int .i64 a,.int .i64 b,.ints (.own 108002 37) .u64 p2_1]):=by kernel_rfl
theorem Aa.of.Cb.B6:Aa.of.Cb.L1 N M0 (M+1) a b r c l p8 p14_1 p18 p2=bif (Bd p18 b) then bif (Cj r c l p18 p8) then bif (decide ((length p2)+1≤Gw)) then Aa.of.Cb.L1 N M0 M a b r c l p8 p14_1 (Ab (p18+1)) (p2++[(D0 c l p18 p8)]) else none else none else Aa.of.Cb.L0 N M0 a b r c l (Ab (p14_1+1)) p2 :=
 Eq.trans (by kernel_rfl)
 (Ec (Cp (Cd (Cj r c l p18 p8)) (Cp (Cd (decide ((length p2)+1≤Gw))) rfl rfl) rfl) rfl)
theorem Aa.of.Cb.ev:Bu Aa.of.Cb.E N f187 (Am f187) [.int .i64 a,.int .i64 b,.fn 220 [] [.cellp [.int .i64 r,.int .i64 c,.ints .arg .u64 l]]] =
 Aa.of.Cb.L0 N N a b r c l 0 []:=by kernel_rfl
end
abbrev _root_.Go.Proofs.S1.Aa.of.Cb.Kn:=A7 prog 187 Aa.of.Cb.spec
theorem Aa.of.Cb.Ac (hk:A1 prog Aa.of.Cb.Bc) (h:Hyp Aa.of.Cb.E f187 Aa.of.Cb.ts Aa.of.Cb.pre Aa.of.Cb.out):Aa.of.Cb.Kn :=
 Al (A2 hk _ _ _) func187 (by kernel_rfl) (by kernel_rfl) h
def Aa.of.Part.hint:Nat→Option Bg
 | 0=>some { keep:=[1,2,6,7,13,14],objs:=[(8,2,108002,.ints 37 .u64 [])],boxes:=[6,7] }
 | 2=>some { keep:=[1,2,6,7,8,13,14,17,18],objs:=[(8,2,108002,.ints 37 .u64 [])],boxes:=[6,7] }
 | _=>none
def Aa.of.Part.Bc:List (Nat × Entry):=[(192,Aa.Fs.spec)]
def Aa.of.Part.E:Env:=Be (Bb Aa.of.Part.Bc) (fun _=>false) Aa.of.Part.hint (fun _=>none)
section
variable (N M0 M:Nat) (a b r c:Int) (l:List Int) (x y p8 p14_1 p18:Int) (p2:List Int) (p14:Int) (p2_1:List Int)
def Aa.of.Part.L0:Option DV:=Bx Aa.of.Part.E N f187 (Am f187) [1,1,0,1,0] [] M ⟨E5 33 [(1,.int .i64 b),(2,.fn 192 [] [.cellp [.int .i64 r,.int .i64 c,.ints .arg .u64 l],.cellp [.int .i64 x],.cellp [.int .i64 y]]),(6,.ptr 6 0 0),(7,.ptr 7 0 0),(13,.int .i64 a),(14,.int .i64 p14)],[(6,false,.box [.int .i64 0,.int .i64 0,.nil]),(7,false,.box [.int .i64 a,.int .i64 b,.oref 108002]),(108002,false,.ints 37 .u64 p2_1)]⟩
def Aa.of.Part.L1:Option DV:=Bx Aa.of.Part.E N f187 (Am f187) [1,1,0,1,0,0,1,1,0,0,1,1,0] [M0] M ⟨E5 33 [(1,.int .i64 b),(2,.fn 192 [] [.cellp [.int .i64 r,.int .i64 c,.ints .arg .u64 l],.cellp [.int .i64 x],.cellp [.int .i64 y]]),(6,.ptr 6 0 0),(7,.ptr 7 0 0),(8,.int .i64 p8),(13,.int .i64 a),(14,.int .i64 p14_1),(17,.int .i64 b),(18,.int .i64 p18)],[(6,false,.box [.int .i64 0,.int .i64 0,.nil]),(7,false,.box [.int .i64 a,.int .i64 b,.oref 108002]),(108002,false,.ints 37 .u64 p2)]⟩
theorem Aa.of.Part.Av:Aa.of.Part.L0 N (M+1) a b r c l x y p14 p2_1=bif (Bd p14 a) then Aa.of.Part.L1 N M N a b r c l x y p14 p14 0 p2_1 else some (.agg [.int .i64 a,.int .i64 b,.ints (.own 108002 37) .u64 p2_1]):=by kernel_rfl
theorem Aa.of.Part.B6:Aa.of.Part.L1 N M0 (M+1) a b r c l x y p8 p14_1 p18 p2=bif (Bd p18 b) then bif (Cj r c l (x+p8) (y+p18)&&V7 x y p8 p18) then bif (decide ((length p2)+1≤Gw)) then Aa.of.Part.L1 N M0 M a b r c l x y p8 p14_1 (Ab (p18+1)) (p2++[(D0 c l (x+p8) (y+p18))]) else none else none else Aa.of.Part.L0 N M0 a b r c l x y (Ab (p14_1+1)) p2 :=
 Eq.trans (by kernel_rfl)
 (Ec (Cp (Cd (Cj r c l (x+p8) (y+p18)&&V7 x y p8 p18)) (Cp (Cd (decide ((length p2)+1≤Gw))) rfl rfl) rfl) rfl)
theorem Aa.of.Part.ev:Bu Aa.of.Part.E N f187 (Am f187) [.int .i64 a,.int .i64 b,.fn 192 [] [.cellp [.int .i64 r,.int .i64 c,.ints .arg .u64 l],.cellp [.int .i64 x],.cellp [.int .i64 y]]] =
 Aa.of.Part.L0 N N a b r c l x y 0 []:=by kernel_rfl
end
abbrev _root_.Go.Proofs.S1.Aa.of.Part.Kn:=A7 prog 187 Aa.of.Part.spec
theorem Aa.of.Part.Ac (hk:A1 prog Aa.of.Part.Bc) (h:Hyp Aa.of.Part.E f187 Aa.of.Part.ts Aa.of.Part.pre Aa.of.Part.out):Aa.of.Part.Kn :=
 Al (A2 hk _ _ _) func187 (by kernel_rfl) (by kernel_rfl) h
def Aa.of.Sub.hint:Nat→Option Bg
 | 0=>some { keep:=[1,2,6,7,13,14],objs:=[(8,2,108002,.ints 37 .u64 [])],boxes:=[6,7] }
 | 2=>some { keep:=[1,2,6,7,8,13,14,17,18],objs:=[(8,2,108002,.ints 37 .u64 [])],boxes:=[6,7] }
 | _=>none
def Aa.of.Sub.Bc:List (Nat × Entry):=[(194,Aa.Hk.spec)]
def Aa.of.Sub.E:Env:=Be (Bb Aa.of.Sub.Bc) (fun _=>false) Aa.of.Sub.hint (fun _=>none)
section
variable (N M0 M:Nat) (a b r c:Int) (l:List Int) (p q:Int) (m:List Int) (p8 p14_1 p18:Int) (p2:List Int) (p14:Int) (p2_1:List Int)
def Aa.of.Sub.L0:Option DV:=Bx Aa.of.Sub.E N f187 (Am f187) [1,1,0,1,0] [] M ⟨E5 33 [(1,.int .i64 b),(2,.fn 194 [] [.cellp [.int .i64 r,.int .i64 c,.ints .arg .u64 l],.cellp [.int .i64 p,.int .i64 q,.ints .arg .u64 m]]),(6,.ptr 6 0 0),(7,.ptr 7 0 0),(13,.int .i64 a),(14,.int .i64 p14)],[(6,false,.box [.int .i64 0,.int .i64 0,.nil]),(7,false,.box [.int .i64 a,.int .i64 b,.oref 108002]),(108002,false,.ints 37 .u64 p2_1)]⟩
def Aa.of.Sub.L1:Option DV:=Bx Aa.of.Sub.E N f187 (Am f187) [1,1,0,1,0,0,1,1,0,0,1,1,0] [M0] M ⟨E5 33 [(1,.int .i64 b),(2,.fn 194 [] [.cellp [.int .i64 r,.int .i64 c,.ints .arg .u64 l],.cellp [.int .i64 p,.int .i64 q,.ints .arg .u64 m]]),(6,.ptr 6 0 0),(7,.ptr 7 0 0),(8,.int .i64 p8),(13,.int .i64 a),(14,.int .i64 p14_1),(17,.int .i64 b),(18,.int .i64 p18)],[(6,false,.box [.int .i64 0,.int .i64 0,.nil]),(7,false,.box [.int .i64 a,.int .i64 b,.oref 108002]),(108002,false,.ints 37 .u64 p2)]⟩
theorem Aa.of.Sub.Av:Aa.of.Sub.L0 N (M+1) a b r c l p q m p14 p2_1=bif (Bd p14 a) then Aa.of.Sub.L1 N M N a b r c l p q m p14 p14 0 p2_1 else some (.agg [.int .i64 a,.int .i64 b,.ints (.own 108002 37) .u64 p2_1]):=by kernel_rfl
theorem Aa.of.Sub.B6:Aa.of.Sub.L1 N M0 (M+1) a b r c l p q m p8 p14_1 p18 p2=bif (Bd p18 b) then bif (((Cj r c l p8 p18&&Cj p q m p8 p18)&&Ag l)&&Ag m) then bif (decide ((length p2)+1≤Gw)) then Aa.of.Sub.L1 N M0 M a b r c l p q m p8 p14_1 (Ab (p18+1)) (p2++[(Dl (D0 c l p8 p18) (D0 q m p8 p18))]) else none else none else Aa.of.Sub.L0 N M0 a b r c l p q m (Ab (p14_1+1)) p2 :=
 Eq.trans (by kernel_rfl)
 (Ec (Cp (Cd (((Cj r c l p8 p18&&Cj p q m p8 p18)&&Ag l)&&Ag m)) (Cp (Cd (decide ((length p2)+1≤Gw))) rfl rfl) rfl) rfl)
theorem Aa.of.Sub.ev:Bu Aa.of.Sub.E N f187 (Am f187) [.int .i64 a,.int .i64 b,.fn 194 [] [.cellp [.int .i64 r,.int .i64 c,.ints .arg .u64 l],.cellp [.int .i64 p,.int .i64 q,.ints .arg .u64 m]]] =
 Aa.of.Sub.L0 N N a b r c l p q m 0 []:=by kernel_rfl
end
abbrev _root_.Go.Proofs.S1.Aa.of.Sub.Kn:=A7 prog 187 Aa.of.Sub.spec
theorem Aa.of.Sub.Ac (hk:A1 prog Aa.of.Sub.Bc) (h:Hyp Aa.of.Sub.E f187 Aa.of.Sub.ts Aa.of.Sub.pre Aa.of.Sub.out):Aa.of.Sub.Kn :=
 Al (A2 hk _ _ _) func187 (by kernel_rfl) (by kernel_rfl) h
def Aa.of.Mul.hint:Nat→Option Bg
 | 0=>some { keep:=[1,2,6,7,13,14],objs:=[(8,2,108002,.ints 37 .u64 [])],boxes:=[6,7] }
 | 2=>some { keep:=[1,2,6,7,8,13,14,17,18],objs:=[(8,2,108002,.ints 37 .u64 [])],boxes:=[6,7] }
 | _=>none
def Aa.of.Mul.Bc:List (Nat × Entry):=[(188,Aa.Hm.spec)]
def Aa.of.Mul.E:Env:=Be (Bb Aa.of.Mul.Bc) (fun _=>false) Aa.of.Mul.hint (fun _=>none)
section
variable (N M0 M:Nat) (a b r c:Int) (l:List Int) (p q:Int) (m:List Int) (p8 p14_1 p18:Int) (p2:List Int) (p14:Int) (p2_1:List Int)
def Aa.of.Mul.L0:Option DV:=Bx Aa.of.Mul.E N f187 (Am f187) [1,1,0,1,0] [] M ⟨E5 33 [(1,.int .i64 b),(2,.fn 188 [] [.cellp [.int .i64 r,.int .i64 c,.ints .arg .u64 l],.cellp [.int .i64 p,.int .i64 q,.ints .arg .u64 m]]),(6,.ptr 6 0 0),(7,.ptr 7 0 0),(13,.int .i64 a),(14,.int .i64 p14)],[(6,false,.box [.int .i64 0,.int .i64 0,.nil]),(7,false,.box [.int .i64 a,.int .i64 b,.oref 108002]),(108002,false,.ints 37 .u64 p2_1)]⟩
def Aa.of.Mul.L1:Option DV:=Bx Aa.of.Mul.E N f187 (Am f187) [1,1,0,1,0,0,1,1,0,0,1,1,0] [M0] M ⟨E5 33 [(1,.int .i64 b),(2,.fn 188 [] [.cellp [.int .i64 r,.int .i64 c,.ints .arg .u64 l],.cellp [.int .i64 p,.int .i64 q,.ints .arg .u64 m]]),(6,.ptr 6 0 0),(7,.ptr 7 0 0),(8,.int .i64 p8),(13,.int .i64 a),(14,.int .i64 p14_1),(17,.int .i64 b),(18,.int .i64 p18)],[(6,false,.box [.int .i64 0,.int .i64 0,.nil]),(7,false,.box [.int .i64 a,.int .i64 b,.oref 108002]),(108002,false,.ints 37 .u64 p2)]⟩
theorem Aa.of.Mul.Av:Aa.of.Mul.L0 N (M+1) a b r c l p q m p14 p2_1=bif (Bd p14 a) then Aa.of.Mul.L1 N M N a b r c l p q m p14 p14 0 p2_1 else some (.agg [.int .i64 a,.int .i64 b,.ints (.own 108002 37) .u64 p2_1]):=by kernel_rfl
theorem Aa.of.Mul.B6:Aa.of.Mul.L1 N M0 (M+1) a b r c l p q m p8 p14_1 p18 p2=bif (Bd p18 b) then bif (Tp r c l p q m p8 p18) then bif (decide ((length p2)+1≤Gw)) then Aa.of.Mul.L1 N M0 M a b r c l p q m p8 p14_1 (Ab (p18+1)) (p2++[(Ms (Jr c l p8) (Pm p q m p18))]) else none else none else Aa.of.Mul.L0 N M0 a b r c l p q m (Ab (p14_1+1)) p2 :=
 Eq.trans (by kernel_rfl)
 (Ec (Cp (Cd (Tp r c l p q m p8 p18)) (Cp (Cd (decide ((length p2)+1≤Gw))) rfl rfl) rfl) rfl)
theorem Aa.of.Mul.ev:Bu Aa.of.Mul.E N f187 (Am f187) [.int .i64 a,.int .i64 b,.fn 188 [] [.cellp [.int .i64 r,.int .i64 c,.ints .arg .u64 l],.cellp [.int .i64 p,.int .i64 q,.ints .arg .u64 m]]] =
 Aa.of.Mul.L0 N N a b r c l p q m 0 []:=by kernel_rfl
end
abbrev _root_.Go.Proofs.S1.Aa.of.Mul.Kn:=A7 prog 187 Aa.of.Mul.spec
theorem Aa.of.Mul.Ac (hk:A1 prog Aa.of.Mul.Bc) (h:Hyp Aa.of.Mul.E f187 Aa.of.Mul.ts Aa.of.Mul.pre Aa.of.Mul.out):Aa.of.Mul.Kn :=
 Al (A2 hk _ _ _) func187 (by kernel_rfl) (by kernel_rfl) h
def Aa.Ew.Bc:List (Nat × Entry):=[(187,Aa.of.Ew.spec),(204,Aa.size.spec)]
def Aa.Ew.E:Env:=Be (Bb Aa.Ew.Bc) (fun _=>false) (fun _=>none) (fun _=>none)
theorem Aa.Ew.ev (N:Nat) (n:Int):Bu Aa.Ew.E N f218 (Am f218) [.int .i64 n]=bif (!(Bv n)) then some (.tup [.agg [.int .i64 0,.int .i64 0,.nil],.int .i64 3]) else bif ((Bv n&&Bv n)) then some (.tup [.agg [.int .i64 n,.int .i64 n,.ints .fresh .u64 (Cx (toNat n) (toNat n) (fun j1 j2=>N0 j1 j2))],.int .i64 0]) else none:=by kernel_rfl
abbrev _root_.Go.Proofs.S1.Aa.Ew.Kn:=A7 prog 218 Aa.Ew.spec
theorem Aa.Ew.Ac (hk:A1 prog Aa.Ew.Bc) (h:Hyp Aa.Ew.E f218 Aa.Ew.ts Aa.Ew.pre Aa.Ew.out):Aa.Ew.Kn :=
 Al (A2 hk _ _ _) func218 (by kernel_rfl) (by kernel_rfl) h
def Aa.Cb.Bc:List (Nat × Entry):=[(160,Aa.Check.spec),(187,Aa.of.Cb.spec)]
def Aa.Cb.E:Env:=Be (Bb Aa.Cb.Bc) (fun _=>false) (fun _=>none) (fun _=>none)
theorem Aa.Cb.ev (N:Nat) (r c:Int) (l:List Int):Bu Aa.Cb.E N f167 (Am f167) [.agg [.int .i64 r,.int .i64 c,.ints .arg .u64 l]]=bif ((Le r c l) !=(0:Int)) then some (.tup [.agg [.int .i64 0,.int .i64 0,.nil],.int .i64 (Le r c l)]) else bif ((Bv c&&Bv r)&&A0 r c l&&decide (c=c∧r=r)) then some (.tup [.agg [.int .i64 c,.int .i64 r,.ints .fresh .u64 (Cx (toNat c) (toNat r) (fun j1 j2=>D0 c l j2 j1))],.int .i64 0]) else none:=by kernel_rfl
abbrev _root_.Go.Proofs.S1.Aa.Cb.Kn:=A7 prog 167 Aa.Cb.spec
theorem Aa.Cb.Ac (hk:A1 prog Aa.Cb.Bc) (h:Hyp Aa.Cb.E f167 Aa.Cb.ts Aa.Cb.pre Aa.Cb.out):Aa.Cb.Kn :=
 Al (A2 hk _ _ _) func167 (by kernel_rfl) (by kernel_rfl) h
def Aa.Part.Bc:List (Nat × Entry):=[(160,Aa.Check.spec),(187,Aa.of.Part.spec)]
def Aa.Part.E:Env:=Be (Bb Aa.Part.Bc) (fun _=>false) (fun _=>none) (fun _=>none)
theorem Aa.Part.ev (N:Nat) (r c:Int) (l:List Int) (x y:Int) (a b:Int):Bu Aa.Part.E N f124 (Am f124) [.agg [.int .i64 r,.int .i64 c,.ints .arg .u64 l],.int .i64 x,.int .i64 y,.int .i64 a,.int .i64 b]=bif ((Le r c l) !=(0:Int)) then some (.tup [.agg [.int .i64 0,.int .i64 0,.nil],.int .i64 (Le r c l)]) else bif ((((((((Bd x 0)||(Bd y 0))||(Bd a 0))||(Bd b 0))||(Bd r x))||(Bd c y))||(Bd (Ab (r-x)) a))||(Bd (Ab (c-y)) b)) then some (.tup [.agg [.int .i64 0,.int .i64 0,.nil],.int .i64 3]) else bif ((Bv a&&Bv b)&&A0 r c l&&E7 r c x y a b) then some (.tup [.agg [.int .i64 a,.int .i64 b,.ints .fresh .u64 (Cx (toNat a) (toNat b) (fun j1 j2=>D0 c l (x+j1) (y+j2)))],.int .i64 0]) else none :=
 Eq.trans (by kernel_rfl)
 (Ec rfl (Ax (Uc (Bd x 0)) (Ax (Sr (Bd x 0)) (Ax (Ye (Bd x 0)) (Ax (Alq (Bd x 0) (Bd y 0)) (Ax (Ac0 (Bd x 0) (Bd y 0)) (Ax (Ar6 (Bd x 0) (Bd y 0)) (Ax (Alr (Bd x 0) (Bd y 0) (Bd a 0)) (Ax (Als (Bd x 0) (Bd y 0) (Bd a 0)) (Ax (Ar7 (Bd x 0) (Bd y 0) (Bd a 0)) (Ax (Aau (Bd x 0) (Bd y 0) (Bd a 0) (Bd b 0)) (Ax (Aau (Bd x 0) (Bd y 0) (Bd a 0) (Bd b 0)) (Ax (Aav (Bd x 0) (Bd y 0) (Bd a 0) (Bd b 0)) (Ax (Alu (Bd x 0) (Bd y 0) (Bd a 0) (Bd b 0)) (Ax (Ar8 (Bd x 0) (Bd y 0) (Bd a 0) (Bd b 0)) (Ax (Axs (Bd x 0) (Bd y 0) (Bd a 0) (Bd b 0) (Bd r x)) (Ax (Axs (Bd x 0) (Bd y 0) (Bd a 0) (Bd b 0) (Bd r x)) (Ax (Azt (Bd x 0) (Bd y 0) (Bd a 0) (Bd b 0) (Bd r x)) (Ax (Azu (Bd x 0) (Bd y 0) (Bd a 0) (Bd b 0) (Bd r x)) (Ax (Azv (Bd x 0) (Bd y 0) (Bd a 0) (Bd b 0) (Bd r x)) (Ax (Au8 (Bd x 0) (Bd y 0) (Bd a 0) (Bd b 0) (Bd r x) (Bd c y)) (Ax (Au8 (Bd x 0) (Bd y 0) (Bd a 0) (Bd b 0) (Bd r x) (Bd c y)) (Ax (Azw (Bd x 0) (Bd y 0) (Bd a 0) (Bd b 0) (Bd r x) (Bd c y)) (Ax (Au8 (Bd x 0) (Bd y 0) (Bd a 0) (Bd b 0) (Bd r x) (Bd c y)) (Ax (Axt (Bd x 0) (Bd y 0) (Bd a 0) (Bd b 0) (Bd r x) (Bd c y)) (Ax (Axt (Bd x 0) (Bd y 0) (Bd a 0) (Bd b 0) (Bd r x) (Bd c y)) (Ax (Azx (Bd x 0) (Bd y 0) (Bd a 0) (Bd b 0) (Bd r x) (Bd c y)) (Ax (Au9 (Bd x 0) (Bd y 0) (Bd a 0) (Bd b 0) (Bd r x) (Bd c y) (Bd (Ab (r-x)) a)) (Ax (Au9 (Bd x 0) (Bd y 0) (Bd a 0) (Bd b 0) (Bd r x) (Bd c y) (Bd (Ab (r-x)) a)) (Ax (Azy (Bd x 0) (Bd y 0) (Bd a 0) (Bd b 0) (Bd r x) (Bd c y) (Bd (Ab (r-x)) a)) (Ax (Au9 (Bd x 0) (Bd y 0) (Bd a 0) (Bd b 0) (Bd r x) (Bd c y) (Bd (Ab (r-x)) a)) (Ax (Axu (Bd x 0) (Bd y 0) (Bd a 0) (Bd b 0) (Bd r x) (Bd c y) (Bd (Ab (r-x)) a)) (Ax (Axu (Bd x 0) (Bd y 0) (Bd a 0) (Bd b 0) (Bd r x) (Bd c y) (Bd (Ab (r-x)) a)) (Ax (Azz (Bd x 0) (Bd y 0) (Bd a 0) (Bd b 0) (Bd r x) (Bd c y) (Bd (Ab (r-x)) a)) (Cp (Az0 (Bd x 0) (Bd y 0) (Bd a 0) (Bd b 0) (Bd r x) (Bd c y) (Bd (Ab (r-x)) a) (Bd (Ab (c-y)) b)) rfl rfl)))))))))))))))))))))))))))))))))))
abbrev _root_.Go.Proofs.S1.Aa.Part.Kn:=A7 prog 124 Aa.Part.spec
theorem Aa.Part.Ac (hk:A1 prog Aa.Part.Bc) (h:Hyp Aa.Part.E f124 Aa.Part.ts Aa.Part.pre Aa.Part.out):Aa.Part.Kn :=
 Al (A2 hk _ _ _) func124 (by kernel_rfl) (by kernel_rfl) h
def Aa.Sub.Bc:List (Nat × Entry):=[(187,Aa.of.Sub.spec),(186,Aa.two.spec)]
def Aa.Sub.E:Env:=Be (Bb Aa.Sub.Bc) (fun _=>false) (fun _=>none) (fun _=>none)
theorem Aa.Sub.ev (N:Nat) (r c:Int) (l:List Int) (p q:Int) (m:List Int):Bu Aa.Sub.E N f125 (Am f125) [.agg [.int .i64 r,.int .i64 c,.ints .arg .u64 l],.agg [.int .i64 p,.int .i64 q,.ints .arg .u64 m]]=bif ((Yd r c l p q m) !=(0:Int)) then some (.tup [.agg [.int .i64 0,.int .i64 0,.nil],.int .i64 (Yd r c l p q m)]) else bif (!((r==p)&&(c==q))) then some (.tup [.agg [.int .i64 0,.int .i64 0,.nil],.int .i64 3]) else bif ((Bv r&&Bv c)&&((A0 r c l&&A0 p q m)&&(Ag l&&Ag m))&&decide (r=r∧c=c∧p=r∧q=c)) then some (.tup [.agg [.int .i64 r,.int .i64 c,.ints .fresh .u64 (Cx (toNat r) (toNat c) (fun j1 j2=>Dl (D0 c l j1 j2) (D0 q m j1 j2)))],.int .i64 0]) else none :=
 Eq.trans (by kernel_rfl)
 (Ec rfl (Cp (Azs (r==p) (c==q)) rfl rfl))
abbrev _root_.Go.Proofs.S1.Aa.Sub.Kn:=A7 prog 125 Aa.Sub.spec
theorem Aa.Sub.Ac (hk:A1 prog Aa.Sub.Bc) (h:Hyp Aa.Sub.E f125 Aa.Sub.ts Aa.Sub.pre Aa.Sub.out):Aa.Sub.Kn :=
 Al (A2 hk _ _ _) func125 (by kernel_rfl) (by kernel_rfl) h
def Aa.Mul.Bc:List (Nat × Entry):=[(187,Aa.of.Mul.spec),(186,Aa.two.spec)]
def Aa.Mul.E:Env:=Be (Bb Aa.Mul.Bc) (fun _=>false) (fun _=>none) (fun _=>none)
theorem Aa.Mul.ev (N:Nat) (r c:Int) (l:List Int) (p q:Int) (m:List Int):Bu Aa.Mul.E N f123 (Am f123) [.agg [.int .i64 r,.int .i64 c,.ints .arg .u64 l],.agg [.int .i64 p,.int .i64 q,.ints .arg .u64 m]]=bif ((Yd r c l p q m) !=(0:Int)) then some (.tup [.agg [.int .i64 0,.int .i64 0,.nil],.int .i64 (Yd r c l p q m)]) else bif (c !=p) then some (.tup [.agg [.int .i64 0,.int .i64 0,.nil],.int .i64 3]) else bif ((Bv r&&Bv q)&&((A0 r c l&&A0 p q m)&&(Ag l&&Ag m))&&decide (r=r∧q=q∧c=p)) then some (.tup [.agg [.int .i64 r,.int .i64 q,.ints .fresh .u64 (Cx (toNat r) (toNat q) (fun j1 j2=>Ms (Jr c l j1) (Pm p q m j2)))],.int .i64 0]) else none:=by kernel_rfl
abbrev _root_.Go.Proofs.S1.Aa.Mul.Kn:=A7 prog 123 Aa.Mul.spec
theorem Aa.Mul.Ac (hk:A1 prog Aa.Mul.Bc) (h:Hyp Aa.Mul.E f123 Aa.Mul.ts Aa.Mul.pre Aa.Mul.out):Aa.Mul.Kn :=
 Al (A2 hk _ _ _) func123 (by kernel_rfl) (by kernel_rfl) h
end EqOf
open EqOf
theorem of.Bn.inner (N:Nat)  {A B:Nat} (hA:A≤6) (hB:B≤6) {F:Nat→Nat→Int} (hF:∀ i j:Nat,F i j=(0:Int)) {i:Nat} (hi:i<A):∀ (k j M0 M:Nat),j+k=B→k<M →
 Aa.of.Bn.L1 N M0 M (A:Int) (B:Int) (i:Int) (i:Int) (j:Int) (Cx i B F++(List.range j).map (F i))=Aa.of.Bn.L0 N M0 (A:Int) (B:Int) ((i+1:Nat):Int) (Cx (i+1) B F):=by
 intro k
 induction k with
 | zero =>
   intro j M0 M hj hM
   obtain ⟨M,rfl⟩:∃ G,M=G+1:=⟨M-1,by omega⟩
   obtain rfl:j=B:=by omega
   rw [Aa.of.Bn.B6,Aw,A09 (by omega),A08,An (by omega) (by omega),← M8]
   rfl
 | succ k ih =>
   intro j M0 M hj hM
   obtain ⟨M,rfl⟩:∃ G,M=G+1:=⟨M-1,by omega⟩
   have d:decide ((Cx i B F++(List.range j).map (F i)).length+1≤Gw)=true:=by
    refine A05 ?_
    have:=A10 (show i≤6 by omega) hB
    rw [A1w,Ca,A2a,A17]; unfold Gw; omega
   rw [Aa.of.Bn.B6,Aw,A05 (by omega),A04,d,A04,An (by omega) (by omega),← hF i j]
   have:=ih (j+1) M0 M (by omega) (by omega)
   rw [Ih,← List.append_assoc] at this
   exact this
theorem of.Bn.outer (N:Nat)  {A B:Nat} (hA:A≤6) (hB:B≤6) (hN:6<N) {F:Nat→Nat→Int} (hF:∀ i j:Nat,F i j=(0:Int)):∀ (k i M:Nat),i+k=A→k<M →
 Aa.of.Bn.L0 N M (A:Int) (B:Int) (i:Int) (Cx i B F)=some (.agg [.int .i64 (A:Int),.int .i64 (B:Int),.ints (.own 108002 tB) .u64 (Cx A B F)]):=by
 intro k
 induction k with
 | zero =>
   intro i M hi hM
   obtain ⟨M,rfl⟩:∃ G,M=G+1:=⟨M-1,by omega⟩
   obtain rfl:i=A:=by omega
   rw [Aa.of.Bn.Av,Aw,A09 (by omega),A08]
 | succ k ih =>
   intro i M hi hM
   obtain ⟨M,rfl⟩:∃ G,M=G+1:=⟨M-1,by omega⟩
   have n:=of.Bn.inner N hA hB hF (show i<A by omega) B 0 M N (by omega) (by omega)
   rw [List.range_zero,List.map_nil,List.append_nil] at n
   rw [Aa.of.Bn.Av,Aw,A05 (by omega),A04]
   exact n.trans (ih (i+1) M (by omega) (by omega))
theorem of.Ew.inner (N:Nat)  {A B:Nat} (hA:A≤6) (hB:B≤6) {F:Nat→Nat→Int} (hF:∀ i j:Nat,F i j=N0 (i:Int) (j:Int)) {i:Nat} (hi:i<A):∀ (k j M0 M:Nat),j+k=B→k<M →
 Aa.of.Ew.L1 N M0 M (A:Int) (B:Int) (i:Int) (i:Int) (j:Int) (Cx i B F++(List.range j).map (F i))=Aa.of.Ew.L0 N M0 (A:Int) (B:Int) ((i+1:Nat):Int) (Cx (i+1) B F):=by
 intro k
 induction k with
 | zero =>
   intro j M0 M hj hM
   obtain ⟨M,rfl⟩:∃ G,M=G+1:=⟨M-1,by omega⟩
   obtain rfl:j=B:=by omega
   rw [Aa.of.Ew.B6,Aw,A09 (by omega),A08,An (by omega) (by omega),← M8]
   rfl
 | succ k ih =>
   intro j M0 M hj hM
   obtain ⟨M,rfl⟩:∃ G,M=G+1:=⟨M-1,by omega⟩
   have d:decide ((Cx i B F++(List.range j).map (F i)).length+1≤Gw)=true:=by
    refine A05 ?_
    have:=A10 (show i≤6 by omega) hB
    rw [A1w,Ca,A2a,A17]; unfold Gw; omega
   rw [Aa.of.Ew.B6,Aw,A05 (by omega),A04,d,A04,An (by omega) (by omega),← hF i j]
   have:=ih (j+1) M0 M (by omega) (by omega)
   rw [Ih,← List.append_assoc] at this
   exact this
theorem of.Ew.outer (N:Nat)  {A B:Nat} (hA:A≤6) (hB:B≤6) (hN:6<N) {F:Nat→Nat→Int} (hF:∀ i j:Nat,F i j=N0 (i:Int) (j:Int)):∀ (k i M:Nat),i+k=A→k<M →
 Aa.of.Ew.L0 N M (A:Int) (B:Int) (i:Int) (Cx i B F)=some (.agg [.int .i64 (A:Int),.int .i64 (B:Int),.ints (.own 108002 tB) .u64 (Cx A B F)]):=by
 intro k
 induction k with
 | zero =>
   intro i M hi hM
   obtain ⟨M,rfl⟩:∃ G,M=G+1:=⟨M-1,by omega⟩
   obtain rfl:i=A:=by omega
   rw [Aa.of.Ew.Av,Aw,A09 (by omega),A08]
 | succ k ih =>
   intro i M hi hM
   obtain ⟨M,rfl⟩:∃ G,M=G+1:=⟨M-1,by omega⟩
   have n:=of.Ew.inner N hA hB hF (show i<A by omega) B 0 M N (by omega) (by omega)
   rw [List.range_zero,List.map_nil,List.append_nil] at n
   rw [Aa.of.Ew.Av,Aw,A05 (by omega),A04]
   exact n.trans (ih (i+1) M (by omega) (by omega))
theorem Aa.of.Ew.known:Aa.of.Ew.Kn:=Aa.of.Ew.Ac (.cons Aa.Hq.known .nil) fun a b hp=>by
 have h1:(Bv a&&Bv b)=true:=hp
 obtain ⟨ha,hb⟩:=Ad.1 h1
 obtain ⟨A,rfl,hA⟩:=E9 ha
 obtain ⟨B,rfl,hB⟩:=E9 hb
 refine ⟨8,.agg [.int .i64 (A:Int),.int .i64 (B:Int),.ints (.own 108002 tB) .u64 (Cx A B fun (i j:Nat)=>N0 (i:Int) (j:Int))],[108002],?_,Wk.Gy (.cons .int (.cons .int (.cons (.drop _ _ _ _ (List.mem_singleton.2 rfl)) .nil)))⟩
 rw [Aa.of.Ew.ev]
 have n:=of.Ew.outer 8 hA hB (by omega) (F:=fun (i j:Nat)=>N0 (i:Int) (j:Int)) (fun _ _=>rfl) A 0 8 (by omega) (by omega)
 rw [M7] at n
 exact n
theorem of.Cb.inner (N:Nat) (r c:Int) (l:List Int) {A B:Nat} (hA:A≤6) (hB:B≤6) {F:Nat→Nat→Int} (hF:∀ i j:Nat,F i j=D0 c l (j:Int) (i:Int)) {i:Nat} (hi:i<A) (hp:∀ j:Nat,j<B→Cj r c l (j:Int) (i:Int)=true):∀ (k j M0 M:Nat),j+k=B→k<M →
 Aa.of.Cb.L1 N M0 M (A:Int) (B:Int) r c l (i:Int) (i:Int) (j:Int) (Cx i B F++(List.range j).map (F i))=Aa.of.Cb.L0 N M0 (A:Int) (B:Int) r c l ((i+1:Nat):Int) (Cx (i+1) B F):=by
 intro k
 induction k with
 | zero =>
   intro j M0 M hj hM
   obtain ⟨M,rfl⟩:∃ G,M=G+1:=⟨M-1,by omega⟩
   obtain rfl:j=B:=by omega
   rw [Aa.of.Cb.B6,Aw,A09 (by omega),A08,An (by omega) (by omega),← M8]
   rfl
 | succ k ih =>
   intro j M0 M hj hM
   obtain ⟨M,rfl⟩:∃ G,M=G+1:=⟨M-1,by omega⟩
   have d:decide ((Cx i B F++(List.range j).map (F i)).length+1≤Gw)=true:=by
    refine A05 ?_
    have:=A10 (show i≤6 by omega) hB
    rw [A1w,Ca,A2a,A17]; unfold Gw; omega
   rw [Aa.of.Cb.B6,Aw,A05 (by omega),A04,hp j (by omega),A04,d,A04,An (by omega) (by omega),← hF i j]
   have:=ih (j+1) M0 M (by omega) (by omega)
   rw [Ih,← List.append_assoc] at this
   exact this
theorem of.Cb.outer (N:Nat) (r c:Int) (l:List Int) {A B:Nat} (hA:A≤6) (hB:B≤6) (hN:6<N) {F:Nat→Nat→Int} (hF:∀ i j:Nat,F i j=D0 c l (j:Int) (i:Int)) (hp:∀ i j:Nat,i<A→j<B→Cj r c l (j:Int) (i:Int)=true):∀ (k i M:Nat),i+k=A→k<M →
 Aa.of.Cb.L0 N M (A:Int) (B:Int) r c l (i:Int) (Cx i B F)=some (.agg [.int .i64 (A:Int),.int .i64 (B:Int),.ints (.own 108002 tB) .u64 (Cx A B F)]):=by
 intro k
 induction k with
 | zero =>
   intro i M hi hM
   obtain ⟨M,rfl⟩:∃ G,M=G+1:=⟨M-1,by omega⟩
   obtain rfl:i=A:=by omega
   rw [Aa.of.Cb.Av,Aw,A09 (by omega),A08]
 | succ k ih =>
   intro i M hi hM
   obtain ⟨M,rfl⟩:∃ G,M=G+1:=⟨M-1,by omega⟩
   have n:=of.Cb.inner N r c l hA hB hF (show i<A by omega) (fun j hj=>hp i j (by omega) hj) B 0 M N (by omega) (by omega)
   rw [List.range_zero,List.map_nil,List.append_nil] at n
   rw [Aa.of.Cb.Av,Aw,A05 (by omega),A04]
   exact n.trans (ih (i+1) M (by omega) (by omega))
theorem Aa.of.Cb.known:Aa.of.Cb.Kn:=Aa.of.Cb.Ac (.cons Aa.Fq.known .nil) fun a b r c l hp=>by
 obtain ⟨h12,hy⟩:=Ad.1 (show (((Bv a&&Bv b)&&A0 r c l)&&decide (a=c∧b=r))=true from hp)
 obtain ⟨h1,hx⟩:=Ad.1 h12
 have h2:=Ad.2 ⟨hx,hy⟩
 obtain ⟨ha,hb⟩:=Ad.1 h1
 obtain ⟨A,rfl,hA⟩:=E9 ha
 obtain ⟨B,rfl,hB⟩:=E9 hb
 obtain ⟨hr,he⟩:=Ad.1 h2
 obtain ⟨e1,e2⟩:=A1u he
 have hp:∀ i j:Nat,i<A→j<B→Cj r c l (j:Int) (i:Int)=true:=fun i j hi hj=>Lx hr (by omega) (by omega) (by omega) (by omega) r
 refine ⟨8,.agg [.int .i64 (A:Int),.int .i64 (B:Int),.ints (.own 108002 tB) .u64 (Cx A B fun (i j:Nat)=>D0 c l (j:Int) (i:Int))],[108002],?_,Wk.Gy (.cons .int (.cons .int (.cons (.drop _ _ _ _ (List.mem_singleton.2 rfl)) .nil)))⟩
 rw [Aa.of.Cb.ev]
 have n:=of.Cb.outer 8 r c l hA hB (by omega) (F:=fun (i j:Nat)=>D0 c l (j:Int) (i:Int)) (fun _ _=>rfl) hp A 0 8 (by omega) (by omega)
 rw [M7] at n
 exact n
theorem of.Part.inner (N:Nat) (r c:Int) (l:List Int) (x y:Int) {A B:Nat} (hA:A≤6) (hB:B≤6) {F:Nat→Nat→Int} (hF:∀ i j:Nat,F i j=D0 c l (x+(i:Int)) (y+(j:Int))) {i:Nat} (hi:i<A) (hp:∀ j:Nat,j<B→(Cj r c l (x+(i:Int)) (y+(j:Int))&&V7 x y (i:Int) (j:Int))=true):∀ (k j M0 M:Nat),j+k=B→k<M →
 Aa.of.Part.L1 N M0 M (A:Int) (B:Int) r c l x y (i:Int) (i:Int) (j:Int) (Cx i B F++(List.range j).map (F i))=Aa.of.Part.L0 N M0 (A:Int) (B:Int) r c l x y ((i+1:Nat):Int) (Cx (i+1) B F):=by
 intro k
 induction k with
 | zero =>
   intro j M0 M hj hM
   obtain ⟨M,rfl⟩:∃ G,M=G+1:=⟨M-1,by omega⟩
   obtain rfl:j=B:=by omega
   rw [Aa.of.Part.B6,Aw,A09 (by omega),A08,An (by omega) (by omega),← M8]
   rfl
 | succ k ih =>
   intro j M0 M hj hM
   obtain ⟨M,rfl⟩:∃ G,M=G+1:=⟨M-1,by omega⟩
   have d:decide ((Cx i B F++(List.range j).map (F i)).length+1≤Gw)=true:=by
    refine A05 ?_
    have:=A10 (show i≤6 by omega) hB
    rw [A1w,Ca,A2a,A17]; unfold Gw; omega
   rw [Aa.of.Part.B6,Aw,A05 (by omega),A04,hp j (by omega),A04,d,A04,An (by omega) (by omega),← hF i j]
   have:=ih (j+1) M0 M (by omega) (by omega)
   rw [Ih,← List.append_assoc] at this
   exact this
theorem of.Part.outer (N:Nat) (r c:Int) (l:List Int) (x y:Int) {A B:Nat} (hA:A≤6) (hB:B≤6) (hN:6<N) {F:Nat→Nat→Int} (hF:∀ i j:Nat,F i j=D0 c l (x+(i:Int)) (y+(j:Int))) (hp:∀ i j:Nat,i<A→j<B→(Cj r c l (x+(i:Int)) (y+(j:Int))&&V7 x y (i:Int) (j:Int))=true):∀ (k i M:Nat),i+k=A→k<M →
 Aa.of.Part.L0 N M (A:Int) (B:Int) r c l x y (i:Int) (Cx i B F)=some (.agg [.int .i64 (A:Int),.int .i64 (B:Int),.ints (.own 108002 tB) .u64 (Cx A B F)]):=by
 intro k
 induction k with
 | zero =>
   intro i M hi hM
   obtain ⟨M,rfl⟩:∃ G,M=G+1:=⟨M-1,by omega⟩
   obtain rfl:i=A:=by omega
   rw [Aa.of.Part.Av,Aw,A09 (by omega),A08]
 | succ k ih =>
   intro i M hi hM
   obtain ⟨M,rfl⟩:∃ G,M=G+1:=⟨M-1,by omega⟩
   have n:=of.Part.inner N r c l x y hA hB hF (show i<A by omega) (fun j hj=>hp i j (by omega) hj) B 0 M N (by omega) (by omega)
   rw [List.range_zero,List.map_nil,List.append_nil] at n
   rw [Aa.of.Part.Av,Aw,A05 (by omega),A04]
   exact n.trans (ih (i+1) M (by omega) (by omega))
theorem Aa.of.Part.known:Aa.of.Part.Kn:=Aa.of.Part.Ac (.cons Aa.Fs.known .nil) fun a b r c l x y hp=>by
 obtain ⟨h12,hy⟩:=Ad.1 (show (((Bv a&&Bv b)&&A0 r c l)&&E7 r c x y a b)=true from hp)
 obtain ⟨h1,hx⟩:=Ad.1 h12
 have h2:=Ad.2 ⟨hx,hy⟩
 obtain ⟨ha,hb⟩:=Ad.1 h1
 obtain ⟨A,rfl,hA⟩:=E9 ha
 obtain ⟨B,rfl,hB⟩:=E9 hb
 obtain ⟨hr,he⟩:=Ad.1 h2
 have he:=A1u he
 have hs:=J7.1 hr
 have hp:∀ i j:Nat,i<A→j<B→(Cj r c l (x+(i:Int)) (y+(j:Int))&&V7 x y (i:Int) (j:Int))=true:=fun i j hi hj =>
  Ad.2 ⟨Lx hr (by omega) (by omega) (by omega) (by omega) r,Au.2 (by omega)⟩
 refine ⟨8,.agg [.int .i64 (A:Int),.int .i64 (B:Int),.ints (.own 108002 tB) .u64 (Cx A B fun (i j:Nat)=>D0 c l (x+(i:Int)) (y+(j:Int)))],[108002],?_,Wk.Gy (.cons .int (.cons .int (.cons (.drop _ _ _ _ (List.mem_singleton.2 rfl)) .nil)))⟩
 rw [Aa.of.Part.ev]
 have n:=of.Part.outer 8 r c l x y hA hB (by omega) (F:=fun (i j:Nat)=>D0 c l (x+(i:Int)) (y+(j:Int))) (fun _ _=>rfl) hp A 0 8 (by omega) (by omega)
 rw [M7] at n
 exact n
theorem of.Mul.inner (N:Nat) (r c:Int) (l:List Int) (p q:Int) (m:List Int) {A B:Nat} (hA:A≤6) (hB:B≤6) {F:Nat→Nat→Int} (hF:∀ i j:Nat,F i j=Ms (Jr c l (i:Int)) (Pm p q m (j:Int))) {i:Nat} (hi:i<A) (hp:∀ j:Nat,j<B→Tp r c l p q m (i:Int) (j:Int)=true):∀ (k j M0 M:Nat),j+k=B→k<M →
 Aa.of.Mul.L1 N M0 M (A:Int) (B:Int) r c l p q m (i:Int) (i:Int) (j:Int) (Cx i B F++(List.range j).map (F i))=Aa.of.Mul.L0 N M0 (A:Int) (B:Int) r c l p q m ((i+1:Nat):Int) (Cx (i+1) B F):=by
 intro k
 induction k with
 | zero =>
   intro j M0 M hj hM
   obtain ⟨M,rfl⟩:∃ G,M=G+1:=⟨M-1,by omega⟩
   obtain rfl:j=B:=by omega
   rw [Aa.of.Mul.B6,Aw,A09 (by omega),A08,An (by omega) (by omega),← M8]
   rfl
 | succ k ih =>
   intro j M0 M hj hM
   obtain ⟨M,rfl⟩:∃ G,M=G+1:=⟨M-1,by omega⟩
   have d:decide ((Cx i B F++(List.range j).map (F i)).length+1≤Gw)=true:=by
    refine A05 ?_
    have:=A10 (show i≤6 by omega) hB
    rw [A1w,Ca,A2a,A17]; unfold Gw; omega
   rw [Aa.of.Mul.B6,Aw,A05 (by omega),A04,hp j (by omega),A04,d,A04,An (by omega) (by omega),← hF i j]
   have:=ih (j+1) M0 M (by omega) (by omega)
   rw [Ih,← List.append_assoc] at this
   exact this
theorem of.Mul.outer (N:Nat) (r c:Int) (l:List Int) (p q:Int) (m:List Int) {A B:Nat} (hA:A≤6) (hB:B≤6) (hN:6<N) {F:Nat→Nat→Int} (hF:∀ i j:Nat,F i j=Ms (Jr c l (i:Int)) (Pm p q m (j:Int))) (hp:∀ i j:Nat,i<A→j<B→Tp r c l p q m (i:Int) (j:Int)=true):∀ (k i M:Nat),i+k=A→k<M →
 Aa.of.Mul.L0 N M (A:Int) (B:Int) r c l p q m (i:Int) (Cx i B F)=some (.agg [.int .i64 (A:Int),.int .i64 (B:Int),.ints (.own 108002 tB) .u64 (Cx A B F)]):=by
 intro k
 induction k with
 | zero =>
   intro i M hi hM
   obtain ⟨M,rfl⟩:∃ G,M=G+1:=⟨M-1,by omega⟩
   obtain rfl:i=A:=by omega
   rw [Aa.of.Mul.Av,Aw,A09 (by omega),A08]
 | succ k ih =>
   intro i M hi hM
   obtain ⟨M,rfl⟩:∃ G,M=G+1:=⟨M-1,by omega⟩
   have n:=of.Mul.inner N r c l p q m hA hB hF (show i<A by omega) (fun j hj=>hp i j (by omega) hj) B 0 M N (by omega) (by omega)
   rw [List.range_zero,List.map_nil,List.append_nil] at n
   rw [Aa.of.Mul.Av,Aw,A05 (by omega),A04]
   exact n.trans (ih (i+1) M (by omega) (by omega))
theorem Aa.of.Mul.known:Aa.of.Mul.Kn:=Aa.of.Mul.Ac (.cons Aa.Hm.known .nil) fun a b r c l p q m hp=>by
 obtain ⟨h12,hy⟩:=Ad.1 (show (((Bv a&&Bv b)&&((A0 r c l&&A0 p q m)&&(Ag l&&Ag m)))&&decide (a=r∧b=q∧c=p))=true from hp)
 obtain ⟨h1,hx⟩:=Ad.1 h12
 have h2:=Ad.2 ⟨hx,hy⟩
 obtain ⟨ha,hb⟩:=Ad.1 h1
 obtain ⟨A,rfl,hA⟩:=E9 ha
 obtain ⟨B,rfl,hB⟩:=E9 hb
 obtain ⟨h3,he⟩:=Ad.1 h2
 obtain ⟨h4,h5⟩:=Ad.1 h3
 obtain ⟨hr,hm⟩:=Ad.1 h4
 obtain ⟨e1,e2,e3⟩:=A1u he
 have hp:∀ i j:Nat,i<A→j<B→Tp r c l p q m (i:Int) (j:Int)=true:=fun i j hi hj =>
  Ad.2 ⟨Ad.2 ⟨Ad.2 ⟨hr,Au.2 (by omega)⟩,Ad.2 ⟨hm,Au.2 (by omega)⟩⟩,Ad.2 ⟨h5,Au.2 e3⟩⟩
 refine ⟨8,.agg [.int .i64 (A:Int),.int .i64 (B:Int),.ints (.own 108002 tB) .u64 (Cx A B fun (i j:Nat)=>Ms (Jr c l (i:Int)) (Pm p q m (j:Int)))],[108002],?_,Wk.Gy (.cons .int (.cons .int (.cons (.drop _ _ _ _ (List.mem_singleton.2 rfl)) .nil)))⟩
 rw [Aa.of.Mul.ev]
 have n:=of.Mul.outer 8 r c l p q m hA hB (by omega) (F:=fun (i j:Nat)=>Ms (Jr c l (i:Int)) (Pm p q m (j:Int))) (fun _ _=>rfl) hp A 0 8 (by omega) (by omega)
 rw [M7] at n
 exact n
open EqOf
def Su (x:MX):DV:=.tup [.agg [.int .i64 x.1,.int .i64 x.2.1,.ints .fresh .u64 x.2.2.1],.int .i64 x.2.2.2]
def Af8 (e:Int):DV:=.tup [.agg [.int .i64 0,.int .i64 0,.nil],.int .i64 e]
theorem Pq {drops:List Nat} {x:MX}:Wk drops (Su x) (Su x) :=
 Wk.Gv (.cons (Wk.Gy (.cons .int (.cons .int (.cons .Mb .nil)))) (.cons .int .nil))
theorem N3 {drops:List Nat} {e:Int}:Wk drops (Af8 e) (Su (Ga e)) :=
 Wk.Gv (.cons (Wk.Gy (.cons .int (.cons .int (.cons (.nil _ _) .nil)))) (.cons .int .nil))
theorem Aa.Ew.known:Aa.Ew.Kn:=Aa.Ew.Ac (.cons Aa.of.Ew.known (.cons Aa.size.known .nil)) fun n _=>by
 show ∃ N dv drops,_=some dv∧Wk drops dv (Su (Nr n))
 unfold Nr
 by_cases h:Bv n=true
 ·rw [A1r h]
  exact ⟨0,_,[],by rw [Aa.Ew.ev,h]; rfl,Pq⟩
 ·have e:Bv n=false:=by simpa using h
  rw [A1q h]
  exact ⟨0,_,[],by rw [Aa.Ew.ev,e]; rfl,N3⟩
theorem Fj {r c:Int} {l:List Int} (h:A0 r c l=true):Bv r=true∧Bv c=true:=by
 obtain ⟨h1,h2,_⟩:=J7.1 h
 exact ⟨Jp.2 h1,Jp.2 h2⟩
theorem Aa.Cb.known:Aa.Cb.Kn:=Aa.Cb.Ac (.cons Aa.Check.known (.cons Aa.of.Cb.known .nil)) fun r c l _=>by
 show ∃ N dv drops,_=some dv∧Wk drops dv (Su (Ap r c l))
 unfold Ap
 by_cases h:A0 r c l=true
 ·obtain ⟨h1,h2⟩:=Fj h
  rw [A1r h]
  exact ⟨0,_,[],by rw [Aa.Cb.ev,T2,h,h1,h2,A05 ⟨rfl,rfl⟩]; rfl,Pq⟩
 ·have e:A0 r c l=false:=by simpa using h
  have ec:Le r c l=1:=by unfold Le; rw [e]; rfl
  rw [A1q h]
  exact ⟨0,_,[],by rw [Aa.Cb.ev,T2,e,ec]; rfl,N3⟩
theorem Abv {r c x y a b:Int} (hr:0≤r∧r≤6) (hc:0≤c∧c≤6) :
 ((((((((Bd x (0:Int))||(Bd y (0:Int)))||(Bd a (0:Int)))||(Bd b (0:Int)))||(Bd r x))||(Bd c y))||(Bd (Ab (r-x)) a))||(Bd (Ab (c-y)) b))=!(E7 r c x y a b):=by
 unfold E7
 simp only [Aw]
 by_cases h:0≤x∧0≤y∧x≤r∧y≤c
 ·rw [An (x:=r-x) (by omega) (by omega),An (x:=c-y) (by omega) (by omega),A1k]
  simp only [Bool.or_eq_true,A1b,Bool.not_eq_true',A1n]
  omega
 ·have e:decide (0≤x∧0≤y∧0≤a∧0≤b∧x≤r∧y≤c∧a≤r-x∧b≤c-y)=false:=A09 (by omega)
  rw [e,A1k]
  simp only [Bool.or_eq_true,A1b,A2n,iff_true]
  omega
theorem Y5 {r c x y a b:Int} {l:List Int} (h:A0 r c l=true) (hp:E7 r c x y a b=true):Bv a=true∧Bv b=true:=by
 obtain ⟨h1,h2,_⟩:=J7.1 h
 have:=A1u hp
 exact ⟨Jp.2 (by omega),Jp.2 (by omega)⟩
theorem Aa.Part.known:Aa.Part.Kn:=Aa.Part.Ac (.cons Aa.Check.known (.cons Aa.of.Part.known .nil)) fun r c l x y a b _=>by
 show ∃ N dv drops,_=some dv∧Wk drops dv (Su (Az r c l x y a b))
 unfold Az
 by_cases h:A0 r c l=true
 ·obtain ⟨h1,h2,_⟩:=J7.1 h
  by_cases hp:E7 r c x y a b=true
  ·obtain ⟨s1,s2⟩:=Y5 h hp
   rw [A1r h,A1r hp]
   exact ⟨0,_,[],by rw [Aa.Part.ev,T2,Abv h1 h2,h,hp,s1,s2]; rfl,Pq⟩
  ·have e:E7 r c x y a b=false:=by simpa using hp
   rw [A1r h,A1q hp]
   exact ⟨0,_,[],by rw [Aa.Part.ev,T2,Abv h1 h2,h,e]; rfl,N3⟩
 ·have e:A0 r c l=false:=by simpa using h
  have ec:Le r c l=1:=by unfold Le; rw [e]; rfl
  rw [A1q h]
  exact ⟨0,_,[],by rw [Aa.Part.ev,T2,e,ec]; rfl,N3⟩
theorem V3 (r c:Int) (l:List Int) (p q:Int) (m:List Int):((Yd r c l p q m) !=(0:Int))=!(A0 r c l&&A0 p q m):=by
 unfold Yd
 cases A0 r c l&&A0 p q m<;>rfl
theorem Aof {r c:Int} {l:List Int} {p q:Int} {m:List Int} (h:(A0 r c l&&A0 p q m)=false):Yd r c l p q m=1:=by
 unfold Yd; rw [h]; rfl
theorem Aa.Mul.known:Aa.Mul.Kn:=Aa.Mul.Ac (.cons Aa.of.Mul.known (.cons Aa.two.known .nil)) fun r c l p q m hp=>by
 show ∃ N dv drops,_=some dv∧Wk drops dv (Su (Fo r c l p q m))
 unfold Fo
 have hp:(Ag l&&Ag m)=true:=hp
 by_cases h:(A0 r c l&&A0 p q m)=true
 ·obtain ⟨h1,h2⟩:=Ad.1 h
  by_cases hc:c=p
  ·have e:(c !=p)=false:=by rw [hc]; simp
   rw [A1r h,A1r hc]
   exact ⟨0,_,[],by rw [Aa.Mul.ev,V3,h,e,(Fj h1).1,(Fj h2).2,hp,A05 ⟨rfl,rfl,hc⟩]; rfl,Pq⟩
  ·have e:(c !=p)=true:=by simpa using hc
   rw [A1r h,A1q hc]
   exact ⟨0,_,[],by rw [Aa.Mul.ev,V3,h,e]; rfl,N3⟩
 ·have e:(A0 r c l&&A0 p q m)=false:=by simpa using h
  rw [A1q h]
  exact ⟨0,_,[],by rw [Aa.Mul.ev,V3,e,Aof e]; rfl,N3⟩
namespace EqRef10
def Af.Hl.Bc:List (Nat × Entry):=[]
def Af.Hl.E:Env:=Be (Bb Af.Hl.Bc) (fun _=>false) (fun _=>none) (fun _=>none)
theorem Af.Hl.ev (N:Nat) (r c:Int) (l:List Int):Bu Af.Hl.E N f91 (Am f91) [.agg [.int .i64 r,.int .i64 c,.ints .arg .u64 l]]=some (.bool (bif (bif (bif (bif (Es 0 r) then (Es r 6) else false) then (Es 0 c) else false) then (Es c 6) else false) then ((length l:Int)==(Ab (r*c))) else false)) :=
 Eq.trans (by kernel_rfl)
 (Ax (Oj (Es 0 r)) (Ax (L7 (Es 0 r)) (Ax (L7 (Es 0 r)) (Ax (Th (Es 0 r)) (Ax (Aoi (Es 0 r) (Es r 6)) (Ax (Aoj (Es 0 r) (Es r 6)) (Ax (Aoj (Es 0 r) (Es r 6)) (Ax (Au6 (Es 0 r) (Es r 6)) (Ax (Axo (Es 0 r) (Es r 6) (Es 0 c)) (Ax (Axp (Es 0 r) (Es r 6) (Es 0 c)) (Ax (Axp (Es 0 r) (Es r 6) (Es 0 c)) (Ax (Axq (Es 0 r) (Es r 6) (Es 0 c)) (Ax (Au7 (Es 0 r) (Es r 6) (Es 0 c) (Es c 6)) (Ax (Ar5 (Es 0 r) (Es r 6) (Es 0 c) (Es c 6)) (Ax (Ar5 (Es 0 r) (Es r 6) (Es 0 c) (Es c 6)) (Ax (Au7 (Es 0 r) (Es r 6) (Es 0 c) (Es c 6)) (Ax (Ar5 (Es 0 r) (Es r 6) (Es 0 c) (Es c 6)) (Ax (Au7 (Es 0 r) (Es r 6) (Es 0 c) (Es c 6)) (Ax (Ar5 (Es 0 r) (Es r 6) (Es 0 c) (Es c 6)) (Ax (Axr (Es 0 r) (Es r 6) (Es 0 c) (Es c 6)) (Ax (Axr (Es 0 r) (Es r 6) (Es 0 c) (Es c 6)) (Ax (Azr (Es 0 r) (Es r 6) (Es 0 c) (Es c 6)) rfl))))))))))))))))))))))
abbrev _root_.Go.Proofs.S1.Af.Hl.Kn:=A7 prog 91 Af.Hl.spec
theorem Af.Hl.Ac (hk:A1 prog Af.Hl.Bc) (h:Hyp Af.Hl.E f91 Af.Hl.ts Af.Hl.pre Af.Hl.out):Af.Hl.Kn :=
 Al (A2 hk _ _ _) func91 (by kernel_rfl) (by kernel_rfl) h
def Af.At.Bc:List (Nat × Entry):=[]
def Af.At.E:Env:=Be (Bb Af.At.Bc) (fun _=>false) (fun _=>none) (fun _=>none)
theorem Af.At.ev (N:Nat) (r c:Int) (l:List Int) (i k:Int):Bu Af.At.E N f80 (Am f80) [.agg [.int .i64 r,.int .i64 c,.ints .arg .u64 l],.int .i64 i,.int .i64 k]=bif ((decide (0≤(Ab ((Ab (i*c))+k))))&&(decide ((Ab ((Ab (i*c))+k))<(length l:Int)))) then some (.int .u64 (getD l (toNat (Ab ((Ab (i*c))+k))) 0)) else none:=by kernel_rfl
abbrev _root_.Go.Proofs.S1.Af.At.Kn:=A7 prog 80 Af.At.spec
theorem Af.At.Ac (hk:A1 prog Af.At.Bc) (h:Hyp Af.At.E f80 Af.At.ts Af.At.pre Af.At.out):Af.At.Kn :=
 Al (A2 hk _ _ _) func80 (by kernel_rfl) (by kernel_rfl) h
def Af.Bn.Bc:List (Nat × Entry):=[]
def Af.Bn.E:Env:=Be (Bb Af.Bn.Bc) (fun _=>false) (fun _=>none) (fun _=>none)
theorem Af.Bn.ev (N:Nat) (a b:Int):Bu Af.Bn.E N f35 (Am f35) [.int .i64 a,.int .i64 b]=bif (((decide ((0:Int)≤(Ab (a*b))))&&(decide ((Ab (a*b))≤(Ab (a*b)))))&&(decide ((Ab (a*b))≤Gw))) then some (.agg [.int .i64 a,.int .i64 b,.ints (.own 10 37) .u64 (List.replicate (toNat (Ab (a*b))) 0)]) else none:=by kernel_rfl
abbrev _root_.Go.Proofs.S1.Af.Bn.Kn:=A7 prog 35 Af.Bn.spec
theorem Af.Bn.Ac (hk:A1 prog Af.Bn.Bc) (h:Hyp Af.Bn.E f35 Af.Bn.ts Af.Bn.pre Af.Bn.out):Af.Bn.Kn :=
 Al (A2 hk _ _ _) func35 (by kernel_rfl) (by kernel_rfl) h
def Af.Fp.Bc:List (Nat × Entry):=[]
def Af.Fp.E:Env:=Be (Bb Af.Fp.Bc) (fun _=>false) (fun _=>none) (fun _=>none)
theorem Af.Fp.ev (N:Nat) (r c:Int) (l:List Int) (i k b:Int):Bu Af.Fp.E N f83 (Am f83) [.agg [.int .i64 r,.int .i64 c,.ints .arg .u64 l],.int .i64 i,.int .i64 k,.int .u64 b]=bif (decide (0+(length l)≤Gw)) then bif ((decide (0≤(Ab ((Ab (i*c))+k))))&&(decide ((Ab ((Ab (i*c))+k))<(length ([]++l):Int)))) then bif (decide ((toNat (Ab ((Ab (i*c))+k)))<(length ([]++l)))) then some (.agg [.int .i64 r,.int .i64 c,.ints (.own 13 37) .u64 (List.set ([]++l) (toNat (Ab ((Ab (i*c))+k))) b)]) else none else none else none:=by kernel_rfl
abbrev _root_.Go.Proofs.S1.Af.Fp.Kn:=A7 prog 83 Af.Fp.spec
theorem Af.Fp.Ac (hk:A1 prog Af.Fp.Bc) (h:Hyp Af.Fp.E f83 Af.Fp.ts Af.Fp.pre Af.Fp.out):Af.Fp.Kn :=
 Al (A2 hk _ _ _) func83 (by kernel_rfl) (by kernel_rfl) h
def Af.Ew.hint:Nat→Option Bg
 | 0=>some { keep:=[0,2,3,4],objs:=[],boxes:=[2,3] }
 | _=>none
def Af.Ew.Bc:List (Nat × Entry):=[(83,Af.Fp.spec),(35,Af.Bn.spec)]
def Af.Ew.E:Env:=Be (Bb Af.Ew.Bc) (fun _=>false) Af.Ew.hint (fun _=>none)
section
variable (N M:Nat) (n p4:Int) (p3:List Int)
def Af.Ew.L0:Option DV:=Bx Af.Ew.E N f33 (Am f33) [1,1,0,1,0] [] M ⟨E5 18 [(0,.int .i64 n),(2,.ptr 2 0 0),(3,.ptr 3 0 0),(4,.int .i64 p4)],[(2,false,.box [.int .i64 0,.int .i64 0,.nil]),(3,false,.box [.int .i64 n,.int .i64 n,.ints .fresh .u64 p3])]⟩
theorem Af.Ew.Av:Af.Ew.L0 N (M+1) n p4 p3=bif (Bd p4 n) then bif (Cj n n p3 p4 p4) then Af.Ew.L0 N M n (Ab (p4+1)) (List.set p3 (toNat (p4*n+p4)) 4607182418800017408) else none else some (.agg [.int .i64 n,.int .i64 n,.ints .fresh .u64 p3]):=by kernel_rfl
theorem Af.Ew.ev:Bu Af.Ew.E N f33 (Am f33) [.int .i64 n]=bif (Bv n&&Bv n) then Af.Ew.L0 N N n 0 (Cx (toNat n) (toNat n) (fun _ _=>0)) else none:=by kernel_rfl
end
abbrev _root_.Go.Proofs.S1.Af.Ew.Kn:=A7 prog 33 Af.Ew.spec
theorem Af.Ew.Ac (hk:A1 prog Af.Ew.Bc) (h:Hyp Af.Ew.E f33 Af.Ew.ts Af.Ew.pre Af.Ew.out):Af.Ew.Kn :=
 Al (A2 hk _ _ _) func33 (by kernel_rfl) (by kernel_rfl) h
def Af.Cn.Bc:List (Nat × Entry):=[(99,Ai.Cn.spec)]
def Af.Cn.E:Env:=Be (Bb Af.Cn.Bc) (fun _=>false) (fun _=>none) (fun _=>none)
theorem Af.Cn.ev (N:Nat) (r c:Int) (l:List Int) (p q:Int) (m:List Int):Bu Af.Cn.E N f31 (Am f31) [.agg [.int .i64 r,.int .i64 c,.ints .arg .u64 l],.agg [.int .i64 p,.int .i64 q,.ints .arg .u64 m]]=bif ((!((r==p)&&(c==q)))||(Gp l)) then some (.bool (bif (bif (r==p) then (c==q) else false) then (Uv l m) else false)) else none :=
 Eq.trans (by kernel_rfl)
 (Ax (Oj (r==p)) (Ax (L7 (r==p)) (Ax (Oj (r==p)) (Ax (L7 (r==p)) (Ax (Ac2 (r==p)) (Ax (Th (r==p)) (Ax (Aoi (r==p) (c==q)) (Ax (Aoj (r==p) (c==q)) (Ax (Aoi (r==p) (c==q)) (Ax (Aoj (r==p) (c==q)) (Cp (Axn (r==p) (c==q) (Gp l)) (Ax (Au6 (r==p) (c==q)) rfl) rfl)))))))))))
abbrev _root_.Go.Proofs.S1.Af.Cn.Kn:=A7 prog 31 Af.Cn.spec
theorem Af.Cn.Ac (hk:A1 prog Af.Cn.Bc) (h:Hyp Af.Cn.E f31 Af.Cn.ts Af.Cn.pre Af.Cn.out):Af.Cn.Kn :=
 Al (A2 hk _ _ _) func31 (by kernel_rfl) (by kernel_rfl) h
def Af.L5.Bc:List (Nat × Entry):=[]
def Af.L5.E:Env:=Be (Bb Af.L5.Bc) (fun _=>false) (fun _=>none) (fun _=>none)
theorem Af.L5.ev (N:Nat) (r c:Int) (l:List Int):Bu Af.L5.E N f29 (Am f29) [.agg [.int .i64 r,.int .i64 c,.ints .arg .u64 l]]=bif (decide (0+(length l)≤Gw)) then some (.agg [.int .i64 r,.int .i64 c,.ints (.own 10 37) .u64 ([]++l)]) else none :=
 Eq.trans (by kernel_rfl)
 (Cp (Cd (decide (0+(length l)≤Gw))) rfl rfl)
abbrev _root_.Go.Proofs.S1.Af.L5.Kn:=A7 prog 29 Af.L5.spec
theorem Af.L5.Ac (hk:A1 prog Af.L5.Bc) (h:Hyp Af.L5.E f29 Af.L5.ts Af.L5.pre Af.L5.out):Af.L5.Kn :=
 Al (A2 hk _ _ _) func29 (by kernel_rfl) (by kernel_rfl) h
def Af.Row.Bc:List (Nat × Entry):=[]
def Af.Row.E:Env:=Be (Bb Af.Row.Bc) (fun _=>false) (fun _=>none) (fun _=>none)
theorem Af.Row.ev (N:Nat) (r c:Int) (l:List Int) (i:Int):Bu Af.Row.E N f107 (Am f107) [.agg [.int .i64 r,.int .i64 c,.ints .arg .u64 l],.int .i64 i]=bif (((decide ((0:Int)≤(Ab (i*c))))&&(decide ((Ab (i*c))≤(Ab ((Ab (i+1))*c)))))&&((decide ((0:Int)≤(Ab ((Ab (i+1))*c))))&&(decide ((Ab ((Ab (i+1))*c))≤(length l:Int))))) then some (.ints .arg .u64 (List.drop (toNat (Ab (i*c))) (List.take (toNat (Ab ((Ab (i+1))*c))) l))) else none :=
 Eq.trans (by kernel_rfl)
 (Cp (Axv (decide ((0:Int)≤(Ab (i*c)))) (decide ((Ab (i*c))≤(Ab ((Ab (i+1))*c)))) (decide ((0:Int)≤(Ab ((Ab (i+1))*c)))) (decide ((Ab ((Ab (i+1))*c))≤(length l:Int)))) rfl rfl)
abbrev _root_.Go.Proofs.S1.Af.Row.Kn:=A7 prog 107 Af.Row.spec
theorem Af.Row.Ac (hk:A1 prog Af.Row.Bc) (h:Hyp Af.Row.E f107 Af.Row.ts Af.Row.pre Af.Row.out):Af.Row.Kn :=
 Al (A2 hk _ _ _) func107 (by kernel_rfl) (by kernel_rfl) h
def Af.Pp.hint:Nat→Option Bg
 | 0=>some { keep:=[1,3,7,8],objs:=[(0,7,100007,.ints 37 .u64 [])],boxes:=[3] }
 | _=>none
def Af.Pp.Bc:List (Nat × Entry):=[(80,Af.At.spec)]
def Af.Pp.E:Env:=Be (Bb Af.Pp.Bc) (fun _=>false) Af.Pp.hint (fun _=>none)
section
variable (N M:Nat) (r c:Int) (l:List Int) (k f p8:Int) (p7:List Int)
def Af.Pp.L0:Option DV:=Bx Af.Pp.E N f108 (Am f108) [1,1,0,1,0] [] M ⟨E5 25 [(1,.int .i64 k),(3,.ptr 3 0 0),(7,.oref 100007),(8,.int .i64 p8)],[(3,false,.box [.int .i64 r,.int .i64 c,.ints .arg .u64 l]),(100007,false,.ints 37 .u64 p7)]⟩
theorem Af.Pp.Av:Af.Pp.L0 N (M+1) r c l k p8 p7=bif (Bd p8 r) then bif (Cj r c l p8 k) then bif (decide ((length p7)+1≤Gw)) then Af.Pp.L0 N M r c l k (Ab (p8+1)) (p7++[(D0 c l p8 k)]) else none else none else some (.ints (.own 100007 37) .u64 p7):=by kernel_rfl
theorem Af.Pp.ev:Bu Af.Pp.E N f108 (Am f108) [.agg [.int .i64 r,.int .i64 c,.ints .arg .u64 l],.int .i64 k,.int .i64 f] =
 Af.Pp.L0 N N r c l k f []:=by kernel_rfl
end
abbrev _root_.Go.Proofs.S1.Af.Pp.Kn:=A7 prog 108 Af.Pp.spec
theorem Af.Pp.Ac (hk:A1 prog Af.Pp.Bc) (h:Hyp Af.Pp.E f108 Af.Pp.ts Af.Pp.pre Af.Pp.out):Af.Pp.Kn :=
 Al (A2 hk _ _ _) func108 (by kernel_rfl) (by kernel_rfl) h
def Af.Mul.hint:Nat→Option Bg
 | 0=>some { keep:=[2,3,4,5,6],objs:=[],boxes:=[2,3,4,5] }
 | 2=>some { keep:=[2,3,4,5,6,7],objs:=[],boxes:=[2,3,4,5] }
 | _=>none
def Af.Mul.Bc:List (Nat × Entry):=[(118,Ai.Hu.spec),(108,Af.Pp.spec),(107,Af.Row.spec),(83,Af.Fp.spec),(35,Af.Bn.spec)]
def Af.Mul.E:Env:=Be (Bb Af.Mul.Bc) (fun _=>false) Af.Mul.hint (fun _=>none)
section
variable (N M0 M:Nat) (r c:Int) (l:List Int) (p q:Int) (m:List Int) (p7:Int) (p5:List Int) (p6_1 p6:Int) (p5_1:List Int)
def Af.Mul.L0:Option DV:=Bx Af.Mul.E N f45 (Am f45) [1,1,0,1,0] [] M ⟨E5 37 [(2,.ptr 2 0 0),(3,.ptr 3 0 0),(4,.ptr 4 0 0),(5,.ptr 5 0 0),(6,.int .i64 p6)],[(2,false,.box [.int .i64 r,.int .i64 c,.ints .arg .u64 l]),(3,false,.box [.int .i64 p,.int .i64 q,.ints .arg .u64 m]),(4,false,.box [.int .i64 0,.int .i64 0,.nil]),(5,false,.box [.int .i64 r,.int .i64 q,.ints .fresh .u64 p5_1])]⟩
def Af.Mul.L1:Option DV:=Bx Af.Mul.E N f45 (Am f45) [1,1,0,1,0,0,1,0,0,1,0] [M0] M ⟨E5 37 [(2,.ptr 2 0 0),(3,.ptr 3 0 0),(4,.ptr 4 0 0),(5,.ptr 5 0 0),(6,.int .i64 p6_1),(7,.int .i64 p7)],[(2,false,.box [.int .i64 r,.int .i64 c,.ints .arg .u64 l]),(3,false,.box [.int .i64 p,.int .i64 q,.ints .arg .u64 m]),(4,false,.box [.int .i64 0,.int .i64 0,.nil]),(5,false,.box [.int .i64 r,.int .i64 q,.ints .fresh .u64 p5])]⟩
theorem Af.Mul.Av:Af.Mul.L0 N (M+1) r c l p q m p6 p5_1=bif (Bd p6 r) then Af.Mul.L1 N M N r c l p q m 0 p5_1 p6 else some (.agg [.int .i64 r,.int .i64 q,.ints .fresh .u64 p5_1]):=by kernel_rfl
theorem Af.Mul.B6:Af.Mul.L1 N M0 (M+1) r c l p q m p7 p5 p6_1=bif (Bd p7 q) then bif (Py r c l p6_1) then bif (Hi p q m p7&&Co (0≤(0:Int)∧(0:Int)≤p)) then bif ((Pk (Jr c l p6_1) (C0 q m p7 0 (toNat (p-0)))&&Ag (Jr c l p6_1))&&Ag (C0 q m p7 0 (toNat (p-0)))) then bif (Cj r q p5 p6_1 p7) then Af.Mul.L1 N M0 M r c l p q m (Ab (p7+1)) (List.set p5 (toNat (p6_1*q+p7)) (Ms (Jr c l p6_1) (C0 q m p7 0 (toNat (p-0))))) p6_1 else none else none else none else none else Af.Mul.L0 N M0 r c l p q m (Ab (p6_1+1)) p5 :=
 Eq.trans (by kernel_rfl)
 (Ec (Cp (Cd (Py r c l p6_1)) (Cp (Cd (Hi p q m p7&&Co (0≤(0:Int)∧(0:Int)≤p))) (Cp (Cd ((Pk (Jr c l p6_1) (C0 q m p7 0 (toNat (p-0)))&&Ag (Jr c l p6_1))&&Ag (C0 q m p7 0 (toNat (p-0))))) (Cp (Cd (Cj r q p5 p6_1 p7)) rfl rfl) rfl) rfl) rfl) rfl)
theorem Af.Mul.ev:Bu Af.Mul.E N f45 (Am f45) [.agg [.int .i64 r,.int .i64 c,.ints .arg .u64 l],.agg [.int .i64 p,.int .i64 q,.ints .arg .u64 m]]=bif (Bv r&&Bv q) then Af.Mul.L0 N N r c l p q m 0 (Cx (toNat r) (toNat q) (fun _ _=>0)) else none:=by kernel_rfl
end
abbrev _root_.Go.Proofs.S1.Af.Mul.Kn:=A7 prog 45 Af.Mul.spec
theorem Af.Mul.Ac (hk:A1 prog Af.Mul.Bc) (h:Hyp Af.Mul.E f45 Af.Mul.ts Af.Mul.pre Af.Mul.out):Af.Mul.Kn :=
 Al (A2 hk _ _ _) func45 (by kernel_rfl) (by kernel_rfl) h
def Af.Cb.hint:Nat→Option Bg
 | 0=>some { keep:=[1,2,3,4],objs:=[],boxes:=[1,2,3] }
 | 2=>some { keep:=[1,2,3,4,5],objs:=[],boxes:=[1,2,3] }
 | _=>none
def Af.Cb.Bc:List (Nat × Entry):=[(80,Af.At.spec),(83,Af.Fp.spec),(35,Af.Bn.spec)]
def Af.Cb.E:Env:=Be (Bb Af.Cb.Bc) (fun _=>false) Af.Cb.hint (fun _=>none)
section
variable (N M0 M:Nat) (r c:Int) (l:List Int) (p5:Int) (p3:List Int) (p4_1 p4:Int) (p3_1:List Int)
def Af.Cb.L0:Option DV:=Bx Af.Cb.E N f37 (Am f37) [1,1,0,1,0] [] M ⟨E5 32 [(1,.ptr 1 0 0),(2,.ptr 2 0 0),(3,.ptr 3 0 0),(4,.int .i64 p4)],[(1,false,.box [.int .i64 r,.int .i64 c,.ints .arg .u64 l]),(2,false,.box [.int .i64 0,.int .i64 0,.nil]),(3,false,.box [.int .i64 c,.int .i64 r,.ints .fresh .u64 p3_1])]⟩
def Af.Cb.L1:Option DV:=Bx Af.Cb.E N f37 (Am f37) [1,1,0,1,0,0,1,0,0,1,0] [M0] M ⟨E5 32 [(1,.ptr 1 0 0),(2,.ptr 2 0 0),(3,.ptr 3 0 0),(4,.int .i64 p4_1),(5,.int .i64 p5)],[(1,false,.box [.int .i64 r,.int .i64 c,.ints .arg .u64 l]),(2,false,.box [.int .i64 0,.int .i64 0,.nil]),(3,false,.box [.int .i64 c,.int .i64 r,.ints .fresh .u64 p3])]⟩
theorem Af.Cb.Av:Af.Cb.L0 N (M+1) r c l p4 p3_1=bif (Bd p4 r) then Af.Cb.L1 N M N r c l 0 p3_1 p4 else some (.agg [.int .i64 c,.int .i64 r,.ints .fresh .u64 p3_1]):=by kernel_rfl
theorem Af.Cb.B6:Af.Cb.L1 N M0 (M+1) r c l p5 p3 p4_1=bif (Bd p5 c) then bif (Cj r c l p4_1 p5) then bif (Cj c r p3 p5 p4_1) then Af.Cb.L1 N M0 M r c l (Ab (p5+1)) (List.set p3 (toNat (p5*r+p4_1)) (D0 c l p4_1 p5)) p4_1 else none else none else Af.Cb.L0 N M0 r c l (Ab (p4_1+1)) p3 :=
 Eq.trans (by kernel_rfl)
 (Ec (Cp (Cd (Cj r c l p4_1 p5)) (Cp (Cd (Cj c r p3 p5 p4_1)) rfl rfl) rfl) rfl)
theorem Af.Cb.ev:Bu Af.Cb.E N f37 (Am f37) [.agg [.int .i64 r,.int .i64 c,.ints .arg .u64 l]]=bif (Bv c&&Bv r) then Af.Cb.L0 N N r c l 0 (Cx (toNat c) (toNat r) (fun _ _=>0)) else none:=by kernel_rfl
end
abbrev _root_.Go.Proofs.S1.Af.Cb.Kn:=A7 prog 37 Af.Cb.spec
theorem Af.Cb.Ac (hk:A1 prog Af.Cb.Bc) (h:Hyp Af.Cb.E f37 Af.Cb.ts Af.Cb.pre Af.Cb.out):Af.Cb.Kn :=
 Al (A2 hk _ _ _) func37 (by kernel_rfl) (by kernel_rfl) h
def Af.Part.hint:Nat→Option Bg
 | 0=>some { keep:=[1,2,3,4,5,10,11,12],objs:=[],boxes:=[5,10,11] }
 | 2=>some { keep:=[1,2,3,4,5,10,11,12,13],objs:=[],boxes:=[5,10,11] }
 | _=>none
def Af.Part.Bc:List (Nat × Entry):=[(80,Af.At.spec),(83,Af.Fp.spec),(35,Af.Bn.spec)]
def Af.Part.E:Env:=Be (Bb Af.Part.Bc) (fun _=>false) Af.Part.hint (fun _=>none)
section
variable (N M0 M:Nat) (r c:Int) (l:List Int) (x y a b p13:Int) (p11:List Int) (p12_1 p12:Int) (p11_1:List Int)
def Af.Part.L0:Option DV:=Bx Af.Part.E N f128 (Am f128) [1,1,0,1,0] [] M ⟨E5 40 [(1,.int .i64 x),(2,.int .i64 y),(3,.int .i64 a),(4,.int .i64 b),(5,.ptr 5 0 0),(10,.ptr 10 0 0),(11,.ptr 11 0 0),(12,.int .i64 p12)],[(5,false,.box [.int .i64 r,.int .i64 c,.ints .arg .u64 l]),(10,false,.box [.int .i64 0,.int .i64 0,.nil]),(11,false,.box [.int .i64 a,.int .i64 b,.ints .fresh .u64 p11_1])]⟩
def Af.Part.L1:Option DV:=Bx Af.Part.E N f128 (Am f128) [1,1,0,1,0,0,1,0,0,1,0] [M0] M ⟨E5 40 [(1,.int .i64 x),(2,.int .i64 y),(3,.int .i64 a),(4,.int .i64 b),(5,.ptr 5 0 0),(10,.ptr 10 0 0),(11,.ptr 11 0 0),(12,.int .i64 p12_1),(13,.int .i64 p13)],[(5,false,.box [.int .i64 r,.int .i64 c,.ints .arg .u64 l]),(10,false,.box [.int .i64 0,.int .i64 0,.nil]),(11,false,.box [.int .i64 a,.int .i64 b,.ints .fresh .u64 p11])]⟩
theorem Af.Part.Av:Af.Part.L0 N (M+1) r c l x y a b p12 p11_1=bif (Bd p12 a) then Af.Part.L1 N M N r c l x y a b 0 p11_1 p12 else some (.agg [.int .i64 a,.int .i64 b,.ints .fresh .u64 p11_1]):=by kernel_rfl
theorem Af.Part.B6:Af.Part.L1 N M0 (M+1) r c l x y a b p13 p11 p12_1=bif (Bd p13 b) then bif (Cj r c l (Ab (x+p12_1)) (Ab (y+p13))) then bif (Cj a b p11 p12_1 p13) then Af.Part.L1 N M0 M r c l x y a b (Ab (p13+1)) (List.set p11 (toNat (p12_1*b+p13)) (D0 c l (Ab (x+p12_1)) (Ab (y+p13)))) p12_1 else none else none else Af.Part.L0 N M0 r c l x y a b (Ab (p12_1+1)) p11 :=
 Eq.trans (by kernel_rfl)
 (Ec (Cp (Cd (Cj r c l (Ab (x+p12_1)) (Ab (y+p13)))) (Cp (Cd (Cj a b p11 p12_1 p13)) rfl rfl) rfl) rfl)
theorem Af.Part.ev:Bu Af.Part.E N f128 (Am f128) [.agg [.int .i64 r,.int .i64 c,.ints .arg .u64 l],.int .i64 x,.int .i64 y,.int .i64 a,.int .i64 b]=bif (Bv a&&Bv b) then Af.Part.L0 N N r c l x y a b 0 (Cx (toNat a) (toNat b) (fun _ _=>0)) else none:=by kernel_rfl
end
abbrev _root_.Go.Proofs.S1.Af.Part.Kn:=A7 prog 128 Af.Part.spec
theorem Af.Part.Ac (hk:A1 prog Af.Part.Bc) (h:Hyp Af.Part.E f128 Af.Part.ts Af.Part.pre Af.Part.out):Af.Part.Kn :=
 Al (A2 hk _ _ _) func128 (by kernel_rfl) (by kernel_rfl) h
abbrev _root_.Go.Proofs.S1.Af.Fp.arg.Kn:Prop:=A7 prog 83 Af.Fp.arg.spec
abbrev _root_.Go.Proofs.S1.Af.Ew.arg.Kn:Prop:=A7 prog 33 Af.Ew.arg.spec
end EqRef10
end Go.Proofs.S1
end
