/- A verified evaluator of the program's form and its use for this seat: S1PRootA, LdxL, S1EqLdx, S1PLdx, S1PLdxA, S1EqRef08, S1EqRef13, S1PRef08, S1EqOf, S1POf, S1PMatA, S1EqRef10, S1PRef10, S1PFill, S1EqHouse, S1PHouse, S1PApply. -/
import Derived.Test.YtjbokjpbiobjpaaTH
import Derived.Test.YtjbokjpbiobjpaaTE
import Derived.Test.YtjbokjpbiobjpaaTF
set_option linter.unusedVariables false
set_option linter.unusedSimpArgs false
noncomputable section
namespace Go.Proofs.S1
open Go Go.Den Go.Rnd Go.Proofs
open EqRoot
theorem R6 {b:Nat} (h:Ap b≠0):Di (Ap b:Int)=((Ap b).log2:Int)+1:=by
  unfold Di
  rw [if_neg (by omega),Ahp]
theorem Aap {w:Nat} {E:Int} {s:Bool} (hw:2^62≤w) (n:Nat) (h:Oa n=w) (hs:s=decide (w*w≠n)) :
    Et false (w / 2) (E+2) (bif s then true else decide (w%2=1))=(B0 (E6 n) E,flagsOf (E6 n) E):=by
  have e1:E6 n / 2^2=w / 2:=by unfold E6; rw [h]; split<;>omega
  have e2:(bif s then true else decide (w%2=1))=decide (E6 n%2^2≠0):=by
    rw [hs]
    unfold E6
    rw [h]
    by_cases h0:w*w=n
    · rw [Ahs (by omega),Ahr,if_pos h0,decide_eq_decide]; omega
    · rw [Aho h0,Ahn,if_neg h0]; symm; exact Aho (by omega)
  rw [← e1]
  have:=Oz false (V:=E6 n) (k:=2) (E:=E) (e:=E+2) rfl e2 (by rw [e1]; omega) (by left; rw [e1]; omega)
  rw [Acy] at this
  exact this
theorem root.Sqrt.num {b:Nat} (hb:b<2^64) (h4:Ao b≠4) (h:¬ (Ao b=0∨b=Gc)) (hn:Dn b=false) {z:Nat} (hz:2^60≤Ap b*2^z) (hz2:Ap b*2^z<2^62) (he:(A2 b-(z:Int))%2=0) (z60:z≤62) :
    root.Sqrt.L0 2 2 (A2 b-(z:Int)) (O0 ((Ap b*2^z:Nat):Int)) (!(O1 ((Ap b*2^z:Nat):Int)))=some (.tup [.int .u64 (Gb (b:Int)),.int .u8 (Lk (b:Int))]):=by
  have hE:=Ek b
  have hM:=E7 b
  have h3:Ao b≠3:=fun h3=>by
    refine h (.inr ?_)
    have hpn:Dn b=false:=hn
    unfold Dn at hpn
    have hlt:b<2^63:=by simpa using hpn
    unfold Ao at h3
    have hp:=Jj b
    unfold Gp at h3
    unfold F3 at h3
    unfold Gc
    split at h3
    · split at h3
      · omega
      · omega
    · split at h3
      · omega
      · split at h3<;>omega
  have hm:Ap b≠0:=fun h0=>h (.inl ((I6 h3 h4).1 h0))
  have eN:Ap b*2^z*2^64=Ap b*2^(z+64):=by rw [Nat.mul_assoc,← Nat.pow_add]
  have i1:2^62≤Oa (Ap b*2^z*2^64):=U5 (t:=62) (by omega)
  have i2:=(Lw (Ap b*2^z*2^64)).1
  have i3:Oa (Ap b*2^z*2^64)<2^63:=by
    refine Wf (Nat.lt_of_le_of_lt i2 ?_)
    show _<9223372036854775808*9223372036854775808
    omega
  have r1:O0 ((Ap b*2^z:Nat):Int)=(Oa (Ap b*2^z*2^64):Int):=by unfold O0; rw [Ahp]
  have r2:(!(O1 ((Ap b*2^z:Nat):Int)))=decide (Oa (Ap b*2^z*2^64)*Oa (Ap b*2^z*2^64)≠Ap b*2^z*2^64):=by
    unfold O1; rw [Ahp,← decide_not]
  obtain ⟨k1,k2⟩:=Ac3 hm
  have same:=Aa0 (m:=Ap b) (k:=z+64) (l:=Ii b) (E:=(A2 b-(z:Int)) / 2-33) (F:=(A2 b-(Ii b:Int)) / 2-1) (by rw [← eN]; omega) k1 (by omega)
  rw [← eN] at same
  have near:=Aap (E:=(A2 b-(z:Int)) / 2-33) i1 _ rfl r2
  rw [same.1,same.2] at near
  have sq:K9 b=_:=Acw h4 h hn
  rw [r1,r2]
  rw [r2] at near
  generalize Oa (Ap b*2^z*2^64)=w at *
  have w1:Dt (4611686018427387904:Int) (w:Int)=true:=by rw [F2]; exact Aho (by omega)
  have w2:Cf .u64 (w:Int) (1:Int)=((w / 2:Nat):Int):=by rw [show (1:Int)=((1:Nat):Int) from rfl,Pb _ _ (by decide)]
  have w3:((Eo .u64 (w:Int) (1:Int))==(1:Int))=decide (w%2=1):=by
    rw [show Eo .u64 (w:Int) (1:Int)=((w%2^1:Nat):Int) from F7 1 (by omega) (by decide),Ah3,beq_iff_eq,Ahu]
    omega
  have w4:Dt (4611686018427387904:Int) ((w / 2:Nat):Int)=false:=by rw [F2]; exact Ahs (by omega)
  have w5:Ab (Ab (Int.tdiv (A2 b-(z:Int)+2) 2)-32)=(A2 b-(z:Int)) / 2-33+2:=by
    have:Int.tdiv (A2 b-(z:Int)+2) 2=(A2 b-(z:Int)) / 2+1:=by
      rw [Int.tdiv_eq_ediv]
      split<;>omega
    rw [this,Ak (x:=(A2 b-(z:Int)) / 2+1) (by omega) (by omega),Ak (by omega) (by omega)]
    omega
  have w6:Ab (A2 b-(z:Int)+2)=A2 b-(z:Int)+2:=Ak (by omega) (by omega)
  generalize hs:decide (w*w≠Ap b*2^z*2^64)=s at *
  have pre:Cv ((w / 2:Nat):Int) ((A2 b-(z:Int)) / 2-33+2) (bif s then true else decide (w%2=1))=true:=Ar.2 ⟨by omega,by omega,by omega,by omega,fun _=>.inl (by omega)⟩
  rw [show (2:Nat)=1+1 from rfl,root.Sqrt.As,w1,Ahn,w2,w3,w6,show (1:Nat)=0+1 from rfl,root.Sqrt.As,w4,Ahr,w5,pre,Ahn]
  unfold Dh Dg Gb Lk
  rw [Ahp,Ahp,near,sq]
theorem root.Sqrt.known:root.Sqrt.Kn:=root.Sqrt.Ae (.cons Bu.Bb.known (.cons root.E3.known (.cons soft.Kind.known (.cons soft.B9.known (.cons soft.Eg.known (.cons soft.Sign.known .nil)))))) fun a hp=>by
  obtain ⟨b,rfl,hb⟩:=Bj (x:=a) hp
  refine ⟨2,root.Sqrt.out [.i b],[],?_,Wk.Fl (.cons .int (.cons .int .nil))⟩
  show _=some (DV.tup [.int .u64 (Gb (b:Int)),.int .u8 (Lk (b:Int))])
  have hk:Az (b:Int)=(Ao b:Int):=rfl
  rw [root.Sqrt.ev,Bl hb,Ahn,Ahn,Ahn,Ahn,hk]
  by_cases h4:Ao b=4
  · rw [h4,show (((4:Nat):Int)==(4:Int))=true from rfl,Ahn]
    unfold Gb Lk
    rw [Ahp,We h4]; rfl
  have k4:(((Ao b:Nat):Int)==(4:Int))=false:=by rw [beq_eq_false_iff_ne]; omega
  rw [k4,Ahr]
  by_cases h0:Ao b=0
  · rw [h0,show (((0:Nat):Int)==(0:Int))=true from rfl,Ahn]
    unfold Gb Lk
    rw [Ahp,Pk h4 (.inl h0)]; rfl
  have k0:(((Ao b:Nat):Int)==(0:Int))=false:=by rw [beq_eq_false_iff_ne]; omega
  rw [k0,Ahr]
  by_cases hi:b=Gc
  · rw [show (((b:Nat):Int)==(9218868437227405312:Int))=true by rw [hi]; rfl,Ahn]
    unfold Gb Lk
    rw [Ahp,Pk h4 (.inr hi)]; rfl
  have ki:(((b:Nat):Int)==(9218868437227405312:Int))=false:=by
    rw [beq_eq_false_iff_ne]; intro hh; refine hi (show b=9218868437227405312 from ?_); omega
  rw [ki,Ahr]
  have hh:¬ (Ao b=0∨b=Gc):=by rintro (h | h); exact h0 h; exact hi h
  have hneg:Cy (b:Int)=Dn b:=rfl
  rw [hneg]
  cases hn:Dn b with
  | true =>
    rw [Ahn]
    unfold Gb Lk
    rw [Ahp,Wd h4 hh hn]; rfl
  | false =>
    rw [Ahr]
    have hm:Ap b≠0:=fun hz=>by
      have h3:Ao b≠3:=fun h3=>by
        rcases Ys b with ⟨p,_,_⟩ | ⟨_,_,q⟩ | ⟨_,q,_⟩
        · unfold Ap at hz
          rw [if_neg (by omega)] at hz
          omega
        · omega
        · exact q h3
      exact hh (.inl ((I6 h3 h4).1 hz))
    have hM:=E7 b
    have hE:=Ek b
    have hl:(Ap b).log2≤52:=by have:=(Nat.log2_lt hm).2 (show Ap b<2^53 by omega); omega
    have e1:A1 (b:Int)=(Ap b:Int):=rfl
    have e2:Ay (b:Int)=A2 b:=rfl
    have l1:∀ z:Nat,(Ap b).log2+z=60∨(Ap b).log2+z=61→2^60≤Ap b*2^z∧Ap b*2^z<2^62:=by
      intro z hz
      have hlz:=R1 (Ap b) z hm
      have hne:Ap b*2^z≠0:=Ku hm
      constructor
      · rw [← Nat.le_log2 hne]; omega
      · rw [← Nat.log2_lt hne]; omega
    have ez:Ab ((64-(((Ap b).log2:Int)+1))-(2:Int))=((61-(Ap b).log2:Nat):Int):=by rw [Ak (by omega) (by omega)]; omega
    have ez':Ab (((61-(Ap b).log2:Nat):Int)-(1:Int))=((60-(Ap b).log2:Nat):Int):=by rw [Ak (by omega) (by omega)]; omega
    rw [e1,e2,Bl (n:=Ap b) (by omega),Ahn,R6 hm,ez,ez',Ak (x:=A2 b-((61-(Ap b).log2:Nat):Int)) (by omega) (by omega),Ak (x:=A2 b-((60-(Ap b).log2:Nat):Int)) (by omega) (by omega)]
    by_cases hp2:(A2 b-((61-(Ap b).log2:Nat):Int))%2=0
    · have t0:(Int.tmod (A2 b-((61-(Ap b).log2:Nat):Int)) (2:Int) !=(0:Int))=false:=by
        rw [bne_eq_false_iff_eq]; exact Int.tmod_eq_zero_of_dvd (Int.dvd_of_emod_eq_zero hp2)
      obtain ⟨m1,m2⟩:=l1 (61-(Ap b).log2) (by omega)
      rw [t0,Ahr,Aho (by omega),Ahn,D0 _ _ (by omega),Ah0 (by omega),Ar.2 (by omega),Ahn]
      exact root.Sqrt.num hb h4 hh hn m1 m2 hp2 (by omega)
    · have t0:(Int.tmod (A2 b-((61-(Ap b).log2:Nat):Int)) (2:Int) !=(0:Int))=true:=by
        rw [bne_iff_ne]; intro hz; exact hp2 (Int.emod_eq_zero_of_dvd (Int.dvd_of_tmod_eq_zero hz))
      obtain ⟨m1,m2⟩:=l1 (60-(Ap b).log2) (by omega)
      rw [t0,Ahn,Aho (by omega),Ahn,D0 _ _ (by omega),Ah0 (by omega),Ar.2 (by omega),Ahn]
      exact root.Sqrt.num hb h4 hh hn m1 m2 (by omega) (by omega)
theorem Ac.Sqrt.known:Ac.Sqrt.Kn:=Ac.Sqrt.Ae (.cons root.Sqrt.known .nil) fun a hp=>by
  have hp:Ag a=true:=hp
  refine ⟨0,Ac.Sqrt.out [.i a],[],?_,.int⟩
  rw [Ac.Sqrt.ev,hp]; rfl
theorem compare.Qu.known:compare.Qu.Kn:=compare.Qu.Ae (.cons Bu.Ia.known (.cons soft.Finite.known (.cons soft.Kind.known (.cons soft.Eg.known .nil)))) fun a hp=>by
  obtain ⟨b,rfl,hb⟩:=Bj (x:=a) hp
  refine ⟨0,compare.Qu.out [.i b],[],?_,.int⟩
  show _=some (DV.int .i64 (Bk (b:Int)))
  have hk:Az (b:Int)=(Ao b:Int):=rfl
  have hf:Cp (b:Int)=J0 b:=rfl
  have hE:=Ek b
  have hM:=E7 b
  rw [compare.Qu.ev,Bl hb,Ahn,Bool.or_true,Ahn,hk,hf]
  unfold Bk
  rw [Ahp]
  unfold Aeh
  cases hfin:J0 b with
  | false=>rfl
  | true =>
    by_cases h0:Ao b=0
    · rw [h0]; rfl
    · have k0:(((Ao b:Nat):Int)==(0:Int))=false:=by rw [beq_eq_false_iff_ne]; omega
      have hm:Ap b≠0:=fun hz=>by
        obtain ⟨f4,f3⟩:=Sh hfin
        exact h0 ((I6 f3 f4).1 hz)
      have hl:(Ap b).log2≤52:=by have:=(Nat.log2_lt hm).2 (show Ap b<2^53 by omega); omega
      have e1:A1 (b:Int)=(Ap b:Int):=rfl
      have e2:Ay (b:Int)=A2 b:=rfl
      rw [k0,if_pos ⟨rfl,h0⟩,Bool.not_true,Bool.false_or,Ahr,Ahn,e1,e2,Bl (n:=Ap b) (by omega),Ahn,R6 hm,Ak (x:=((Ap b).log2:Int)+1-1) (by omega) (by omega),Ak (by omega) (by omega)]
      congr 2; omega
theorem Acv {x:List Int} {i:Nat} (h:i<x.length) (k s:Int):X3 k s (x.drop i)=X3 k (Il s (Dz (Bt (x.getD i 0) k) (Bt (x.getD i 0) k))) (x.drop (i+1)):=by
  rw [G0 h,X3]
theorem Aa8 (N:Nat) {x:List Int} (hx:Cs x=true) (hl:x.length≤1000):∀ (k i F:Nat) (s:Int),i+k=x.length→k<F→Ag s=true →
    Ac.Norm.L0 N F x s (i:Int)=some (.tup [.int .u64 (Bt (Gb (X3 (-Bk (Bc x)) s (x.drop i))) (Bk (Bc x))),.int .i64 0]):=by
  obtain ⟨_,hu⟩:=Iq hx
  have he:=Aeg (Bc x)
  intro k
  induction k with
  | zero =>
    intro i F s hi hF hs
    obtain ⟨F,rfl⟩:∃ G,F=G+1:=⟨F-1,by omega⟩
    rw [Ac.Norm.As,Aq,Ahs (by omega),Ahr,hs,Ahn,show Dy (Gb s) (Bk (Bc x))=true from Ad.2 ⟨Zk hs,Ar.2 (by omega)⟩,Ahn,Ah1 (by omega)]
    rfl
  | succ k ih =>
    intro i F s hi hF hs
    obtain ⟨F,rfl⟩:∃ G,F=G+1:=⟨F-1,by omega⟩
    rw [Ac.Norm.As,Aq,Aho (show (i:Int)<(x.length:Int) by omega),Ahn,Aho (show (0:Int)≤(i:Int) by omega),Aht,Ahn,Ahp,Ak (x:=0-Bk (Bc x)) (by omega) (by omega),show (0:Int)-Bk (Bc x)=-Bk (Bc x) by omega,
      show Dy (List.getD x i 0) (-Bk (Bc x))=true from Ad.2 ⟨hu i (by omega),Ar.2 (by omega)⟩,Ahn,Hz (hu i (by omega)),Aht,Ahn,hs,Jy,Aht,Ahn,Acv (by omega),Ak (by omega) (by omega)]
    exact ih (i+1) F _ (by omega) (by omega) (Ae2 hs (Jy _ _))
theorem Ac.Norm.known:Ac.Norm.Kn:=Ac.Norm.Ae (.cons compare.Qu.known (.cons soft.Finite.known (.cons Ac.Add.known (.cons Ac.Bz.known (.cons Ac.Mul.known (.cons Ac.Eu.known (.cons Ac.Sqrt.known .nil))))))) fun x hp=>by
  obtain ⟨hx,hl⟩:=Ad.1 (show (Cs x&&Dd (List.length x≤64))=true from hp)
  have hl:=Ar.1 hl
  refine ⟨65,Ac.Norm.out [.l x],[],?_,Wk.Fl (.cons .int (.cons .int .nil))⟩
  show _=some (DV.tup [.int .u64 (Dm x),.int .i64 0])
  rw [Ac.Norm.ev,Aq,Ahs (by omega),Ahr,hx,Ahn,N7,Bool.or_true,Ahn]
  unfold Dm
  by_cases h:Bc x=0∨Cp (Bc x)=false
  · have:((Bc x==(0:Int))||(!(Cp (Bc x))))=true:=by
      rcases h with h | h
      · rw [h]; rfl
      · rw [h,Bool.not_false,Bool.or_true]
    rw [this,Ahn,if_pos h]
  · have:((Bc x==(0:Int))||(!(Cp (Bc x))))=false:=by
      rw [Bool.or_eq_false_iff,beq_eq_false_iff_ne,Bool.not_eq_false']
      refine ⟨fun h0=>h (.inl h0),?_⟩
      cases hf:Cp (Bc x) with
      | true=>rfl
      | false=>exact absurd (.inr hf) h
    rw [this,Ahr,Ahn,if_neg h]
    exact Aa8 65 hx (by omega) x.length 0 65 0 (by omega) (by omega) Ht
end Go.Proofs.S1
namespace Go.Rnd
open Go.Den
end Go.Rnd
namespace Go.Proofs.S1
open Go Go.Den Go.Rnd Go.Proofs
set_option maxRecDepth 100000
namespace EqLdx
end EqLdx
open EqLdx
open EqLdx
namespace EqRef08
end EqRef08
namespace EqRef13
end EqRef13
open EqRef08 EqRef13
namespace EqOf
def Aa.of.Bm.hint:Nat→Option A0
  | 0=>some { keep:=[1,2,6,7,13,14],objs:=[(8,2,108002,.ints 41 .u64 [])],boxes:=[6,7] }
  | 2=>some { keep:=[1,2,6,7,8,13,14,17,18],objs:=[(8,2,108002,.ints 41 .u64 [])],boxes:=[6,7] }
  | _=>none
def Aa.of.Bm.A8:List (Nat × Entry):=[(86,Aa.Cz.spec)]
def Aa.of.Bm.E:Env:=Ba (A6 Aa.of.Bm.A8) (fun _=>false) Aa.of.Bm.hint (fun _=>none)
def Aa.of.Bm.L0 (N M:Nat) (a b p14:Int) (p2_1:List Int):Option DV:=B3 Aa.of.Bm.E N Try.f31 (An Try.f31) [1,1,0,1,0] [] M ⟨Gy 33 [(1,.int .i64 b),(2,.fn 86 [] []),(6,.ptr 6 0 0),(7,.ptr 7 0 0),(13,.int .i64 a),(14,.int .i64 p14)],[(6,false,.box [.int .i64 0,.int .i64 0,.nil]),(7,false,.box [.int .i64 a,.int .i64 b,.oref 108002]),(108002,false,.ints 41 .u64 p2_1)]⟩
def Aa.of.Bm.L1 (N M0 M:Nat) (a b:Int) (p8 p14_1 p18:Int) (p2:List Int):Option DV:=B3 Aa.of.Bm.E N Try.f31 (An Try.f31) [1,1,0,1,0,0,1,1,0,0,1,1,0] [M0] M ⟨Gy 33 [(1,.int .i64 b),(2,.fn 86 [] []),(6,.ptr 6 0 0),(7,.ptr 7 0 0),(8,.int .i64 p8),(13,.int .i64 a),(14,.int .i64 p14_1),(17,.int .i64 b),(18,.int .i64 p18)],[(6,false,.box [.int .i64 0,.int .i64 0,.nil]),(7,false,.box [.int .i64 a,.int .i64 b,.oref 108002]),(108002,false,.ints 41 .u64 p2)]⟩
theorem Aa.of.Bm.As (N M:Nat) (a b p14:Int) (p2_1:List Int):Aa.of.Bm.L0 N (M+1) a b p14 p2_1=bif (Au p14 a) then Aa.of.Bm.L1 N M N a b p14 p14 0 p2_1 else some (.agg [.int .i64 a,.int .i64 b,.ints (.own 108002 41) .u64 p2_1]):=by kernel_rfl
theorem Aa.of.Bm.Ca (N M0 M:Nat) (a b:Int) (p8 p14_1 p18:Int) (p2:List Int):Aa.of.Bm.L1 N M0 (M+1) a b p8 p14_1 p18 p2=bif (Au p18 b) then bif (decide ((List.length p2)+1≤Hv)) then Aa.of.Bm.L1 N M0 M a b p8 p14_1 (Ab (p18+1)) (p2++[(0:Int)]) else none else Aa.of.Bm.L0 N M0 a b (Ab (p14_1+1)) p2 :=
  Eq.trans (by kernel_rfl)
  (Ew (Dp (Eh (decide ((List.length p2)+1≤Hv))) rfl rfl) rfl)
theorem Aa.of.Bm.ev (N:Nat) (a b:Int):Bo Aa.of.Bm.E N Try.f31 (An Try.f31) [.int .i64 a,.int .i64 b,.fn 86 [] []] =
  Aa.of.Bm.L0 N N a b 0 []:=by kernel_rfl
def Aa.of.Fz.hint:Nat→Option A0
  | 0=>some { keep:=[1,2,6,7,13,14],objs:=[(8,2,108002,.ints 41 .u64 [])],boxes:=[6,7] }
  | 2=>some { keep:=[1,2,6,7,8,13,14,17,18],objs:=[(8,2,108002,.ints 41 .u64 [])],boxes:=[6,7] }
  | _=>none
def Aa.of.Fz.A8:List (Nat × Entry):=[(66,Aa.Fy.spec)]
def Aa.of.Fz.E:Env:=Ba (A6 Aa.of.Fz.A8) (fun _=>false) Aa.of.Fz.hint (fun _=>none)
def Aa.of.Fz.L0 (N M:Nat) (a b p14:Int) (p2_1:List Int):Option DV:=B3 Aa.of.Fz.E N Try.f31 (An Try.f31) [1,1,0,1,0] [] M ⟨Gy 33 [(1,.int .i64 b),(2,.fn 66 [] []),(6,.ptr 6 0 0),(7,.ptr 7 0 0),(13,.int .i64 a),(14,.int .i64 p14)],[(6,false,.box [.int .i64 0,.int .i64 0,.nil]),(7,false,.box [.int .i64 a,.int .i64 b,.oref 108002]),(108002,false,.ints 41 .u64 p2_1)]⟩
def Aa.of.Fz.L1 (N M0 M:Nat) (a b:Int) (p8 p14_1 p18:Int) (p2:List Int):Option DV:=B3 Aa.of.Fz.E N Try.f31 (An Try.f31) [1,1,0,1,0,0,1,1,0,0,1,1,0] [M0] M ⟨Gy 33 [(1,.int .i64 b),(2,.fn 66 [] []),(6,.ptr 6 0 0),(7,.ptr 7 0 0),(8,.int .i64 p8),(13,.int .i64 a),(14,.int .i64 p14_1),(17,.int .i64 b),(18,.int .i64 p18)],[(6,false,.box [.int .i64 0,.int .i64 0,.nil]),(7,false,.box [.int .i64 a,.int .i64 b,.oref 108002]),(108002,false,.ints 41 .u64 p2)]⟩
theorem Aa.of.Fz.As (N M:Nat) (a b p14:Int) (p2_1:List Int):Aa.of.Fz.L0 N (M+1) a b p14 p2_1=bif (Au p14 a) then Aa.of.Fz.L1 N M N a b p14 p14 0 p2_1 else some (.agg [.int .i64 a,.int .i64 b,.ints (.own 108002 41) .u64 p2_1]):=by kernel_rfl
theorem Aa.of.Fz.Ca (N M0 M:Nat) (a b:Int) (p8 p14_1 p18:Int) (p2:List Int):Aa.of.Fz.L1 N M0 (M+1) a b p8 p14_1 p18 p2=bif (Au p18 b) then bif (decide ((List.length p2)+1≤Hv)) then Aa.of.Fz.L1 N M0 M a b p8 p14_1 (Ab (p18+1)) (p2++[(P2 p8 p18)]) else none else Aa.of.Fz.L0 N M0 a b (Ab (p14_1+1)) p2 :=
  Eq.trans (by kernel_rfl)
  (Ew (Dp (Eh (decide ((List.length p2)+1≤Hv))) rfl rfl) rfl)
theorem Aa.of.Fz.ev (N:Nat) (a b:Int):Bo Aa.of.Fz.E N Try.f31 (An Try.f31) [.int .i64 a,.int .i64 b,.fn 66 [] []] =
  Aa.of.Fz.L0 N N a b 0 []:=by kernel_rfl
abbrev _root_.Go.Proofs.S1.Aa.of.Fz.Kn:=A4 Try.prog 31 Aa.of.Fz.spec
theorem Aa.of.Fz.Ae (hk:Av Try.prog Aa.of.Fz.A8) (h:∀ (a b:Int),Aa.of.Fz.pre [.i a,.i b]=true→Bd Aa.of.Fz.E Try.f31 [.int .i64 a,.int .i64 b,.fn 66 [] []] (Aa.of.Fz.out [.i a,.i b])):Aa.of.Fz.Kn :=
  Aj (Ax hk _ _ _) Try.func31 (by kernel_rfl) (by kernel_rfl) h
def Aa.of.Cl.hint:Nat→Option A0
  | 0=>some { keep:=[1,2,6,7,13,14],objs:=[(8,2,108002,.ints 41 .u64 [])],boxes:=[6,7] }
  | 2=>some { keep:=[1,2,6,7,8,13,14,17,18],objs:=[(8,2,108002,.ints 41 .u64 [])],boxes:=[6,7] }
  | _=>none
def Aa.of.Cl.A8:List (Nat × Entry):=[(46,Aa.D5.spec)]
def Aa.of.Cl.E:Env:=Ba (A6 Aa.of.Cl.A8) (fun _=>false) Aa.of.Cl.hint (fun _=>none)
def Aa.of.Cl.L0 (N M:Nat) (a b:Int) (r c:Int) (l:List Int) (p14:Int) (p2_1:List Int):Option DV:=B3 Aa.of.Cl.E N Try.f31 (An Try.f31) [1,1,0,1,0] [] M ⟨Gy 33 [(1,.int .i64 b),(2,.fn 46 [] [.cellp [.int .i64 r,.int .i64 c,.ints .arg .u64 l]]),(6,.ptr 6 0 0),(7,.ptr 7 0 0),(13,.int .i64 a),(14,.int .i64 p14)],[(6,false,.box [.int .i64 0,.int .i64 0,.nil]),(7,false,.box [.int .i64 a,.int .i64 b,.oref 108002]),(108002,false,.ints 41 .u64 p2_1)]⟩
def Aa.of.Cl.L1 (N M0 M:Nat) (a b:Int) (r c:Int) (l:List Int) (p8 p14_1 p18:Int) (p2:List Int):Option DV:=B3 Aa.of.Cl.E N Try.f31 (An Try.f31) [1,1,0,1,0,0,1,1,0,0,1,1,0] [M0] M ⟨Gy 33 [(1,.int .i64 b),(2,.fn 46 [] [.cellp [.int .i64 r,.int .i64 c,.ints .arg .u64 l]]),(6,.ptr 6 0 0),(7,.ptr 7 0 0),(8,.int .i64 p8),(13,.int .i64 a),(14,.int .i64 p14_1),(17,.int .i64 b),(18,.int .i64 p18)],[(6,false,.box [.int .i64 0,.int .i64 0,.nil]),(7,false,.box [.int .i64 a,.int .i64 b,.oref 108002]),(108002,false,.ints 41 .u64 p2)]⟩
theorem Aa.of.Cl.As (N M:Nat) (a b:Int) (r c:Int) (l:List Int) (p14:Int) (p2_1:List Int):Aa.of.Cl.L0 N (M+1) a b r c l p14 p2_1=bif (Au p14 a) then Aa.of.Cl.L1 N M N a b r c l p14 p14 0 p2_1 else some (.agg [.int .i64 a,.int .i64 b,.ints (.own 108002 41) .u64 p2_1]):=by kernel_rfl
theorem Aa.of.Cl.Ca (N M0 M:Nat) (a b:Int) (r c:Int) (l:List Int) (p8 p14_1 p18:Int) (p2:List Int):Aa.of.Cl.L1 N M0 (M+1) a b r c l p8 p14_1 p18 p2=bif (Au p18 b) then bif (Cx r c l p18 p8) then bif (decide ((List.length p2)+1≤Hv)) then Aa.of.Cl.L1 N M0 M a b r c l p8 p14_1 (Ab (p18+1)) (p2++[(Dr c l p18 p8)]) else none else none else Aa.of.Cl.L0 N M0 a b r c l (Ab (p14_1+1)) p2 :=
  Eq.trans (by kernel_rfl)
  (Ew (Dp (Eh (Cx r c l p18 p8)) (Dp (Eh (decide ((List.length p2)+1≤Hv))) rfl rfl) rfl) rfl)
theorem Aa.of.Cl.ev (N:Nat) (a b:Int) (r c:Int) (l:List Int):Bo Aa.of.Cl.E N Try.f31 (An Try.f31) [.int .i64 a,.int .i64 b,.fn 46 [] [.cellp [.int .i64 r,.int .i64 c,.ints .arg .u64 l]]] =
  Aa.of.Cl.L0 N N a b r c l 0 []:=by kernel_rfl
abbrev _root_.Go.Proofs.S1.Aa.of.Cl.Kn:=A4 Try.prog 31 Aa.of.Cl.spec
theorem Aa.of.Cl.Ae (hk:Av Try.prog Aa.of.Cl.A8) (h:∀ (a b:Int) (r c:Int) (l:List Int),Aa.of.Cl.pre [.i a,.i b,.i r,.i c,.l l]=true→Bd Aa.of.Cl.E Try.f31 [.int .i64 a,.int .i64 b,.fn 46 [] [.cellp [.int .i64 r,.int .i64 c,.ints .arg .u64 l]]] (Aa.of.Cl.out [.i a,.i b,.i r,.i c,.l l])):Aa.of.Cl.Kn :=
  Aj (Ax hk _ _ _) Try.func31 (by kernel_rfl) (by kernel_rfl) h
def Aa.of.Part.hint:Nat→Option A0
  | 0=>some { keep:=[1,2,6,7,13,14],objs:=[(8,2,108002,.ints 41 .u64 [])],boxes:=[6,7] }
  | 2=>some { keep:=[1,2,6,7,8,13,14,17,18],objs:=[(8,2,108002,.ints 41 .u64 [])],boxes:=[6,7] }
  | _=>none
def Aa.of.Part.A8:List (Nat × Entry):=[(36,Aa.D7.spec)]
def Aa.of.Part.E:Env:=Ba (A6 Aa.of.Part.A8) (fun _=>false) Aa.of.Part.hint (fun _=>none)
def Aa.of.Part.L0 (N M:Nat) (a b:Int) (r c:Int) (l:List Int) (x y p14:Int) (p2_1:List Int):Option DV:=B3 Aa.of.Part.E N Try.f31 (An Try.f31) [1,1,0,1,0] [] M ⟨Gy 33 [(1,.int .i64 b),(2,.fn 36 [] [.cellp [.int .i64 r,.int .i64 c,.ints .arg .u64 l],.cellp [.int .i64 x],.cellp [.int .i64 y]]),(6,.ptr 6 0 0),(7,.ptr 7 0 0),(13,.int .i64 a),(14,.int .i64 p14)],[(6,false,.box [.int .i64 0,.int .i64 0,.nil]),(7,false,.box [.int .i64 a,.int .i64 b,.oref 108002]),(108002,false,.ints 41 .u64 p2_1)]⟩
def Aa.of.Part.L1 (N M0 M:Nat) (a b:Int) (r c:Int) (l:List Int) (x y:Int) (p8 p14_1 p18:Int) (p2:List Int):Option DV:=B3 Aa.of.Part.E N Try.f31 (An Try.f31) [1,1,0,1,0,0,1,1,0,0,1,1,0] [M0] M ⟨Gy 33 [(1,.int .i64 b),(2,.fn 36 [] [.cellp [.int .i64 r,.int .i64 c,.ints .arg .u64 l],.cellp [.int .i64 x],.cellp [.int .i64 y]]),(6,.ptr 6 0 0),(7,.ptr 7 0 0),(8,.int .i64 p8),(13,.int .i64 a),(14,.int .i64 p14_1),(17,.int .i64 b),(18,.int .i64 p18)],[(6,false,.box [.int .i64 0,.int .i64 0,.nil]),(7,false,.box [.int .i64 a,.int .i64 b,.oref 108002]),(108002,false,.ints 41 .u64 p2)]⟩
theorem Aa.of.Part.As (N M:Nat) (a b:Int) (r c:Int) (l:List Int) (x y p14:Int) (p2_1:List Int):Aa.of.Part.L0 N (M+1) a b r c l x y p14 p2_1=bif (Au p14 a) then Aa.of.Part.L1 N M N a b r c l x y p14 p14 0 p2_1 else some (.agg [.int .i64 a,.int .i64 b,.ints (.own 108002 41) .u64 p2_1]):=by kernel_rfl
theorem Aa.of.Part.Ca (N M0 M:Nat) (a b:Int) (r c:Int) (l:List Int) (x y:Int) (p8 p14_1 p18:Int) (p2:List Int):Aa.of.Part.L1 N M0 (M+1) a b r c l x y p8 p14_1 p18 p2=bif (Au p18 b) then bif (Cx r c l (x+p8) (y+p18)&&Pm x y p8 p18) then bif (decide ((List.length p2)+1≤Hv)) then Aa.of.Part.L1 N M0 M a b r c l x y p8 p14_1 (Ab (p18+1)) (p2++[(Dr c l (x+p8) (y+p18))]) else none else none else Aa.of.Part.L0 N M0 a b r c l x y (Ab (p14_1+1)) p2 :=
  Eq.trans (by kernel_rfl)
  (Ew (Dp (Eh (Cx r c l (x+p8) (y+p18)&&Pm x y p8 p18)) (Dp (Eh (decide ((List.length p2)+1≤Hv))) rfl rfl) rfl) rfl)
theorem Aa.of.Part.ev (N:Nat) (a b:Int) (r c:Int) (l:List Int) (x y:Int):Bo Aa.of.Part.E N Try.f31 (An Try.f31) [.int .i64 a,.int .i64 b,.fn 36 [] [.cellp [.int .i64 r,.int .i64 c,.ints .arg .u64 l],.cellp [.int .i64 x],.cellp [.int .i64 y]]] =
  Aa.of.Part.L0 N N a b r c l x y 0 []:=by kernel_rfl
abbrev _root_.Go.Proofs.S1.Aa.of.Part.Kn:=A4 Try.prog 31 Aa.of.Part.spec
theorem Aa.of.Part.Ae (hk:Av Try.prog Aa.of.Part.A8) (h:∀ (a b:Int) (r c:Int) (l:List Int) (x y:Int),Aa.of.Part.pre [.i a,.i b,.i r,.i c,.l l,.i x,.i y]=true→Bd Aa.of.Part.E Try.f31 [.int .i64 a,.int .i64 b,.fn 36 [] [.cellp [.int .i64 r,.int .i64 c,.ints .arg .u64 l],.cellp [.int .i64 x],.cellp [.int .i64 y]]] (Aa.of.Part.out [.i a,.i b,.i r,.i c,.l l,.i x,.i y])):Aa.of.Part.Kn :=
  Aj (Ax hk _ _ _) Try.func31 (by kernel_rfl) (by kernel_rfl) h
def Aa.of.Sub.hint:Nat→Option A0
  | 0=>some { keep:=[1,2,6,7,13,14],objs:=[(8,2,108002,.ints 41 .u64 [])],boxes:=[6,7] }
  | 2=>some { keep:=[1,2,6,7,8,13,14,17,18],objs:=[(8,2,108002,.ints 41 .u64 [])],boxes:=[6,7] }
  | _=>none
def Aa.of.Sub.A8:List (Nat × Entry):=[(38,Aa.Ft.spec)]
def Aa.of.Sub.E:Env:=Ba (A6 Aa.of.Sub.A8) (fun _=>false) Aa.of.Sub.hint (fun _=>none)
def Aa.of.Sub.L0 (N M:Nat) (a b:Int) (r c:Int) (l:List Int) (p q:Int) (m:List Int) (p14:Int) (p2_1:List Int):Option DV:=B3 Aa.of.Sub.E N Try.f31 (An Try.f31) [1,1,0,1,0] [] M ⟨Gy 33 [(1,.int .i64 b),(2,.fn 38 [] [.cellp [.int .i64 r,.int .i64 c,.ints .arg .u64 l],.cellp [.int .i64 p,.int .i64 q,.ints .arg .u64 m]]),(6,.ptr 6 0 0),(7,.ptr 7 0 0),(13,.int .i64 a),(14,.int .i64 p14)],[(6,false,.box [.int .i64 0,.int .i64 0,.nil]),(7,false,.box [.int .i64 a,.int .i64 b,.oref 108002]),(108002,false,.ints 41 .u64 p2_1)]⟩
def Aa.of.Sub.L1 (N M0 M:Nat) (a b:Int) (r c:Int) (l:List Int) (p q:Int) (m:List Int) (p8 p14_1 p18:Int) (p2:List Int):Option DV:=B3 Aa.of.Sub.E N Try.f31 (An Try.f31) [1,1,0,1,0,0,1,1,0,0,1,1,0] [M0] M ⟨Gy 33 [(1,.int .i64 b),(2,.fn 38 [] [.cellp [.int .i64 r,.int .i64 c,.ints .arg .u64 l],.cellp [.int .i64 p,.int .i64 q,.ints .arg .u64 m]]),(6,.ptr 6 0 0),(7,.ptr 7 0 0),(8,.int .i64 p8),(13,.int .i64 a),(14,.int .i64 p14_1),(17,.int .i64 b),(18,.int .i64 p18)],[(6,false,.box [.int .i64 0,.int .i64 0,.nil]),(7,false,.box [.int .i64 a,.int .i64 b,.oref 108002]),(108002,false,.ints 41 .u64 p2)]⟩
theorem Aa.of.Sub.As (N M:Nat) (a b:Int) (r c:Int) (l:List Int) (p q:Int) (m:List Int) (p14:Int) (p2_1:List Int):Aa.of.Sub.L0 N (M+1) a b r c l p q m p14 p2_1=bif (Au p14 a) then Aa.of.Sub.L1 N M N a b r c l p q m p14 p14 0 p2_1 else some (.agg [.int .i64 a,.int .i64 b,.ints (.own 108002 41) .u64 p2_1]):=by kernel_rfl
theorem Aa.of.Sub.Ca (N M0 M:Nat) (a b:Int) (r c:Int) (l:List Int) (p q:Int) (m:List Int) (p8 p14_1 p18:Int) (p2:List Int):Aa.of.Sub.L1 N M0 (M+1) a b r c l p q m p8 p14_1 p18 p2=bif (Au p18 b) then bif (((Cx r c l p8 p18&&Cx p q m p8 p18)&&Af l)&&Af m) then bif (decide ((List.length p2)+1≤Hv)) then Aa.of.Sub.L1 N M0 M a b r c l p q m p8 p14_1 (Ab (p18+1)) (p2++[(C0 (Dr c l p8 p18) (Dr q m p8 p18))]) else none else none else Aa.of.Sub.L0 N M0 a b r c l p q m (Ab (p14_1+1)) p2 :=
  Eq.trans (by kernel_rfl)
  (Ew (Dp (Eh (((Cx r c l p8 p18&&Cx p q m p8 p18)&&Af l)&&Af m)) (Dp (Eh (decide ((List.length p2)+1≤Hv))) rfl rfl) rfl) rfl)
theorem Aa.of.Sub.ev (N:Nat) (a b:Int) (r c:Int) (l:List Int) (p q:Int) (m:List Int):Bo Aa.of.Sub.E N Try.f31 (An Try.f31) [.int .i64 a,.int .i64 b,.fn 38 [] [.cellp [.int .i64 r,.int .i64 c,.ints .arg .u64 l],.cellp [.int .i64 p,.int .i64 q,.ints .arg .u64 m]]] =
  Aa.of.Sub.L0 N N a b r c l p q m 0 []:=by kernel_rfl
abbrev _root_.Go.Proofs.S1.Aa.of.Sub.Kn:=A4 Try.prog 31 Aa.of.Sub.spec
theorem Aa.of.Sub.Ae (hk:Av Try.prog Aa.of.Sub.A8) (h:∀ (a b:Int) (r c:Int) (l:List Int) (p q:Int) (m:List Int),Aa.of.Sub.pre [.i a,.i b,.i r,.i c,.l l,.i p,.i q,.l m]=true→Bd Aa.of.Sub.E Try.f31 [.int .i64 a,.int .i64 b,.fn 38 [] [.cellp [.int .i64 r,.int .i64 c,.ints .arg .u64 l],.cellp [.int .i64 p,.int .i64 q,.ints .arg .u64 m]]] (Aa.of.Sub.out [.i a,.i b,.i r,.i c,.l l,.i p,.i q,.l m])):Aa.of.Sub.Kn :=
  Aj (Ax hk _ _ _) Try.func31 (by kernel_rfl) (by kernel_rfl) h
def Aa.of.Stack.hint:Nat→Option A0
  | 0=>some { keep:=[1,2,6,7,13,14],objs:=[(8,2,108002,.ints 41 .u64 [])],boxes:=[6,7] }
  | 2=>some { keep:=[1,2,6,7,8,13,14,17,18],objs:=[(8,2,108002,.ints 41 .u64 [])],boxes:=[6,7] }
  | _=>none
def Aa.of.Stack.A8:List (Nat × Entry):=[(43,Aa.Db.spec)]
def Aa.of.Stack.E:Env:=Ba (A6 Aa.of.Stack.A8) (fun _=>false) Aa.of.Stack.hint (fun _=>none)
def Aa.of.Stack.L0 (N M:Nat) (a b:Int) (r c:Int) (l:List Int) (p q:Int) (m:List Int) (p14:Int) (p2_1:List Int):Option DV:=B3 Aa.of.Stack.E N Try.f31 (An Try.f31) [1,1,0,1,0] [] M ⟨Gy 33 [(1,.int .i64 b),(2,.fn 43 [] [.cellp [.int .i64 r,.int .i64 c,.ints .arg .u64 l],.cellp [.int .i64 p,.int .i64 q,.ints .arg .u64 m]]),(6,.ptr 6 0 0),(7,.ptr 7 0 0),(13,.int .i64 a),(14,.int .i64 p14)],[(6,false,.box [.int .i64 0,.int .i64 0,.nil]),(7,false,.box [.int .i64 a,.int .i64 b,.oref 108002]),(108002,false,.ints 41 .u64 p2_1)]⟩
def Aa.of.Stack.L1 (N M0 M:Nat) (a b:Int) (r c:Int) (l:List Int) (p q:Int) (m:List Int) (p8 p14_1 p18:Int) (p2:List Int):Option DV:=B3 Aa.of.Stack.E N Try.f31 (An Try.f31) [1,1,0,1,0,0,1,1,0,0,1,1,0] [M0] M ⟨Gy 33 [(1,.int .i64 b),(2,.fn 43 [] [.cellp [.int .i64 r,.int .i64 c,.ints .arg .u64 l],.cellp [.int .i64 p,.int .i64 q,.ints .arg .u64 m]]),(6,.ptr 6 0 0),(7,.ptr 7 0 0),(8,.int .i64 p8),(13,.int .i64 a),(14,.int .i64 p14_1),(17,.int .i64 b),(18,.int .i64 p18)],[(6,false,.box [.int .i64 0,.int .i64 0,.nil]),(7,false,.box [.int .i64 a,.int .i64 b,.oref 108002]),(108002,false,.ints 41 .u64 p2)]⟩
theorem Aa.of.Stack.As (N M:Nat) (a b:Int) (r c:Int) (l:List Int) (p q:Int) (m:List Int) (p14:Int) (p2_1:List Int):Aa.of.Stack.L0 N (M+1) a b r c l p q m p14 p2_1=bif (Au p14 a) then Aa.of.Stack.L1 N M N a b r c l p q m p14 p14 0 p2_1 else some (.agg [.int .i64 a,.int .i64 b,.ints (.own 108002 41) .u64 p2_1]):=by kernel_rfl
theorem Aa.of.Stack.Ca (N M0 M:Nat) (a b:Int) (r c:Int) (l:List Int) (p q:Int) (m:List Int) (p8 p14_1 p18:Int) (p2:List Int):Aa.of.Stack.L1 N M0 (M+1) a b r c l p q m p8 p14_1 p18 p2=bif (Au p18 b) then bif (I3 r c l p q m p8 p18) then bif (decide ((List.length p2)+1≤Hv)) then Aa.of.Stack.L1 N M0 M a b r c l p q m p8 p14_1 (Ab (p18+1)) (p2++[(G3 r c l q m p8 p18)]) else none else none else Aa.of.Stack.L0 N M0 a b r c l p q m (Ab (p14_1+1)) p2 :=
  Eq.trans (by kernel_rfl)
  (Ew (Dp (Eh (I3 r c l p q m p8 p18)) (Dp (Eh (decide ((List.length p2)+1≤Hv))) rfl rfl) rfl) rfl)
theorem Aa.of.Stack.ev (N:Nat) (a b:Int) (r c:Int) (l:List Int) (p q:Int) (m:List Int):Bo Aa.of.Stack.E N Try.f31 (An Try.f31) [.int .i64 a,.int .i64 b,.fn 43 [] [.cellp [.int .i64 r,.int .i64 c,.ints .arg .u64 l],.cellp [.int .i64 p,.int .i64 q,.ints .arg .u64 m]]] =
  Aa.of.Stack.L0 N N a b r c l p q m 0 []:=by kernel_rfl
abbrev _root_.Go.Proofs.S1.Aa.of.Stack.Kn:=A4 Try.prog 31 Aa.of.Stack.spec
theorem Aa.of.Stack.Ae (hk:Av Try.prog Aa.of.Stack.A8) (h:∀ (a b:Int) (r c:Int) (l:List Int) (p q:Int) (m:List Int),Aa.of.Stack.pre [.i a,.i b,.i r,.i c,.l l,.i p,.i q,.l m]=true→Bd Aa.of.Stack.E Try.f31 [.int .i64 a,.int .i64 b,.fn 43 [] [.cellp [.int .i64 r,.int .i64 c,.ints .arg .u64 l],.cellp [.int .i64 p,.int .i64 q,.ints .arg .u64 m]]] (Aa.of.Stack.out [.i a,.i b,.i r,.i c,.l l,.i p,.i q,.l m])):Aa.of.Stack.Kn :=
  Aj (Ax hk _ _ _) Try.func31 (by kernel_rfl) (by kernel_rfl) h
def Aa.of.Mul.hint:Nat→Option A0
  | 0=>some { keep:=[1,2,6,7,13,14],objs:=[(8,2,108002,.ints 41 .u64 [])],boxes:=[6,7] }
  | 2=>some { keep:=[1,2,6,7,8,13,14,17,18],objs:=[(8,2,108002,.ints 41 .u64 [])],boxes:=[6,7] }
  | _=>none
def Aa.of.Mul.A8:List (Nat × Entry):=[(32,Aa.Fv.spec)]
def Aa.of.Mul.E:Env:=Ba (A6 Aa.of.Mul.A8) (fun _=>false) Aa.of.Mul.hint (fun _=>none)
def Aa.of.Mul.L0 (N M:Nat) (a b:Int) (r c:Int) (l:List Int) (p q:Int) (m:List Int) (p14:Int) (p2_1:List Int):Option DV:=B3 Aa.of.Mul.E N Try.f31 (An Try.f31) [1,1,0,1,0] [] M ⟨Gy 33 [(1,.int .i64 b),(2,.fn 32 [] [.cellp [.int .i64 r,.int .i64 c,.ints .arg .u64 l],.cellp [.int .i64 p,.int .i64 q,.ints .arg .u64 m]]),(6,.ptr 6 0 0),(7,.ptr 7 0 0),(13,.int .i64 a),(14,.int .i64 p14)],[(6,false,.box [.int .i64 0,.int .i64 0,.nil]),(7,false,.box [.int .i64 a,.int .i64 b,.oref 108002]),(108002,false,.ints 41 .u64 p2_1)]⟩
def Aa.of.Mul.L1 (N M0 M:Nat) (a b:Int) (r c:Int) (l:List Int) (p q:Int) (m:List Int) (p8 p14_1 p18:Int) (p2:List Int):Option DV:=B3 Aa.of.Mul.E N Try.f31 (An Try.f31) [1,1,0,1,0,0,1,1,0,0,1,1,0] [M0] M ⟨Gy 33 [(1,.int .i64 b),(2,.fn 32 [] [.cellp [.int .i64 r,.int .i64 c,.ints .arg .u64 l],.cellp [.int .i64 p,.int .i64 q,.ints .arg .u64 m]]),(6,.ptr 6 0 0),(7,.ptr 7 0 0),(8,.int .i64 p8),(13,.int .i64 a),(14,.int .i64 p14_1),(17,.int .i64 b),(18,.int .i64 p18)],[(6,false,.box [.int .i64 0,.int .i64 0,.nil]),(7,false,.box [.int .i64 a,.int .i64 b,.oref 108002]),(108002,false,.ints 41 .u64 p2)]⟩
theorem Aa.of.Mul.As (N M:Nat) (a b:Int) (r c:Int) (l:List Int) (p q:Int) (m:List Int) (p14:Int) (p2_1:List Int):Aa.of.Mul.L0 N (M+1) a b r c l p q m p14 p2_1=bif (Au p14 a) then Aa.of.Mul.L1 N M N a b r c l p q m p14 p14 0 p2_1 else some (.agg [.int .i64 a,.int .i64 b,.ints (.own 108002 41) .u64 p2_1]):=by kernel_rfl
theorem Aa.of.Mul.Ca (N M0 M:Nat) (a b:Int) (r c:Int) (l:List Int) (p q:Int) (m:List Int) (p8 p14_1 p18:Int) (p2:List Int):Aa.of.Mul.L1 N M0 (M+1) a b r c l p q m p8 p14_1 p18 p2=bif (Au p18 b) then bif (Nt r c l p q m p8 p18) then bif (decide ((List.length p2)+1≤Hv)) then Aa.of.Mul.L1 N M0 M a b r c l p q m p8 p14_1 (Ab (p18+1)) (p2++[(M3 (Jw c l p8) (N1 p q m p18))]) else none else none else Aa.of.Mul.L0 N M0 a b r c l p q m (Ab (p14_1+1)) p2 :=
  Eq.trans (by kernel_rfl)
  (Ew (Dp (Eh (Nt r c l p q m p8 p18)) (Dp (Eh (decide ((List.length p2)+1≤Hv))) rfl rfl) rfl) rfl)
theorem Aa.of.Mul.ev (N:Nat) (a b:Int) (r c:Int) (l:List Int) (p q:Int) (m:List Int):Bo Aa.of.Mul.E N Try.f31 (An Try.f31) [.int .i64 a,.int .i64 b,.fn 32 [] [.cellp [.int .i64 r,.int .i64 c,.ints .arg .u64 l],.cellp [.int .i64 p,.int .i64 q,.ints .arg .u64 m]]] =
  Aa.of.Mul.L0 N N a b r c l p q m 0 []:=by kernel_rfl
abbrev _root_.Go.Proofs.S1.Aa.of.Mul.Kn:=A4 Try.prog 31 Aa.of.Mul.spec
theorem Aa.of.Mul.Ae (hk:Av Try.prog Aa.of.Mul.A8) (h:∀ (a b:Int) (r c:Int) (l:List Int) (p q:Int) (m:List Int),Aa.of.Mul.pre [.i a,.i b,.i r,.i c,.l l,.i p,.i q,.l m]=true→Bd Aa.of.Mul.E Try.f31 [.int .i64 a,.int .i64 b,.fn 32 [] [.cellp [.int .i64 r,.int .i64 c,.ints .arg .u64 l],.cellp [.int .i64 p,.int .i64 q,.ints .arg .u64 m]]] (Aa.of.Mul.out [.i a,.i b,.i r,.i c,.l l,.i p,.i q,.l m])):Aa.of.Mul.Kn :=
  Aj (Ax hk _ _ _) Try.func31 (by kernel_rfl) (by kernel_rfl) h
def Aa.Fz.A8:List (Nat × Entry):=[(31,Aa.of.Fz.spec),(23,Aa.size.spec)]
def Aa.Fz.E:Env:=Ba (A6 Aa.Fz.A8) (fun _=>false) (fun _=>none) (fun _=>none)
theorem Aa.Fz.ev (N:Nat) (n:Int):Bo Aa.Fz.E N Try.f48 (An Try.f48) [.int .i64 n]=bif (!(A7 n)) then some (.tup [.agg [.int .i64 0,.int .i64 0,.nil],.int .i64 3]) else bif ((A7 n&&A7 n)) then some (.tup [.agg [.int .i64 n,.int .i64 n,.ints .fresh .u64 (By (Int.toNat n) (Int.toNat n) (fun j1 j2=>P2 j1 j2))],.int .i64 0]) else none:=by kernel_rfl
abbrev _root_.Go.Proofs.S1.Aa.Fz.Kn:=A4 Try.prog 48 Aa.Fz.spec
theorem Aa.Fz.Ae (hk:Av Try.prog Aa.Fz.A8) (h:∀ (n:Int),Aa.Fz.pre [.i n]=true→Bd Aa.Fz.E Try.f48 [.int .i64 n] (Aa.Fz.out [.i n])):Aa.Fz.Kn :=
  Aj (Ax hk _ _ _) Try.func48 (by kernel_rfl) (by kernel_rfl) h
def Aa.Cl.A8:List (Nat × Entry):=[(12,Aa.Check.spec),(31,Aa.of.Cl.spec)]
def Aa.Cl.E:Env:=Ba (A6 Aa.Cl.A8) (fun _=>false) (fun _=>none) (fun _=>none)
theorem Aa.Cl.ev (N:Nat) (r c:Int) (l:List Int):Bo Aa.Cl.E N Try.f26 (An Try.f26) [.agg [.int .i64 r,.int .i64 c,.ints .arg .u64 l]]=bif ((Hp r c l) !=(0:Int)) then some (.tup [.agg [.int .i64 0,.int .i64 0,.nil],.int .i64 (Hp r c l)]) else bif ((A7 c&&A7 r)&&Aw r c l&&decide (c=c∧r=r)) then some (.tup [.agg [.int .i64 c,.int .i64 r,.ints .fresh .u64 (By (Int.toNat c) (Int.toNat r) (fun j1 j2=>Dr c l j2 j1))],.int .i64 0]) else none:=by kernel_rfl
abbrev _root_.Go.Proofs.S1.Aa.Cl.Kn:=A4 Try.prog 26 Aa.Cl.spec
theorem Aa.Cl.Ae (hk:Av Try.prog Aa.Cl.A8) (h:∀ (r c:Int) (l:List Int),Aa.Cl.pre [.i r,.i c,.l l]=true→Bd Aa.Cl.E Try.f26 [.agg [.int .i64 r,.int .i64 c,.ints .arg .u64 l]] (Aa.Cl.out [.i r,.i c,.l l])):Aa.Cl.Kn :=
  Aj (Ax hk _ _ _) Try.func26 (by kernel_rfl) (by kernel_rfl) h
def Aa.Part.A8:List (Nat × Entry):=[(12,Aa.Check.spec),(31,Aa.of.Part.spec)]
def Aa.Part.E:Env:=Ba (A6 Aa.Part.A8) (fun _=>false) (fun _=>none) (fun _=>none)
theorem Aa.Part.ev (N:Nat) (r c:Int) (l:List Int) (x y:Int) (a b:Int):Bo Aa.Part.E N Try.f19 (An Try.f19) [.agg [.int .i64 r,.int .i64 c,.ints .arg .u64 l],.int .i64 x,.int .i64 y,.int .i64 a,.int .i64 b]=bif ((Hp r c l) !=(0:Int)) then some (.tup [.agg [.int .i64 0,.int .i64 0,.nil],.int .i64 (Hp r c l)]) else bif ((((((((Au x 0)||(Au y 0))||(Au a 0))||(Au b 0))||(Au r x))||(Au c y))||(Au (Ab (r-x)) a))||(Au (Ab (c-y)) b)) then some (.tup [.agg [.int .i64 0,.int .i64 0,.nil],.int .i64 3]) else bif ((A7 a&&A7 b)&&Aw r c l&&Lb r c x y a b) then some (.tup [.agg [.int .i64 a,.int .i64 b,.ints .fresh .u64 (By (Int.toNat a) (Int.toNat b) (fun j1 j2=>Dr c l (x+j1) (y+j2)))],.int .i64 0]) else none :=
  Eq.trans (by kernel_rfl)
  (Ew rfl (Am (Qb (Au x 0)) (Am (Mu (Au x 0)) (Am (Vv (Au x 0)) (Am (V2 (Au x 0) (Au y 0)) (Am (Ue (Au x 0) (Au y 0)) (Am (Afn (Au x 0) (Au y 0)) (Am (Afo (Au x 0) (Au y 0) (Au a 0)) (Am (V3 (Au x 0) (Au y 0) (Au a 0)) (Am (Afp (Au x 0) (Au y 0) (Au a 0)) (Am (Aah (Au x 0) (Au y 0) (Au a 0) (Au b 0)) (Am (Aah (Au x 0) (Au y 0) (Au a 0) (Au b 0)) (Am (V4 (Au x 0) (Au y 0) (Au a 0) (Au b 0)) (Am (tt58 (Au x 0) (Au y 0) (Au a 0) (Au b 0)) (Am (Afq (Au x 0) (Au y 0) (Au a 0) (Au b 0)) (Am (Aai (Au x 0) (Au y 0) (Au a 0) (Au b 0) (Au r x)) (Am (Aai (Au x 0) (Au y 0) (Au a 0) (Au b 0) (Au r x)) (Am (Acp (Au x 0) (Au y 0) (Au a 0) (Au b 0) (Au r x)) (Am (tt54 (Au x 0) (Au y 0) (Au a 0) (Au b 0) (Au r x)) (Am (tt53 (Au x 0) (Au y 0) (Au a 0) (Au b 0) (Au r x)) (Am (Ug (Au x 0) (Au y 0) (Au a 0) (Au b 0) (Au r x) (Au c y)) (Am (Ug (Au x 0) (Au y 0) (Au a 0) (Au b 0) (Au r x) (Au c y)) (Am (Uf (Au x 0) (Au y 0) (Au a 0) (Au b 0) (Au r x) (Au c y)) (Am (Ug (Au x 0) (Au y 0) (Au a 0) (Au b 0) (Au r x) (Au c y)) (Am (Aaj (Au x 0) (Au y 0) (Au a 0) (Au b 0) (Au r x) (Au c y)) (Am (Aaj (Au x 0) (Au y 0) (Au a 0) (Au b 0) (Au r x) (Au c y)) (Am (tt49 (Au x 0) (Au y 0) (Au a 0) (Au b 0) (Au r x) (Au c y)) (Am (tt47 (Au x 0) (Au y 0) (Au a 0) (Au b 0) (Au r x) (Au c y) (Au (Ab (r-x)) a)) (Am (tt47 (Au x 0) (Au y 0) (Au a 0) (Au b 0) (Au r x) (Au c y) (Au (Ab (r-x)) a)) (Am (tt48 (Au x 0) (Au y 0) (Au a 0) (Au b 0) (Au r x) (Au c y) (Au (Ab (r-x)) a)) (Am (tt47 (Au x 0) (Au y 0) (Au a 0) (Au b 0) (Au r x) (Au c y) (Au (Ab (r-x)) a)) (Am (tt46 (Au x 0) (Au y 0) (Au a 0) (Au b 0) (Au r x) (Au c y) (Au (Ab (r-x)) a)) (Am (tt46 (Au x 0) (Au y 0) (Au a 0) (Au b 0) (Au r x) (Au c y) (Au (Ab (r-x)) a)) (Am (tt45 (Au x 0) (Au y 0) (Au a 0) (Au b 0) (Au r x) (Au c y) (Au (Ab (r-x)) a)) (Dp (tt44 (Au x 0) (Au y 0) (Au a 0) (Au b 0) (Au r x) (Au c y) (Au (Ab (r-x)) a) (Au (Ab (c-y)) b)) rfl rfl)))))))))))))))))))))))))))))))))))
abbrev _root_.Go.Proofs.S1.Aa.Part.Kn:=A4 Try.prog 19 Aa.Part.spec
theorem Aa.Part.Ae (hk:Av Try.prog Aa.Part.A8) (h:∀ (r c:Int) (l:List Int) (x y:Int) (a b:Int),Aa.Part.pre [.i r,.i c,.l l,.i x,.i y,.i a,.i b]=true→Bd Aa.Part.E Try.f19 [.agg [.int .i64 r,.int .i64 c,.ints .arg .u64 l],.int .i64 x,.int .i64 y,.int .i64 a,.int .i64 b] (Aa.Part.out [.i r,.i c,.l l,.i x,.i y,.i a,.i b])):Aa.Part.Kn :=
  Aj (Ax hk _ _ _) Try.func19 (by kernel_rfl) (by kernel_rfl) h
def Aa.Sub.A8:List (Nat × Entry):=[(31,Aa.of.Sub.spec),(30,Aa.two.spec)]
def Aa.Sub.E:Env:=Ba (A6 Aa.Sub.A8) (fun _=>false) (fun _=>none) (fun _=>none)
theorem Aa.Sub.ev (N:Nat) (r c:Int) (l:List Int) (p q:Int) (m:List Int):Bo Aa.Sub.E N Try.f20 (An Try.f20) [.agg [.int .i64 r,.int .i64 c,.ints .arg .u64 l],.agg [.int .i64 p,.int .i64 q,.ints .arg .u64 m]]=bif ((Pg r c l p q m) !=(0:Int)) then some (.tup [.agg [.int .i64 0,.int .i64 0,.nil],.int .i64 (Pg r c l p q m)]) else bif (!((r==p)&&(c==q))) then some (.tup [.agg [.int .i64 0,.int .i64 0,.nil],.int .i64 3]) else bif ((A7 r&&A7 c)&&((Aw r c l&&Aw p q m)&&(Af l&&Af m))&&decide (r=r∧c=c∧p=r∧q=c)) then some (.tup [.agg [.int .i64 r,.int .i64 c,.ints .fresh .u64 (By (Int.toNat r) (Int.toNat c) (fun j1 j2=>C0 (Dr c l j1 j2) (Dr q m j1 j2)))],.int .i64 0]) else none :=
  Eq.trans (by kernel_rfl)
  (Ew rfl (Dp (tt67 (r==p) (c==q)) rfl rfl))
abbrev _root_.Go.Proofs.S1.Aa.Sub.Kn:=A4 Try.prog 20 Aa.Sub.spec
theorem Aa.Sub.Ae (hk:Av Try.prog Aa.Sub.A8) (h:∀ (r c:Int) (l:List Int) (p q:Int) (m:List Int),Aa.Sub.pre [.i r,.i c,.l l,.i p,.i q,.l m]=true→Bd Aa.Sub.E Try.f20 [.agg [.int .i64 r,.int .i64 c,.ints .arg .u64 l],.agg [.int .i64 p,.int .i64 q,.ints .arg .u64 m]] (Aa.Sub.out [.i r,.i c,.l l,.i p,.i q,.l m])):Aa.Sub.Kn :=
  Aj (Ax hk _ _ _) Try.func20 (by kernel_rfl) (by kernel_rfl) h
def Aa.Stack.A8:List (Nat × Entry):=[(31,Aa.of.Stack.spec),(30,Aa.two.spec)]
def Aa.Stack.E:Env:=Ba (A6 Aa.Stack.A8) (fun _=>false) (fun _=>none) (fun _=>none)
theorem Aa.Stack.ev (N:Nat) (r c:Int) (l:List Int) (p q:Int) (m:List Int):Bo Aa.Stack.E N Try.f22 (An Try.f22) [.agg [.int .i64 r,.int .i64 c,.ints .arg .u64 l],.agg [.int .i64 p,.int .i64 q,.ints .arg .u64 m]]=bif ((Pg r c l p q m) !=(0:Int)) then some (.tup [.agg [.int .i64 0,.int .i64 0,.nil],.int .i64 (Pg r c l p q m)]) else bif ((c !=q)||(Au 6 (Ab (r+p)))) then some (.tup [.agg [.int .i64 0,.int .i64 0,.nil],.int .i64 3]) else bif ((A7 (Ab (r+p))&&A7 c)&&(Aw r c l&&Aw p q m)&&decide ((Ab (r+p))=r+p∧c=c∧q=c)) then some (.tup [.agg [.int .i64 (Ab (r+p)),.int .i64 c,.ints .fresh .u64 (By (Int.toNat (Ab (r+p))) (Int.toNat c) (fun j1 j2=>G3 r c l q m j1 j2))],.int .i64 0]) else none :=
  Eq.trans (by kernel_rfl)
  (Ew rfl (Am (Qb (c !=q)) (Am (Mu (c !=q)) (Am (Qb (c !=q)) (Am (Mu (c !=q)) (Am (tt8 (c !=q)) (Am (Mu (c !=q)) (Am (Vv (c !=q)) (Dp (tt5 (c !=q) (Au 6 (Ab (r+p)))) rfl rfl)))))))))
abbrev _root_.Go.Proofs.S1.Aa.Stack.Kn:=A4 Try.prog 22 Aa.Stack.spec
theorem Aa.Stack.Ae (hk:Av Try.prog Aa.Stack.A8) (h:∀ (r c:Int) (l:List Int) (p q:Int) (m:List Int),Aa.Stack.pre [.i r,.i c,.l l,.i p,.i q,.l m]=true→Bd Aa.Stack.E Try.f22 [.agg [.int .i64 r,.int .i64 c,.ints .arg .u64 l],.agg [.int .i64 p,.int .i64 q,.ints .arg .u64 m]] (Aa.Stack.out [.i r,.i c,.l l,.i p,.i q,.l m])):Aa.Stack.Kn :=
  Aj (Ax hk _ _ _) Try.func22 (by kernel_rfl) (by kernel_rfl) h
def Aa.Mul.A8:List (Nat × Entry):=[(31,Aa.of.Mul.spec),(30,Aa.two.spec)]
def Aa.Mul.E:Env:=Ba (A6 Aa.Mul.A8) (fun _=>false) (fun _=>none) (fun _=>none)
theorem Aa.Mul.ev (N:Nat) (r c:Int) (l:List Int) (p q:Int) (m:List Int):Bo Aa.Mul.E N Try.f18 (An Try.f18) [.agg [.int .i64 r,.int .i64 c,.ints .arg .u64 l],.agg [.int .i64 p,.int .i64 q,.ints .arg .u64 m]]=bif ((Pg r c l p q m) !=(0:Int)) then some (.tup [.agg [.int .i64 0,.int .i64 0,.nil],.int .i64 (Pg r c l p q m)]) else bif (c !=p) then some (.tup [.agg [.int .i64 0,.int .i64 0,.nil],.int .i64 3]) else bif ((A7 r&&A7 q)&&((Aw r c l&&Aw p q m)&&(Af l&&Af m))&&decide (r=r∧q=q∧c=p)) then some (.tup [.agg [.int .i64 r,.int .i64 q,.ints .fresh .u64 (By (Int.toNat r) (Int.toNat q) (fun j1 j2=>M3 (Jw c l j1) (N1 p q m j2)))],.int .i64 0]) else none:=by kernel_rfl
abbrev _root_.Go.Proofs.S1.Aa.Mul.Kn:=A4 Try.prog 18 Aa.Mul.spec
theorem Aa.Mul.Ae (hk:Av Try.prog Aa.Mul.A8) (h:∀ (r c:Int) (l:List Int) (p q:Int) (m:List Int),Aa.Mul.pre [.i r,.i c,.l l,.i p,.i q,.l m]=true→Bd Aa.Mul.E Try.f18 [.agg [.int .i64 r,.int .i64 c,.ints .arg .u64 l],.agg [.int .i64 p,.int .i64 q,.ints .arg .u64 m]] (Aa.Mul.out [.i r,.i c,.l l,.i p,.i q,.l m])):Aa.Mul.Kn :=
  Aj (Ax hk _ _ _) Try.func18 (by kernel_rfl) (by kernel_rfl) h
end EqOf
open EqOf
theorem of.Bm.inner (N:Nat)  {A B:Nat} (hA:A≤6) (hB:B≤6) {F:Nat→Nat→Int} (hF:∀ i j:Nat,F i j=(0:Int)) {i:Nat} (hi:i<A):∀ (k j M0 M:Nat),j+k=B→k<M →
    Aa.of.Bm.L1 N M0 M (A:Int) (B:Int) (i:Int) (i:Int) (j:Int) (By i B F++(List.range j).map (F i))=Aa.of.Bm.L0 N M0 (A:Int) (B:Int) ((i+1:Nat):Int) (By (i+1) B F):=by
  intro k
  induction k with
  | zero =>
    intro j M0 M hj hM
    obtain ⟨M,rfl⟩:∃ G,M=G+1:=⟨M-1,by omega⟩
    obtain rfl:j=B:=by omega
    rw [Aa.of.Bm.Ca,Aq,Ahs (by omega),Ahr,Ak (by omega) (by omega),← Ho]
    rfl
  | succ k ih =>
    intro j M0 M hj hM
    obtain ⟨M,rfl⟩:∃ G,M=G+1:=⟨M-1,by omega⟩
    have d:decide ((By i B F++(List.range j).map (F i)).length+1≤Hv)=true:=by
      refine Aho ?_
      have:=Nat.mul_le_mul (show i≤6 by omega) hB
      rw [List.length_append,Bq,List.length_map,List.length_range]; unfold Hv; omega
    rw [Aa.of.Bm.Ca,Aq,Aho (by omega),Ahn,d,Ahn,Ak (by omega) (by omega),← hF i j]
    have:=ih (j+1) M0 M (by omega) (by omega)
    rw [Gg,← List.append_assoc] at this
    exact this
theorem of.Bm.outer (N:Nat)  {A B:Nat} (hA:A≤6) (hB:B≤6) (hN:6<N) {F:Nat→Nat→Int} (hF:∀ i j:Nat,F i j=(0:Int)):∀ (k i M:Nat),i+k=A→k<M →
    Aa.of.Bm.L0 N M (A:Int) (B:Int) (i:Int) (By i B F)=some (.agg [.int .i64 (A:Int),.int .i64 (B:Int),.ints (.own 108002 tB) .u64 (By A B F)]):=by
  intro k
  induction k with
  | zero =>
    intro i M hi hM
    obtain ⟨M,rfl⟩:∃ G,M=G+1:=⟨M-1,by omega⟩
    obtain rfl:i=A:=by omega
    rw [Aa.of.Bm.As,Aq,Ahs (by omega),Ahr]
  | succ k ih =>
    intro i M hi hM
    obtain ⟨M,rfl⟩:∃ G,M=G+1:=⟨M-1,by omega⟩
    have n:=of.Bm.inner N hA hB hF (show i<A by omega) B 0 M N (by omega) (by omega)
    rw [List.range_zero,List.map_nil,List.append_nil] at n
    rw [Aa.of.Bm.As,Aq,Aho (by omega),Ahn]
    exact n.trans (ih (i+1) M (by omega) (by omega))
theorem of.Fz.inner (N:Nat)  {A B:Nat} (hA:A≤6) (hB:B≤6) {F:Nat→Nat→Int} (hF:∀ i j:Nat,F i j=P2 (i:Int) (j:Int)) {i:Nat} (hi:i<A):∀ (k j M0 M:Nat),j+k=B→k<M →
    Aa.of.Fz.L1 N M0 M (A:Int) (B:Int) (i:Int) (i:Int) (j:Int) (By i B F++(List.range j).map (F i))=Aa.of.Fz.L0 N M0 (A:Int) (B:Int) ((i+1:Nat):Int) (By (i+1) B F):=by
  intro k
  induction k with
  | zero =>
    intro j M0 M hj hM
    obtain ⟨M,rfl⟩:∃ G,M=G+1:=⟨M-1,by omega⟩
    obtain rfl:j=B:=by omega
    rw [Aa.of.Fz.Ca,Aq,Ahs (by omega),Ahr,Ak (by omega) (by omega),← Ho]
    rfl
  | succ k ih =>
    intro j M0 M hj hM
    obtain ⟨M,rfl⟩:∃ G,M=G+1:=⟨M-1,by omega⟩
    have d:decide ((By i B F++(List.range j).map (F i)).length+1≤Hv)=true:=by
      refine Aho ?_
      have:=Nat.mul_le_mul (show i≤6 by omega) hB
      rw [List.length_append,Bq,List.length_map,List.length_range]; unfold Hv; omega
    rw [Aa.of.Fz.Ca,Aq,Aho (by omega),Ahn,d,Ahn,Ak (by omega) (by omega),← hF i j]
    have:=ih (j+1) M0 M (by omega) (by omega)
    rw [Gg,← List.append_assoc] at this
    exact this
theorem of.Fz.outer (N:Nat)  {A B:Nat} (hA:A≤6) (hB:B≤6) (hN:6<N) {F:Nat→Nat→Int} (hF:∀ i j:Nat,F i j=P2 (i:Int) (j:Int)):∀ (k i M:Nat),i+k=A→k<M →
    Aa.of.Fz.L0 N M (A:Int) (B:Int) (i:Int) (By i B F)=some (.agg [.int .i64 (A:Int),.int .i64 (B:Int),.ints (.own 108002 tB) .u64 (By A B F)]):=by
  intro k
  induction k with
  | zero =>
    intro i M hi hM
    obtain ⟨M,rfl⟩:∃ G,M=G+1:=⟨M-1,by omega⟩
    obtain rfl:i=A:=by omega
    rw [Aa.of.Fz.As,Aq,Ahs (by omega),Ahr]
  | succ k ih =>
    intro i M hi hM
    obtain ⟨M,rfl⟩:∃ G,M=G+1:=⟨M-1,by omega⟩
    have n:=of.Fz.inner N hA hB hF (show i<A by omega) B 0 M N (by omega) (by omega)
    rw [List.range_zero,List.map_nil,List.append_nil] at n
    rw [Aa.of.Fz.As,Aq,Aho (by omega),Ahn]
    exact n.trans (ih (i+1) M (by omega) (by omega))
theorem Aa.of.Fz.known:Aa.of.Fz.Kn:=Aa.of.Fz.Ae (.cons Aa.Fy.known .nil) fun a b hp=>by
  have h1:(A7 a&&A7 b)=true:=hp
  obtain ⟨ha,hb⟩:=Ad.1 h1
  obtain ⟨A,rfl,hA⟩:=Ex ha
  obtain ⟨B,rfl,hB⟩:=Ex hb
  refine ⟨8,.agg [.int .i64 (A:Int),.int .i64 (B:Int),.ints (.own 108002 tB) .u64 (By A B fun (i j:Nat)=>P2 (i:Int) (j:Int))],[108002],?_,Wk.Hr (.cons .int (.cons .int (.cons (.drop _ _ _ _ (List.mem_singleton.2 rfl)) .nil)))⟩
  rw [Aa.of.Fz.ev]
  have n:=of.Fz.outer 8 hA hB (by omega) (F:=fun (i j:Nat)=>P2 (i:Int) (j:Int)) (fun _ _=>rfl) A 0 8 (by omega) (by omega)
  rw [Hn] at n
  exact n
theorem of.Cl.inner (N:Nat) (r c:Int) (l:List Int) {A B:Nat} (hA:A≤6) (hB:B≤6) {F:Nat→Nat→Int} (hF:∀ i j:Nat,F i j=Dr c l (j:Int) (i:Int)) {i:Nat} (hi:i<A) (hp:∀ j:Nat,j<B→Cx r c l (j:Int) (i:Int)=true):∀ (k j M0 M:Nat),j+k=B→k<M →
    Aa.of.Cl.L1 N M0 M (A:Int) (B:Int) r c l (i:Int) (i:Int) (j:Int) (By i B F++(List.range j).map (F i))=Aa.of.Cl.L0 N M0 (A:Int) (B:Int) r c l ((i+1:Nat):Int) (By (i+1) B F):=by
  intro k
  induction k with
  | zero =>
    intro j M0 M hj hM
    obtain ⟨M,rfl⟩:∃ G,M=G+1:=⟨M-1,by omega⟩
    obtain rfl:j=B:=by omega
    rw [Aa.of.Cl.Ca,Aq,Ahs (by omega),Ahr,Ak (by omega) (by omega),← Ho]
    rfl
  | succ k ih =>
    intro j M0 M hj hM
    obtain ⟨M,rfl⟩:∃ G,M=G+1:=⟨M-1,by omega⟩
    have d:decide ((By i B F++(List.range j).map (F i)).length+1≤Hv)=true:=by
      refine Aho ?_
      have:=Nat.mul_le_mul (show i≤6 by omega) hB
      rw [List.length_append,Bq,List.length_map,List.length_range]; unfold Hv; omega
    rw [Aa.of.Cl.Ca,Aq,Aho (by omega),Ahn,hp j (by omega),Ahn,d,Ahn,Ak (by omega) (by omega),← hF i j]
    have:=ih (j+1) M0 M (by omega) (by omega)
    rw [Gg,← List.append_assoc] at this
    exact this
theorem of.Cl.outer (N:Nat) (r c:Int) (l:List Int) {A B:Nat} (hA:A≤6) (hB:B≤6) (hN:6<N) {F:Nat→Nat→Int} (hF:∀ i j:Nat,F i j=Dr c l (j:Int) (i:Int)) (hp:∀ i j:Nat,i<A→j<B→Cx r c l (j:Int) (i:Int)=true):∀ (k i M:Nat),i+k=A→k<M →
    Aa.of.Cl.L0 N M (A:Int) (B:Int) r c l (i:Int) (By i B F)=some (.agg [.int .i64 (A:Int),.int .i64 (B:Int),.ints (.own 108002 tB) .u64 (By A B F)]):=by
  intro k
  induction k with
  | zero =>
    intro i M hi hM
    obtain ⟨M,rfl⟩:∃ G,M=G+1:=⟨M-1,by omega⟩
    obtain rfl:i=A:=by omega
    rw [Aa.of.Cl.As,Aq,Ahs (by omega),Ahr]
  | succ k ih =>
    intro i M hi hM
    obtain ⟨M,rfl⟩:∃ G,M=G+1:=⟨M-1,by omega⟩
    have n:=of.Cl.inner N r c l hA hB hF (show i<A by omega) (fun j hj=>hp i j (by omega) hj) B 0 M N (by omega) (by omega)
    rw [List.range_zero,List.map_nil,List.append_nil] at n
    rw [Aa.of.Cl.As,Aq,Aho (by omega),Ahn]
    exact n.trans (ih (i+1) M (by omega) (by omega))
theorem Aa.of.Cl.known:Aa.of.Cl.Kn:=Aa.of.Cl.Ae (.cons Aa.D5.known .nil) fun a b r c l hp=>by
  obtain ⟨h12,hy⟩:=Ad.1 (show (((A7 a&&A7 b)&&Aw r c l)&&decide (a=c∧b=r))=true from hp)
  obtain ⟨h1,hx⟩:=Ad.1 h12
  have h2:=Ad.2 ⟨hx,hy⟩
  obtain ⟨ha,hb⟩:=Ad.1 h1
  obtain ⟨A,rfl,hA⟩:=Ex ha
  obtain ⟨B,rfl,hB⟩:=Ex hb
  obtain ⟨hr,he⟩:=Ad.1 h2
  obtain ⟨e1,e2⟩:=of_decide_eq_true he
  have hp:∀ i j:Nat,i<A→j<B→Cx r c l (j:Int) (i:Int)=true:=fun i j hi hj=>G1 hr (by omega) (by omega) (by omega) (by omega) r
  refine ⟨8,.agg [.int .i64 (A:Int),.int .i64 (B:Int),.ints (.own 108002 tB) .u64 (By A B fun (i j:Nat)=>Dr c l (j:Int) (i:Int))],[108002],?_,Wk.Hr (.cons .int (.cons .int (.cons (.drop _ _ _ _ (List.mem_singleton.2 rfl)) .nil)))⟩
  rw [Aa.of.Cl.ev]
  have n:=of.Cl.outer 8 r c l hA hB (by omega) (F:=fun (i j:Nat)=>Dr c l (j:Int) (i:Int)) (fun _ _=>rfl) hp A 0 8 (by omega) (by omega)
  rw [Hn] at n
  exact n
theorem of.Part.inner (N:Nat) (r c:Int) (l:List Int) (x y:Int) {A B:Nat} (hA:A≤6) (hB:B≤6) {F:Nat→Nat→Int} (hF:∀ i j:Nat,F i j=Dr c l (x+(i:Int)) (y+(j:Int))) {i:Nat} (hi:i<A) (hp:∀ j:Nat,j<B→(Cx r c l (x+(i:Int)) (y+(j:Int))&&Pm x y (i:Int) (j:Int))=true):∀ (k j M0 M:Nat),j+k=B→k<M →
    Aa.of.Part.L1 N M0 M (A:Int) (B:Int) r c l x y (i:Int) (i:Int) (j:Int) (By i B F++(List.range j).map (F i))=Aa.of.Part.L0 N M0 (A:Int) (B:Int) r c l x y ((i+1:Nat):Int) (By (i+1) B F):=by
  intro k
  induction k with
  | zero =>
    intro j M0 M hj hM
    obtain ⟨M,rfl⟩:∃ G,M=G+1:=⟨M-1,by omega⟩
    obtain rfl:j=B:=by omega
    rw [Aa.of.Part.Ca,Aq,Ahs (by omega),Ahr,Ak (by omega) (by omega),← Ho]
    rfl
  | succ k ih =>
    intro j M0 M hj hM
    obtain ⟨M,rfl⟩:∃ G,M=G+1:=⟨M-1,by omega⟩
    have d:decide ((By i B F++(List.range j).map (F i)).length+1≤Hv)=true:=by
      refine Aho ?_
      have:=Nat.mul_le_mul (show i≤6 by omega) hB
      rw [List.length_append,Bq,List.length_map,List.length_range]; unfold Hv; omega
    rw [Aa.of.Part.Ca,Aq,Aho (by omega),Ahn,hp j (by omega),Ahn,d,Ahn,Ak (by omega) (by omega),← hF i j]
    have:=ih (j+1) M0 M (by omega) (by omega)
    rw [Gg,← List.append_assoc] at this
    exact this
theorem of.Part.outer (N:Nat) (r c:Int) (l:List Int) (x y:Int) {A B:Nat} (hA:A≤6) (hB:B≤6) (hN:6<N) {F:Nat→Nat→Int} (hF:∀ i j:Nat,F i j=Dr c l (x+(i:Int)) (y+(j:Int))) (hp:∀ i j:Nat,i<A→j<B→(Cx r c l (x+(i:Int)) (y+(j:Int))&&Pm x y (i:Int) (j:Int))=true):∀ (k i M:Nat),i+k=A→k<M →
    Aa.of.Part.L0 N M (A:Int) (B:Int) r c l x y (i:Int) (By i B F)=some (.agg [.int .i64 (A:Int),.int .i64 (B:Int),.ints (.own 108002 tB) .u64 (By A B F)]):=by
  intro k
  induction k with
  | zero =>
    intro i M hi hM
    obtain ⟨M,rfl⟩:∃ G,M=G+1:=⟨M-1,by omega⟩
    obtain rfl:i=A:=by omega
    rw [Aa.of.Part.As,Aq,Ahs (by omega),Ahr]
  | succ k ih =>
    intro i M hi hM
    obtain ⟨M,rfl⟩:∃ G,M=G+1:=⟨M-1,by omega⟩
    have n:=of.Part.inner N r c l x y hA hB hF (show i<A by omega) (fun j hj=>hp i j (by omega) hj) B 0 M N (by omega) (by omega)
    rw [List.range_zero,List.map_nil,List.append_nil] at n
    rw [Aa.of.Part.As,Aq,Aho (by omega),Ahn]
    exact n.trans (ih (i+1) M (by omega) (by omega))
theorem Aa.of.Part.known:Aa.of.Part.Kn:=Aa.of.Part.Ae (.cons Aa.D7.known .nil) fun a b r c l x y hp=>by
  obtain ⟨h12,hy⟩:=Ad.1 (show (((A7 a&&A7 b)&&Aw r c l)&&Lb r c x y a b)=true from hp)
  obtain ⟨h1,hx⟩:=Ad.1 h12
  have h2:=Ad.2 ⟨hx,hy⟩
  obtain ⟨ha,hb⟩:=Ad.1 h1
  obtain ⟨A,rfl,hA⟩:=Ex ha
  obtain ⟨B,rfl,hB⟩:=Ex hb
  obtain ⟨hr,he⟩:=Ad.1 h2
  have he:=of_decide_eq_true he
  have hs:=F5.1 hr
  have hp:∀ i j:Nat,i<A→j<B→(Cx r c l (x+(i:Int)) (y+(j:Int))&&Pm x y (i:Int) (j:Int))=true:=fun i j hi hj =>
    Ad.2 ⟨G1 hr (by omega) (by omega) (by omega) (by omega) r,Ar.2 (by omega)⟩
  refine ⟨8,.agg [.int .i64 (A:Int),.int .i64 (B:Int),.ints (.own 108002 tB) .u64 (By A B fun (i j:Nat)=>Dr c l (x+(i:Int)) (y+(j:Int)))],[108002],?_,Wk.Hr (.cons .int (.cons .int (.cons (.drop _ _ _ _ (List.mem_singleton.2 rfl)) .nil)))⟩
  rw [Aa.of.Part.ev]
  have n:=of.Part.outer 8 r c l x y hA hB (by omega) (F:=fun (i j:Nat)=>Dr c l (x+(i:Int)) (y+(j:Int))) (fun _ _=>rfl) hp A 0 8 (by omega) (by omega)
  rw [Hn] at n
  exact n
theorem of.Stack.inner (N:Nat) (r c:Int) (l:List Int) (p q:Int) (m:List Int) {A B:Nat} (hA:A≤6) (hB:B≤6) {F:Nat→Nat→Int} (hF:∀ i j:Nat,F i j=G3 r c l q m (i:Int) (j:Int)) {i:Nat} (hi:i<A) (hp:∀ j:Nat,j<B→I3 r c l p q m (i:Int) (j:Int)=true):∀ (k j M0 M:Nat),j+k=B→k<M →
    Aa.of.Stack.L1 N M0 M (A:Int) (B:Int) r c l p q m (i:Int) (i:Int) (j:Int) (By i B F++(List.range j).map (F i))=Aa.of.Stack.L0 N M0 (A:Int) (B:Int) r c l p q m ((i+1:Nat):Int) (By (i+1) B F):=by
  intro k
  induction k with
  | zero =>
    intro j M0 M hj hM
    obtain ⟨M,rfl⟩:∃ G,M=G+1:=⟨M-1,by omega⟩
    obtain rfl:j=B:=by omega
    rw [Aa.of.Stack.Ca,Aq,Ahs (by omega),Ahr,Ak (by omega) (by omega),← Ho]
    rfl
  | succ k ih =>
    intro j M0 M hj hM
    obtain ⟨M,rfl⟩:∃ G,M=G+1:=⟨M-1,by omega⟩
    have d:decide ((By i B F++(List.range j).map (F i)).length+1≤Hv)=true:=by
      refine Aho ?_
      have:=Nat.mul_le_mul (show i≤6 by omega) hB
      rw [List.length_append,Bq,List.length_map,List.length_range]; unfold Hv; omega
    rw [Aa.of.Stack.Ca,Aq,Aho (by omega),Ahn,hp j (by omega),Ahn,d,Ahn,Ak (by omega) (by omega),← hF i j]
    have:=ih (j+1) M0 M (by omega) (by omega)
    rw [Gg,← List.append_assoc] at this
    exact this
theorem of.Stack.outer (N:Nat) (r c:Int) (l:List Int) (p q:Int) (m:List Int) {A B:Nat} (hA:A≤6) (hB:B≤6) (hN:6<N) {F:Nat→Nat→Int} (hF:∀ i j:Nat,F i j=G3 r c l q m (i:Int) (j:Int)) (hp:∀ i j:Nat,i<A→j<B→I3 r c l p q m (i:Int) (j:Int)=true):∀ (k i M:Nat),i+k=A→k<M →
    Aa.of.Stack.L0 N M (A:Int) (B:Int) r c l p q m (i:Int) (By i B F)=some (.agg [.int .i64 (A:Int),.int .i64 (B:Int),.ints (.own 108002 tB) .u64 (By A B F)]):=by
  intro k
  induction k with
  | zero =>
    intro i M hi hM
    obtain ⟨M,rfl⟩:∃ G,M=G+1:=⟨M-1,by omega⟩
    obtain rfl:i=A:=by omega
    rw [Aa.of.Stack.As,Aq,Ahs (by omega),Ahr]
  | succ k ih =>
    intro i M hi hM
    obtain ⟨M,rfl⟩:∃ G,M=G+1:=⟨M-1,by omega⟩
    have n:=of.Stack.inner N r c l p q m hA hB hF (show i<A by omega) (fun j hj=>hp i j (by omega) hj) B 0 M N (by omega) (by omega)
    rw [List.range_zero,List.map_nil,List.append_nil] at n
    rw [Aa.of.Stack.As,Aq,Aho (by omega),Ahn]
    exact n.trans (ih (i+1) M (by omega) (by omega))
theorem Aa.of.Stack.known:Aa.of.Stack.Kn:=Aa.of.Stack.Ae (.cons Aa.Db.known .nil) fun a b r c l p q m hp=>by
  obtain ⟨h12,hy⟩:=Ad.1 (show (((A7 a&&A7 b)&&(Aw r c l&&Aw p q m))&&decide (a=r+p∧b=c∧q=c))=true from hp)
  obtain ⟨h1,hx⟩:=Ad.1 h12
  have h2:=Ad.2 ⟨hx,hy⟩
  obtain ⟨ha,hb⟩:=Ad.1 h1
  obtain ⟨A,rfl,hA⟩:=Ex ha
  obtain ⟨B,rfl,hB⟩:=Ex hb
  obtain ⟨h3,he⟩:=Ad.1 h2
  obtain ⟨hr,hm⟩:=Ad.1 h3
  obtain ⟨e1,e2,e3⟩:=of_decide_eq_true he
  have hs:=F5.1 hr
  have hp:∀ i j:Nat,i<A→j<B→I3 r c l p q m (i:Int) (j:Int)=true:=fun i j hi hj=>by
    refine Ar.2 ⟨by omega,by omega,by omega,by omega,?_⟩
    by_cases h:(i:Int)<r
    · rw [if_pos h]; exact G1 hr (by omega) (by omega) (by omega) (by omega) r
    · rw [if_neg h]; exact G1 hm (by omega) (by omega) (by omega) (by omega) p
  refine ⟨8,.agg [.int .i64 (A:Int),.int .i64 (B:Int),.ints (.own 108002 tB) .u64 (By A B fun (i j:Nat)=>G3 r c l q m (i:Int) (j:Int))],[108002],?_,Wk.Hr (.cons .int (.cons .int (.cons (.drop _ _ _ _ (List.mem_singleton.2 rfl)) .nil)))⟩
  rw [Aa.of.Stack.ev]
  have n:=of.Stack.outer 8 r c l p q m hA hB (by omega) (F:=fun (i j:Nat)=>G3 r c l q m (i:Int) (j:Int)) (fun _ _=>rfl) hp A 0 8 (by omega) (by omega)
  rw [Hn] at n
  exact n
theorem of.Mul.inner (N:Nat) (r c:Int) (l:List Int) (p q:Int) (m:List Int) {A B:Nat} (hA:A≤6) (hB:B≤6) {F:Nat→Nat→Int} (hF:∀ i j:Nat,F i j=M3 (Jw c l (i:Int)) (N1 p q m (j:Int))) {i:Nat} (hi:i<A) (hp:∀ j:Nat,j<B→Nt r c l p q m (i:Int) (j:Int)=true):∀ (k j M0 M:Nat),j+k=B→k<M →
    Aa.of.Mul.L1 N M0 M (A:Int) (B:Int) r c l p q m (i:Int) (i:Int) (j:Int) (By i B F++(List.range j).map (F i))=Aa.of.Mul.L0 N M0 (A:Int) (B:Int) r c l p q m ((i+1:Nat):Int) (By (i+1) B F):=by
  intro k
  induction k with
  | zero =>
    intro j M0 M hj hM
    obtain ⟨M,rfl⟩:∃ G,M=G+1:=⟨M-1,by omega⟩
    obtain rfl:j=B:=by omega
    rw [Aa.of.Mul.Ca,Aq,Ahs (by omega),Ahr,Ak (by omega) (by omega),← Ho]
    rfl
  | succ k ih =>
    intro j M0 M hj hM
    obtain ⟨M,rfl⟩:∃ G,M=G+1:=⟨M-1,by omega⟩
    have d:decide ((By i B F++(List.range j).map (F i)).length+1≤Hv)=true:=by
      refine Aho ?_
      have:=Nat.mul_le_mul (show i≤6 by omega) hB
      rw [List.length_append,Bq,List.length_map,List.length_range]; unfold Hv; omega
    rw [Aa.of.Mul.Ca,Aq,Aho (by omega),Ahn,hp j (by omega),Ahn,d,Ahn,Ak (by omega) (by omega),← hF i j]
    have:=ih (j+1) M0 M (by omega) (by omega)
    rw [Gg,← List.append_assoc] at this
    exact this
theorem of.Mul.outer (N:Nat) (r c:Int) (l:List Int) (p q:Int) (m:List Int) {A B:Nat} (hA:A≤6) (hB:B≤6) (hN:6<N) {F:Nat→Nat→Int} (hF:∀ i j:Nat,F i j=M3 (Jw c l (i:Int)) (N1 p q m (j:Int))) (hp:∀ i j:Nat,i<A→j<B→Nt r c l p q m (i:Int) (j:Int)=true):∀ (k i M:Nat),i+k=A→k<M →
    Aa.of.Mul.L0 N M (A:Int) (B:Int) r c l p q m (i:Int) (By i B F)=some (.agg [.int .i64 (A:Int),.int .i64 (B:Int),.ints (.own 108002 tB) .u64 (By A B F)]):=by
  intro k
  induction k with
  | zero =>
    intro i M hi hM
    obtain ⟨M,rfl⟩:∃ G,M=G+1:=⟨M-1,by omega⟩
    obtain rfl:i=A:=by omega
    rw [Aa.of.Mul.As,Aq,Ahs (by omega),Ahr]
  | succ k ih =>
    intro i M hi hM
    obtain ⟨M,rfl⟩:∃ G,M=G+1:=⟨M-1,by omega⟩
    have n:=of.Mul.inner N r c l p q m hA hB hF (show i<A by omega) (fun j hj=>hp i j (by omega) hj) B 0 M N (by omega) (by omega)
    rw [List.range_zero,List.map_nil,List.append_nil] at n
    rw [Aa.of.Mul.As,Aq,Aho (by omega),Ahn]
    exact n.trans (ih (i+1) M (by omega) (by omega))
theorem Aa.of.Mul.known:Aa.of.Mul.Kn:=Aa.of.Mul.Ae (.cons Aa.Fv.known .nil) fun a b r c l p q m hp=>by
  obtain ⟨h12,hy⟩:=Ad.1 (show (((A7 a&&A7 b)&&((Aw r c l&&Aw p q m)&&(Af l&&Af m)))&&decide (a=r∧b=q∧c=p))=true from hp)
  obtain ⟨h1,hx⟩:=Ad.1 h12
  have h2:=Ad.2 ⟨hx,hy⟩
  obtain ⟨ha,hb⟩:=Ad.1 h1
  obtain ⟨A,rfl,hA⟩:=Ex ha
  obtain ⟨B,rfl,hB⟩:=Ex hb
  obtain ⟨h3,he⟩:=Ad.1 h2
  obtain ⟨h4,h5⟩:=Ad.1 h3
  obtain ⟨hr,hm⟩:=Ad.1 h4
  obtain ⟨e1,e2,e3⟩:=of_decide_eq_true he
  have hp:∀ i j:Nat,i<A→j<B→Nt r c l p q m (i:Int) (j:Int)=true:=fun i j hi hj =>
    Ad.2 ⟨Ad.2 ⟨Ad.2 ⟨hr,Ar.2 (by omega)⟩,Ad.2 ⟨hm,Ar.2 (by omega)⟩⟩,Ad.2 ⟨h5,Ar.2 e3⟩⟩
  refine ⟨8,.agg [.int .i64 (A:Int),.int .i64 (B:Int),.ints (.own 108002 tB) .u64 (By A B fun (i j:Nat)=>M3 (Jw c l (i:Int)) (N1 p q m (j:Int)))],[108002],?_,Wk.Hr (.cons .int (.cons .int (.cons (.drop _ _ _ _ (List.mem_singleton.2 rfl)) .nil)))⟩
  rw [Aa.of.Mul.ev]
  have n:=of.Mul.outer 8 r c l p q m hA hB (by omega) (F:=fun (i j:Nat)=>M3 (Jw c l (i:Int)) (N1 p q m (j:Int))) (fun _ _=>rfl) hp A 0 8 (by omega) (by omega)
  rw [Hn] at n
  exact n
open EqOf
def Nq (x:MX):DV:=.tup [.agg [.int .i64 x.1,.int .i64 x.2.1,.ints .fresh .u64 x.2.2.1],.int .i64 x.2.2.2]
def Yh (e:Int):DV:=.tup [.agg [.int .i64 0,.int .i64 0,.nil],.int .i64 e]
theorem Jt {drops:List Nat} {x:MX}:Wk drops (Nq x) (Nq x) :=
  Wk.Fl (.cons (Wk.Hr (.cons .int (.cons .int (.cons .Ly .nil)))) (.cons .int .nil))
theorem Ge {drops:List Nat} {e:Int}:Wk drops (Yh e) (Nq (Hc e)) :=
  Wk.Fl (.cons (Wk.Hr (.cons .int (.cons .int (.cons (.nil _ _) .nil)))) (.cons .int .nil))
theorem Aa.Fz.known:Aa.Fz.Kn:=Aa.Fz.Ae (.cons Aa.of.Fz.known (.cons Aa.size.known .nil)) fun n _=>by
  show ∃ N dv drops,_=some dv∧Wk drops dv (Nq (Ja n))
  unfold Ja
  by_cases h:A7 n=true
  · rw [if_pos h]
    exact ⟨0,_,[],by rw [Aa.Fz.ev,h]; rfl,Jt⟩
  · have e:A7 n=false:=by simpa using h
    rw [if_neg h]
    exact ⟨0,_,[],by rw [Aa.Fz.ev,e]; rfl,Ge⟩
theorem Ec {r c:Int} {l:List Int} (h:Aw r c l=true):A7 r=true∧A7 c=true:=by
  obtain ⟨h1,h2,_⟩:=F5.1 h
  exact ⟨F0.2 h1,F0.2 h2⟩
theorem Aa.Cl.known:Aa.Cl.Kn:=Aa.Cl.Ae (.cons Aa.Check.known (.cons Aa.of.Cl.known .nil)) fun r c l _=>by
  show ∃ N dv drops,_=some dv∧Wk drops dv (Nq (Bw r c l))
  unfold Bw
  by_cases h:Aw r c l=true
  · obtain ⟨h1,h2⟩:=Ec h
    rw [if_pos h]
    exact ⟨0,_,[],by rw [Aa.Cl.ev,N2,h,h1,h2,Aho ⟨rfl,rfl⟩]; rfl,Jt⟩
  · have e:Aw r c l=false:=by simpa using h
    have ec:Hp r c l=1:=by unfold Hp; rw [e]; rfl
    rw [if_neg h]
    exact ⟨0,_,[],by rw [Aa.Cl.ev,N2,e,ec]; rfl,Ge⟩
theorem Tl {r c x y a b:Int} (hr:0≤r∧r≤6) (hc:0≤c∧c≤6) :
    ((((((((Au x (0:Int))||(Au y (0:Int)))||(Au a (0:Int)))||(Au b (0:Int)))||(Au r x))||(Au c y))||(Au (Ab (r-x)) a))||(Au (Ab (c-y)) b))=!(Lb r c x y a b):=by
  unfold Lb
  simp only [Aq]
  by_cases h:0≤x∧0≤y∧x≤r∧y≤c
  · rw [Ak (x:=r-x) (by omega) (by omega),Ak (x:=c-y) (by omega) (by omega),Ah3]
    simp only [Bool.or_eq_true,Ahu,Bool.not_eq_true',Ah6]
    omega
  · have e:decide (0≤x∧0≤y∧0≤a∧0≤b∧x≤r∧y≤c∧a≤r-x∧b≤c-y)=false:=Ahs (by omega)
    rw [e,Ah3]
    simp only [Bool.or_eq_true,Ahu,Bool.not_false,iff_true]
    omega
theorem Yc {r c x y a b:Int} {l:List Int} (h:Aw r c l=true) (hp:Lb r c x y a b=true):A7 a=true∧A7 b=true:=by
  obtain ⟨h1,h2,_⟩:=F5.1 h
  have:=of_decide_eq_true hp
  exact ⟨F0.2 (by omega),F0.2 (by omega)⟩
theorem Aa.Part.known:Aa.Part.Kn:=Aa.Part.Ae (.cons Aa.Check.known (.cons Aa.of.Part.known .nil)) fun r c l x y a b _=>by
  show ∃ N dv drops,_=some dv∧Wk drops dv (Nq (Es r c l x y a b))
  unfold Es
  by_cases h:Aw r c l=true
  · obtain ⟨h1,h2,_⟩:=F5.1 h
    by_cases hp:Lb r c x y a b=true
    · obtain ⟨s1,s2⟩:=Yc h hp
      rw [if_pos h,if_pos hp]
      exact ⟨0,_,[],by rw [Aa.Part.ev,N2,Tl h1 h2,h,hp,s1,s2]; rfl,Jt⟩
    · have e:Lb r c x y a b=false:=by simpa using hp
      rw [if_pos h,if_neg hp]
      exact ⟨0,_,[],by rw [Aa.Part.ev,N2,Tl h1 h2,h,e]; rfl,Ge⟩
  · have e:Aw r c l=false:=by simpa using h
    have ec:Hp r c l=1:=by unfold Hp; rw [e]; rfl
    rw [if_neg h]
    exact ⟨0,_,[],by rw [Aa.Part.ev,N2,e,ec]; rfl,Ge⟩
theorem Km (r c:Int) (l:List Int) (p q:Int) (m:List Int):((Pg r c l p q m) !=(0:Int))=!(Aw r c l&&Aw p q m):=by
  unfold Pg
  cases Aw r c l&&Aw p q m<;>rfl
theorem Xz {r c:Int} {l:List Int} {p q:Int} {m:List Int} (h:(Aw r c l&&Aw p q m)=false):Pg r c l p q m=1:=by
  unfold Pg; rw [h]; rfl
theorem Aa.Mul.known:Aa.Mul.Kn:=Aa.Mul.Ae (.cons Aa.of.Mul.known (.cons Aa.two.known .nil)) fun r c l p q m hp=>by
  show ∃ N dv drops,_=some dv∧Wk drops dv (Nq (Dx r c l p q m))
  unfold Dx
  have hp:(Af l&&Af m)=true:=hp
  by_cases h:(Aw r c l&&Aw p q m)=true
  · obtain ⟨h1,h2⟩:=Ad.1 h
    by_cases hc:c=p
    · have e:(c !=p)=false:=by rw [hc]; simp
      rw [if_pos h,if_pos hc]
      exact ⟨0,_,[],by rw [Aa.Mul.ev,Km,h,e,(Ec h1).1,(Ec h2).2,hp,Aho ⟨rfl,rfl,hc⟩]; rfl,Jt⟩
    · have e:(c !=p)=true:=by simpa using hc
      rw [if_pos h,if_neg hc]
      exact ⟨0,_,[],by rw [Aa.Mul.ev,Km,h,e]; rfl,Ge⟩
  · have e:(Aw r c l&&Aw p q m)=false:=by simpa using h
    rw [if_neg h]
    exact ⟨0,_,[],by rw [Aa.Mul.ev,Km,e,Xz e]; rfl,Ge⟩
theorem Aa.Stack.known:Aa.Stack.Kn:=Aa.Stack.Ae (.cons Aa.of.Stack.known (.cons Aa.two.known .nil)) fun r c l p q m _=>by
  show ∃ N dv drops,_=some dv∧Wk drops dv (Nq (Bi r c l p q m))
  unfold Bi
  by_cases h:(Aw r c l&&Aw p q m)=true
  · obtain ⟨h1,h2⟩:=Ad.1 h
    obtain ⟨r1,c1,_⟩:=F5.1 h1
    obtain ⟨p1,q1,_⟩:=F5.1 h2
    have ew:Ab (r+p)=r+p:=Ak (by omega) (by omega)
    by_cases hc:c=q∧r+p≤6
    · have e:((c !=q)||(Au (6:Int) (r+p)))=false:=by rw [Aq,hc.1]; simp; omega
      rw [if_pos h,if_pos hc]
      exact ⟨0,_,[],by rw [Aa.Stack.ev,ew,Km,h,e,(Ec h1).2,F0.2 (show 0≤r+p∧r+p≤6 by omega),Aho ⟨rfl,rfl,hc.1.symm⟩]; rfl,Jt⟩
    · have e:((c !=q)||(Au (6:Int) (r+p)))=true:=by rw [Aq]; simp; omega
      rw [if_pos h,if_neg hc]
      exact ⟨0,_,[],by rw [Aa.Stack.ev,ew,Km,h,e]; rfl,Ge⟩
  · have e:(Aw r c l&&Aw p q m)=false:=by simpa using h
    rw [if_neg h]
    exact ⟨0,_,[],by rw [Aa.Stack.ev,Km,e,Xz e]; rfl,Ge⟩
namespace EqRef10
def Fo.Fu.A8:List (Nat × Entry):=[]
def Fo.Fu.E:Env:=Ba (A6 Fo.Fu.A8) (fun _=>false) (fun _=>none) (fun _=>none)
theorem Fo.Fu.ev (N:Nat) (r c:Int) (l:List Int):Bo Fo.Fu.E N Try.f14 (An Try.f14) [.agg [.int .i64 r,.int .i64 c,.ints .arg .u64 l]]=some (.bool (bif (bif (bif (bif (Dt 0 r) then (Dt r 6) else false) then (Dt 0 c) else false) then (Dt c 6) else false) then ((List.length l:Int)==(Ab (r*c))) else false)) :=
  Eq.trans (by kernel_rfl)
  (Am (Su (Dt 0 r)) (Am (Qz (Dt 0 r)) (Am (Qz (Dt 0 r)) (Am (Vw (Dt 0 r)) (Am (tt77 (Dt 0 r) (Dt r 6)) (Am (Aco (Dt 0 r) (Dt r 6)) (Am (Aco (Dt 0 r) (Dt r 6)) (Am (tt75 (Dt 0 r) (Dt r 6)) (Am (tt74 (Dt 0 r) (Dt r 6) (Dt 0 c)) (Am (tt73 (Dt 0 r) (Dt r 6) (Dt 0 c)) (Am (tt73 (Dt 0 r) (Dt r 6) (Dt 0 c)) (Am (tt72 (Dt 0 r) (Dt r 6) (Dt 0 c)) (Am (tt71 (Dt 0 r) (Dt r 6) (Dt 0 c) (Dt c 6)) (Am (Afm (Dt 0 r) (Dt r 6) (Dt 0 c) (Dt c 6)) (Am (Afm (Dt 0 r) (Dt r 6) (Dt 0 c) (Dt c 6)) (Am (tt71 (Dt 0 r) (Dt r 6) (Dt 0 c) (Dt c 6)) (Am (Afm (Dt 0 r) (Dt r 6) (Dt 0 c) (Dt c 6)) (Am (tt71 (Dt 0 r) (Dt r 6) (Dt 0 c) (Dt c 6)) (Am (Afm (Dt 0 r) (Dt r 6) (Dt 0 c) (Dt c 6)) (Am (tt69 (Dt 0 r) (Dt r 6) (Dt 0 c) (Dt c 6)) (Am (tt69 (Dt 0 r) (Dt r 6) (Dt 0 c) (Dt c 6)) (Am (tt68 (Dt 0 r) (Dt r 6) (Dt 0 c) (Dt c 6)) rfl))))))))))))))))))))))
abbrev _root_.Go.Proofs.S1.Fo.Fu.Kn:=A4 Try.prog 14 Fo.Fu.spec
theorem Fo.Fu.Ae (hk:Av Try.prog Fo.Fu.A8) (h:∀ (r c:Int) (l:List Int),Fo.Fu.pre [.i r,.i c,.l l]=true→Bd Fo.Fu.E Try.f14 [.agg [.int .i64 r,.int .i64 c,.ints .arg .u64 l]] (Fo.Fu.out [.i r,.i c,.l l])):Fo.Fu.Kn :=
  Aj (Ax hk _ _ _) Try.func14 (by kernel_rfl) (by kernel_rfl) h
end EqRef10
open EqRef10
theorem Fo.Fu.known:Fo.Fu.Kn:=Fo.Fu.Ae .nil fun r c l _=>by
  refine ⟨0,Fo.Fu.out [.i r,.i c,.l l],[],?_,.bool⟩
  have e:(bif (bif (bif (bif (Dt (0:Int) r) then (Dt r (6:Int)) else false) then (Dt (0:Int) c) else false) then (Dt c (6:Int)) else false) then ((List.length l:Int)==(Ab (r*c))) else false)=Aw r c l:=by
    have:=Xl r c l
    have h:(bif (bif (bif (bif (Dt (0:Int) r) then (Dt r (6:Int)) else false) then (Dt (0:Int) c) else false) then (Dt c (6:Int)) else false) then ((List.length l:Int)==(Ab (r*c))) else false)=!(((!(A7 r))||(!(A7 c)))||((List.length l:Int) !=(Ab (r*c)))):=by
      unfold A7 bne
      rw [F2,F2,F2,F2]
      cases decide (0≤r)<;>cases decide (r≤6)<;>cases decide (0≤c)<;>cases decide (c≤6)<;>cases ((List.length l:Int)==(Ab (r*c)))<;>rfl
    rw [h,this,Bool.not_not]
  rw [Fo.Fu.ev,e]; rfl
theorem Xv {drops:List Nat} {i:Nat} {e:TypeId} {a b:Int} {l:List Int} (h:i∈drops):Wk drops (.agg [.int .i64 a,.int .i64 b,.ints (.own i e) .u64 l]) (.agg [.int .i64 a,.int .i64 b,.ints .fresh .u64 l]) :=
  Wk.Hr (.cons .int (.cons .int (.cons (.drop _ _ _ _ h) .nil)))
theorem Xj {r c i k:Nat} (hk:k<c) {d d':Nat→Nat→Bool} {f:Nat→Nat→Int} {x:Int} (hx:x=f i k)
    (h:∀ a b,a<r→b<c→(d' a b=true↔d a b=true∨(a=i∧b=k))) :
    List.set (By r c fun a b=>if d a b=true then f a b else 0) (Int.toNat ((i:Int)*(c:Int)+(k:Int))) x=By r c fun a b=>if d' a b=true then f a b else 0:=by
  have e:((i:Int)*(c:Int)+(k:Int)).toNat=i*c+k:=by rw [← Ah8,← Int.natCast_add,Ahp]
  rw [e,O4 hk]
  refine C1 fun a b ha hb=>?_
  have h:=h a b ha hb
  by_cases hab:a=i∧b=k
  · rw [if_pos hab,if_pos (h.2 (.inr hab)),hx,hab.1,hab.2]
  · rw [if_neg hab]
    by_cases hd:d a b=true
    · rw [if_pos hd,if_pos (h.2 (.inl hd))]
    · rw [if_neg hd,if_neg (fun k=>(h.1 k).elim hd hab)]
open EqRef10
namespace EqHouse
def Ai.B8.hint:Nat→Option A0
  | 0=>some { keep:=[5,6,7],objs:=[],boxes:=[] }
  | _=>none
def Ai.B8.A8:List (Nat × Entry):=[(24,soft.Kind.spec)]
def Ai.B8.E:Env:=Ba (A6 Ai.B8.A8) (fun _=>false) Ai.B8.hint (fun _=>none)
def Ai.B8.L0 (N M:Nat) (x:List Int) (p7:Int):Option DV:=B3 Ai.B8.E N Try.f74 (An Try.f74) [1,0,1,0] [] M ⟨Gy 15 [(5,.ints .arg .u64 x),(6,.int .i64 (List.length x:Int)),(7,.int .i64 p7)],[]⟩
theorem Ai.B8.As (N M:Nat) (x:List Int) (p7:Int):Ai.B8.L0 N (M+1) x p7=bif (Au p7 (List.length x:Int)) then bif ((decide (0≤p7))&&(decide (p7<(List.length x:Int)))) then bif (Ag (List.getD x (Int.toNat p7) 0)) then bif ((Az (List.getD x (Int.toNat p7) 0)) !=(0:Int)) then some (.bool false) else Ai.B8.L0 N M x (Ab (p7+1)) else none else none else some (.bool true):=by kernel_rfl
theorem Ai.B8.ev (N:Nat) (x:List Int):Bo Ai.B8.E N Try.f74 (An Try.f74) [.ints .arg .u64 x] =
  Ai.B8.L0 N N x 0:=by kernel_rfl
abbrev _root_.Go.Proofs.S1.Ai.B8.Kn:=A4 Try.prog 74 Ai.B8.spec
theorem Ai.B8.Ae (hk:Av Try.prog Ai.B8.A8) (h:∀ (x:List Int),Ai.B8.pre [.l x]=true→Bd Ai.B8.E Try.f74 [.ints .arg .u64 x] (Ai.B8.out [.l x])):Ai.B8.Kn :=
  Aj (Ax hk _ _ _) Try.func74 (by kernel_rfl) (by kernel_rfl) h
def Ai.lead.hint:Nat→Option A0
  | 0=>some { keep:=[5,6,7],objs:=[],boxes:=[] }
  | _=>none
def Ai.lead.A8:List (Nat × Entry):=[(24,soft.Kind.spec)]
def Ai.lead.E:Env:=Ba (A6 Ai.lead.A8) (fun _=>false) Ai.lead.hint (fun _=>none)
def Ai.lead.L0 (N M:Nat) (x:List Int) (p7:Int):Option DV:=B3 Ai.lead.E N Try.f81 (An Try.f81) [1,0,1,0] [] M ⟨Gy 16 [(5,.ints .arg .u64 x),(6,.int .i64 (List.length x:Int)),(7,.int .i64 p7)],[]⟩
theorem Ai.lead.As (N M:Nat) (x:List Int) (p7:Int):Ai.lead.L0 N (M+1) x p7=bif (Au p7 (List.length x:Int)) then bif ((decide (0≤p7))&&(decide (p7<(List.length x:Int)))) then bif (Ag (List.getD x (Int.toNat p7) 0)) then bif ((Az (List.getD x (Int.toNat p7) 0)) !=(0:Int)) then some (.int .u64 (List.getD x (Int.toNat p7) 0)) else Ai.lead.L0 N M x (Ab (p7+1)) else none else none else some (.int .u64 0):=by kernel_rfl
theorem Ai.lead.ev (N:Nat) (x:List Int):Bo Ai.lead.E N Try.f81 (An Try.f81) [.ints .arg .u64 x] =
  Ai.lead.L0 N N x 0:=by kernel_rfl
abbrev _root_.Go.Proofs.S1.Ai.lead.Kn:=A4 Try.prog 81 Ai.lead.spec
theorem Ai.lead.Ae (hk:Av Try.prog Ai.lead.A8) (h:∀ (x:List Int),Ai.lead.pre [.l x]=true→Bd Ai.lead.E Try.f81 [.ints .arg .u64 x] (Ai.lead.out [.l x])):Ai.lead.Kn :=
  Aj (Ax hk _ _ _) Try.func81 (by kernel_rfl) (by kernel_rfl) h
def Ai.Cb.hint:Nat→Option A0
  | 0=>some { keep:=[1,5,8,9,10],objs:=[(0,5,100005,.ints 41 .u64 [])],boxes:=[] }
  | _=>none
def Ai.Cb.A8:List (Nat × Entry):=[(52,Ac.Eu.spec)]
def Ai.Cb.E:Env:=Ba (A6 Ai.Cb.A8) (fun _=>false) Ai.Cb.hint (fun _=>none)
def Ai.Cb.L0 (N M:Nat) (x:List Int) (k p10:Int) (p5:List Int):Option DV:=B3 Ai.Cb.E N Try.f78 (An Try.f78) [1,1,0,1,0] [] M ⟨Gy 22 [(1,.int .i64 k),(5,.oref 100005),(8,.ints .arg .u64 x),(9,.int .i64 (List.length x:Int)),(10,.int .i64 p10)],[(100005,false,.ints 41 .u64 p5)]⟩
theorem Ai.Cb.As (N M:Nat) (x:List Int) (k p10:Int) (p5:List Int):Ai.Cb.L0 N (M+1) x k p10 p5=bif (Au p10 (List.length x:Int)) then bif ((decide (0≤p10))&&(decide (p10<(List.length x:Int)))) then bif (Dy (List.getD x (Int.toNat p10) 0) k) then bif (decide ((List.length p5)+1≤Hv)) then Ai.Cb.L0 N M x k (Ab (p10+1)) (p5++[(Bt (List.getD x (Int.toNat p10) 0) k)]) else none else none else none else some (.ints (.own 100005 41) .u64 p5):=by kernel_rfl
theorem Ai.Cb.ev (N:Nat) (x:List Int) (k:Int):Bo Ai.Cb.E N Try.f78 (An Try.f78) [.ints .arg .u64 x,.int .i64 k] =
  Ai.Cb.L0 N N x k 0 []:=by kernel_rfl
abbrev _root_.Go.Proofs.S1.Ai.Cb.Kn:=A4 Try.prog 78 Ai.Cb.spec
theorem Ai.Cb.Ae (hk:Av Try.prog Ai.Cb.A8) (h:∀ (x:List Int) (k:Int),Ai.Cb.pre [.l x,.i k]=true→Bd Ai.Cb.E Try.f78 [.ints .arg .u64 x,.int .i64 k] (Ai.Cb.out [.l x,.i k])):Ai.Cb.Kn :=
  Aj (Ax hk _ _ _) Try.func78 (by kernel_rfl) (by kernel_rfl) h
def Ai.D9.A8:List (Nat × Entry):=[]
def Ai.D9.E:Env:=Ba (A6 Ai.D9.A8) (fun _=>false) (fun _=>none) (fun _=>none)
theorem Ai.D9.ev (N:Nat) (i:Int):Bo Ai.D9.E N Try.f76 (An Try.f76) [.int .i64 i]=some (.int .u64 0):=by kernel_rfl
abbrev _root_.Go.Proofs.S1.Ai.D9.Kn:=A4 Try.prog 76 Ai.D9.spec
theorem Ai.D9.Ae (hk:Av Try.prog Ai.D9.A8) (h:∀ (i:Int),Ai.D9.pre [.i i]=true→Bd Ai.D9.E Try.f76 [.int .i64 i] (Ai.D9.out [.i i])):Ai.D9.Kn :=
  Aj (Ax hk _ _ _) Try.func76 (by kernel_rfl) (by kernel_rfl) h
def Ai.D8.A8:List (Nat × Entry):=[(70,Ac.Div.spec)]
def Ai.D8.E:Env:=Ba (A6 Ai.D8.A8) (fun _=>false) (fun _=>none) (fun _=>none)
theorem Ai.D8.ev (N:Nat) (i:Int) (y:List Int) (d:Int):Bo Ai.D8.E N Try.f82 (An Try.f82) [.int .i64 i,.cellp [.ints .arg .u64 y],.cellp [.int .u64 d]]=bif ((decide (0≤i))&&(decide (i<(List.length y:Int)))) then bif (Ag (List.getD y (Int.toNat i) 0)&&Ag d) then some (.int .u64 (Em (List.getD y (Int.toNat i) 0) d)) else none else none :=
  Eq.trans (by kernel_rfl)
  (Dp (Nk (decide (0≤i)) (decide (i<(List.length y:Int)))) (Dp (Eh (Ag (List.getD y (Int.toNat i) 0)&&Ag d)) rfl rfl) rfl)
abbrev _root_.Go.Proofs.S1.Ai.D8.Kn:=A4 Try.prog 82 Ai.D8.spec
theorem Ai.D8.Ae (hk:Av Try.prog Ai.D8.A8) (h:∀ (i:Int) (y:List Int) (d:Int),Ai.D8.pre [.i i,.l y,.i d]=true→Bd Ai.D8.E Try.f82 [.int .i64 i,.cellp [.ints .arg .u64 y],.cellp [.int .u64 d]] (Ai.D8.out [.i i,.l y,.i d])):Ai.D8.Kn :=
  Aj (Ax hk _ _ _) Try.func82 (by kernel_rfl) (by kernel_rfl) h
def Ai.row.Zero.hint:Nat→Option A0
  | 0=>some { keep:=[0,1,5,6],objs:=[(0,5,100005,.ints 41 .u64 [])],boxes:=[] }
  | _=>none
def Ai.row.Zero.A8:List (Nat × Entry):=[(76,Ai.D9.spec)]
def Ai.row.Zero.E:Env:=Ba (A6 Ai.row.Zero.A8) (fun _=>false) Ai.row.Zero.hint (fun _=>none)
def Ai.row.Zero.L0 (N M:Nat) (n p6:Int) (p5:List Int):Option DV:=B3 Ai.row.Zero.E N Try.f75 (An Try.f75) [1,1,0,1,0] [] M ⟨Gy 23 [(0,.int .i64 n),(1,.fn 76 [] []),(5,.oref 100005),(6,.int .i64 p6)],[(100005,false,.ints 41 .u64 p5)]⟩
theorem Ai.row.Zero.As (N M:Nat) (n p6:Int) (p5:List Int):Ai.row.Zero.L0 N (M+1) n p6 p5=bif (Au p6 n) then bif (decide ((List.length p5)+1≤Hv)) then Ai.row.Zero.L0 N M n (Ab (p6+1)) (p5++[(0:Int)]) else none else bif (((decide ((0:Int)≤n))&&(decide (n≤n)))&&((decide ((0:Int)≤n))&&(decide (n≤(List.length p5:Int))))) then some (.ints .fresh .u64 (List.take (Int.toNat (n-0)) (List.drop 0 p5))) else none :=
  Eq.trans (by kernel_rfl)
  (Ew rfl (Dp (tt80 (decide ((0:Int)≤n)) (decide (n≤n)) (decide (n≤(List.length p5:Int)))) rfl rfl))
theorem Ai.row.Zero.ev (N:Nat) (n:Int):Bo Ai.row.Zero.E N Try.f75 (An Try.f75) [.int .i64 n,.fn 76 [] []] =
  Ai.row.Zero.L0 N N n 1 [(4607182418800017408:Int)]:=by kernel_rfl
abbrev _root_.Go.Proofs.S1.Ai.row.Zero.Kn:=A4 Try.prog 75 Ai.row.Zero.spec
theorem Ai.row.Zero.Ae (hk:Av Try.prog Ai.row.Zero.A8) (h:∀ (n:Int),Ai.row.Zero.pre [.i n]=true→Bd Ai.row.Zero.E Try.f75 [.int .i64 n,.fn 76 [] []] (Ai.row.Zero.out [.i n])):Ai.row.Zero.Kn :=
  Aj (Ax hk _ _ _) Try.func75 (by kernel_rfl) (by kernel_rfl) h
def Ai.row.Div.hint:Nat→Option A0
  | 0=>some { keep:=[0,1,5,6],objs:=[(0,5,100005,.ints 41 .u64 [])],boxes:=[] }
  | _=>none
def Ai.row.Div.A8:List (Nat × Entry):=[(82,Ai.D8.spec)]
def Ai.row.Div.E:Env:=Ba (A6 Ai.row.Div.A8) (fun _=>false) Ai.row.Div.hint (fun _=>none)
def Ai.row.Div.L0 (N M:Nat) (n:Int) (y:List Int) (d p6:Int) (p5:List Int):Option DV:=B3 Ai.row.Div.E N Try.f75 (An Try.f75) [1,1,0,1,0] [] M ⟨Gy 23 [(0,.int .i64 n),(1,.fn 82 [] [.cellp [.ints .arg .u64 y],.cellp [.int .u64 d]]),(5,.oref 100005),(6,.int .i64 p6)],[(100005,false,.ints 41 .u64 p5)]⟩
theorem Ai.row.Div.As (N M:Nat) (n:Int) (y:List Int) (d p6:Int) (p5:List Int):Ai.row.Div.L0 N (M+1) n y d p6 p5=bif (Au p6 n) then bif ((Dd (0≤p6∧p6<List.length y)&&Af y)&&Ag d) then bif (decide ((List.length p5)+1≤Hv)) then Ai.row.Div.L0 N M n y d (Ab (p6+1)) (p5++[(Em (List.getD y (Int.toNat p6) 0) d)]) else none else none else bif (((decide ((0:Int)≤n))&&(decide (n≤n)))&&((decide ((0:Int)≤n))&&(decide (n≤(List.length p5:Int))))) then some (.ints .fresh .u64 (List.take (Int.toNat (n-0)) (List.drop 0 p5))) else none :=
  Eq.trans (by kernel_rfl)
  (Ew rfl (Dp (tt80 (decide ((0:Int)≤n)) (decide (n≤n)) (decide (n≤(List.length p5:Int)))) rfl rfl))
theorem Ai.row.Div.ev (N:Nat) (n:Int) (y:List Int) (d:Int):Bo Ai.row.Div.E N Try.f75 (An Try.f75) [.int .i64 n,.fn 82 [] [.cellp [.ints .arg .u64 y],.cellp [.int .u64 d]]] =
  Ai.row.Div.L0 N N n y d 1 [(4607182418800017408:Int)]:=by kernel_rfl
abbrev _root_.Go.Proofs.S1.Ai.row.Div.Kn:=A4 Try.prog 75 Ai.row.Div.spec
theorem Ai.row.Div.Ae (hk:Av Try.prog Ai.row.Div.A8) (h:∀ (n:Int) (y:List Int) (d:Int),Ai.row.Div.pre [.i n,.l y,.i d]=true→Bd Ai.row.Div.E Try.f75 [.int .i64 n,.fn 82 [] [.cellp [.ints .arg .u64 y],.cellp [.int .u64 d]]] (Ai.row.Div.out [.i n,.l y,.i d])):Ai.row.Div.Kn :=
  Aj (Ax hk _ _ _) Try.func75 (by kernel_rfl) (by kernel_rfl) h
def Ai.Hs.A8:List (Nat × Entry):=[(77,compare.Qu.spec),(81,Ai.lead.spec),(74,Ai.B8.spec),(75,(altE [.i .i64,.fn 76 []] Ai.row.Zero.spec Ai.row.Div.spec)),(78,Ai.Cb.spec),(13,soft.Finite.spec),(73,soft.Ev.spec),(80,soft.Sign.spec),(53,Ac.Bz.spec),(70,Ac.Div.spec),(50,Ac.Finite.spec),(79,Ac.Norm.spec),(52,Ac.Eu.spec),(39,Ac.Sub.spec)]
def Ai.Hs.E:Env:=Ba (A6 Ai.Hs.A8) (fun _=>false) (fun _=>none) (fun _=>none)
theorem Ai.Hs.ev (N:Nat) (x:List Int):Bo Ai.Hs.E N Try.f65 (An Try.f65) [.ints .arg .u64 x]=bif (((List.length x:Int)==(0:Int))||(Au 64 (List.length x:Int))) then some (.tup [.nil,.int .u64 0,.int .u64 0,.int .i64 3]) else bif (Cs x) then bif (!(Ey x)) then some (.tup [.nil,.int .u64 0,.int .u64 0,.int .i64 4]) else bif (decide ((1:Int)≤(List.length x:Int))) then bif (Cs (List.drop 1 x)) then bif (H3 (List.drop 1 x)) then bif (Dd (1≤(List.length x:Int)∧(List.length x:Int)≤64)) then bif (decide ((0:Int)<(List.length x:Int))) then some (.tup [.ints .fresh .u64 (Hg (Int.toNat (List.length x:Int)) (fun _=>0)),.int .u64 0,.int .u64 (List.getD x 0 0),.int .i64 0]) else none else none else bif (Cs x) then bif (Ag (Bc x)) then bif (Cs x&&Dd (List.length x≤1000∧-2300≤(Ab (0-(Bk (Bc x))))∧(Ab (0-(Bk (Bc x))))≤2300)) then bif (Cs (A5 x (Ab (0-(Bk (Bc x)))))&&Dd (List.length (A5 x (Ab (0-(Bk (Bc x)))))≤64)) then bif (Cs x) then bif (Ag (Na x)) then bif (!(Cy (Na x))) then bif (Ag (Dm (A5 x (Ab (0-(Bk (Bc x))))))) then bif (Dy (Cq (Dm (A5 x (Ab (0-(Bk (Bc x))))))) (Bk (Bc x))) then bif (Ag (Bt (Cq (Dm (A5 x (Ab (0-(Bk (Bc x))))))) (Bk (Bc x)))) then bif (!(Cp (Bt (Cq (Dm (A5 x (Ab (0-(Bk (Bc x))))))) (Bk (Bc x))))) then some (.tup [.nil,.int .u64 0,.int .u64 0,.int .i64 2]) else bif (decide ((0:Int)<(List.length (A5 x (Ab (0-(Bk (Bc x))))):Int))) then bif (Ag (List.getD (A5 x (Ab (0-(Bk (Bc x))))) 0 0)&&Ag (Cq (Dm (A5 x (Ab (0-(Bk (Bc x)))))))) then bif ((Dd (1≤(List.length (A5 x (Ab (0-(Bk (Bc x))))):Int)∧(List.length (A5 x (Ab (0-(Bk (Bc x))))):Int)≤64∧(List.length (A5 x (Ab (0-(Bk (Bc x))))):Int)=List.length (A5 x (Ab (0-(Bk (Bc x))))))&&Af (A5 x (Ab (0-(Bk (Bc x))))))&&Ag (C0 (List.getD (A5 x (Ab (0-(Bk (Bc x))))) 0 0) (Cq (Dm (A5 x (Ab (0-(Bk (Bc x))))))))) then bif (decide ((0:Int)<(List.length (A5 x (Ab (0-(Bk (Bc x))))):Int))) then bif (Ag (Cq (Dm (A5 x (Ab (0-(Bk (Bc x)))))))&&Ag (List.getD (A5 x (Ab (0-(Bk (Bc x))))) 0 0)) then bif (Ag (C0 (Cq (Dm (A5 x (Ab (0-(Bk (Bc x))))))) (List.getD (A5 x (Ab (0-(Bk (Bc x))))) 0 0))&&Ag (Cq (Dm (A5 x (Ab (0-(Bk (Bc x)))))))) then some (.tup [.ints .fresh .u64 (Hg (Int.toNat (List.length (A5 x (Ab (0-(Bk (Bc x))))):Int)) (fun j=>Em (List.getD (A5 x (Ab (0-(Bk (Bc x))))) j 0) (C0 (List.getD (A5 x (Ab (0-(Bk (Bc x))))) 0 0) (Cq (Dm (A5 x (Ab (0-(Bk (Bc x)))))))))),.int .u64 (Em (C0 (Cq (Dm (A5 x (Ab (0-(Bk (Bc x))))))) (List.getD (A5 x (Ab (0-(Bk (Bc x))))) 0 0)) (Cq (Dm (A5 x (Ab (0-(Bk (Bc x)))))))),.int .u64 (Bt (Cq (Dm (A5 x (Ab (0-(Bk (Bc x))))))) (Bk (Bc x))),.int .i64 0]) else none else none else none else none else none else none else none else none else none else bif (Dy (Dm (A5 x (Ab (0-(Bk (Bc x)))))) (Bk (Bc x))) then bif (Ag (Bt (Dm (A5 x (Ab (0-(Bk (Bc x)))))) (Bk (Bc x)))) then bif (!(Cp (Bt (Dm (A5 x (Ab (0-(Bk (Bc x)))))) (Bk (Bc x))))) then some (.tup [.nil,.int .u64 0,.int .u64 0,.int .i64 2]) else bif (decide ((0:Int)<(List.length (A5 x (Ab (0-(Bk (Bc x))))):Int))) then bif (Ag (List.getD (A5 x (Ab (0-(Bk (Bc x))))) 0 0)&&Ag (Dm (A5 x (Ab (0-(Bk (Bc x))))))) then bif ((Dd (1≤(List.length (A5 x (Ab (0-(Bk (Bc x))))):Int)∧(List.length (A5 x (Ab (0-(Bk (Bc x))))):Int)≤64∧(List.length (A5 x (Ab (0-(Bk (Bc x))))):Int)=List.length (A5 x (Ab (0-(Bk (Bc x))))))&&Af (A5 x (Ab (0-(Bk (Bc x))))))&&Ag (C0 (List.getD (A5 x (Ab (0-(Bk (Bc x))))) 0 0) (Dm (A5 x (Ab (0-(Bk (Bc x)))))))) then bif (decide ((0:Int)<(List.length (A5 x (Ab (0-(Bk (Bc x))))):Int))) then bif (Ag (Dm (A5 x (Ab (0-(Bk (Bc x))))))&&Ag (List.getD (A5 x (Ab (0-(Bk (Bc x))))) 0 0)) then bif (Ag (C0 (Dm (A5 x (Ab (0-(Bk (Bc x)))))) (List.getD (A5 x (Ab (0-(Bk (Bc x))))) 0 0))&&Ag (Dm (A5 x (Ab (0-(Bk (Bc x))))))) then some (.tup [.ints .fresh .u64 (Hg (Int.toNat (List.length (A5 x (Ab (0-(Bk (Bc x))))):Int)) (fun j=>Em (List.getD (A5 x (Ab (0-(Bk (Bc x))))) j 0) (C0 (List.getD (A5 x (Ab (0-(Bk (Bc x))))) 0 0) (Dm (A5 x (Ab (0-(Bk (Bc x))))))))),.int .u64 (Em (C0 (Dm (A5 x (Ab (0-(Bk (Bc x)))))) (List.getD (A5 x (Ab (0-(Bk (Bc x))))) 0 0)) (Dm (A5 x (Ab (0-(Bk (Bc x))))))),.int .u64 (Bt (Dm (A5 x (Ab (0-(Bk (Bc x)))))) (Bk (Bc x))),.int .i64 0]) else none else none else none else none else none else none else none else none else none else none else none else none else none else none else none else none else none :=
  Eq.trans (by kernel_rfl)
  (Am (Qb ((List.length x:Int)==(0:Int))) (Am (Mu ((List.length x:Int)==(0:Int))) (Am (Mu ((List.length x:Int)==(0:Int))) (Am (Vv ((List.length x:Int)==(0:Int))) (Dp (tt5 ((List.length x:Int)==(0:Int)) (Au 64 (List.length x:Int))) rfl (Ew (Ew rfl (Dp (tt81 (decide ((1:Int)≤(List.length x:Int)))) (Ew (Ew (Dp (Eh (Dd (1≤(List.length x:Int)∧(List.length x:Int)≤64))) (Dp (Eh (decide ((0:Int)<(List.length x:Int)))) rfl rfl) rfl) rfl) rfl) rfl)) rfl))))))
abbrev _root_.Go.Proofs.S1.Ai.Hs.Kn:=A4 Try.prog 65 Ai.Hs.spec
theorem Ai.Hs.Ae (hk:Av Try.prog Ai.Hs.A8) (h:∀ (x:List Int),Ai.Hs.pre [.l x]=true→Bd Ai.Hs.E Try.f65 [.ints .arg .u64 x] (Ai.Hs.out [.l x])):Ai.Hs.Kn :=
  Aj (Ax hk _ _ _) Try.func65 (by kernel_rfl) (by kernel_rfl) h
def Ai.Apply.hint:Nat→Option A0
  | 0=>some { keep:=[1,3,4,5,10,13,14],objs:=[(14,2,114002,.ints 41 .u64 [])],boxes:=[5,10,13] }
  | 2=>some { keep:=[1,3,4,5,10,13,14,18,90,91,92],objs:=[(14,2,114002,.ints 41 .u64 [])],boxes:=[5,10,13] }
  | _=>none
def Ai.Apply.A8:List (Nat × Entry):=[(12,Aa.Check.spec),(35,Aa.Ck.spec),(33,Ac.Lf.spec),(61,Ac.Mul.spec),(39,Ac.Sub.spec)]
def Ai.Apply.E:Env:=Ba (A6 Ai.Apply.A8) (fun _=>false) Ai.Apply.hint (fun _=>none)
def Ai.Apply.L0 (N M:Nat) (r c:Int) (l:List Int) (i:Int) (v:List Int) (t p14:Int) (p2_1:List Int):Option DV:=B3 Ai.Apply.E N Try.f49 (An Try.f49) [1,1,1,1,0,1,0] [] M ⟨Gy 118 [(1,.int .i64 i),(3,.ints .arg .u64 v),(4,.int .u64 t),(5,.ptr 5 0 0),(10,.ptr 10 0 0),(13,.ptr 13 0 0),(14,.int .i64 p14)],[(5,false,.box [.int .i64 r,.int .i64 c,.ints .arg .u64 l]),(10,false,.box [.int .i64 0,.int .i64 0,.nil]),(13,false,.box [.int .i64 r,.int .i64 c,.oref 114002]),(114002,false,.ints 41 .u64 p2_1)]⟩
def Ai.Apply.L1 (N M0 M:Nat) (r c:Int) (l:List Int) (i:Int) (v:List Int) (t p92:Int) (p2:List Int) (p14_1 p18:Int) (p90:List Int) (p91:Int):Option DV:=B3 Ai.Apply.E N Try.f49 (An Try.f49) [1,1,1,1,0,1,0,0,1,0,0,1,1,1,1,0] [M0] M ⟨Gy 118 [(1,.int .i64 i),(3,.ints .arg .u64 v),(4,.int .u64 t),(5,.ptr 5 0 0),(10,.ptr 10 0 0),(13,.ptr 13 0 0),(14,.int .i64 p14_1),(18,.int .u64 p18),(90,.ints .fresh .u64 p90),(91,.int .i64 p91),(92,.int .i64 p92)],[(5,false,.box [.int .i64 r,.int .i64 c,.ints .arg .u64 l]),(10,false,.box [.int .i64 0,.int .i64 0,.nil]),(13,false,.box [.int .i64 r,.int .i64 c,.oref 114002]),(114002,false,.ints 41 .u64 p2)]⟩
theorem Ai.Apply.As (N M:Nat) (r c:Int) (l:List Int) (i:Int) (v:List Int) (t p14:Int) (p2_1:List Int):Ai.Apply.L0 N (M+1) r c l i v t p14 p2_1=bif (Au p14 c) then bif (Jc r c l p14&&Dd (0≤i∧i≤r)) then bif (((decide ((0:Int)≤(List.length v:Int)))&&(decide ((List.length v:Int)≤(List.length v:Int))))&&((decide ((0:Int)≤(List.length v:Int)))&&(decide ((List.length v:Int)≤(List.length (Cu c l p14 i (Int.toNat (r-i))):Int))))) then bif ((P0 v (List.take (Int.toNat (List.length v:Int)) (Cu c l p14 i (Int.toNat (r-i))))&&Af v)&&Af (List.take (Int.toNat (List.length v:Int)) (Cu c l p14 i (Int.toNat (r-i))))) then bif (Ag t&&Ag (M3 v (List.take (Int.toNat (List.length v:Int)) (Cu c l p14 i (Int.toNat (r-i)))))) then Ai.Apply.L1 N M N r c l i v t 0 p2_1 p14 (Dz t (M3 v (List.take (Int.toNat (List.length v:Int)) (Cu c l p14 i (Int.toNat (r-i)))))) (List.take (Int.toNat (List.length v:Int)) (Cu c l p14 i (Int.toNat (r-i)))) (List.length (List.take (Int.toNat (List.length v:Int)) (Cu c l p14 i (Int.toNat (r-i)))):Int) else none else none else none else none else some (.tup [.agg [.int .i64 r,.int .i64 c,.ints (.own 114002 41) .u64 p2_1],.int .i64 0]) :=
  Eq.trans (by kernel_rfl)
  (Ew (Ew (Dp (tt80 (decide ((0:Int)≤(List.length v:Int))) (decide ((List.length v:Int)≤(List.length v:Int))) (decide ((List.length v:Int)≤(List.length (Cu c l p14 i (Int.toNat (r-i))):Int)))) rfl rfl) rfl) rfl)
theorem Ai.Apply.Ca (N M0 M:Nat) (r c:Int) (l:List Int) (i:Int) (v:List Int) (t p92:Int) (p2:List Int) (p14_1 p18:Int) (p90:List Int) (p91:Int):Ai.Apply.L1 N M0 (M+1) r c l i v t p92 p2 p14_1 p18 p90 p91=bif (Au p92 p91) then bif ((decide (0≤p92))&&(decide (p92<(List.length p90:Int)))) then bif ((decide (0≤p92))&&(decide (p92<(List.length v:Int)))) then bif (Ag p18&&Ag (List.getD v (Int.toNat p92) 0)) then bif (Ag (List.getD p90 (Int.toNat p92) 0)&&Ag (Dz p18 (List.getD v (Int.toNat p92) 0))) then bif ((decide (0≤(Ab ((Ab ((Ab (i+p92))*c))+p14_1))))&&(decide ((Ab ((Ab ((Ab (i+p92))*c))+p14_1))<(List.length p2:Int)))) then bif (decide ((Int.toNat (Ab ((Ab ((Ab (i+p92))*c))+p14_1)))<(List.length p2))) then Ai.Apply.L1 N M0 M r c l i v t (Ab (p92+1)) (List.set p2 (Int.toNat (Ab ((Ab ((Ab (i+p92))*c))+p14_1))) (C0 (List.getD p90 (Int.toNat p92) 0) (Dz p18 (List.getD v (Int.toNat p92) 0)))) p14_1 p18 p90 p91 else none else none else none else none else none else none else Ai.Apply.L0 N M0 r c l i v t (Ab (p14_1+1)) p2 :=
  Eq.trans (by kernel_rfl)
  (Ew (Ew (Dp (Nk (decide (0≤p92)) (decide (p92<(List.length v:Int)))) (Dp (Eh (Ag p18&&Ag (List.getD v (Int.toNat p92) 0))) (Dp (Eh (Ag (List.getD p90 (Int.toNat p92) 0)&&Ag (Dz p18 (List.getD v (Int.toNat p92) 0)))) (Dp (Nk (decide (0≤(Ab ((Ab ((Ab (i+p92))*c))+p14_1)))) (decide ((Ab ((Ab ((Ab (i+p92))*c))+p14_1))<(List.length p2:Int)))) (Dp (Eh (decide ((Int.toNat (Ab ((Ab ((Ab (i+p92))*c))+p14_1)))<(List.length p2)))) rfl rfl) rfl) rfl) rfl) rfl) rfl) rfl)
theorem Ai.Apply.ev (N:Nat) (r c:Int) (l:List Int) (i k:Int) (v:List Int) (t:Int):Bo Ai.Apply.E N Try.f49 (An Try.f49) [.agg [.int .i64 r,.int .i64 c,.ints .arg .u64 l],.int .i64 i,.int .i64 k,.ints .arg .u64 v,.int .u64 t]=bif ((Hp r c l) !=(0:Int)) then some (.tup [.agg [.int .i64 0,.int .i64 0,.nil],.int .i64 (Hp r c l)]) else bif (((((Au i 0)||(Au r (List.length v:Int)))||(Au (Ab (r-(List.length v:Int))) i))||(Au k 0))||(Au c k)) then some (.tup [.agg [.int .i64 0,.int .i64 0,.nil],.int .i64 3]) else bif (decide (0+(List.length l)≤Hv)) then Ai.Apply.L0 N N r c l i v t k ([]++l) else none :=
  Eq.trans (by kernel_rfl)
  (Ew rfl (Am (Qb (Au i 0)) (Am (Mu (Au i 0)) (Am (Qb (Au i 0)) (Am (Mu (Au i 0)) (Am (tt8 (Au i 0)) (Am (Vv (Au i 0)) (Am (V2 (Au i 0) (Au r (List.length v:Int))) (Am (V2 (Au i 0) (Au r (List.length v:Int))) (Am (Ue (Au i 0) (Au r (List.length v:Int))) (Am (V2 (Au i 0) (Au r (List.length v:Int))) (Am (Ue (Au i 0) (Au r (List.length v:Int))) (Am (Afl (Au i 0) (Au r (List.length v:Int))) (Am (Afl (Au i 0) (Au r (List.length v:Int))) (Am (Afn (Au i 0) (Au r (List.length v:Int))) (Am (Afo (Au i 0) (Au r (List.length v:Int)) (Au (Ab (r-(List.length v:Int))) i)) (Am (V3 (Au i 0) (Au r (List.length v:Int)) (Au (Ab (r-(List.length v:Int))) i)) (Am (Afp (Au i 0) (Au r (List.length v:Int)) (Au (Ab (r-(List.length v:Int))) i)) (Am (Aah (Au i 0) (Au r (List.length v:Int)) (Au (Ab (r-(List.length v:Int))) i) (Au k 0)) (Am (Aah (Au i 0) (Au r (List.length v:Int)) (Au (Ab (r-(List.length v:Int))) i) (Au k 0)) (Am (V4 (Au i 0) (Au r (List.length v:Int)) (Au (Ab (r-(List.length v:Int))) i) (Au k 0)) (Am (tt58 (Au i 0) (Au r (List.length v:Int)) (Au (Ab (r-(List.length v:Int))) i) (Au k 0)) (Am (Afq (Au i 0) (Au r (List.length v:Int)) (Au (Ab (r-(List.length v:Int))) i) (Au k 0)) (Dp (tt82 (Au i 0) (Au r (List.length v:Int)) (Au (Ab (r-(List.length v:Int))) i) (Au k 0) (Au c k)) rfl (Dp (Eh (decide (0+(List.length l)≤Hv))) rfl rfl)))))))))))))))))))))))))
abbrev _root_.Go.Proofs.S1.Ai.Apply.Kn:=A4 Try.prog 49 Ai.Apply.spec
theorem Ai.Apply.Ae (hk:Av Try.prog Ai.Apply.A8) (h:∀ (r c:Int) (l:List Int) (i k:Int) (v:List Int) (t:Int),Ai.Apply.pre [.i r,.i c,.l l,.i i,.i k,.l v,.i t]=true→Bd Ai.Apply.E Try.f49 [.agg [.int .i64 r,.int .i64 c,.ints .arg .u64 l],.int .i64 i,.int .i64 k,.ints .arg .u64 v,.int .u64 t] (Ai.Apply.out [.i r,.i c,.l l,.i i,.i k,.l v,.i t])):Ai.Apply.Kn :=
  Aj (Ax hk _ _ _) Try.func49 (by kernel_rfl) (by kernel_rfl) h
end EqHouse
open EqHouse
theorem Z0 (x:Int):((Az x) !=(0:Int))=!(decide (Az x=0)):=by
  rw [Ah3]; simp
theorem Uu (N:Nat) {x:List Int} (hx:Cs x=true):∀ (k i F:Nat),i+k=x.length→k<F→Ai.B8.L0 N F x (i:Int)=some (.bool (H3 (x.drop i))):=by
  obtain ⟨hl,hu⟩:=Iq hx
  intro k
  induction k with
  | zero =>
    intro i F hi hF
    obtain ⟨F,rfl⟩:∃ G,F=G+1:=⟨F-1,by omega⟩
    rw [Ai.B8.As,Aq,Ahs (by omega),Ahr,Ah1 (by omega)]; rfl
  | succ k ih =>
    intro i F hi hF
    obtain ⟨F,rfl⟩:∃ G,F=G+1:=⟨F-1,by omega⟩
    rw [Ai.B8.As,Aq,Aho (show (i:Int)<(x.length:Int) by omega),Ahn,Aho (show (0:Int)≤(i:Int) by omega),Aht,Ahn,Ahp,hu i (by omega),Ahn,Z0,G0 (by omega)]
    unfold H3
    rw [List.all_cons]
    cases decide (Az (x.getD i 0)=0) with
    | false=>rfl
    | true =>
      rw [Bool.not_true,Ahr,Bool.true_and,Ak (by omega) (by omega)]
      exact ih (i+1) F (by omega) (by omega)
theorem Ai.B8.known:Ai.B8.Kn:=Ai.B8.Ae (.cons soft.Kind.known .nil) fun x hp=>by
  refine ⟨x.length+1,Ai.B8.out [.l x],[],?_,.bool⟩
  rw [Ai.B8.ev]
  exact Uu (x.length+1) hp x.length 0 (x.length+1) (by omega) (by omega)
theorem Abn (N:Nat) {x:List Int} (hx:Cs x=true):∀ (k i F:Nat),i+k=x.length→k<F→Ai.lead.L0 N F x (i:Int)=some (.int .u64 (Na (x.drop i))):=by
  obtain ⟨hl,hu⟩:=Iq hx
  intro k
  induction k with
  | zero =>
    intro i F hi hF
    obtain ⟨F,rfl⟩:∃ G,F=G+1:=⟨F-1,by omega⟩
    rw [Ai.lead.As,Aq,Ahs (by omega),Ahr,Ah1 (by omega)]; rfl
  | succ k ih =>
    intro i F hi hF
    obtain ⟨F,rfl⟩:∃ G,F=G+1:=⟨F-1,by omega⟩
    rw [Ai.lead.As,Aq,Aho (show (i:Int)<(x.length:Int) by omega),Ahn,Aho (show (0:Int)≤(i:Int) by omega),Aht,Ahn,Ahp,hu i (by omega),Ahn,Z0,G0 (by omega),Na]
    by_cases h:Az (x.getD i 0)=0
    · rw [Aho h,if_pos h,Bool.not_true,Ahr,Ak (by omega) (by omega)]
      exact ih (i+1) F (by omega) (by omega)
    · rw [Ahs h,if_neg h]; rfl
theorem Ai.lead.known:Ai.lead.Kn:=Ai.lead.Ae (.cons soft.Kind.known .nil) fun x hp=>by
  refine ⟨x.length+1,Ai.lead.out [.l x],[],?_,.int⟩
  rw [Ai.lead.ev]
  exact Abn (x.length+1) hp x.length 0 (x.length+1) (by omega) (by omega)
theorem X0 {x:List Int} {i:Nat} (h:i<x.length) (f:Int→Int):(x.take (i+1)).map f=(x.take i).map f++[f (x.getD i 0)]:=by
  rw [List.take_succ_eq_append_getElem h,List.map_append,Ahx,Ah4 h]; rfl
theorem Un (N:Nat) {x:List Int} {e:Int} (hx:Cs x=true) (hl:x.length≤1000) (he:-2300≤e∧e≤2300):∀ (k i F:Nat),i+k=x.length→k<F →
    Ai.Cb.L0 N F x e (i:Int) ((x.take i).map fun b=>Bt b e)=some (.ints (.own 100005 tB) .u64 (A5 x e)):=by
  obtain ⟨_,hu⟩:=Iq hx
  intro k
  induction k with
  | zero =>
    intro i F hi hF
    obtain ⟨F,rfl⟩:∃ G,F=G+1:=⟨F-1,by omega⟩
    rw [Ai.Cb.As,Aq,Ahs (by omega),Ahr,List.take_of_length_le (by omega)]; rfl
  | succ k ih =>
    intro i F hi hF
    obtain ⟨F,rfl⟩:∃ G,F=G+1:=⟨F-1,by omega⟩
    rw [Ai.Cb.As,Aq,Aho (show (i:Int)<(x.length:Int) by omega),Ahn,Aho (show (0:Int)≤(i:Int) by omega),Aht,Ahn,Ahp,
      show Dy (List.getD x i 0) e=true from Ad.2 ⟨hu i (by omega),Ar.2 he⟩,Ahn,Aho (by rw [List.length_map,List.length_take]; unfold Hv; omega),Ahn,Ak (by omega) (by omega)]
    have:=ih (i+1) F (by omega) (by omega)
    rw [X0 (by omega)] at this
    exact this
theorem Ai.Cb.known:Ai.Cb.Kn:=Ai.Cb.Ae (.cons Ac.Eu.known .nil) fun x k hp=>by
  obtain ⟨h1,h2⟩:=Ad.1 hp
  have h2:=Ar.1 h2
  refine ⟨x.length+1,.ints (.own 100005 tB) .u64 (A5 x k),[100005],?_,.drop _ _ _ _ (List.mem_singleton.2 rfl)⟩
  rw [Ai.Cb.ev]
  exact Un (x.length+1) h1 h2.1 h2.2 x.length 0 (x.length+1) (by omega) (by omega)
theorem Ai.D9.known:Ai.D9.Kn:=Ai.D9.Ae .nil fun i _=>⟨0,Ai.D9.out [.i i],[],by rw [Ai.D9.ev]; rfl,.int⟩
theorem Ai.D8.known:Ai.D8.Kn:=Ai.D8.Ae (.cons Ac.Div.known .nil) fun i y d hp=>by
  obtain ⟨h1,h2⟩:=Ad.1 (show ((Dd (0≤i∧i<List.length y)&&Af y)&&Ag d)=true from hp)
  obtain ⟨h3,h4⟩:=Ad.1 h1
  have h3:=Ar.1 h3
  refine ⟨0,Ai.D8.out [.i i,.l y,.i d],[],?_,.int⟩
  rw [Ai.D8.ev,Aho h3.1,Aho h3.2,Kj h4,h2]; rfl
theorem Mi (n i:Nat) (f:Nat→Int) (h:i+1=n):Hg n f=oneI::(List.range i).map fun j=>f (j+1):=by unfold Hg; rw [show n-1=i by omega]
theorem Zm {n:Nat} (f:Nat→Int) (h:n≠0):(((decide ((0:Int)≤(n:Int)))&&(decide ((n:Int)≤(n:Int))))&&((decide ((0:Int)≤(n:Int)))&&(decide ((n:Int)≤(List.length (Hg n f):Int)))))=true ∧
    List.take (Int.toNat ((n:Int)-(0:Int))) (List.drop 0 (Hg n f))=Hg n f:=by
  have:=Ok h f
  refine ⟨?_,?_⟩
  · rw [Aho (by omega),Aho (by omega),Aho (by omega)]; rfl
  · rw [List.drop_zero,List.take_of_length_le (by omega)]
theorem Sv (N:Nat) {n:Nat} (h64:n≤64) (h0:n≠0):∀ (k i F:Nat),i+1+k=n→k<F →
    Ai.row.Zero.L0 N F (n:Int) ((i+1:Nat):Int) (Hg (i+1) fun _=>0)=some (.ints .fresh .u64 (Hg n fun _=>0)):=by
  intro k
  induction k with
  | zero =>
    intro i F hi hF
    obtain ⟨F,rfl⟩:∃ G,F=G+1:=⟨F-1,by omega⟩
    obtain rfl:i+1=n:=by omega
    obtain ⟨e1,e2⟩:=Zm (fun _=>0) h0
    rw [Ai.row.Zero.As,Aq,Ahs (by omega),Ahr,e1,Ahn,e2]
  | succ k ih =>
    intro i F hi hF
    obtain ⟨F,rfl⟩:∃ G,F=G+1:=⟨F-1,by omega⟩
    rw [Ai.row.Zero.As,Aq,Aho (by omega),Ahn,Aho (by rw [Ok (by omega)]; unfold Hv; omega),Ahn,Ak (by omega) (by omega)]
    have:=ih (i+1) F (by omega) (by omega)
    rw [Mi (i+1+1) (i+1) _ rfl,Gg] at this
    rw [Mi (i+1) i _ rfl]
    exact this
theorem Ai.row.Zero.known:Ai.row.Zero.Kn:=Ai.row.Zero.Ae (.cons Ai.D9.known .nil) fun n hp=>by
  have hp:=Ar.1 (show Dd (1≤n∧n≤64)=true from hp)
  obtain ⟨m,rfl⟩:∃ m:Nat,n=m:=⟨n.toNat,by omega⟩
  refine ⟨65,Ai.row.Zero.out [.i m],[],?_,.Ly⟩
  show _=some (DV.ints .fresh .u64 (Hg (Int.toNat (m:Int)) fun _=>0))
  rw [Ai.row.Zero.ev,Ahp]
  exact Sv 65 (by omega) (by omega) (m-1) 0 65 (by omega) (by omega)
theorem Uo (N:Nat) {n:Nat} {y:List Int} {d:Int} (h64:n≤64) (h0:n≠0) (hy:n=y.length) (al:Af y=true) (hd:Ag d=true):∀ (k i F:Nat),i+1+k=n→k<F →
    Ai.row.Div.L0 N F (n:Int) y d ((i+1:Nat):Int) (Hg (i+1) fun j=>Em (y.getD j 0) d)=some (.ints .fresh .u64 (Hg n fun j=>Em (y.getD j 0) d)):=by
  intro k
  induction k with
  | zero =>
    intro i F hi hF
    obtain ⟨F,rfl⟩:∃ G,F=G+1:=⟨F-1,by omega⟩
    obtain rfl:i+1=n:=by omega
    obtain ⟨e1,e2⟩:=Zm (fun j=>Em (y.getD j 0) d) h0
    rw [Ai.row.Div.As,Aq,Ahs (by omega),Ahr,e1,Ahn,e2]
  | succ k ih =>
    intro i F hi hF
    obtain ⟨F,rfl⟩:∃ G,F=G+1:=⟨F-1,by omega⟩
    rw [Ai.row.Div.As,Aq,Aho (by omega),Ahn,Ar.2 (show 0≤((i+1:Nat):Int)∧((i+1:Nat):Int)<(y.length:Int) by omega),al,hd,Aht,Aht,Ahn,Aho (by rw [Ok (by omega)]; unfold Hv; omega),Ahn,Ak (by omega) (by omega),Ahp]
    have:=ih (i+1) F (by omega) (by omega)
    rw [Mi (i+1+1) (i+1) _ rfl,Gg] at this
    rw [Mi (i+1) i _ rfl]
    exact this
theorem Ai.row.Div.known:Ai.row.Div.Kn:=Ai.row.Div.Ae (.cons Ai.D8.known .nil) fun n y d hp=>by
  obtain ⟨h1,h2⟩:=Ad.1 (show ((Dd (1≤n∧n≤64∧n=List.length y)&&Af y)&&Ag d)=true from hp)
  obtain ⟨h3,h4⟩:=Ad.1 h1
  have h3:=Ar.1 h3
  obtain ⟨m,rfl⟩:∃ m:Nat,n=m:=⟨n.toNat,by omega⟩
  refine ⟨65,Ai.row.Div.out [.i m,.l y,.i d],[],?_,.Ly⟩
  show _=some (DV.ints .fresh .u64 (Hg (Int.toNat (m:Int)) fun j=>Em (List.getD y j 0) d))
  rw [Ai.row.Div.ev,Ahp]
  exact Uo 65 (by omega) (by omega) (by omega) h4 h2 (m-1) 0 65 (by omega) (by omega)
theorem Tf {x:List Int} {k:Int} {j:Nat} (h:j<x.length):(A5 x k).getD j 0=Bt (x.getD j 0) k:=by
  unfold A5
  rw [Ahx,List.getElem?_map,Ah4 h,Ahx,Ah4 h]; rfl
theorem Aas (x:List Int) (k:Int):(A5 x k).length=x.length:=by unfold A5; rw [List.length_map]
theorem Aat {x:List Int} (k:Int) (h:Af x=true):Af (A5 x k)=true:=Mr fun y hy=>by
  obtain ⟨b,hb,rfl⟩:=List.mem_map.1 hy
  exact Hz (Ar.1 h b hb)
theorem U4:∀ {x:List Int},Af x=true→Ag (Na x)=true
  | [],_=>Ht
  | b::l,h=>by
    unfold Na
    split
    · exact U4 (Mr fun y hy=>Ar.1 h y (List.mem_cons_of_mem _ hy))
    · exact Ar.1 h b List.mem_cons_self
theorem Ab6 {x:List Int} (h:Cs x=true):Af x=true:=Ar.2 (Ar.1 h).2
theorem Mf {drops:List Nat} {g:Xt}:Wk drops .nil (.ints g .u64 []):=.nil g .u64
theorem Aaz {n:Nat} {f g:Nat→Int} (h:∀ j,j<n→f j=g j):Hg n f=Hg n g:=by
  unfold Hg
  congr 1
  exact List.map_congr_left fun j hj=>h _ (by have:=List.mem_range.1 hj; omega)
theorem Ai.Hs.known:Ai.Hs.Kn:=Ai.Hs.Ae (.cons compare.Qu.known (.cons Ai.lead.known (.cons Ai.B8.known (.cons (A4.alt Ai.row.Zero.known Ai.row.Div.known) (.cons Ai.Cb.known (.cons soft.Finite.known (.cons soft.Ev.known (.cons soft.Sign.known (.cons Ac.Bz.known (.cons Ac.Div.known (.cons Ac.Finite.known (.cons Ac.Norm.known (.cons Ac.Eu.known (.cons Ac.Sub.known .nil)))))))))))))) fun x hp=>by
  have hx:Cs x=true:=hp
  have al:=Ab6 hx
  have he:=Aeg (Bc x)
  show ∃ N dv drops,_=some dv∧Wk drops dv (DV.tup [.ints .fresh .u64 (Bs x).1,.int .u64 (Bs x).2.1,.int .u64 (Bs x).2.2.1,.int .i64 (Bs x).2.2.2])
  unfold Bs
  by_cases h1:x.length=0∨64<x.length
  · rw [if_pos h1]
    refine ⟨0,.tup [.nil,.int .u64 0,.int .u64 0,.int .i64 3],[],?_,Wk.Fl (.cons Mf (.cons .int (.cons .int (.cons .int .nil))))⟩
    have:(((List.length x:Int)==(0:Int))||(Au (64:Int) (List.length x:Int)))=true:=by
      rw [Aq,Bool.or_eq_true,beq_iff_eq,Ahu]; omega
    rw [Ai.Hs.ev,this,Ahn]
  have c1:(((List.length x:Int)==(0:Int))||(Au (64:Int) (List.length x:Int)))=false:=by
    rw [Aq,Bool.or_eq_false_iff,beq_eq_false_iff_ne,Ah6]; omega
  rw [if_neg h1]
  by_cases h2:Ey x=true
  · rw [if_pos h2]
    unfold Agd
    have ok1:Cs (x.drop 1)=true:=I7 (Mr fun y hy=>Ar.1 al y (List.mem_of_mem_drop hy)) (by rw [List.length_drop]; omega)
    have d1:decide ((1:Int)≤(x.length:Int))=true:=Aho (by omega)
    have d0:decide ((0:Int)<(x.length:Int))=true:=Aho (by omega)
    by_cases h3:H3 (x.drop 1)=true
    · rw [if_pos h3]
      refine ⟨0,.tup [.ints .fresh .u64 (Hg x.length fun _=>0),.int .u64 0,.int .u64 (x.getD 0 0),.int .i64 0],[],?_,Wk.Fl (.cons .Ly (.cons .int (.cons .int (.cons .int .nil))))⟩
      rw [Ai.Hs.ev,c1,Ahr,hx,Ahn,h2,Bool.not_true,Ahr,d1,Ahn,ok1,Ahn,h3,Ahn,Ar.2 (show 1≤(x.length:Int)∧(x.length:Int)≤64 by omega),Ahn,d0,Ahn,Ahp]
    · rw [if_neg h3]
      have h3:H3 (x.drop 1)=false:=by simpa using h3
      have ew:Ab (0-Bk (Bc x))=-Bk (Bc x):=by rw [Ak (by omega) (by omega)]; omega
      have ly:=Aas x (-Bk (Bc x))
      have ay:=Aat (-Bk (Bc x)) al
      have oky:Cs (A5 x (-Bk (Bc x)))=true:=I7 ay (by omega)
      have gy:=Tf (x:=x) (k:=-Bk (Bc x)) (j:=0) (by omega)
      have iy:=Kj ay 0
      have key:∀ mu:Int,muI x=mu→Ag mu=true→∀ b:Bool,Cp (Gh x)=b→∃ dv:DV,(bif (!b) then
              some (.tup [.nil,.int .u64 (0:Int),.int .u64 (0:Int),.int .i64 (2:Int)])
            else some (.tup [.ints .fresh .u64 (Hg (Int.toNat (List.length (A5 x (-Bk (Bc x))):Int)) (fun j=>Em (List.getD (A5 x (-Bk (Bc x))) j 0) (C0 (List.getD (A5 x (-Bk (Bc x))) 0 0) mu))),.int .u64 (Em (C0 mu (List.getD (A5 x (-Bk (Bc x))) 0 0)) mu),.int .u64 (Bt mu (Bk (Bc x))),.int .i64 (0:Int)]))=some dv ∧
          Wk [] dv (DV.tup [.ints .fresh .u64 (if Cp (Gh x)=true then (Wt x,Yl x,Gh x,(0:Int)) else ([],0,0,2)).1,.int .u64 (if Cp (Gh x)=true then (Wt x,Yl x,Gh x,(0:Int)) else ([],0,0,2)).2.1,.int .u64 (if Cp (Gh x)=true then (Wt x,Yl x,Gh x,(0:Int)) else ([],0,0,2)).2.2.1,.int .i64 (if Cp (Gh x)=true then (Wt x,Yl x,Gh x,(0:Int)) else ([],0,0,2)).2.2.2]):=by
        intro mu hmu _ b hb
        rw [hb]
        cases b with
        | false=>exact ⟨_,rfl,Wk.Fl (.cons Mf (.cons .int (.cons .int (.cons .int .nil))))⟩
        | true =>
          refine ⟨_,rfl,?_⟩
          rw [if_pos rfl]
          dsimp only
          have e1:Hg (Int.toNat (List.length (A5 x (-Bk (Bc x))):Int)) (fun j=>Em (List.getD (A5 x (-Bk (Bc x))) j 0) (C0 (List.getD (A5 x (-Bk (Bc x))) 0 0) mu))=Wt x:=by
            unfold Wt
            rw [Ahp,ly,gy,← hmu]
            exact Aaz fun j hj=>by rw [Tf hj]; rfl
          have e2:Em (C0 mu (List.getD (A5 x (-Bk (Bc x))) 0 0)) mu=Yl x:=by
            unfold Yl
            rw [gy,hmu]; rfl
          have e3:Bt mu (Bk (Bc x))=Gh x:=by unfold Gh; rw [hmu]
          rw [e1,e2,e3]
          exact Wk.Fl (.cons .Ly (.cons .int (.cons .int (.cons .int .nil))))
      have dz:decide ((0:Int)<((A5 x (-Bk (Bc x))).length:Int))=true:=Aho (by omega)
      have cz':Dd (1≤((A5 x (-Bk (Bc x))).length:Int)∧((A5 x (-Bk (Bc x))).length:Int)≤64∧True)=true:=Ar.2 ⟨by omega,by omega,trivial⟩
      have p1:Dd (x.length≤1000∧-2300≤-Bk (Bc x)∧-Bk (Bc x)≤2300)=true:=Ar.2 (by omega)
      have p2:Dd ((A5 x (-Bk (Bc x))).length≤64)=true:=Ar.2 (by omega)
      have sp:∀ mu:Int,Ag mu=true→Dy mu (Bk (Bc x))=true:=fun mu h=>Ad.2 ⟨h,Ar.2 (by omega)⟩
      have ny:=Uw (A5 x (-Bk (Bc x)))
      cases hn:Cy (Na x) with
      | true =>
        have hm:muI x=Dm (A5 x (-Bk (Bc x))):=by unfold muI; rw [if_pos hn]
        obtain ⟨dv,k1,k2⟩:=key _ hm ny (Cp (Gh x)) rfl
        refine ⟨0,dv,[],?_,k2⟩
        rw [← k1]
        have eb:Gh x=Bt (Dm (A5 x (-Bk (Bc x)))) (Bk (Bc x)):=by unfold Gh; rw [hm]
        rw [Ai.Hs.ev,ew,eb]
        simp only [c1,Ahr,hx,Ahn,h2,Bool.not_true,d1,ok1,h3,N7,p1,oky,p2,Aht,U4 al,hn,sp _ ny,Hz ny,dz,cz',ay,iy,ny,Lj iy ny,Lj ny iy]
      | false =>
        have hm:muI x=Cq (Dm (A5 x (-Bk (Bc x)))):=by unfold muI; rw [if_neg (by rw [hn]; decide)]
        have my:=Ww ny
        obtain ⟨dv,k1,k2⟩:=key _ hm my (Cp (Gh x)) rfl
        refine ⟨0,dv,[],?_,k2⟩
        rw [← k1]
        have eb:Gh x=Bt (Cq (Dm (A5 x (-Bk (Bc x))))) (Bk (Bc x)):=by unfold Gh; rw [hm]
        rw [Ai.Hs.ev,ew,eb]
        simp only [c1,Ahr,hx,Ahn,h2,Bool.not_true,d1,ok1,h3,N7,p1,oky,p2,Aht,U4 al,hn,Bool.not_false,sp _ my,Hz my,dz,cz',ay,iy,ny,my,Lj iy my,Lj my iy]
  · rw [if_neg h2]
    have h2:Ey x=false:=by simpa using h2
    refine ⟨0,.tup [.nil,.int .u64 0,.int .u64 0,.int .i64 4],[],?_,Wk.Fl (.cons Mf (.cons .int (.cons .int (.cons .int .nil))))⟩
    rw [Ai.Hs.ev,c1,Ahr,hx,Ahn,h2,Bool.not_false,Ahn]
open EqHouse
def apD (i k c j a b:Nat):Bool:=decide (k≤b∧i≤a∧(b<c∨(b=c∧a<i+j)))
def apS (R C:Nat) (l:List Int) (i k:Nat) (v:List Int) (t:Int) (c j:Nat):List Int :=
  By R C fun a b=>if apD i k c j a b=true∧a<i+v.length then L6 (C:Int) l (i:Int) (k:Int) v t (a:Int) (b:Int) else Dr (C:Int) l (a:Int) (b:Int)
section
variable {R C i k:Nat} {l v:List Int} {t:Int}
theorem Ahh (c j:Nat):(apS R C l i k v t c j).length=R*C:=Bq _ _ _
theorem Aez (h:l.length=R*C):apS R C l i k v t k 0=l:=by
  unfold apS
  conv=>rhs; rw [← Tu h]
  refine C1 fun a b ha hb=>?_
  rw [if_neg]
  rintro ⟨h,_⟩
  have:=of_decide_eq_true h
  omega
theorem Ae0 (c:Nat):apS R C l i k v t c v.length=apS R C l i k v t (c+1) 0:=by
  unfold apS
  refine C1 fun a b ha hb=>?_
  have:(apD i k c v.length a b=true∧a<i+v.length)↔(apD i k (c+1) 0 a b=true∧a<i+v.length):=by
    unfold apD
    rw [Ahu,Ahu]
    omega
  by_cases h:apD i k c v.length a b=true∧a<i+v.length
  · rw [if_pos h,if_pos (this.1 h)]
  · rw [if_neg h,if_neg (fun hh=>h (this.2 hh))]
theorem Ahi:apS R C l i k v t C 0=E9 R C l (i:Int) (k:Int) v t:=by
  unfold apS E9
  refine C1 fun a b ha hb=>?_
  by_cases h:apD i k C 0 a b=true∧a<i+v.length
  · rw [if_pos h]
  · rw [if_neg h]
    unfold L6
    rw [if_neg]
    intro hh
    refine h ⟨?_,by omega⟩
    unfold apD
    rw [Ahu]; omega
theorem Ahg {c j:Nat} (hc:c<C) (hk:k≤c) (hj:j<v.length) {x:Int} (hx:x=L6 (C:Int) l (i:Int) (k:Int) v t ((i+j:Nat):Int) (c:Int)) :
    List.set (apS R C l i k v t c j) ((i+j)*C+c) x=apS R C l i k v t c (j+1):=by
  unfold apS
  rw [O4 hc]
  refine C1 fun a b ha hb=>?_
  by_cases h:a=i+j∧b=c
  · obtain ⟨rfl,rfl⟩:=h
    rw [if_pos ⟨rfl,rfl⟩,if_pos ⟨by unfold apD; rw [Ahu]; omega,by omega⟩,hx]
  · rw [if_neg h]
    have:(apD i k c j a b=true∧a<i+v.length)↔(apD i k c (j+1) a b=true∧a<i+v.length):=by
      unfold apD
      rw [Ahu,Ahu]
      omega
    by_cases h2:apD i k c j a b=true∧a<i+v.length
    · rw [if_pos h2,if_pos (this.1 h2)]
    · rw [if_neg h2,if_neg (fun hh=>h2 (this.2 hh))]
theorem Aey {c j:Nat} (hk:k≤c) (hj:j<v.length):L6 (C:Int) l (i:Int) (k:Int) v t ((i+j:Nat):Int) (c:Int) =
    C0 ((Cu (C:Int) l (c:Int) (i:Int) v.length).getD j 0) (Dz (Vn (C:Int) l (i:Int) v t (c:Int)) (v.getD j 0)):=by
  unfold L6
  rw [if_pos ⟨by omega,by omega,by omega⟩]
  have e1:(((i+j:Nat):Int)-(i:Int)).toNat=j:=by omega
  have e2:(Cu (C:Int) l (c:Int) (i:Int) v.length).getD j 0=Dr (C:Int) l ((i+j:Nat):Int) (c:Int):=by
    unfold Cu
    rw [Ahx,List.getElem?_map,List.getElem?_range hj]
    show Dr (C:Int) l ((i:Int)+(j:Int)) (c:Int)=_
    rw [← Int.natCast_add]
  rw [e1,e2]
theorem Acz {c b i:Int} {l:List Int} {m n:Nat} (h:m≤n):List.take m (Cu c l b i n)=Cu c l b i m:=by
  unfold Cu
  rw [← List.map_take,List.take_range,Nat.min_eq_left h]
theorem Y9 (N M0:Nat) (r6:R≤6) (c6:C≤6) (al:Af l=true) (av:Af v=true) (hv:i+v.length≤R) {c:Nat} (hc:c<C) (hk:k≤c):∀ (cnt j F:Nat),j+cnt=v.length→cnt<F →
    Ai.Apply.L1 N M0 F (R:Int) (C:Int) l (i:Int) v t (j:Int) (apS R C l i k v t c j) (c:Int) (Vn (C:Int) l (i:Int) v t (c:Int)) (Cu (C:Int) l (c:Int) (i:Int) v.length) (v.length:Int) =
    Ai.Apply.L0 N M0 (R:Int) (C:Int) l (i:Int) v t ((c+1:Nat):Int) (apS R C l i k v t (c+1) 0):=by
  intro cnt
  induction cnt with
  | zero =>
    intro j F hj hF
    obtain ⟨F,rfl⟩:∃ G,F=G+1:=⟨F-1,by omega⟩
    obtain rfl:j=v.length:=by omega
    rw [Ai.Apply.Ca,Aq,Ahs (by omega),Ahr,Ak (by omega) (by omega),Ae0]
    rfl
  | succ cnt ih =>
    intro j F hj hF
    obtain ⟨F,rfl⟩:∃ G,F=G+1:=⟨F-1,by omega⟩
    have hm:=J9 (a:=((i+j:Nat):Int)) (b:=(C:Int)) (by omega) (by omega) (by omega) (by omega)
    have hpl:=I1 (show i+j<R by omega) hc
    have e1:Ab ((i:Int)+(j:Int))=((i+j:Nat):Int):=by rw [Ak (by omega) (by omega)]; omega
    have e2:Ab (((i+j:Nat):Int)*(C:Int))=(((i+j)*C:Nat):Int):=by rw [Ak (by omega) (by omega)]; exact (Ah8 _ _).symm
    have h36:=Nat.mul_le_mul r6 c6
    have e3:Ab ((((i+j)*C:Nat):Int)+(c:Int))=(((i+j)*C+c:Nat):Int):=by rw [Ak (by omega) (by omega)]; omega
    have hlen:=Ahh (R:=R) (C:=C) (l:=l) (i:=i) (k:=k) (v:=v) (t:=t) c j
    have sl:=Hf (C:Int) (c:Int) (i:Int) v.length l
    rw [Ai.Apply.Ca,Aq,Aho (show (j:Int)<(v.length:Int) by omega),Ahn,e1,e2,e3,sl,Aho (show (0:Int)≤(j:Int) by omega),Aho (show (j:Int)<(v.length:Int) by omega),Aht,Ahn,Ahp,Ahp]
    have a1:=Kj av j
    have a2:=Kj (Pn (c:=(C:Int)) (b:=(c:Int)) (i:=(i:Int)) (n:=v.length) al) j
    have a3:Ag (Vn (C:Int) l (i:Int) v t (c:Int))=true:=Jy _ _
    rw [Ahn,a3,a1,Aht,Ahn,a2,Jy,Aht,Ahn,Aho (by omega),Aho (by omega),Aht,Ahn,Aho (by omega),Ahn,
      Ahg hc hk (by omega) (Aey hk (by omega)).symm,Ak (by omega) (by omega)]
    exact ih (j+1) F (by omega) (by omega)
theorem Za (N:Nat) (r6:R≤6) (c6:C≤6) (hN:7<N) (hr:Aw (R:Int) (C:Int) l=true) (al:Af l=true) (av:Af v=true) (ht:Ag t=true) (hv:i+v.length≤R):∀ (cnt c F:Nat),c+cnt=C→k≤c→cnt<F →
    Ai.Apply.L0 N F (R:Int) (C:Int) l (i:Int) v t (c:Int) (apS R C l i k v t c 0) =
    some (.tup [.agg [.int .i64 (R:Int),.int .i64 (C:Int),.ints (.own 114002 tB) .u64 (E9 R C l (i:Int) (k:Int) v t)],.int .i64 (0:Int)]):=by
  intro cnt
  induction cnt with
  | zero =>
    intro c F hc hk hF
    obtain ⟨F,rfl⟩:∃ G,F=G+1:=⟨F-1,by omega⟩
    obtain rfl:c=C:=by omega
    rw [Ai.Apply.As,Aq,Ahs (by omega),Ahr,Ahi]
  | succ cnt ih =>
    intro c F hc hk hF
    obtain ⟨F,rfl⟩:∃ G,F=G+1:=⟨F-1,by omega⟩
    have cp:Jc (R:Int) (C:Int) l (c:Int)=true:=Ad.2 ⟨hr,Ar.2 (by omega)⟩
    have e0:Int.toNat ((R:Int)-(i:Int))=R-i:=by omega
    have st:=Acz (c:=(C:Int)) (b:=(c:Int)) (i:=(i:Int)) (l:=l) (m:=v.length) (n:=R-i) (by omega)
    have sl:=Hf (C:Int) (c:Int) (i:Int) v.length l
    have sl2:=Hf (C:Int) (c:Int) (i:Int) (R-i) l
    have sa:=Pn (c:=(C:Int)) (b:=(c:Int)) (i:=(i:Int)) (n:=v.length) al
    have ft:P0 v (Cu (C:Int) l (c:Int) (i:Int) v.length)=true:=U8.2 ⟨by omega,by omega⟩
    rw [Ai.Apply.As,Aq,Aho (by omega),Ahn,cp,Ar.2 (show 0≤(i:Int)∧(i:Int)≤(R:Int) by omega),Aht,Ahn,e0,Ahp,st,sl2,sl,
      Aho (show (0:Int)≤(v.length:Int) by omega),Aho (show (v.length:Int)≤(v.length:Int) by omega),Aho (show (v.length:Int)≤((R-i:Nat):Int) by omega),Aht,Aht,Ahn,ft,av,sa,Aht,Aht,Ahn,ht,Vf,Aht,Ahn]
    have:=Y9 (t:=t) N F r6 c6 al av hv (show c<C by omega) hk v.length 0 N (by omega) (by omega)
    exact this.trans (ih (c+1) F (by omega) (by omega) (by omega))
end
theorem Ai.Apply.known:Ai.Apply.Kn:=Ai.Apply.Ae (.cons Aa.Check.known (.cons Aa.Ck.known (.cons Ac.Lf.known (.cons Ac.Mul.known (.cons Ac.Sub.known .nil))))) fun r c l i k v t hp=>by
  obtain ⟨h1,ht⟩:=Ad.1 (show (((Aw r c l&&J5 r c i k v)&&(Af l&&Af v))&&Ag t)=true from hp)
  obtain ⟨h2,h3⟩:=Ad.1 h1
  obtain ⟨hr,hb⟩:=Ad.1 h2
  obtain ⟨al,av⟩:=Ad.1 h3
  have hb:=of_decide_eq_true hb
  have hc:Hp r c l=0:=by unfold Hp; rw [if_pos hr]
  have h36:=Mj hr
  obtain ⟨R,C,rfl,rfl,r6,c6,hl⟩:=Dj hr
  obtain ⟨i,rfl⟩:∃ j:Nat,i=j:=⟨i.toNat,by omega⟩
  obtain ⟨k,rfl⟩:∃ j:Nat,k=j:=⟨k.toNat,by omega⟩
  refine ⟨8,Ai.Apply.out [.i (R:Int),.i (C:Int),.l l,.i (i:Int),.i (k:Int),.l v,.i t],[],?_,Wk.Fl (.cons (Wk.Hr (.cons .int (.cons .int (.cons (.keep _ _ _ _ List.not_mem_nil) .nil)))) (.cons .int .nil))⟩
  show _=some (DV.tup [.agg [.int .i64 (R:Int),.int .i64 (C:Int),.ints (.own 114002 tB) .u64 (E9 (Int.toNat (R:Int)) (Int.toNat (C:Int)) l (i:Int) (k:Int) v t)],.int .i64 0])
  have hlt:(((((Au (i:Int) (0:Int))||(Au (R:Int) (List.length v:Int)))||(Au (Ab ((R:Int)-(List.length v:Int))) (i:Int)))||(Au (k:Int) (0:Int)))||(Au (C:Int) (k:Int)))=false:=by
    rw [Aq,Aq,Aq,Aq,Aq,Ak (by omega) (by omega),Ahs (by omega),Ahs (by omega),Ahs (by omega),Ahs (by omega),Ahs (by omega)]; rfl
  rw [Ai.Apply.ev,hc,show ((0:Int) !=(0:Int))=false from rfl,Ahr,hlt,Ahr,Aho (show 0+l.length≤Hv by unfold Hv; omega),Ahn,List.nil_append,Ahp,Ahp]
  have:=Za (R:=R) (C:=C) (i:=i) (k:=k) (l:=l) (v:=v) (t:=t) 8 r6 c6 (by omega) hr al av ht (by omega) (C-k) k 8 (by omega) (by omega) (by omega)
  rw [Aez hl] at this
  exact this
end Go.Proofs.S1
end
