/- A verified evaluator of the program's form and its use for this seat: S1PRootA, LdxL, S1EqLdx, S1PLdx, S1PLdxA, S1EqRef08, S1EqRef13, S1PRef08, S1EqOf, S1POf, S1PMatA, S1EqRef10, S1PRef10, S1PFill, S1EqHouse, S1PHouse, S1PApply, S1EqSol, S1PTri. -/
import Derived.Test.YtjbokjpbiobjpaaGreatTI
import Derived.Test.YtjbokjpbiobjpaaGreatTE
import Derived.Test.YtjbokjpbiobjpaaGreatTF
import Derived.Test.YtjbokjpbiobjpaaGreatTG
set_option linter.unusedVariables false
set_option linter.unusedSimpArgs false
noncomputable section
namespace Go.Proofs.S1
open Go Go.Den Go.Rnd Go.Proofs
open EqRoot
theorem Ut {b:Nat} (h:Av b≠0):D0 (Av b:Int)=((Av b).log2:Int)+1:=by
  unfold D0
  rw [if_neg (by omega),Aqy]
theorem Aea {w:Nat} {E:Int} {s:Bool} (hw:2^62≤w) (n:Nat) (h:Pz n=w) (hs:s=decide (w*w≠n)) :
    Fb false (w / 2) (E+2) (bif s then true else decide (w%2=1))=(Ch (Fs n) E,flagsOf (Fs n) E):=by
  have e1:Fs n / 2^2=w / 2:=by unfold Fs; rw [h]; split<;>omega
  have e2:(bif s then true else decide (w%2=1))=decide (Fs n%2^2≠0):=by
    rw [hs]
    unfold Fs
    rw [h]
    by_cases h0:w*w=n
    · rw [Aq1 (by omega),Aq0,if_pos h0,decide_eq_decide]; omega
    · rw [Aqx h0,Aqw,if_neg h0]; symm; exact Aqx (by omega)
  rw [← e1]
  have:=Qo false (V:=Fs n) (k:=2) (E:=E) (e:=E+2) rfl e2 (by rw [e1]; omega) (by left; rw [e1]; omega)
  rw [Agw] at this
  exact this
theorem root.Sqrt.num {b:Nat} (hb:b<2^64) (h4:As b≠4) (h:¬ (As b=0∨b=G5)) (hn:D3 b=false) {z:Nat} (hz:2^60≤Av b*2^z) (hz2:Av b*2^z<2^62) (he:(Be b-(z:Int))%2=0) (z60:z≤62) :
    root.Sqrt.L0 2 2 (Be b-(z:Int)) (Qp ((Av b*2^z:Nat):Int)) (!(Qq ((Av b*2^z:Nat):Int)))=some (.tup [.int .u64 (G4 (b:Int)),.int .u8 (Na (b:Int))]):=by
  have hE:=Ea b
  have hM:=Ei b
  have h3:As b≠3:=fun h3=>by
    refine h (.inr ?_)
    have hpn:D3 b=false:=hn
    unfold D3 at hpn
    have hlt:b<2^63:=by simpa using hpn
    unfold As at h3
    have hp:=It b
    unfold Gv at h3
    unfold Fc at h3
    unfold G5
    split at h3
    · split at h3
      · omega
      · omega
    · split at h3
      · omega
      · split at h3<;>omega
  have hm:Av b≠0:=fun h0=>h (.inl ((Kc h3 h4).1 h0))
  have eN:Av b*2^z*2^64=Av b*2^(z+64):=by rw [Nat.mul_assoc,← Nat.pow_add]
  have i1:2^62≤Pz (Av b*2^z*2^64):=X9 (t:=62) (by omega)
  have i2:=(No (Av b*2^z*2^64)).1
  have i3:Pz (Av b*2^z*2^64)<2^63:=by
    refine Ze (Nat.lt_of_le_of_lt i2 ?_)
    show _<9223372036854775808*9223372036854775808
    omega
  have r1:Qp ((Av b*2^z:Nat):Int)=(Pz (Av b*2^z*2^64):Int):=by unfold Qp; rw [Aqy]
  have r2:(!(Qq ((Av b*2^z:Nat):Int)))=decide (Pz (Av b*2^z*2^64)*Pz (Av b*2^z*2^64)≠Av b*2^z*2^64):=by
    unfold Qq; rw [Aqy,← decide_not]
  obtain ⟨k1,k2⟩:=Ag3 hm
  have same:=Aek (m:=Av b) (k:=z+64) (l:=Ji b) (E:=(Be b-(z:Int)) / 2-33) (F:=(Be b-(Ji b:Int)) / 2-1) (by rw [← eN]; omega) k1 (by omega)
  rw [← eN] at same
  have near:=Aea (E:=(Be b-(z:Int)) / 2-33) i1 _ rfl r2
  rw [same.1,same.2] at near
  have sq:Mr b=_:=Ags h4 h hn
  rw [r1,r2]
  rw [r2] at near
  generalize Pz (Av b*2^z*2^64)=w at *
  have w1:Iw (4611686018427387904:Int) (w:Int)=true:=by rw [Er]; exact Aqx (by omega)
  have w2:Ct .u64 (w:Int) (1:Int)=((w / 2:Nat):Int):=by rw [show (1:Int)=((1:Nat):Int) from rfl,Q3 _ _ (by decide)]
  have w3:((E8 .u64 (w:Int) (1:Int))==(1:Int))=decide (w%2=1):=by
    rw [show E8 .u64 (w:Int) (1:Int)=((w%2^1:Nat):Int) from Gx 1 (by omega) (by decide),Arc,beq_iff_eq,Aq3]
    omega
  have w4:Iw (4611686018427387904:Int) ((w / 2:Nat):Int)=false:=by rw [Er]; exact Aq1 (by omega)
  have w5:Ab (Ab (Int.tdiv (Be b-(z:Int)+2) 2)-32)=(Be b-(z:Int)) / 2-33+2:=by
    have:Int.tdiv (Be b-(z:Int)+2) 2=(Be b-(z:Int)) / 2+1:=by
      rw [Int.tdiv_eq_ediv]
      split<;>omega
    rw [this,An (x:=(Be b-(z:Int)) / 2+1) (by omega) (by omega),An (by omega) (by omega)]
    omega
  have w6:Ab (Be b-(z:Int)+2)=Be b-(z:Int)+2:=An (by omega) (by omega)
  generalize hs:decide (w*w≠Av b*2^z*2^64)=s at *
  have pre:Di ((w / 2:Nat):Int) ((Be b-(z:Int)) / 2-33+2) (bif s then true else decide (w%2=1))=true:=Ao.2 ⟨by omega,by omega,by omega,by omega,fun _=>.inl (by omega)⟩
  rw [show (2:Nat)=1+1 from rfl,root.Sqrt.At,w1,Aqw,w2,w3,w6,show (1:Nat)=0+1 from rfl,root.Sqrt.At,w4,Aq0,w5,pre,Aqw]
  unfold Dz Dy G4 Na
  rw [Aqy,Aqy,near,sq]
theorem root.Sqrt.known:root.Sqrt.Kn:=root.Sqrt.Ad (.cons B9.Bk.known (.cons root.Fm.known (.cons soft.Kind.known (.cons soft.Cq.known (.cons soft.E2.known (.cons soft.Sign.known .nil)))))) fun a hp=>by
  obtain ⟨b,rfl,hb⟩:=Bt (x:=a) hp
  refine ⟨2,root.Sqrt.out [.i b],[],?_,Wk.Gb (.cons .int (.cons .int .nil))⟩
  show _=some (DV.tup [.int .u64 (G4 (b:Int)),.int .u8 (Na (b:Int))])
  have hk:A4 (b:Int)=(As b:Int):=rfl
  rw [root.Sqrt.ev,B0 hb,Aqw,Aqw,Aqw,Aqw,hk]
  by_cases h4:As b=4
  · rw [h4,show (((4:Nat):Int)==(4:Int))=true from rfl,Aqw]
    unfold G4 Na
    rw [Aqy,Zd h4]; rfl
  have k4:(((As b:Nat):Int)==(4:Int))=false:=by rw [beq_eq_false_iff_ne]; omega
  rw [k4,Aq0]
  by_cases h0:As b=0
  · rw [h0,show (((0:Nat):Int)==(0:Int))=true from rfl,Aqw]
    unfold G4 Na
    rw [Aqy,Rd h4 (.inl h0)]; rfl
  have k0:(((As b:Nat):Int)==(0:Int))=false:=by rw [beq_eq_false_iff_ne]; omega
  rw [k0,Aq0]
  by_cases hi:b=G5
  · rw [show (((b:Nat):Int)==(9218868437227405312:Int))=true by rw [hi]; rfl,Aqw]
    unfold G4 Na
    rw [Aqy,Rd h4 (.inr hi)]; rfl
  have ki:(((b:Nat):Int)==(9218868437227405312:Int))=false:=by
    rw [beq_eq_false_iff_ne]; intro hh; refine hi (show b=9218868437227405312 from ?_); omega
  rw [ki,Aq0]
  have hh:¬ (As b=0∨b=G5):=by rintro (h | h); exact h0 h; exact hi h
  have hneg:Dd (b:Int)=D3 b:=rfl
  rw [hneg]
  cases hn:D3 b with
  | true =>
    rw [Aqw]
    unfold G4 Na
    rw [Aqy,Zc h4 hh hn]; rfl
  | false =>
    rw [Aq0]
    have hm:Av b≠0:=fun hz=>by
      have h3:As b≠3:=fun h3=>by
        rcases Acf b with ⟨p,_,_⟩ | ⟨_,_,q⟩ | ⟨_,q,_⟩
        · unfold Av at hz
          rw [if_neg (by omega)] at hz
          omega
        · omega
        · exact q h3
      exact hh (.inl ((Kc h3 h4).1 hz))
    have hM:=Ei b
    have hE:=Ea b
    have hl:(Av b).log2≤52:=by have:=(Nat.log2_lt hm).2 (show Av b<2^53 by omega); omega
    have e1:Bf (b:Int)=(Av b:Int):=rfl
    have e2:Aw (b:Int)=Be b:=rfl
    have l1:∀ z:Nat,(Av b).log2+z=60∨(Av b).log2+z=61→2^60≤Av b*2^z∧Av b*2^z<2^62:=by
      intro z hz
      have hlz:=Ul (Av b) z hm
      have hne:Av b*2^z≠0:=Mb hm
      constructor
      · rw [← Nat.le_log2 hne]; omega
      · rw [← Nat.log2_lt hne]; omega
    have ez:Ab ((64-(((Av b).log2:Int)+1))-(2:Int))=((61-(Av b).log2:Nat):Int):=by rw [An (by omega) (by omega)]; omega
    have ez':Ab (((61-(Av b).log2:Nat):Int)-(1:Int))=((60-(Av b).log2:Nat):Int):=by rw [An (by omega) (by omega)]; omega
    rw [e1,e2,B0 (n:=Av b) (by omega),Aqw,Ut hm,ez,ez',An (x:=Be b-((61-(Av b).log2:Nat):Int)) (by omega) (by omega),An (x:=Be b-((60-(Av b).log2:Nat):Int)) (by omega) (by omega)]
    by_cases hp2:(Be b-((61-(Av b).log2:Nat):Int))%2=0
    · have t0:(Int.tmod (Be b-((61-(Av b).log2:Nat):Int)) (2:Int) !=(0:Int))=false:=by
        rw [bne_eq_false_iff_eq]; exact Int.tmod_eq_zero_of_dvd (Int.dvd_of_emod_eq_zero hp2)
      obtain ⟨m1,m2⟩:=l1 (61-(Av b).log2) (by omega)
      rw [t0,Aq0,Aqx (by omega),Aqw,Ek _ _ (by omega),Aq9 (by omega),Ao.2 (by omega),Aqw]
      exact root.Sqrt.num hb h4 hh hn m1 m2 hp2 (by omega)
    · have t0:(Int.tmod (Be b-((61-(Av b).log2:Nat):Int)) (2:Int) !=(0:Int))=true:=by
        rw [bne_iff_ne]; intro hz; exact hp2 (Int.emod_eq_zero_of_dvd (Int.dvd_of_tmod_eq_zero hz))
      obtain ⟨m1,m2⟩:=l1 (60-(Av b).log2) (by omega)
      rw [t0,Aqw,Aqx (by omega),Aqw,Ek _ _ (by omega),Aq9 (by omega),Ao.2 (by omega),Aqw]
      exact root.Sqrt.num hb h4 hh hn m1 m2 (by omega) (by omega)
theorem Ae.Sqrt.known:Ae.Sqrt.Kn:=Ae.Sqrt.Ad (.cons root.Sqrt.known .nil) fun a hp=>by
  have hp:Ai a=true:=hp
  refine ⟨0,Ae.Sqrt.out [.i a],[],?_,.int⟩
  rw [Ae.Sqrt.ev,hp]; rfl
theorem compare.Sw.known:compare.Sw.Kn:=compare.Sw.Ad (.cons B9.Ja.known (.cons soft.Finite.known (.cons soft.Kind.known (.cons soft.E2.known .nil)))) fun a hp=>by
  obtain ⟨b,rfl,hb⟩:=Bt (x:=a) hp
  refine ⟨0,compare.Sw.out [.i b],[],?_,.int⟩
  show _=some (DV.int .i64 (Bz (b:Int)))
  have hk:A4 (b:Int)=(As b:Int):=rfl
  have hf:Df (b:Int)=Lu b:=rfl
  have hE:=Ea b
  have hM:=Ei b
  rw [compare.Sw.ev,B0 hb,Aqw,Bool.or_true,Aqw,hk,hf]
  unfold Bz
  rw [Aqy]
  unfold Aiu
  cases hfin:Lu b with
  | false=>rfl
  | true =>
    by_cases h0:As b=0
    · rw [h0]; rfl
    · have k0:(((As b:Nat):Int)==(0:Int))=false:=by rw [beq_eq_false_iff_ne]; omega
      have hm:Av b≠0:=fun hz=>by
        obtain ⟨f4,f3⟩:=U4 hfin
        exact h0 ((Kc f3 f4).1 hz)
      have hl:(Av b).log2≤52:=by have:=(Nat.log2_lt hm).2 (show Av b<2^53 by omega); omega
      have e1:Bf (b:Int)=(Av b:Int):=rfl
      have e2:Aw (b:Int)=Be b:=rfl
      rw [k0,if_pos ⟨rfl,h0⟩,Bool.not_true,Bool.false_or,Aq0,Aqw,e1,e2,B0 (n:=Av b) (by omega),Aqw,Ut hm,An (x:=((Av b).log2:Int)+1-1) (by omega) (by omega),An (by omega) (by omega)]
      congr 2; omega
theorem Agr {x:List Int} {i:Nat} (h:i<x.length) (k s:Int):Abi k s (x.drop i)=Abi k (Jm s (Ej (B8 (x.getD i 0) k) (B8 (x.getD i 0) k))) (x.drop (i+1)):=by
  rw [Im h,Abi]
theorem Aet (N:Nat) {x:List Int} (hx:C4 x=true) (hl:x.length≤1000):∀ (k i F:Nat) (s:Int),i+k=x.length→k<F→Ai s=true →
    Ae.Norm.L0 N F x s (i:Int)=some (.tup [.int .u64 (B8 (G4 (Abi (-Bz (Bl x)) s (x.drop i))) (Bz (Bl x))),.int .i64 0]):=by
  obtain ⟨_,hu⟩:=Kw hx
  have he:=Ait (Bl x)
  intro k
  induction k with
  | zero =>
    intro i F s hi hF hs
    obtain ⟨F,rfl⟩:∃ G,F=G+1:=⟨F-1,by omega⟩
    rw [Ae.Norm.At,Aq,Aq1 (by omega),Aq0,hs,Aqw,show Eh (G4 s) (Bz (Bl x))=true from Af.2 ⟨Ac8 hs,Ao.2 (by omega)⟩,Aqw,Ara (by omega)]
    rfl
  | succ k ih =>
    intro i F s hi hF hs
    obtain ⟨F,rfl⟩:∃ G,F=G+1:=⟨F-1,by omega⟩
    rw [Ae.Norm.At,Aq,Aqx (show (i:Int)<(x.length:Int) by omega),Aqw,Aqx (show (0:Int)≤(i:Int) by omega),Aq2,Aqw,Aqy,An (x:=0-Bz (Bl x)) (by omega) (by omega),show (0:Int)-Bz (Bl x)=-Bz (Bl x) by omega,
      show Eh (List.getD x i 0) (-Bz (Bl x))=true from Af.2 ⟨hu i (by omega),Ao.2 (by omega)⟩,Aqw,Iy (hu i (by omega)),Aq2,Aqw,hs,La,Aq2,Aqw,Agr (by omega),An (by omega) (by omega)]
    exact ih (i+1) F _ (by omega) (by omega) (Ajm hs (La _ _))
theorem Ae.Norm.known:Ae.Norm.Kn:=Ae.Norm.Ad (.cons compare.Sw.known (.cons soft.Finite.known (.cons Ae.Add.known (.cons Ae.Cf.known (.cons Ae.Mul.known (.cons Ae.Bp.known (.cons Ae.Sqrt.known .nil))))))) fun x hp=>by
  obtain ⟨hx,hl⟩:=Af.1 (show (C4 x&&Cn (List.length x≤64))=true from hp)
  have hl:=Ao.1 hl
  refine ⟨65,Ae.Norm.out [.l x],[],?_,Wk.Gb (.cons .int (.cons .int .nil))⟩
  show _=some (DV.tup [.int .u64 (D7 x),.int .i64 0])
  rw [Ae.Norm.ev,Aq,Aq1 (by omega),Aq0,hx,Aqw,Pw,Bool.or_true,Aqw]
  unfold D7
  by_cases h:Bl x=0∨Df (Bl x)=false
  · have:((Bl x==(0:Int))||(!(Df (Bl x))))=true:=by
      rcases h with h | h
      · rw [h]; rfl
      · rw [h,Bool.not_false,Bool.or_true]
    rw [this,Aqw,if_pos h]
  · have:((Bl x==(0:Int))||(!(Df (Bl x))))=false:=by
      rw [Bool.or_eq_false_iff,beq_eq_false_iff_ne,Bool.not_eq_false']
      refine ⟨fun h0=>h (.inl h0),?_⟩
      cases hf:Df (Bl x) with
      | true=>rfl
      | false=>exact absurd (.inr hf) h
    rw [this,Aq0,Aqw,if_neg h]
    exact Aet 65 hx (by omega) x.length 0 65 0 (by omega) (by omega) Ir
end Go.Proofs.S1
namespace Go.Rnd
open Go.Den
end Go.Rnd
namespace Go.Proofs.S1
open Go Go.Den Go.Rnd Go.Proofs
set_option maxRecDepth 100000
namespace EqLdx
end EqLdx
open EqLdx
open EqLdx
namespace EqRef08
end EqRef08
namespace EqRef13
end EqRef13
open EqRef08 EqRef13
namespace EqOf
def Aa.of.B3.hint:Nat→Option A6
  | 0=>some { keep:=[1,2,6,7,13,14],objs:=[(8,2,108002,.ints 37 .u64 [])],boxes:=[6,7] }
  | 2=>some { keep:=[1,2,6,7,8,13,14,17,18],objs:=[(8,2,108002,.ints 37 .u64 [])],boxes:=[6,7] }
  | _=>none
def Aa.of.B3.Ba:List (Nat × Entry):=[(205,Aa.Dk.spec)]
def Aa.of.B3.E:Env:=Bc (A9 Aa.of.B3.Ba) (fun _=>false) Aa.of.B3.hint (fun _=>none)
def Aa.of.B3.L0 (N M:Nat) (a b p14:Int) (p2_1:List Int):Option DV:=B2 Aa.of.B3.E N Tryz.f187 (Am Tryz.f187) [1,1,0,1,0] [] M ⟨Fw 33 [(1,.int .i64 b),(2,.fn 205 [] []),(6,.ptr 6 0 0),(7,.ptr 7 0 0),(13,.int .i64 a),(14,.int .i64 p14)],[(6,false,.box [.int .i64 0,.int .i64 0,.nil]),(7,false,.box [.int .i64 a,.int .i64 b,.oref 108002]),(108002,false,.ints 37 .u64 p2_1)]⟩
def Aa.of.B3.L1 (N M0 M:Nat) (a b:Int) (p8 p14_1 p18:Int) (p2:List Int):Option DV:=B2 Aa.of.B3.E N Tryz.f187 (Am Tryz.f187) [1,1,0,1,0,0,1,1,0,0,1,1,0] [M0] M ⟨Fw 33 [(1,.int .i64 b),(2,.fn 205 [] []),(6,.ptr 6 0 0),(7,.ptr 7 0 0),(8,.int .i64 p8),(13,.int .i64 a),(14,.int .i64 p14_1),(17,.int .i64 b),(18,.int .i64 p18)],[(6,false,.box [.int .i64 0,.int .i64 0,.nil]),(7,false,.box [.int .i64 a,.int .i64 b,.oref 108002]),(108002,false,.ints 37 .u64 p2)]⟩
theorem Aa.of.B3.At (N M:Nat) (a b p14:Int) (p2_1:List Int):Aa.of.B3.L0 N (M+1) a b p14 p2_1=bif (A1 p14 a) then Aa.of.B3.L1 N M N a b p14 p14 0 p2_1 else some (.agg [.int .i64 a,.int .i64 b,.ints (.own 108002 37) .u64 p2_1]):=by kernel_rfl
theorem Aa.of.B3.Cc (N M0 M:Nat) (a b:Int) (p8 p14_1 p18:Int) (p2:List Int):Aa.of.B3.L1 N M0 (M+1) a b p8 p14_1 p18 p2=bif (A1 p18 b) then bif (decide ((List.length p2)+1≤Gq)) then Aa.of.B3.L1 N M0 M a b p8 p14_1 (Ab (p18+1)) (p2++[(0:Int)]) else none else Aa.of.B3.L0 N M0 a b (Ab (p14_1+1)) p2 :=
  Eq.trans (by kernel_rfl)
  (E3 (C0 (C3 (decide ((List.length p2)+1≤Gq))) rfl rfl) rfl)
theorem Aa.of.B3.ev (N:Nat) (a b:Int):By Aa.of.B3.E N Tryz.f187 (Am Tryz.f187) [.int .i64 a,.int .i64 b,.fn 205 [] []] =
  Aa.of.B3.L0 N N a b 0 []:=by kernel_rfl
def Aa.of.Gm.hint:Nat→Option A6
  | 0=>some { keep:=[1,2,6,7,13,14],objs:=[(8,2,108002,.ints 37 .u64 [])],boxes:=[6,7] }
  | 2=>some { keep:=[1,2,6,7,8,13,14,17,18],objs:=[(8,2,108002,.ints 37 .u64 [])],boxes:=[6,7] }
  | _=>none
def Aa.of.Gm.Ba:List (Nat × Entry):=[(246,Aa.Gk.spec)]
def Aa.of.Gm.E:Env:=Bc (A9 Aa.of.Gm.Ba) (fun _=>false) Aa.of.Gm.hint (fun _=>none)
def Aa.of.Gm.L0 (N M:Nat) (a b p14:Int) (p2_1:List Int):Option DV:=B2 Aa.of.Gm.E N Tryz.f187 (Am Tryz.f187) [1,1,0,1,0] [] M ⟨Fw 33 [(1,.int .i64 b),(2,.fn 246 [] []),(6,.ptr 6 0 0),(7,.ptr 7 0 0),(13,.int .i64 a),(14,.int .i64 p14)],[(6,false,.box [.int .i64 0,.int .i64 0,.nil]),(7,false,.box [.int .i64 a,.int .i64 b,.oref 108002]),(108002,false,.ints 37 .u64 p2_1)]⟩
def Aa.of.Gm.L1 (N M0 M:Nat) (a b:Int) (p8 p14_1 p18:Int) (p2:List Int):Option DV:=B2 Aa.of.Gm.E N Tryz.f187 (Am Tryz.f187) [1,1,0,1,0,0,1,1,0,0,1,1,0] [M0] M ⟨Fw 33 [(1,.int .i64 b),(2,.fn 246 [] []),(6,.ptr 6 0 0),(7,.ptr 7 0 0),(8,.int .i64 p8),(13,.int .i64 a),(14,.int .i64 p14_1),(17,.int .i64 b),(18,.int .i64 p18)],[(6,false,.box [.int .i64 0,.int .i64 0,.nil]),(7,false,.box [.int .i64 a,.int .i64 b,.oref 108002]),(108002,false,.ints 37 .u64 p2)]⟩
theorem Aa.of.Gm.At (N M:Nat) (a b p14:Int) (p2_1:List Int):Aa.of.Gm.L0 N (M+1) a b p14 p2_1=bif (A1 p14 a) then Aa.of.Gm.L1 N M N a b p14 p14 0 p2_1 else some (.agg [.int .i64 a,.int .i64 b,.ints (.own 108002 37) .u64 p2_1]):=by kernel_rfl
theorem Aa.of.Gm.Cc (N M0 M:Nat) (a b:Int) (p8 p14_1 p18:Int) (p2:List Int):Aa.of.Gm.L1 N M0 (M+1) a b p8 p14_1 p18 p2=bif (A1 p18 b) then bif (decide ((List.length p2)+1≤Gq)) then Aa.of.Gm.L1 N M0 M a b p8 p14_1 (Ab (p18+1)) (p2++[(Ry p8 p18)]) else none else Aa.of.Gm.L0 N M0 a b (Ab (p14_1+1)) p2 :=
  Eq.trans (by kernel_rfl)
  (E3 (C0 (C3 (decide ((List.length p2)+1≤Gq))) rfl rfl) rfl)
theorem Aa.of.Gm.ev (N:Nat) (a b:Int):By Aa.of.Gm.E N Tryz.f187 (Am Tryz.f187) [.int .i64 a,.int .i64 b,.fn 246 [] []] =
  Aa.of.Gm.L0 N N a b 0 []:=by kernel_rfl
abbrev _root_.Go.Proofs.S1.Aa.of.Gm.Kn:=A7 Tryz.prog 187 Aa.of.Gm.spec
theorem Aa.of.Gm.Ad (hk:Ax Tryz.prog Aa.of.Gm.Ba) (h:∀ (a b:Int),Aa.of.Gm.pre [.i a,.i b]=true→Bd Aa.of.Gm.E Tryz.f187 [.int .i64 a,.int .i64 b,.fn 246 [] []] (Aa.of.Gm.out [.i a,.i b])):Aa.of.Gm.Kn :=
  Al (A0 hk _ _ _) Tryz.func187 (by kernel_rfl) (by kernel_rfl) h
def Aa.of.Cy.hint:Nat→Option A6
  | 0=>some { keep:=[1,2,6,7,13,14],objs:=[(8,2,108002,.ints 37 .u64 [])],boxes:=[6,7] }
  | 2=>some { keep:=[1,2,6,7,8,13,14,17,18],objs:=[(8,2,108002,.ints 37 .u64 [])],boxes:=[6,7] }
  | _=>none
def Aa.of.Cy.Ba:List (Nat × Entry):=[(220,Aa.Es.spec)]
def Aa.of.Cy.E:Env:=Bc (A9 Aa.of.Cy.Ba) (fun _=>false) Aa.of.Cy.hint (fun _=>none)
def Aa.of.Cy.L0 (N M:Nat) (a b:Int) (r c:Int) (l:List Int) (p14:Int) (p2_1:List Int):Option DV:=B2 Aa.of.Cy.E N Tryz.f187 (Am Tryz.f187) [1,1,0,1,0] [] M ⟨Fw 33 [(1,.int .i64 b),(2,.fn 220 [] [.cellp [.int .i64 r,.int .i64 c,.ints .arg .u64 l]]),(6,.ptr 6 0 0),(7,.ptr 7 0 0),(13,.int .i64 a),(14,.int .i64 p14)],[(6,false,.box [.int .i64 0,.int .i64 0,.nil]),(7,false,.box [.int .i64 a,.int .i64 b,.oref 108002]),(108002,false,.ints 37 .u64 p2_1)]⟩
def Aa.of.Cy.L1 (N M0 M:Nat) (a b:Int) (r c:Int) (l:List Int) (p8 p14_1 p18:Int) (p2:List Int):Option DV:=B2 Aa.of.Cy.E N Tryz.f187 (Am Tryz.f187) [1,1,0,1,0,0,1,1,0,0,1,1,0] [M0] M ⟨Fw 33 [(1,.int .i64 b),(2,.fn 220 [] [.cellp [.int .i64 r,.int .i64 c,.ints .arg .u64 l]]),(6,.ptr 6 0 0),(7,.ptr 7 0 0),(8,.int .i64 p8),(13,.int .i64 a),(14,.int .i64 p14_1),(17,.int .i64 b),(18,.int .i64 p18)],[(6,false,.box [.int .i64 0,.int .i64 0,.nil]),(7,false,.box [.int .i64 a,.int .i64 b,.oref 108002]),(108002,false,.ints 37 .u64 p2)]⟩
theorem Aa.of.Cy.At (N M:Nat) (a b:Int) (r c:Int) (l:List Int) (p14:Int) (p2_1:List Int):Aa.of.Cy.L0 N (M+1) a b r c l p14 p2_1=bif (A1 p14 a) then Aa.of.Cy.L1 N M N a b r c l p14 p14 0 p2_1 else some (.agg [.int .i64 a,.int .i64 b,.ints (.own 108002 37) .u64 p2_1]):=by kernel_rfl
theorem Aa.of.Cy.Cc (N M0 M:Nat) (a b:Int) (r c:Int) (l:List Int) (p8 p14_1 p18:Int) (p2:List Int):Aa.of.Cy.L1 N M0 (M+1) a b r c l p8 p14_1 p18 p2=bif (A1 p18 b) then bif (D1 r c l p18 p8) then bif (decide ((List.length p2)+1≤Gq)) then Aa.of.Cy.L1 N M0 M a b r c l p8 p14_1 (Ab (p18+1)) (p2++[(Ef c l p18 p8)]) else none else none else Aa.of.Cy.L0 N M0 a b r c l (Ab (p14_1+1)) p2 :=
  Eq.trans (by kernel_rfl)
  (E3 (C0 (C3 (D1 r c l p18 p8)) (C0 (C3 (decide ((List.length p2)+1≤Gq))) rfl rfl) rfl) rfl)
theorem Aa.of.Cy.ev (N:Nat) (a b:Int) (r c:Int) (l:List Int):By Aa.of.Cy.E N Tryz.f187 (Am Tryz.f187) [.int .i64 a,.int .i64 b,.fn 220 [] [.cellp [.int .i64 r,.int .i64 c,.ints .arg .u64 l]]] =
  Aa.of.Cy.L0 N N a b r c l 0 []:=by kernel_rfl
abbrev _root_.Go.Proofs.S1.Aa.of.Cy.Kn:=A7 Tryz.prog 187 Aa.of.Cy.spec
theorem Aa.of.Cy.Ad (hk:Ax Tryz.prog Aa.of.Cy.Ba) (h:∀ (a b:Int) (r c:Int) (l:List Int),Aa.of.Cy.pre [.i a,.i b,.i r,.i c,.l l]=true→Bd Aa.of.Cy.E Tryz.f187 [.int .i64 a,.int .i64 b,.fn 220 [] [.cellp [.int .i64 r,.int .i64 c,.ints .arg .u64 l]]] (Aa.of.Cy.out [.i a,.i b,.i r,.i c,.l l])):Aa.of.Cy.Kn :=
  Al (A0 hk _ _ _) Tryz.func187 (by kernel_rfl) (by kernel_rfl) h
def Aa.of.Part.hint:Nat→Option A6
  | 0=>some { keep:=[1,2,6,7,13,14],objs:=[(8,2,108002,.ints 37 .u64 [])],boxes:=[6,7] }
  | 2=>some { keep:=[1,2,6,7,8,13,14,17,18],objs:=[(8,2,108002,.ints 37 .u64 [])],boxes:=[6,7] }
  | _=>none
def Aa.of.Part.Ba:List (Nat × Entry):=[(192,Aa.Eu.spec)]
def Aa.of.Part.E:Env:=Bc (A9 Aa.of.Part.Ba) (fun _=>false) Aa.of.Part.hint (fun _=>none)
def Aa.of.Part.L0 (N M:Nat) (a b:Int) (r c:Int) (l:List Int) (x y p14:Int) (p2_1:List Int):Option DV:=B2 Aa.of.Part.E N Tryz.f187 (Am Tryz.f187) [1,1,0,1,0] [] M ⟨Fw 33 [(1,.int .i64 b),(2,.fn 192 [] [.cellp [.int .i64 r,.int .i64 c,.ints .arg .u64 l],.cellp [.int .i64 x],.cellp [.int .i64 y]]),(6,.ptr 6 0 0),(7,.ptr 7 0 0),(13,.int .i64 a),(14,.int .i64 p14)],[(6,false,.box [.int .i64 0,.int .i64 0,.nil]),(7,false,.box [.int .i64 a,.int .i64 b,.oref 108002]),(108002,false,.ints 37 .u64 p2_1)]⟩
def Aa.of.Part.L1 (N M0 M:Nat) (a b:Int) (r c:Int) (l:List Int) (x y:Int) (p8 p14_1 p18:Int) (p2:List Int):Option DV:=B2 Aa.of.Part.E N Tryz.f187 (Am Tryz.f187) [1,1,0,1,0,0,1,1,0,0,1,1,0] [M0] M ⟨Fw 33 [(1,.int .i64 b),(2,.fn 192 [] [.cellp [.int .i64 r,.int .i64 c,.ints .arg .u64 l],.cellp [.int .i64 x],.cellp [.int .i64 y]]),(6,.ptr 6 0 0),(7,.ptr 7 0 0),(8,.int .i64 p8),(13,.int .i64 a),(14,.int .i64 p14_1),(17,.int .i64 b),(18,.int .i64 p18)],[(6,false,.box [.int .i64 0,.int .i64 0,.nil]),(7,false,.box [.int .i64 a,.int .i64 b,.oref 108002]),(108002,false,.ints 37 .u64 p2)]⟩
theorem Aa.of.Part.At (N M:Nat) (a b:Int) (r c:Int) (l:List Int) (x y p14:Int) (p2_1:List Int):Aa.of.Part.L0 N (M+1) a b r c l x y p14 p2_1=bif (A1 p14 a) then Aa.of.Part.L1 N M N a b r c l x y p14 p14 0 p2_1 else some (.agg [.int .i64 a,.int .i64 b,.ints (.own 108002 37) .u64 p2_1]):=by kernel_rfl
theorem Aa.of.Part.Cc (N M0 M:Nat) (a b:Int) (r c:Int) (l:List Int) (x y:Int) (p8 p14_1 p18:Int) (p2:List Int):Aa.of.Part.L1 N M0 (M+1) a b r c l x y p8 p14_1 p18 p2=bif (A1 p18 b) then bif (D1 r c l (x+p8) (y+p18)&&Rf x y p8 p18) then bif (decide ((List.length p2)+1≤Gq)) then Aa.of.Part.L1 N M0 M a b r c l x y p8 p14_1 (Ab (p18+1)) (p2++[(Ef c l (x+p8) (y+p18))]) else none else none else Aa.of.Part.L0 N M0 a b r c l x y (Ab (p14_1+1)) p2 :=
  Eq.trans (by kernel_rfl)
  (E3 (C0 (C3 (D1 r c l (x+p8) (y+p18)&&Rf x y p8 p18)) (C0 (C3 (decide ((List.length p2)+1≤Gq))) rfl rfl) rfl) rfl)
theorem Aa.of.Part.ev (N:Nat) (a b:Int) (r c:Int) (l:List Int) (x y:Int):By Aa.of.Part.E N Tryz.f187 (Am Tryz.f187) [.int .i64 a,.int .i64 b,.fn 192 [] [.cellp [.int .i64 r,.int .i64 c,.ints .arg .u64 l],.cellp [.int .i64 x],.cellp [.int .i64 y]]] =
  Aa.of.Part.L0 N N a b r c l x y 0 []:=by kernel_rfl
abbrev _root_.Go.Proofs.S1.Aa.of.Part.Kn:=A7 Tryz.prog 187 Aa.of.Part.spec
theorem Aa.of.Part.Ad (hk:Ax Tryz.prog Aa.of.Part.Ba) (h:∀ (a b:Int) (r c:Int) (l:List Int) (x y:Int),Aa.of.Part.pre [.i a,.i b,.i r,.i c,.l l,.i x,.i y]=true→Bd Aa.of.Part.E Tryz.f187 [.int .i64 a,.int .i64 b,.fn 192 [] [.cellp [.int .i64 r,.int .i64 c,.ints .arg .u64 l],.cellp [.int .i64 x],.cellp [.int .i64 y]]] (Aa.of.Part.out [.i a,.i b,.i r,.i c,.l l,.i x,.i y])):Aa.of.Part.Kn :=
  Al (A0 hk _ _ _) Tryz.func187 (by kernel_rfl) (by kernel_rfl) h
def Aa.of.Sub.hint:Nat→Option A6
  | 0=>some { keep:=[1,2,6,7,13,14],objs:=[(8,2,108002,.ints 37 .u64 [])],boxes:=[6,7] }
  | 2=>some { keep:=[1,2,6,7,8,13,14,17,18],objs:=[(8,2,108002,.ints 37 .u64 [])],boxes:=[6,7] }
  | _=>none
def Aa.of.Sub.Ba:List (Nat × Entry):=[(194,Aa.Gg.spec)]
def Aa.of.Sub.E:Env:=Bc (A9 Aa.of.Sub.Ba) (fun _=>false) Aa.of.Sub.hint (fun _=>none)
def Aa.of.Sub.L0 (N M:Nat) (a b:Int) (r c:Int) (l:List Int) (p q:Int) (m:List Int) (p14:Int) (p2_1:List Int):Option DV:=B2 Aa.of.Sub.E N Tryz.f187 (Am Tryz.f187) [1,1,0,1,0] [] M ⟨Fw 33 [(1,.int .i64 b),(2,.fn 194 [] [.cellp [.int .i64 r,.int .i64 c,.ints .arg .u64 l],.cellp [.int .i64 p,.int .i64 q,.ints .arg .u64 m]]),(6,.ptr 6 0 0),(7,.ptr 7 0 0),(13,.int .i64 a),(14,.int .i64 p14)],[(6,false,.box [.int .i64 0,.int .i64 0,.nil]),(7,false,.box [.int .i64 a,.int .i64 b,.oref 108002]),(108002,false,.ints 37 .u64 p2_1)]⟩
def Aa.of.Sub.L1 (N M0 M:Nat) (a b:Int) (r c:Int) (l:List Int) (p q:Int) (m:List Int) (p8 p14_1 p18:Int) (p2:List Int):Option DV:=B2 Aa.of.Sub.E N Tryz.f187 (Am Tryz.f187) [1,1,0,1,0,0,1,1,0,0,1,1,0] [M0] M ⟨Fw 33 [(1,.int .i64 b),(2,.fn 194 [] [.cellp [.int .i64 r,.int .i64 c,.ints .arg .u64 l],.cellp [.int .i64 p,.int .i64 q,.ints .arg .u64 m]]),(6,.ptr 6 0 0),(7,.ptr 7 0 0),(8,.int .i64 p8),(13,.int .i64 a),(14,.int .i64 p14_1),(17,.int .i64 b),(18,.int .i64 p18)],[(6,false,.box [.int .i64 0,.int .i64 0,.nil]),(7,false,.box [.int .i64 a,.int .i64 b,.oref 108002]),(108002,false,.ints 37 .u64 p2)]⟩
theorem Aa.of.Sub.At (N M:Nat) (a b:Int) (r c:Int) (l:List Int) (p q:Int) (m:List Int) (p14:Int) (p2_1:List Int):Aa.of.Sub.L0 N (M+1) a b r c l p q m p14 p2_1=bif (A1 p14 a) then Aa.of.Sub.L1 N M N a b r c l p q m p14 p14 0 p2_1 else some (.agg [.int .i64 a,.int .i64 b,.ints (.own 108002 37) .u64 p2_1]):=by kernel_rfl
theorem Aa.of.Sub.Cc (N M0 M:Nat) (a b:Int) (r c:Int) (l:List Int) (p q:Int) (m:List Int) (p8 p14_1 p18:Int) (p2:List Int):Aa.of.Sub.L1 N M0 (M+1) a b r c l p q m p8 p14_1 p18 p2=bif (A1 p18 b) then bif (((D1 r c l p8 p18&&D1 p q m p8 p18)&&Ah l)&&Ah m) then bif (decide ((List.length p2)+1≤Gq)) then Aa.of.Sub.L1 N M0 M a b r c l p q m p8 p14_1 (Ab (p18+1)) (p2++[(Dl (Ef c l p8 p18) (Ef q m p8 p18))]) else none else none else Aa.of.Sub.L0 N M0 a b r c l p q m (Ab (p14_1+1)) p2 :=
  Eq.trans (by kernel_rfl)
  (E3 (C0 (C3 (((D1 r c l p8 p18&&D1 p q m p8 p18)&&Ah l)&&Ah m)) (C0 (C3 (decide ((List.length p2)+1≤Gq))) rfl rfl) rfl) rfl)
theorem Aa.of.Sub.ev (N:Nat) (a b:Int) (r c:Int) (l:List Int) (p q:Int) (m:List Int):By Aa.of.Sub.E N Tryz.f187 (Am Tryz.f187) [.int .i64 a,.int .i64 b,.fn 194 [] [.cellp [.int .i64 r,.int .i64 c,.ints .arg .u64 l],.cellp [.int .i64 p,.int .i64 q,.ints .arg .u64 m]]] =
  Aa.of.Sub.L0 N N a b r c l p q m 0 []:=by kernel_rfl
abbrev _root_.Go.Proofs.S1.Aa.of.Sub.Kn:=A7 Tryz.prog 187 Aa.of.Sub.spec
theorem Aa.of.Sub.Ad (hk:Ax Tryz.prog Aa.of.Sub.Ba) (h:∀ (a b:Int) (r c:Int) (l:List Int) (p q:Int) (m:List Int),Aa.of.Sub.pre [.i a,.i b,.i r,.i c,.l l,.i p,.i q,.l m]=true→Bd Aa.of.Sub.E Tryz.f187 [.int .i64 a,.int .i64 b,.fn 194 [] [.cellp [.int .i64 r,.int .i64 c,.ints .arg .u64 l],.cellp [.int .i64 p,.int .i64 q,.ints .arg .u64 m]]] (Aa.of.Sub.out [.i a,.i b,.i r,.i c,.l l,.i p,.i q,.l m])):Aa.of.Sub.Kn :=
  Al (A0 hk _ _ _) Tryz.func187 (by kernel_rfl) (by kernel_rfl) h
def Aa.of.Mul.hint:Nat→Option A6
  | 0=>some { keep:=[1,2,6,7,13,14],objs:=[(8,2,108002,.ints 37 .u64 [])],boxes:=[6,7] }
  | 2=>some { keep:=[1,2,6,7,8,13,14,17,18],objs:=[(8,2,108002,.ints 37 .u64 [])],boxes:=[6,7] }
  | _=>none
def Aa.of.Mul.Ba:List (Nat × Entry):=[(188,Aa.Gh.spec)]
def Aa.of.Mul.E:Env:=Bc (A9 Aa.of.Mul.Ba) (fun _=>false) Aa.of.Mul.hint (fun _=>none)
def Aa.of.Mul.L0 (N M:Nat) (a b:Int) (r c:Int) (l:List Int) (p q:Int) (m:List Int) (p14:Int) (p2_1:List Int):Option DV:=B2 Aa.of.Mul.E N Tryz.f187 (Am Tryz.f187) [1,1,0,1,0] [] M ⟨Fw 33 [(1,.int .i64 b),(2,.fn 188 [] [.cellp [.int .i64 r,.int .i64 c,.ints .arg .u64 l],.cellp [.int .i64 p,.int .i64 q,.ints .arg .u64 m]]),(6,.ptr 6 0 0),(7,.ptr 7 0 0),(13,.int .i64 a),(14,.int .i64 p14)],[(6,false,.box [.int .i64 0,.int .i64 0,.nil]),(7,false,.box [.int .i64 a,.int .i64 b,.oref 108002]),(108002,false,.ints 37 .u64 p2_1)]⟩
def Aa.of.Mul.L1 (N M0 M:Nat) (a b:Int) (r c:Int) (l:List Int) (p q:Int) (m:List Int) (p8 p14_1 p18:Int) (p2:List Int):Option DV:=B2 Aa.of.Mul.E N Tryz.f187 (Am Tryz.f187) [1,1,0,1,0,0,1,1,0,0,1,1,0] [M0] M ⟨Fw 33 [(1,.int .i64 b),(2,.fn 188 [] [.cellp [.int .i64 r,.int .i64 c,.ints .arg .u64 l],.cellp [.int .i64 p,.int .i64 q,.ints .arg .u64 m]]),(6,.ptr 6 0 0),(7,.ptr 7 0 0),(8,.int .i64 p8),(13,.int .i64 a),(14,.int .i64 p14_1),(17,.int .i64 b),(18,.int .i64 p18)],[(6,false,.box [.int .i64 0,.int .i64 0,.nil]),(7,false,.box [.int .i64 a,.int .i64 b,.oref 108002]),(108002,false,.ints 37 .u64 p2)]⟩
theorem Aa.of.Mul.At (N M:Nat) (a b:Int) (r c:Int) (l:List Int) (p q:Int) (m:List Int) (p14:Int) (p2_1:List Int):Aa.of.Mul.L0 N (M+1) a b r c l p q m p14 p2_1=bif (A1 p14 a) then Aa.of.Mul.L1 N M N a b r c l p q m p14 p14 0 p2_1 else some (.agg [.int .i64 a,.int .i64 b,.ints (.own 108002 37) .u64 p2_1]):=by kernel_rfl
theorem Aa.of.Mul.Cc (N M0 M:Nat) (a b:Int) (r c:Int) (l:List Int) (p q:Int) (m:List Int) (p8 p14_1 p18:Int) (p2:List Int):Aa.of.Mul.L1 N M0 (M+1) a b r c l p q m p8 p14_1 p18 p2=bif (A1 p18 b) then bif (Pk r c l p q m p8 p18) then bif (decide ((List.length p2)+1≤Gq)) then Aa.of.Mul.L1 N M0 M a b r c l p q m p8 p14_1 (Ab (p18+1)) (p2++[(M3 (Ko c l p8) (Oq p q m p18))]) else none else none else Aa.of.Mul.L0 N M0 a b r c l p q m (Ab (p14_1+1)) p2 :=
  Eq.trans (by kernel_rfl)
  (E3 (C0 (C3 (Pk r c l p q m p8 p18)) (C0 (C3 (decide ((List.length p2)+1≤Gq))) rfl rfl) rfl) rfl)
theorem Aa.of.Mul.ev (N:Nat) (a b:Int) (r c:Int) (l:List Int) (p q:Int) (m:List Int):By Aa.of.Mul.E N Tryz.f187 (Am Tryz.f187) [.int .i64 a,.int .i64 b,.fn 188 [] [.cellp [.int .i64 r,.int .i64 c,.ints .arg .u64 l],.cellp [.int .i64 p,.int .i64 q,.ints .arg .u64 m]]] =
  Aa.of.Mul.L0 N N a b r c l p q m 0 []:=by kernel_rfl
abbrev _root_.Go.Proofs.S1.Aa.of.Mul.Kn:=A7 Tryz.prog 187 Aa.of.Mul.spec
theorem Aa.of.Mul.Ad (hk:Ax Tryz.prog Aa.of.Mul.Ba) (h:∀ (a b:Int) (r c:Int) (l:List Int) (p q:Int) (m:List Int),Aa.of.Mul.pre [.i a,.i b,.i r,.i c,.l l,.i p,.i q,.l m]=true→Bd Aa.of.Mul.E Tryz.f187 [.int .i64 a,.int .i64 b,.fn 188 [] [.cellp [.int .i64 r,.int .i64 c,.ints .arg .u64 l],.cellp [.int .i64 p,.int .i64 q,.ints .arg .u64 m]]] (Aa.of.Mul.out [.i a,.i b,.i r,.i c,.l l,.i p,.i q,.l m])):Aa.of.Mul.Kn :=
  Al (A0 hk _ _ _) Tryz.func187 (by kernel_rfl) (by kernel_rfl) h
def Aa.Gm.Ba:List (Nat × Entry):=[(187,Aa.of.Gm.spec),(204,Aa.size.spec)]
def Aa.Gm.E:Env:=Bc (A9 Aa.Gm.Ba) (fun _=>false) (fun _=>none) (fun _=>none)
theorem Aa.Gm.ev (N:Nat) (n:Int):By Aa.Gm.E N Tryz.f218 (Am Tryz.f218) [.int .i64 n]=bif (!(Bn n)) then some (.tup [.agg [.int .i64 0,.int .i64 0,.nil],.int .i64 3]) else bif ((Bn n&&Bn n)) then some (.tup [.agg [.int .i64 n,.int .i64 n,.ints .fresh .u64 (Ci (Int.toNat n) (Int.toNat n) (fun j1 j2=>Ry j1 j2))],.int .i64 0]) else none:=by kernel_rfl
abbrev _root_.Go.Proofs.S1.Aa.Gm.Kn:=A7 Tryz.prog 218 Aa.Gm.spec
theorem Aa.Gm.Ad (hk:Ax Tryz.prog Aa.Gm.Ba) (h:∀ (n:Int),Aa.Gm.pre [.i n]=true→Bd Aa.Gm.E Tryz.f218 [.int .i64 n] (Aa.Gm.out [.i n])):Aa.Gm.Kn :=
  Al (A0 hk _ _ _) Tryz.func218 (by kernel_rfl) (by kernel_rfl) h
def Aa.Cy.Ba:List (Nat × Entry):=[(160,Aa.Check.spec),(187,Aa.of.Cy.spec)]
def Aa.Cy.E:Env:=Bc (A9 Aa.Cy.Ba) (fun _=>false) (fun _=>none) (fun _=>none)
theorem Aa.Cy.ev (N:Nat) (r c:Int) (l:List Int):By Aa.Cy.E N Tryz.f167 (Am Tryz.f167) [.agg [.int .i64 r,.int .i64 c,.ints .arg .u64 l]]=bif ((Io r c l) !=(0:Int)) then some (.tup [.agg [.int .i64 0,.int .i64 0,.nil],.int .i64 (Io r c l)]) else bif ((Bn c&&Bn r)&&Bh r c l&&decide (c=c∧r=r)) then some (.tup [.agg [.int .i64 c,.int .i64 r,.ints .fresh .u64 (Ci (Int.toNat c) (Int.toNat r) (fun j1 j2=>Ef c l j2 j1))],.int .i64 0]) else none:=by kernel_rfl
abbrev _root_.Go.Proofs.S1.Aa.Cy.Kn:=A7 Tryz.prog 167 Aa.Cy.spec
theorem Aa.Cy.Ad (hk:Ax Tryz.prog Aa.Cy.Ba) (h:∀ (r c:Int) (l:List Int),Aa.Cy.pre [.i r,.i c,.l l]=true→Bd Aa.Cy.E Tryz.f167 [.agg [.int .i64 r,.int .i64 c,.ints .arg .u64 l]] (Aa.Cy.out [.i r,.i c,.l l])):Aa.Cy.Kn :=
  Al (A0 hk _ _ _) Tryz.func167 (by kernel_rfl) (by kernel_rfl) h
def Aa.Part.Ba:List (Nat × Entry):=[(160,Aa.Check.spec),(187,Aa.of.Part.spec)]
def Aa.Part.E:Env:=Bc (A9 Aa.Part.Ba) (fun _=>false) (fun _=>none) (fun _=>none)
theorem Aa.Part.ev (N:Nat) (r c:Int) (l:List Int) (x y:Int) (a b:Int):By Aa.Part.E N Tryz.f124 (Am Tryz.f124) [.agg [.int .i64 r,.int .i64 c,.ints .arg .u64 l],.int .i64 x,.int .i64 y,.int .i64 a,.int .i64 b]=bif ((Io r c l) !=(0:Int)) then some (.tup [.agg [.int .i64 0,.int .i64 0,.nil],.int .i64 (Io r c l)]) else bif ((((((((A1 x 0)||(A1 y 0))||(A1 a 0))||(A1 b 0))||(A1 r x))||(A1 c y))||(A1 (Ab (r-x)) a))||(A1 (Ab (c-y)) b)) then some (.tup [.agg [.int .i64 0,.int .i64 0,.nil],.int .i64 3]) else bif ((Bn a&&Bn b)&&Bh r c l&&Ow r c x y a b) then some (.tup [.agg [.int .i64 a,.int .i64 b,.ints .fresh .u64 (Ci (Int.toNat a) (Int.toNat b) (fun j1 j2=>Ef c l (x+j1) (y+j2)))],.int .i64 0]) else none :=
  Eq.trans (by kernel_rfl)
  (E3 rfl (Au (Vk (A1 x 0)) (Au (Tp (A1 x 0)) (Au (tt6 (A1 x 0)) (Au (Agl (A1 x 0) (A1 y 0)) (Au (Ad5 (A1 x 0) (A1 y 0)) (Au (Am0 (A1 x 0) (A1 y 0)) (Au (Aj5 (A1 x 0) (A1 y 0) (A1 a 0)) (Au (Apm (A1 x 0) (A1 y 0) (A1 a 0)) (Au (Am1 (A1 x 0) (A1 y 0) (A1 a 0)) (Au (Abe (A1 x 0) (A1 y 0) (A1 a 0) (A1 b 0)) (Au (Abe (A1 x 0) (A1 y 0) (A1 a 0) (A1 b 0)) (Au (Aj6 (A1 x 0) (A1 y 0) (A1 a 0) (A1 b 0)) (Au (Aj7 (A1 x 0) (A1 y 0) (A1 a 0) (A1 b 0)) (Au (Am2 (A1 x 0) (A1 y 0) (A1 a 0) (A1 b 0)) (Au (Apn (A1 x 0) (A1 y 0) (A1 a 0) (A1 b 0) (A1 r x)) (Au (Apn (A1 x 0) (A1 y 0) (A1 a 0) (A1 b 0) (A1 r x)) (Au (tt55 (A1 x 0) (A1 y 0) (A1 a 0) (A1 b 0) (A1 r x)) (Au (tt54 (A1 x 0) (A1 y 0) (A1 a 0) (A1 b 0) (A1 r x)) (Au (tt53 (A1 x 0) (A1 y 0) (A1 a 0) (A1 b 0) (A1 r x)) (Au (Am3 (A1 x 0) (A1 y 0) (A1 a 0) (A1 b 0) (A1 r x) (A1 c y)) (Au (Am3 (A1 x 0) (A1 y 0) (A1 a 0) (A1 b 0) (A1 r x) (A1 c y)) (Au (tt52 (A1 x 0) (A1 y 0) (A1 a 0) (A1 b 0) (A1 r x) (A1 c y)) (Au (Am3 (A1 x 0) (A1 y 0) (A1 a 0) (A1 b 0) (A1 r x) (A1 c y)) (Au (Apo (A1 x 0) (A1 y 0) (A1 a 0) (A1 b 0) (A1 r x) (A1 c y)) (Au (Apo (A1 x 0) (A1 y 0) (A1 a 0) (A1 b 0) (A1 r x) (A1 c y)) (Au (tt49 (A1 x 0) (A1 y 0) (A1 a 0) (A1 b 0) (A1 r x) (A1 c y)) (Au (Am4 (A1 x 0) (A1 y 0) (A1 a 0) (A1 b 0) (A1 r x) (A1 c y) (A1 (Ab (r-x)) a)) (Au (Am4 (A1 x 0) (A1 y 0) (A1 a 0) (A1 b 0) (A1 r x) (A1 c y) (A1 (Ab (r-x)) a)) (Au (tt48 (A1 x 0) (A1 y 0) (A1 a 0) (A1 b 0) (A1 r x) (A1 c y) (A1 (Ab (r-x)) a)) (Au (Am4 (A1 x 0) (A1 y 0) (A1 a 0) (A1 b 0) (A1 r x) (A1 c y) (A1 (Ab (r-x)) a)) (Au (Apq (A1 x 0) (A1 y 0) (A1 a 0) (A1 b 0) (A1 r x) (A1 c y) (A1 (Ab (r-x)) a)) (Au (Apq (A1 x 0) (A1 y 0) (A1 a 0) (A1 b 0) (A1 r x) (A1 c y) (A1 (Ab (r-x)) a)) (Au (tt45 (A1 x 0) (A1 y 0) (A1 a 0) (A1 b 0) (A1 r x) (A1 c y) (A1 (Ab (r-x)) a)) (C0 (tt44 (A1 x 0) (A1 y 0) (A1 a 0) (A1 b 0) (A1 r x) (A1 c y) (A1 (Ab (r-x)) a) (A1 (Ab (c-y)) b)) rfl rfl)))))))))))))))))))))))))))))))))))
abbrev _root_.Go.Proofs.S1.Aa.Part.Kn:=A7 Tryz.prog 124 Aa.Part.spec
theorem Aa.Part.Ad (hk:Ax Tryz.prog Aa.Part.Ba) (h:∀ (r c:Int) (l:List Int) (x y:Int) (a b:Int),Aa.Part.pre [.i r,.i c,.l l,.i x,.i y,.i a,.i b]=true→Bd Aa.Part.E Tryz.f124 [.agg [.int .i64 r,.int .i64 c,.ints .arg .u64 l],.int .i64 x,.int .i64 y,.int .i64 a,.int .i64 b] (Aa.Part.out [.i r,.i c,.l l,.i x,.i y,.i a,.i b])):Aa.Part.Kn :=
  Al (A0 hk _ _ _) Tryz.func124 (by kernel_rfl) (by kernel_rfl) h
def Aa.Sub.Ba:List (Nat × Entry):=[(187,Aa.of.Sub.spec),(186,Aa.two.spec)]
def Aa.Sub.E:Env:=Bc (A9 Aa.Sub.Ba) (fun _=>false) (fun _=>none) (fun _=>none)
theorem Aa.Sub.ev (N:Nat) (r c:Int) (l:List Int) (p q:Int) (m:List Int):By Aa.Sub.E N Tryz.f125 (Am Tryz.f125) [.agg [.int .i64 r,.int .i64 c,.ints .arg .u64 l],.agg [.int .i64 p,.int .i64 q,.ints .arg .u64 m]]=bif ((Tn r c l p q m) !=(0:Int)) then some (.tup [.agg [.int .i64 0,.int .i64 0,.nil],.int .i64 (Tn r c l p q m)]) else bif (!((r==p)&&(c==q))) then some (.tup [.agg [.int .i64 0,.int .i64 0,.nil],.int .i64 3]) else bif ((Bn r&&Bn c)&&((Bh r c l&&Bh p q m)&&(Ah l&&Ah m))&&decide (r=r∧c=c∧p=r∧q=c)) then some (.tup [.agg [.int .i64 r,.int .i64 c,.ints .fresh .u64 (Ci (Int.toNat r) (Int.toNat c) (fun j1 j2=>Dl (Ef c l j1 j2) (Ef q m j1 j2)))],.int .i64 0]) else none :=
  Eq.trans (by kernel_rfl)
  (E3 rfl (C0 (tt67 (r==p) (c==q)) rfl rfl))
abbrev _root_.Go.Proofs.S1.Aa.Sub.Kn:=A7 Tryz.prog 125 Aa.Sub.spec
theorem Aa.Sub.Ad (hk:Ax Tryz.prog Aa.Sub.Ba) (h:∀ (r c:Int) (l:List Int) (p q:Int) (m:List Int),Aa.Sub.pre [.i r,.i c,.l l,.i p,.i q,.l m]=true→Bd Aa.Sub.E Tryz.f125 [.agg [.int .i64 r,.int .i64 c,.ints .arg .u64 l],.agg [.int .i64 p,.int .i64 q,.ints .arg .u64 m]] (Aa.Sub.out [.i r,.i c,.l l,.i p,.i q,.l m])):Aa.Sub.Kn :=
  Al (A0 hk _ _ _) Tryz.func125 (by kernel_rfl) (by kernel_rfl) h
def Aa.Mul.Ba:List (Nat × Entry):=[(187,Aa.of.Mul.spec),(186,Aa.two.spec)]
def Aa.Mul.E:Env:=Bc (A9 Aa.Mul.Ba) (fun _=>false) (fun _=>none) (fun _=>none)
theorem Aa.Mul.ev (N:Nat) (r c:Int) (l:List Int) (p q:Int) (m:List Int):By Aa.Mul.E N Tryz.f123 (Am Tryz.f123) [.agg [.int .i64 r,.int .i64 c,.ints .arg .u64 l],.agg [.int .i64 p,.int .i64 q,.ints .arg .u64 m]]=bif ((Tn r c l p q m) !=(0:Int)) then some (.tup [.agg [.int .i64 0,.int .i64 0,.nil],.int .i64 (Tn r c l p q m)]) else bif (c !=p) then some (.tup [.agg [.int .i64 0,.int .i64 0,.nil],.int .i64 3]) else bif ((Bn r&&Bn q)&&((Bh r c l&&Bh p q m)&&(Ah l&&Ah m))&&decide (r=r∧q=q∧c=p)) then some (.tup [.agg [.int .i64 r,.int .i64 q,.ints .fresh .u64 (Ci (Int.toNat r) (Int.toNat q) (fun j1 j2=>M3 (Ko c l j1) (Oq p q m j2)))],.int .i64 0]) else none:=by kernel_rfl
abbrev _root_.Go.Proofs.S1.Aa.Mul.Kn:=A7 Tryz.prog 123 Aa.Mul.spec
theorem Aa.Mul.Ad (hk:Ax Tryz.prog Aa.Mul.Ba) (h:∀ (r c:Int) (l:List Int) (p q:Int) (m:List Int),Aa.Mul.pre [.i r,.i c,.l l,.i p,.i q,.l m]=true→Bd Aa.Mul.E Tryz.f123 [.agg [.int .i64 r,.int .i64 c,.ints .arg .u64 l],.agg [.int .i64 p,.int .i64 q,.ints .arg .u64 m]] (Aa.Mul.out [.i r,.i c,.l l,.i p,.i q,.l m])):Aa.Mul.Kn :=
  Al (A0 hk _ _ _) Tryz.func123 (by kernel_rfl) (by kernel_rfl) h
end EqOf
open EqOf
theorem of.B3.inner (N:Nat)  {A B:Nat} (hA:A≤6) (hB:B≤6) {F:Nat→Nat→Int} (hF:∀ i j:Nat,F i j=(0:Int)) {i:Nat} (hi:i<A):∀ (k j M0 M:Nat),j+k=B→k<M →
    Aa.of.B3.L1 N M0 M (A:Int) (B:Int) (i:Int) (i:Int) (j:Int) (Ci i B F++(List.range j).map (F i))=Aa.of.B3.L0 N M0 (A:Int) (B:Int) ((i+1:Nat):Int) (Ci (i+1) B F):=by
  intro k
  induction k with
  | zero =>
    intro j M0 M hj hM
    obtain ⟨M,rfl⟩:∃ G,M=G+1:=⟨M-1,by omega⟩
    obtain rfl:j=B:=by omega
    rw [Aa.of.B3.Cc,Aq,Aq1 (by omega),Aq0,An (by omega) (by omega),← J5]
    rfl
  | succ k ih =>
    intro j M0 M hj hM
    obtain ⟨M,rfl⟩:∃ G,M=G+1:=⟨M-1,by omega⟩
    have d:decide ((Ci i B F++(List.range j).map (F i)).length+1≤Gq)=true:=by
      refine Aqx ?_
      have:=Nat.mul_le_mul (show i≤6 by omega) hB
      rw [List.length_append,Bw,List.length_map,List.length_range]; unfold Gq; omega
    rw [Aa.of.B3.Cc,Aq,Aqx (by omega),Aqw,d,Aqw,An (by omega) (by omega),← hF i j]
    have:=ih (j+1) M0 M (by omega) (by omega)
    rw [Hy,← List.append_assoc] at this
    exact this
theorem of.B3.outer (N:Nat)  {A B:Nat} (hA:A≤6) (hB:B≤6) (hN:6<N) {F:Nat→Nat→Int} (hF:∀ i j:Nat,F i j=(0:Int)):∀ (k i M:Nat),i+k=A→k<M →
    Aa.of.B3.L0 N M (A:Int) (B:Int) (i:Int) (Ci i B F)=some (.agg [.int .i64 (A:Int),.int .i64 (B:Int),.ints (.own 108002 tB) .u64 (Ci A B F)]):=by
  intro k
  induction k with
  | zero =>
    intro i M hi hM
    obtain ⟨M,rfl⟩:∃ G,M=G+1:=⟨M-1,by omega⟩
    obtain rfl:i=A:=by omega
    rw [Aa.of.B3.At,Aq,Aq1 (by omega),Aq0]
  | succ k ih =>
    intro i M hi hM
    obtain ⟨M,rfl⟩:∃ G,M=G+1:=⟨M-1,by omega⟩
    have n:=of.B3.inner N hA hB hF (show i<A by omega) B 0 M N (by omega) (by omega)
    rw [List.range_zero,List.map_nil,List.append_nil] at n
    rw [Aa.of.B3.At,Aq,Aqx (by omega),Aqw]
    exact n.trans (ih (i+1) M (by omega) (by omega))
theorem of.Gm.inner (N:Nat)  {A B:Nat} (hA:A≤6) (hB:B≤6) {F:Nat→Nat→Int} (hF:∀ i j:Nat,F i j=Ry (i:Int) (j:Int)) {i:Nat} (hi:i<A):∀ (k j M0 M:Nat),j+k=B→k<M →
    Aa.of.Gm.L1 N M0 M (A:Int) (B:Int) (i:Int) (i:Int) (j:Int) (Ci i B F++(List.range j).map (F i))=Aa.of.Gm.L0 N M0 (A:Int) (B:Int) ((i+1:Nat):Int) (Ci (i+1) B F):=by
  intro k
  induction k with
  | zero =>
    intro j M0 M hj hM
    obtain ⟨M,rfl⟩:∃ G,M=G+1:=⟨M-1,by omega⟩
    obtain rfl:j=B:=by omega
    rw [Aa.of.Gm.Cc,Aq,Aq1 (by omega),Aq0,An (by omega) (by omega),← J5]
    rfl
  | succ k ih =>
    intro j M0 M hj hM
    obtain ⟨M,rfl⟩:∃ G,M=G+1:=⟨M-1,by omega⟩
    have d:decide ((Ci i B F++(List.range j).map (F i)).length+1≤Gq)=true:=by
      refine Aqx ?_
      have:=Nat.mul_le_mul (show i≤6 by omega) hB
      rw [List.length_append,Bw,List.length_map,List.length_range]; unfold Gq; omega
    rw [Aa.of.Gm.Cc,Aq,Aqx (by omega),Aqw,d,Aqw,An (by omega) (by omega),← hF i j]
    have:=ih (j+1) M0 M (by omega) (by omega)
    rw [Hy,← List.append_assoc] at this
    exact this
theorem of.Gm.outer (N:Nat)  {A B:Nat} (hA:A≤6) (hB:B≤6) (hN:6<N) {F:Nat→Nat→Int} (hF:∀ i j:Nat,F i j=Ry (i:Int) (j:Int)):∀ (k i M:Nat),i+k=A→k<M →
    Aa.of.Gm.L0 N M (A:Int) (B:Int) (i:Int) (Ci i B F)=some (.agg [.int .i64 (A:Int),.int .i64 (B:Int),.ints (.own 108002 tB) .u64 (Ci A B F)]):=by
  intro k
  induction k with
  | zero =>
    intro i M hi hM
    obtain ⟨M,rfl⟩:∃ G,M=G+1:=⟨M-1,by omega⟩
    obtain rfl:i=A:=by omega
    rw [Aa.of.Gm.At,Aq,Aq1 (by omega),Aq0]
  | succ k ih =>
    intro i M hi hM
    obtain ⟨M,rfl⟩:∃ G,M=G+1:=⟨M-1,by omega⟩
    have n:=of.Gm.inner N hA hB hF (show i<A by omega) B 0 M N (by omega) (by omega)
    rw [List.range_zero,List.map_nil,List.append_nil] at n
    rw [Aa.of.Gm.At,Aq,Aqx (by omega),Aqw]
    exact n.trans (ih (i+1) M (by omega) (by omega))
theorem Aa.of.Gm.known:Aa.of.Gm.Kn:=Aa.of.Gm.Ad (.cons Aa.Gk.known .nil) fun a b hp=>by
  have h1:(Bn a&&Bn b)=true:=hp
  obtain ⟨ha,hb⟩:=Af.1 h1
  obtain ⟨A,rfl,hA⟩:=F7 ha
  obtain ⟨B,rfl,hB⟩:=F7 hb
  refine ⟨8,.agg [.int .i64 (A:Int),.int .i64 (B:Int),.ints (.own 108002 tB) .u64 (Ci A B fun (i j:Nat)=>Ry (i:Int) (j:Int))],[108002],?_,Wk.Ip (.cons .int (.cons .int (.cons (.drop _ _ _ _ (List.mem_singleton.2 rfl)) .nil)))⟩
  rw [Aa.of.Gm.ev]
  have n:=of.Gm.outer 8 hA hB (by omega) (F:=fun (i j:Nat)=>Ry (i:Int) (j:Int)) (fun _ _=>rfl) A 0 8 (by omega) (by omega)
  rw [J4] at n
  exact n
theorem of.Cy.inner (N:Nat) (r c:Int) (l:List Int) {A B:Nat} (hA:A≤6) (hB:B≤6) {F:Nat→Nat→Int} (hF:∀ i j:Nat,F i j=Ef c l (j:Int) (i:Int)) {i:Nat} (hi:i<A) (hp:∀ j:Nat,j<B→D1 r c l (j:Int) (i:Int)=true):∀ (k j M0 M:Nat),j+k=B→k<M →
    Aa.of.Cy.L1 N M0 M (A:Int) (B:Int) r c l (i:Int) (i:Int) (j:Int) (Ci i B F++(List.range j).map (F i))=Aa.of.Cy.L0 N M0 (A:Int) (B:Int) r c l ((i+1:Nat):Int) (Ci (i+1) B F):=by
  intro k
  induction k with
  | zero =>
    intro j M0 M hj hM
    obtain ⟨M,rfl⟩:∃ G,M=G+1:=⟨M-1,by omega⟩
    obtain rfl:j=B:=by omega
    rw [Aa.of.Cy.Cc,Aq,Aq1 (by omega),Aq0,An (by omega) (by omega),← J5]
    rfl
  | succ k ih =>
    intro j M0 M hj hM
    obtain ⟨M,rfl⟩:∃ G,M=G+1:=⟨M-1,by omega⟩
    have d:decide ((Ci i B F++(List.range j).map (F i)).length+1≤Gq)=true:=by
      refine Aqx ?_
      have:=Nat.mul_le_mul (show i≤6 by omega) hB
      rw [List.length_append,Bw,List.length_map,List.length_range]; unfold Gq; omega
    rw [Aa.of.Cy.Cc,Aq,Aqx (by omega),Aqw,hp j (by omega),Aqw,d,Aqw,An (by omega) (by omega),← hF i j]
    have:=ih (j+1) M0 M (by omega) (by omega)
    rw [Hy,← List.append_assoc] at this
    exact this
theorem of.Cy.outer (N:Nat) (r c:Int) (l:List Int) {A B:Nat} (hA:A≤6) (hB:B≤6) (hN:6<N) {F:Nat→Nat→Int} (hF:∀ i j:Nat,F i j=Ef c l (j:Int) (i:Int)) (hp:∀ i j:Nat,i<A→j<B→D1 r c l (j:Int) (i:Int)=true):∀ (k i M:Nat),i+k=A→k<M →
    Aa.of.Cy.L0 N M (A:Int) (B:Int) r c l (i:Int) (Ci i B F)=some (.agg [.int .i64 (A:Int),.int .i64 (B:Int),.ints (.own 108002 tB) .u64 (Ci A B F)]):=by
  intro k
  induction k with
  | zero =>
    intro i M hi hM
    obtain ⟨M,rfl⟩:∃ G,M=G+1:=⟨M-1,by omega⟩
    obtain rfl:i=A:=by omega
    rw [Aa.of.Cy.At,Aq,Aq1 (by omega),Aq0]
  | succ k ih =>
    intro i M hi hM
    obtain ⟨M,rfl⟩:∃ G,M=G+1:=⟨M-1,by omega⟩
    have n:=of.Cy.inner N r c l hA hB hF (show i<A by omega) (fun j hj=>hp i j (by omega) hj) B 0 M N (by omega) (by omega)
    rw [List.range_zero,List.map_nil,List.append_nil] at n
    rw [Aa.of.Cy.At,Aq,Aqx (by omega),Aqw]
    exact n.trans (ih (i+1) M (by omega) (by omega))
theorem Aa.of.Cy.known:Aa.of.Cy.Kn:=Aa.of.Cy.Ad (.cons Aa.Es.known .nil) fun a b r c l hp=>by
  obtain ⟨h12,hy⟩:=Af.1 (show (((Bn a&&Bn b)&&Bh r c l)&&decide (a=c∧b=r))=true from hp)
  obtain ⟨h1,hx⟩:=Af.1 h12
  have h2:=Af.2 ⟨hx,hy⟩
  obtain ⟨ha,hb⟩:=Af.1 h1
  obtain ⟨A,rfl,hA⟩:=F7 ha
  obtain ⟨B,rfl,hB⟩:=F7 hb
  obtain ⟨hr,he⟩:=Af.1 h2
  obtain ⟨e1,e2⟩:=of_decide_eq_true he
  have hp:∀ i j:Nat,i<A→j<B→D1 r c l (j:Int) (i:Int)=true:=fun i j hi hj=>K3 hr (by omega) (by omega) (by omega) (by omega) r
  refine ⟨8,.agg [.int .i64 (A:Int),.int .i64 (B:Int),.ints (.own 108002 tB) .u64 (Ci A B fun (i j:Nat)=>Ef c l (j:Int) (i:Int))],[108002],?_,Wk.Ip (.cons .int (.cons .int (.cons (.drop _ _ _ _ (List.mem_singleton.2 rfl)) .nil)))⟩
  rw [Aa.of.Cy.ev]
  have n:=of.Cy.outer 8 r c l hA hB (by omega) (F:=fun (i j:Nat)=>Ef c l (j:Int) (i:Int)) (fun _ _=>rfl) hp A 0 8 (by omega) (by omega)
  rw [J4] at n
  exact n
theorem of.Part.inner (N:Nat) (r c:Int) (l:List Int) (x y:Int) {A B:Nat} (hA:A≤6) (hB:B≤6) {F:Nat→Nat→Int} (hF:∀ i j:Nat,F i j=Ef c l (x+(i:Int)) (y+(j:Int))) {i:Nat} (hi:i<A) (hp:∀ j:Nat,j<B→(D1 r c l (x+(i:Int)) (y+(j:Int))&&Rf x y (i:Int) (j:Int))=true):∀ (k j M0 M:Nat),j+k=B→k<M →
    Aa.of.Part.L1 N M0 M (A:Int) (B:Int) r c l x y (i:Int) (i:Int) (j:Int) (Ci i B F++(List.range j).map (F i))=Aa.of.Part.L0 N M0 (A:Int) (B:Int) r c l x y ((i+1:Nat):Int) (Ci (i+1) B F):=by
  intro k
  induction k with
  | zero =>
    intro j M0 M hj hM
    obtain ⟨M,rfl⟩:∃ G,M=G+1:=⟨M-1,by omega⟩
    obtain rfl:j=B:=by omega
    rw [Aa.of.Part.Cc,Aq,Aq1 (by omega),Aq0,An (by omega) (by omega),← J5]
    rfl
  | succ k ih =>
    intro j M0 M hj hM
    obtain ⟨M,rfl⟩:∃ G,M=G+1:=⟨M-1,by omega⟩
    have d:decide ((Ci i B F++(List.range j).map (F i)).length+1≤Gq)=true:=by
      refine Aqx ?_
      have:=Nat.mul_le_mul (show i≤6 by omega) hB
      rw [List.length_append,Bw,List.length_map,List.length_range]; unfold Gq; omega
    rw [Aa.of.Part.Cc,Aq,Aqx (by omega),Aqw,hp j (by omega),Aqw,d,Aqw,An (by omega) (by omega),← hF i j]
    have:=ih (j+1) M0 M (by omega) (by omega)
    rw [Hy,← List.append_assoc] at this
    exact this
theorem of.Part.outer (N:Nat) (r c:Int) (l:List Int) (x y:Int) {A B:Nat} (hA:A≤6) (hB:B≤6) (hN:6<N) {F:Nat→Nat→Int} (hF:∀ i j:Nat,F i j=Ef c l (x+(i:Int)) (y+(j:Int))) (hp:∀ i j:Nat,i<A→j<B→(D1 r c l (x+(i:Int)) (y+(j:Int))&&Rf x y (i:Int) (j:Int))=true):∀ (k i M:Nat),i+k=A→k<M →
    Aa.of.Part.L0 N M (A:Int) (B:Int) r c l x y (i:Int) (Ci i B F)=some (.agg [.int .i64 (A:Int),.int .i64 (B:Int),.ints (.own 108002 tB) .u64 (Ci A B F)]):=by
  intro k
  induction k with
  | zero =>
    intro i M hi hM
    obtain ⟨M,rfl⟩:∃ G,M=G+1:=⟨M-1,by omega⟩
    obtain rfl:i=A:=by omega
    rw [Aa.of.Part.At,Aq,Aq1 (by omega),Aq0]
  | succ k ih =>
    intro i M hi hM
    obtain ⟨M,rfl⟩:∃ G,M=G+1:=⟨M-1,by omega⟩
    have n:=of.Part.inner N r c l x y hA hB hF (show i<A by omega) (fun j hj=>hp i j (by omega) hj) B 0 M N (by omega) (by omega)
    rw [List.range_zero,List.map_nil,List.append_nil] at n
    rw [Aa.of.Part.At,Aq,Aqx (by omega),Aqw]
    exact n.trans (ih (i+1) M (by omega) (by omega))
theorem Aa.of.Part.known:Aa.of.Part.Kn:=Aa.of.Part.Ad (.cons Aa.Eu.known .nil) fun a b r c l x y hp=>by
  obtain ⟨h12,hy⟩:=Af.1 (show (((Bn a&&Bn b)&&Bh r c l)&&Ow r c x y a b)=true from hp)
  obtain ⟨h1,hx⟩:=Af.1 h12
  have h2:=Af.2 ⟨hx,hy⟩
  obtain ⟨ha,hb⟩:=Af.1 h1
  obtain ⟨A,rfl,hA⟩:=F7 ha
  obtain ⟨B,rfl,hB⟩:=F7 hb
  obtain ⟨hr,he⟩:=Af.1 h2
  have he:=of_decide_eq_true he
  have hs:=J1.1 hr
  have hp:∀ i j:Nat,i<A→j<B→(D1 r c l (x+(i:Int)) (y+(j:Int))&&Rf x y (i:Int) (j:Int))=true:=fun i j hi hj =>
    Af.2 ⟨K3 hr (by omega) (by omega) (by omega) (by omega) r,Ao.2 (by omega)⟩
  refine ⟨8,.agg [.int .i64 (A:Int),.int .i64 (B:Int),.ints (.own 108002 tB) .u64 (Ci A B fun (i j:Nat)=>Ef c l (x+(i:Int)) (y+(j:Int)))],[108002],?_,Wk.Ip (.cons .int (.cons .int (.cons (.drop _ _ _ _ (List.mem_singleton.2 rfl)) .nil)))⟩
  rw [Aa.of.Part.ev]
  have n:=of.Part.outer 8 r c l x y hA hB (by omega) (F:=fun (i j:Nat)=>Ef c l (x+(i:Int)) (y+(j:Int))) (fun _ _=>rfl) hp A 0 8 (by omega) (by omega)
  rw [J4] at n
  exact n
theorem of.Mul.inner (N:Nat) (r c:Int) (l:List Int) (p q:Int) (m:List Int) {A B:Nat} (hA:A≤6) (hB:B≤6) {F:Nat→Nat→Int} (hF:∀ i j:Nat,F i j=M3 (Ko c l (i:Int)) (Oq p q m (j:Int))) {i:Nat} (hi:i<A) (hp:∀ j:Nat,j<B→Pk r c l p q m (i:Int) (j:Int)=true):∀ (k j M0 M:Nat),j+k=B→k<M →
    Aa.of.Mul.L1 N M0 M (A:Int) (B:Int) r c l p q m (i:Int) (i:Int) (j:Int) (Ci i B F++(List.range j).map (F i))=Aa.of.Mul.L0 N M0 (A:Int) (B:Int) r c l p q m ((i+1:Nat):Int) (Ci (i+1) B F):=by
  intro k
  induction k with
  | zero =>
    intro j M0 M hj hM
    obtain ⟨M,rfl⟩:∃ G,M=G+1:=⟨M-1,by omega⟩
    obtain rfl:j=B:=by omega
    rw [Aa.of.Mul.Cc,Aq,Aq1 (by omega),Aq0,An (by omega) (by omega),← J5]
    rfl
  | succ k ih =>
    intro j M0 M hj hM
    obtain ⟨M,rfl⟩:∃ G,M=G+1:=⟨M-1,by omega⟩
    have d:decide ((Ci i B F++(List.range j).map (F i)).length+1≤Gq)=true:=by
      refine Aqx ?_
      have:=Nat.mul_le_mul (show i≤6 by omega) hB
      rw [List.length_append,Bw,List.length_map,List.length_range]; unfold Gq; omega
    rw [Aa.of.Mul.Cc,Aq,Aqx (by omega),Aqw,hp j (by omega),Aqw,d,Aqw,An (by omega) (by omega),← hF i j]
    have:=ih (j+1) M0 M (by omega) (by omega)
    rw [Hy,← List.append_assoc] at this
    exact this
theorem of.Mul.outer (N:Nat) (r c:Int) (l:List Int) (p q:Int) (m:List Int) {A B:Nat} (hA:A≤6) (hB:B≤6) (hN:6<N) {F:Nat→Nat→Int} (hF:∀ i j:Nat,F i j=M3 (Ko c l (i:Int)) (Oq p q m (j:Int))) (hp:∀ i j:Nat,i<A→j<B→Pk r c l p q m (i:Int) (j:Int)=true):∀ (k i M:Nat),i+k=A→k<M →
    Aa.of.Mul.L0 N M (A:Int) (B:Int) r c l p q m (i:Int) (Ci i B F)=some (.agg [.int .i64 (A:Int),.int .i64 (B:Int),.ints (.own 108002 tB) .u64 (Ci A B F)]):=by
  intro k
  induction k with
  | zero =>
    intro i M hi hM
    obtain ⟨M,rfl⟩:∃ G,M=G+1:=⟨M-1,by omega⟩
    obtain rfl:i=A:=by omega
    rw [Aa.of.Mul.At,Aq,Aq1 (by omega),Aq0]
  | succ k ih =>
    intro i M hi hM
    obtain ⟨M,rfl⟩:∃ G,M=G+1:=⟨M-1,by omega⟩
    have n:=of.Mul.inner N r c l p q m hA hB hF (show i<A by omega) (fun j hj=>hp i j (by omega) hj) B 0 M N (by omega) (by omega)
    rw [List.range_zero,List.map_nil,List.append_nil] at n
    rw [Aa.of.Mul.At,Aq,Aqx (by omega),Aqw]
    exact n.trans (ih (i+1) M (by omega) (by omega))
theorem Aa.of.Mul.known:Aa.of.Mul.Kn:=Aa.of.Mul.Ad (.cons Aa.Gh.known .nil) fun a b r c l p q m hp=>by
  obtain ⟨h12,hy⟩:=Af.1 (show (((Bn a&&Bn b)&&((Bh r c l&&Bh p q m)&&(Ah l&&Ah m)))&&decide (a=r∧b=q∧c=p))=true from hp)
  obtain ⟨h1,hx⟩:=Af.1 h12
  have h2:=Af.2 ⟨hx,hy⟩
  obtain ⟨ha,hb⟩:=Af.1 h1
  obtain ⟨A,rfl,hA⟩:=F7 ha
  obtain ⟨B,rfl,hB⟩:=F7 hb
  obtain ⟨h3,he⟩:=Af.1 h2
  obtain ⟨h4,h5⟩:=Af.1 h3
  obtain ⟨hr,hm⟩:=Af.1 h4
  obtain ⟨e1,e2,e3⟩:=of_decide_eq_true he
  have hp:∀ i j:Nat,i<A→j<B→Pk r c l p q m (i:Int) (j:Int)=true:=fun i j hi hj =>
    Af.2 ⟨Af.2 ⟨Af.2 ⟨hr,Ao.2 (by omega)⟩,Af.2 ⟨hm,Ao.2 (by omega)⟩⟩,Af.2 ⟨h5,Ao.2 e3⟩⟩
  refine ⟨8,.agg [.int .i64 (A:Int),.int .i64 (B:Int),.ints (.own 108002 tB) .u64 (Ci A B fun (i j:Nat)=>M3 (Ko c l (i:Int)) (Oq p q m (j:Int)))],[108002],?_,Wk.Ip (.cons .int (.cons .int (.cons (.drop _ _ _ _ (List.mem_singleton.2 rfl)) .nil)))⟩
  rw [Aa.of.Mul.ev]
  have n:=of.Mul.outer 8 r c l p q m hA hB (by omega) (F:=fun (i j:Nat)=>M3 (Ko c l (i:Int)) (Oq p q m (j:Int))) (fun _ _=>rfl) hp A 0 8 (by omega) (by omega)
  rw [J4] at n
  exact n
open EqOf
def Pg (x:MX):DV:=.tup [.agg [.int .i64 x.1,.int .i64 x.2.1,.ints .fresh .u64 x.2.2.1],.int .i64 x.2.2.2]
def Aev (e:Int):DV:=.tup [.agg [.int .i64 0,.int .i64 0,.nil],.int .i64 e]
theorem Ly {drops:List Nat} {x:MX}:Wk drops (Pg x) (Pg x) :=
  Wk.Gb (.cons (Wk.Ip (.cons .int (.cons .int (.cons .Kf .nil)))) (.cons .int .nil))
theorem Kp {drops:List Nat} {e:Int}:Wk drops (Aev e) (Pg (Gd e)) :=
  Wk.Gb (.cons (Wk.Ip (.cons .int (.cons .int (.cons (.nil _ _) .nil)))) (.cons .int .nil))
theorem Aa.Gm.known:Aa.Gm.Kn:=Aa.Gm.Ad (.cons Aa.of.Gm.known (.cons Aa.size.known .nil)) fun n _=>by
  show ∃ N dv drops,_=some dv∧Wk drops dv (Pg (Kg n))
  unfold Kg
  by_cases h:Bn n=true
  · rw [if_pos h]
    exact ⟨0,_,[],by rw [Aa.Gm.ev,h]; rfl,Ly⟩
  · have e:Bn n=false:=by simpa using h
    rw [if_neg h]
    exact ⟨0,_,[],by rw [Aa.Gm.ev,e]; rfl,Kp⟩
theorem Fh {r c:Int} {l:List Int} (h:Bh r c l=true):Bn r=true∧Bn c=true:=by
  obtain ⟨h1,h2,_⟩:=J1.1 h
  exact ⟨G8.2 h1,G8.2 h2⟩
theorem Aa.Cy.known:Aa.Cy.Kn:=Aa.Cy.Ad (.cons Aa.Check.known (.cons Aa.of.Cy.known .nil)) fun r c l _=>by
  show ∃ N dv drops,_=some dv∧Wk drops dv (Pg (A5 r c l))
  unfold A5
  by_cases h:Bh r c l=true
  · obtain ⟨h1,h2⟩:=Fh h
    rw [if_pos h]
    exact ⟨0,_,[],by rw [Aa.Cy.ev,Ps,h,h1,h2,Aqx ⟨rfl,rfl⟩]; rfl,Ly⟩
  · have e:Bh r c l=false:=by simpa using h
    have ec:Io r c l=1:=by unfold Io; rw [e]; rfl
    rw [if_neg h]
    exact ⟨0,_,[],by rw [Aa.Cy.ev,Ps,e,ec]; rfl,Kp⟩
theorem Wd {r c x y a b:Int} (hr:0≤r∧r≤6) (hc:0≤c∧c≤6) :
    ((((((((A1 x (0:Int))||(A1 y (0:Int)))||(A1 a (0:Int)))||(A1 b (0:Int)))||(A1 r x))||(A1 c y))||(A1 (Ab (r-x)) a))||(A1 (Ab (c-y)) b))=!(Ow r c x y a b):=by
  unfold Ow
  simp only [Aq]
  by_cases h:0≤x∧0≤y∧x≤r∧y≤c
  · rw [An (x:=r-x) (by omega) (by omega),An (x:=c-y) (by omega) (by omega),Arc]
    simp only [Bool.or_eq_true,Aq3,Bool.not_eq_true',Arf]
    omega
  · have e:decide (0≤x∧0≤y∧0≤a∧0≤b∧x≤r∧y≤c∧a≤r-x∧b≤c-y)=false:=Aq1 (by omega)
    rw [e,Arc]
    simp only [Bool.or_eq_true,Aq3,Bool.not_false,iff_true]
    omega
theorem Abu {r c x y a b:Int} {l:List Int} (h:Bh r c l=true) (hp:Ow r c x y a b=true):Bn a=true∧Bn b=true:=by
  obtain ⟨h1,h2,_⟩:=J1.1 h
  have:=of_decide_eq_true hp
  exact ⟨G8.2 (by omega),G8.2 (by omega)⟩
theorem Aa.Part.known:Aa.Part.Kn:=Aa.Part.Ad (.cons Aa.Check.known (.cons Aa.of.Part.known .nil)) fun r c l x y a b _=>by
  show ∃ N dv drops,_=some dv∧Wk drops dv (Pg (D4 r c l x y a b))
  unfold D4
  by_cases h:Bh r c l=true
  · obtain ⟨h1,h2,_⟩:=J1.1 h
    by_cases hp:Ow r c x y a b=true
    · obtain ⟨s1,s2⟩:=Abu h hp
      rw [if_pos h,if_pos hp]
      exact ⟨0,_,[],by rw [Aa.Part.ev,Ps,Wd h1 h2,h,hp,s1,s2]; rfl,Ly⟩
    · have e:Ow r c x y a b=false:=by simpa using hp
      rw [if_pos h,if_neg hp]
      exact ⟨0,_,[],by rw [Aa.Part.ev,Ps,Wd h1 h2,h,e]; rfl,Kp⟩
  · have e:Bh r c l=false:=by simpa using h
    have ec:Io r c l=1:=by unfold Io; rw [e]; rfl
    rw [if_neg h]
    exact ⟨0,_,[],by rw [Aa.Part.ev,Ps,e,ec]; rfl,Kp⟩
theorem Q8 (r c:Int) (l:List Int) (p q:Int) (m:List Int):((Tn r c l p q m) !=(0:Int))=!(Bh r c l&&Bh p q m):=by
  unfold Tn
  cases Bh r c l&&Bh p q m<;>rfl
theorem Agi {r c:Int} {l:List Int} {p q:Int} {m:List Int} (h:(Bh r c l&&Bh p q m)=false):Tn r c l p q m=1:=by
  unfold Tn; rw [h]; rfl
theorem Aa.Mul.known:Aa.Mul.Kn:=Aa.Mul.Ad (.cons Aa.of.Mul.known (.cons Aa.two.known .nil)) fun r c l p q m hp=>by
  show ∃ N dv drops,_=some dv∧Wk drops dv (Pg (Mc r c l p q m))
  unfold Mc
  have hp:(Ah l&&Ah m)=true:=hp
  by_cases h:(Bh r c l&&Bh p q m)=true
  · obtain ⟨h1,h2⟩:=Af.1 h
    by_cases hc:c=p
    · have e:(c !=p)=false:=by rw [hc]; simp
      rw [if_pos h,if_pos hc]
      exact ⟨0,_,[],by rw [Aa.Mul.ev,Q8,h,e,(Fh h1).1,(Fh h2).2,hp,Aqx ⟨rfl,rfl,hc⟩]; rfl,Ly⟩
    · have e:(c !=p)=true:=by simpa using hc
      rw [if_pos h,if_neg hc]
      exact ⟨0,_,[],by rw [Aa.Mul.ev,Q8,h,e]; rfl,Kp⟩
  · have e:(Bh r c l&&Bh p q m)=false:=by simpa using h
    rw [if_neg h]
    exact ⟨0,_,[],by rw [Aa.Mul.ev,Q8,e,Agi e]; rfl,Kp⟩
namespace EqRef10
end EqRef10
open EqRef10
theorem Aba {drops:List Nat} {i:Nat} {e:TypeId} {a b:Int} {l:List Int} (h:i∈drops):Wk drops (.agg [.int .i64 a,.int .i64 b,.ints (.own i e) .u64 l]) (.agg [.int .i64 a,.int .i64 b,.ints .fresh .u64 l]) :=
  Wk.Ip (.cons .int (.cons .int (.cons (.drop _ _ _ _ h) .nil)))
theorem Aav {r c i k:Nat} (hk:k<c) {d d':Nat→Nat→Bool} {f:Nat→Nat→Int} {x:Int} (hx:x=f i k)
    (h:∀ a b,a<r→b<c→(d' a b=true↔d a b=true∨(a=i∧b=k))) :
    List.set (Ci r c fun a b=>if d a b=true then f a b else 0) (Int.toNat ((i:Int)*(c:Int)+(k:Int))) x=Ci r c fun a b=>if d' a b=true then f a b else 0:=by
  have e:((i:Int)*(c:Int)+(k:Int)).toNat=i*c+k:=by rw [← Ari,← Int.natCast_add,Aqy]
  rw [e,Qv hk]
  refine Dh fun a b ha hb=>?_
  have h:=h a b ha hb
  by_cases hab:a=i∧b=k
  · rw [if_pos hab,if_pos (h.2 (.inr hab)),hx,hab.1,hab.2]
  · rw [if_neg hab]
    by_cases hd:d a b=true
    · rw [if_pos hd,if_pos (h.2 (.inl hd))]
    · rw [if_neg hd,if_neg (fun k=>(h.1 k).elim hd hab)]
open EqRef10
namespace EqHouse
def Ak.Cp.hint:Nat→Option A6
  | 0=>some { keep:=[5,6,7],objs:=[],boxes:=[] }
  | _=>none
def Ak.Cp.Ba:List (Nat × Entry):=[(155,soft.Kind.spec)]
def Ak.Cp.E:Env:=Bc (A9 Ak.Cp.Ba) (fun _=>false) Ak.Cp.hint (fun _=>none)
def Ak.Cp.L0 (N M:Nat) (x:List Int) (p7:Int):Option DV:=B2 Ak.Cp.E N Tryz.f252 (Am Tryz.f252) [1,0,1,0] [] M ⟨Fw 15 [(5,.ints .arg .u64 x),(6,.int .i64 (List.length x:Int)),(7,.int .i64 p7)],[]⟩
theorem Ak.Cp.At (N M:Nat) (x:List Int) (p7:Int):Ak.Cp.L0 N (M+1) x p7=bif (A1 p7 (List.length x:Int)) then bif ((decide (0≤p7))&&(decide (p7<(List.length x:Int)))) then bif (Ai (List.getD x (Int.toNat p7) 0)) then bif ((A4 (List.getD x (Int.toNat p7) 0)) !=(0:Int)) then some (.bool false) else Ak.Cp.L0 N M x (Ab (p7+1)) else none else none else some (.bool true):=by kernel_rfl
theorem Ak.Cp.ev (N:Nat) (x:List Int):By Ak.Cp.E N Tryz.f252 (Am Tryz.f252) [.ints .arg .u64 x] =
  Ak.Cp.L0 N N x 0:=by kernel_rfl
abbrev _root_.Go.Proofs.S1.Ak.Cp.Kn:=A7 Tryz.prog 252 Ak.Cp.spec
theorem Ak.Cp.Ad (hk:Ax Tryz.prog Ak.Cp.Ba) (h:∀ (x:List Int),Ak.Cp.pre [.l x]=true→Bd Ak.Cp.E Tryz.f252 [.ints .arg .u64 x] (Ak.Cp.out [.l x])):Ak.Cp.Kn :=
  Al (A0 hk _ _ _) Tryz.func252 (by kernel_rfl) (by kernel_rfl) h
def Ak.lead.hint:Nat→Option A6
  | 0=>some { keep:=[5,6,7],objs:=[],boxes:=[] }
  | _=>none
def Ak.lead.Ba:List (Nat × Entry):=[(155,soft.Kind.spec)]
def Ak.lead.E:Env:=Bc (A9 Ak.lead.Ba) (fun _=>false) Ak.lead.hint (fun _=>none)
def Ak.lead.L0 (N M:Nat) (x:List Int) (p7:Int):Option DV:=B2 Ak.lead.E N Tryz.f258 (Am Tryz.f258) [1,0,1,0] [] M ⟨Fw 16 [(5,.ints .arg .u64 x),(6,.int .i64 (List.length x:Int)),(7,.int .i64 p7)],[]⟩
theorem Ak.lead.At (N M:Nat) (x:List Int) (p7:Int):Ak.lead.L0 N (M+1) x p7=bif (A1 p7 (List.length x:Int)) then bif ((decide (0≤p7))&&(decide (p7<(List.length x:Int)))) then bif (Ai (List.getD x (Int.toNat p7) 0)) then bif ((A4 (List.getD x (Int.toNat p7) 0)) !=(0:Int)) then some (.int .u64 (List.getD x (Int.toNat p7) 0)) else Ak.lead.L0 N M x (Ab (p7+1)) else none else none else some (.int .u64 0):=by kernel_rfl
theorem Ak.lead.ev (N:Nat) (x:List Int):By Ak.lead.E N Tryz.f258 (Am Tryz.f258) [.ints .arg .u64 x] =
  Ak.lead.L0 N N x 0:=by kernel_rfl
abbrev _root_.Go.Proofs.S1.Ak.lead.Kn:=A7 Tryz.prog 258 Ak.lead.spec
theorem Ak.lead.Ad (hk:Ax Tryz.prog Ak.lead.Ba) (h:∀ (x:List Int),Ak.lead.pre [.l x]=true→Bd Ak.lead.E Tryz.f258 [.ints .arg .u64 x] (Ak.lead.out [.l x])):Ak.lead.Kn :=
  Al (A0 hk _ _ _) Tryz.func258 (by kernel_rfl) (by kernel_rfl) h
def Ak.Cr.hint:Nat→Option A6
  | 0=>some { keep:=[1,5,8,9,10],objs:=[(0,5,100005,.ints 37 .u64 [])],boxes:=[] }
  | _=>none
def Ak.Cr.Ba:List (Nat × Entry):=[(88,Ae.Bp.spec)]
def Ak.Cr.E:Env:=Bc (A9 Ak.Cr.Ba) (fun _=>false) Ak.Cr.hint (fun _=>none)
def Ak.Cr.L0 (N M:Nat) (x:List Int) (k p10:Int) (p5:List Int):Option DV:=B2 Ak.Cr.E N Tryz.f256 (Am Tryz.f256) [1,1,0,1,0] [] M ⟨Fw 22 [(1,.int .i64 k),(5,.oref 100005),(8,.ints .arg .u64 x),(9,.int .i64 (List.length x:Int)),(10,.int .i64 p10)],[(100005,false,.ints 37 .u64 p5)]⟩
theorem Ak.Cr.At (N M:Nat) (x:List Int) (k p10:Int) (p5:List Int):Ak.Cr.L0 N (M+1) x k p10 p5=bif (A1 p10 (List.length x:Int)) then bif ((decide (0≤p10))&&(decide (p10<(List.length x:Int)))) then bif (Eh (List.getD x (Int.toNat p10) 0) k) then bif (decide ((List.length p5)+1≤Gq)) then Ak.Cr.L0 N M x k (Ab (p10+1)) (p5++[(B8 (List.getD x (Int.toNat p10) 0) k)]) else none else none else none else some (.ints (.own 100005 37) .u64 p5):=by kernel_rfl
theorem Ak.Cr.ev (N:Nat) (x:List Int) (k:Int):By Ak.Cr.E N Tryz.f256 (Am Tryz.f256) [.ints .arg .u64 x,.int .i64 k] =
  Ak.Cr.L0 N N x k 0 []:=by kernel_rfl
abbrev _root_.Go.Proofs.S1.Ak.Cr.Kn:=A7 Tryz.prog 256 Ak.Cr.spec
theorem Ak.Cr.Ad (hk:Ax Tryz.prog Ak.Cr.Ba) (h:∀ (x:List Int) (k:Int),Ak.Cr.pre [.l x,.i k]=true→Bd Ak.Cr.E Tryz.f256 [.ints .arg .u64 x,.int .i64 k] (Ak.Cr.out [.l x,.i k])):Ak.Cr.Kn :=
  Al (A0 hk _ _ _) Tryz.func256 (by kernel_rfl) (by kernel_rfl) h
def Ak.Ew.Ba:List (Nat × Entry):=[]
def Ak.Ew.E:Env:=Bc (A9 Ak.Ew.Ba) (fun _=>false) (fun _=>none) (fun _=>none)
theorem Ak.Ew.ev (N:Nat) (i:Int):By Ak.Ew.E N Tryz.f254 (Am Tryz.f254) [.int .i64 i]=some (.int .u64 0):=by kernel_rfl
abbrev _root_.Go.Proofs.S1.Ak.Ew.Kn:=A7 Tryz.prog 254 Ak.Ew.spec
theorem Ak.Ew.Ad (hk:Ax Tryz.prog Ak.Ew.Ba) (h:∀ (i:Int),Ak.Ew.pre [.i i]=true→Bd Ak.Ew.E Tryz.f254 [.int .i64 i] (Ak.Ew.out [.i i])):Ak.Ew.Kn :=
  Al (A0 hk _ _ _) Tryz.func254 (by kernel_rfl) (by kernel_rfl) h
def Ak.Ev.Ba:List (Nat × Entry):=[(158,Ae.Div.spec)]
def Ak.Ev.E:Env:=Bc (A9 Ak.Ev.Ba) (fun _=>false) (fun _=>none) (fun _=>none)
theorem Ak.Ev.ev (N:Nat) (i:Int) (y:List Int) (d:Int):By Ak.Ev.E N Tryz.f259 (Am Tryz.f259) [.int .i64 i,.cellp [.ints .arg .u64 y],.cellp [.int .u64 d]]=bif ((decide (0≤i))&&(decide (i<(List.length y:Int)))) then bif (Ai (List.getD y (Int.toNat i) 0)&&Ai d) then some (.int .u64 (E7 (List.getD y (Int.toNat i) 0) d)) else none else none :=
  Eq.trans (by kernel_rfl)
  (C0 (Li (decide (0≤i)) (decide (i<(List.length y:Int)))) (C0 (C3 (Ai (List.getD y (Int.toNat i) 0)&&Ai d)) rfl rfl) rfl)
abbrev _root_.Go.Proofs.S1.Ak.Ev.Kn:=A7 Tryz.prog 259 Ak.Ev.spec
theorem Ak.Ev.Ad (hk:Ax Tryz.prog Ak.Ev.Ba) (h:∀ (i:Int) (y:List Int) (d:Int),Ak.Ev.pre [.i i,.l y,.i d]=true→Bd Ak.Ev.E Tryz.f259 [.int .i64 i,.cellp [.ints .arg .u64 y],.cellp [.int .u64 d]] (Ak.Ev.out [.i i,.l y,.i d])):Ak.Ev.Kn :=
  Al (A0 hk _ _ _) Tryz.func259 (by kernel_rfl) (by kernel_rfl) h
def Ak.row.Zero.hint:Nat→Option A6
  | 0=>some { keep:=[0,1,5,6],objs:=[(0,5,100005,.ints 37 .u64 [])],boxes:=[] }
  | _=>none
def Ak.row.Zero.Ba:List (Nat × Entry):=[(254,Ak.Ew.spec)]
def Ak.row.Zero.E:Env:=Bc (A9 Ak.row.Zero.Ba) (fun _=>false) Ak.row.Zero.hint (fun _=>none)
def Ak.row.Zero.L0 (N M:Nat) (n p6:Int) (p5:List Int):Option DV:=B2 Ak.row.Zero.E N Tryz.f253 (Am Tryz.f253) [1,1,0,1,0] [] M ⟨Fw 23 [(0,.int .i64 n),(1,.fn 254 [] []),(5,.oref 100005),(6,.int .i64 p6)],[(100005,false,.ints 37 .u64 p5)]⟩
theorem Ak.row.Zero.At (N M:Nat) (n p6:Int) (p5:List Int):Ak.row.Zero.L0 N (M+1) n p6 p5=bif (A1 p6 n) then bif (decide ((List.length p5)+1≤Gq)) then Ak.row.Zero.L0 N M n (Ab (p6+1)) (p5++[(0:Int)]) else none else bif (((decide ((0:Int)≤n))&&(decide (n≤n)))&&((decide ((0:Int)≤n))&&(decide (n≤(List.length p5:Int))))) then some (.ints .fresh .u64 (List.take (Int.toNat (n-0)) (List.drop 0 p5))) else none :=
  Eq.trans (by kernel_rfl)
  (E3 rfl (C0 (Amz (decide ((0:Int)≤n)) (decide (n≤n)) (decide (n≤(List.length p5:Int)))) rfl rfl))
theorem Ak.row.Zero.ev (N:Nat) (n:Int):By Ak.row.Zero.E N Tryz.f253 (Am Tryz.f253) [.int .i64 n,.fn 254 [] []] =
  Ak.row.Zero.L0 N N n 1 [(4607182418800017408:Int)]:=by kernel_rfl
abbrev _root_.Go.Proofs.S1.Ak.row.Zero.Kn:=A7 Tryz.prog 253 Ak.row.Zero.spec
theorem Ak.row.Zero.Ad (hk:Ax Tryz.prog Ak.row.Zero.Ba) (h:∀ (n:Int),Ak.row.Zero.pre [.i n]=true→Bd Ak.row.Zero.E Tryz.f253 [.int .i64 n,.fn 254 [] []] (Ak.row.Zero.out [.i n])):Ak.row.Zero.Kn :=
  Al (A0 hk _ _ _) Tryz.func253 (by kernel_rfl) (by kernel_rfl) h
def Ak.row.Div.hint:Nat→Option A6
  | 0=>some { keep:=[0,1,5,6],objs:=[(0,5,100005,.ints 37 .u64 [])],boxes:=[] }
  | _=>none
def Ak.row.Div.Ba:List (Nat × Entry):=[(259,Ak.Ev.spec)]
def Ak.row.Div.E:Env:=Bc (A9 Ak.row.Div.Ba) (fun _=>false) Ak.row.Div.hint (fun _=>none)
def Ak.row.Div.L0 (N M:Nat) (n:Int) (y:List Int) (d p6:Int) (p5:List Int):Option DV:=B2 Ak.row.Div.E N Tryz.f253 (Am Tryz.f253) [1,1,0,1,0] [] M ⟨Fw 23 [(0,.int .i64 n),(1,.fn 259 [] [.cellp [.ints .arg .u64 y],.cellp [.int .u64 d]]),(5,.oref 100005),(6,.int .i64 p6)],[(100005,false,.ints 37 .u64 p5)]⟩
theorem Ak.row.Div.At (N M:Nat) (n:Int) (y:List Int) (d p6:Int) (p5:List Int):Ak.row.Div.L0 N (M+1) n y d p6 p5=bif (A1 p6 n) then bif ((Cn (0≤p6∧p6<List.length y)&&Ah y)&&Ai d) then bif (decide ((List.length p5)+1≤Gq)) then Ak.row.Div.L0 N M n y d (Ab (p6+1)) (p5++[(E7 (List.getD y (Int.toNat p6) 0) d)]) else none else none else bif (((decide ((0:Int)≤n))&&(decide (n≤n)))&&((decide ((0:Int)≤n))&&(decide (n≤(List.length p5:Int))))) then some (.ints .fresh .u64 (List.take (Int.toNat (n-0)) (List.drop 0 p5))) else none :=
  Eq.trans (by kernel_rfl)
  (E3 rfl (C0 (Amz (decide ((0:Int)≤n)) (decide (n≤n)) (decide (n≤(List.length p5:Int)))) rfl rfl))
theorem Ak.row.Div.ev (N:Nat) (n:Int) (y:List Int) (d:Int):By Ak.row.Div.E N Tryz.f253 (Am Tryz.f253) [.int .i64 n,.fn 259 [] [.cellp [.ints .arg .u64 y],.cellp [.int .u64 d]]] =
  Ak.row.Div.L0 N N n y d 1 [(4607182418800017408:Int)]:=by kernel_rfl
abbrev _root_.Go.Proofs.S1.Ak.row.Div.Kn:=A7 Tryz.prog 253 Ak.row.Div.spec
theorem Ak.row.Div.Ad (hk:Ax Tryz.prog Ak.row.Div.Ba) (h:∀ (n:Int) (y:List Int) (d:Int),Ak.row.Div.pre [.i n,.l y,.i d]=true→Bd Ak.row.Div.E Tryz.f253 [.int .i64 n,.fn 259 [] [.cellp [.ints .arg .u64 y],.cellp [.int .u64 d]]] (Ak.row.Div.out [.i n,.l y,.i d])):Ak.row.Div.Kn :=
  Al (A0 hk _ _ _) Tryz.func253 (by kernel_rfl) (by kernel_rfl) h
def Ak.Iq.Ba:List (Nat × Entry):=[(255,compare.Sw.spec),(258,Ak.lead.spec),(252,Ak.Cp.spec),(253,(Aoi [.i .i64,.fn 254 []] Ak.row.Zero.spec Ak.row.Div.spec)),(256,Ak.Cr.spec),(148,soft.Finite.spec),(233,soft.Fe.spec),(213,soft.Sign.spec),(89,Ae.Cf.spec),(158,Ae.Div.spec),(150,Ae.Finite.spec),(257,Ae.Norm.spec),(88,Ae.Bp.spec),(156,Ae.Sub.spec)]
def Ak.Iq.E:Env:=Bc (A9 Ak.Iq.Ba) (fun _=>false) (fun _=>none) (fun _=>none)
theorem Ak.Iq.ev (N:Nat) (x:List Int):By Ak.Iq.E N Tryz.f245 (Am Tryz.f245) [.ints .arg .u64 x]=bif (((List.length x:Int)==(0:Int))||(A1 64 (List.length x:Int))) then some (.tup [.nil,.int .u64 0,.int .u64 0,.int .i64 3]) else bif (C4 x) then bif (!(D9 x)) then some (.tup [.nil,.int .u64 0,.int .u64 0,.int .i64 4]) else bif (decide ((1:Int)≤(List.length x:Int))) then bif (C4 (List.drop 1 x)) then bif (I2 (List.drop 1 x)) then bif (Cn (1≤(List.length x:Int)∧(List.length x:Int)≤64)) then bif (decide ((0:Int)<(List.length x:Int))) then some (.tup [.ints .fresh .u64 (Ie (Int.toNat (List.length x:Int)) (fun _=>0)),.int .u64 0,.int .u64 (List.getD x 0 0),.int .i64 0]) else none else none else bif (C4 x) then bif (Ai (Bl x)) then bif (C4 x&&Cn (List.length x≤1000∧-2300≤(Ab (0-(Bz (Bl x))))∧(Ab (0-(Bz (Bl x))))≤2300)) then bif (C4 (Bi x (Ab (0-(Bz (Bl x)))))&&Cn (List.length (Bi x (Ab (0-(Bz (Bl x)))))≤64)) then bif (C4 x) then bif (Ai (O1 x)) then bif (!(Dd (O1 x))) then bif (Ai (D7 (Bi x (Ab (0-(Bz (Bl x))))))) then bif (Eh (Db (D7 (Bi x (Ab (0-(Bz (Bl x))))))) (Bz (Bl x))) then bif (Ai (B8 (Db (D7 (Bi x (Ab (0-(Bz (Bl x))))))) (Bz (Bl x)))) then bif (!(Df (B8 (Db (D7 (Bi x (Ab (0-(Bz (Bl x))))))) (Bz (Bl x))))) then some (.tup [.nil,.int .u64 0,.int .u64 0,.int .i64 2]) else bif (decide ((0:Int)<(List.length (Bi x (Ab (0-(Bz (Bl x))))):Int))) then bif (Ai (List.getD (Bi x (Ab (0-(Bz (Bl x))))) 0 0)&&Ai (Db (D7 (Bi x (Ab (0-(Bz (Bl x)))))))) then bif ((Cn (1≤(List.length (Bi x (Ab (0-(Bz (Bl x))))):Int)∧(List.length (Bi x (Ab (0-(Bz (Bl x))))):Int)≤64∧(List.length (Bi x (Ab (0-(Bz (Bl x))))):Int)=List.length (Bi x (Ab (0-(Bz (Bl x))))))&&Ah (Bi x (Ab (0-(Bz (Bl x))))))&&Ai (Dl (List.getD (Bi x (Ab (0-(Bz (Bl x))))) 0 0) (Db (D7 (Bi x (Ab (0-(Bz (Bl x))))))))) then bif (decide ((0:Int)<(List.length (Bi x (Ab (0-(Bz (Bl x))))):Int))) then bif (Ai (Db (D7 (Bi x (Ab (0-(Bz (Bl x)))))))&&Ai (List.getD (Bi x (Ab (0-(Bz (Bl x))))) 0 0)) then bif (Ai (Dl (Db (D7 (Bi x (Ab (0-(Bz (Bl x))))))) (List.getD (Bi x (Ab (0-(Bz (Bl x))))) 0 0))&&Ai (Db (D7 (Bi x (Ab (0-(Bz (Bl x)))))))) then some (.tup [.ints .fresh .u64 (Ie (Int.toNat (List.length (Bi x (Ab (0-(Bz (Bl x))))):Int)) (fun j=>E7 (List.getD (Bi x (Ab (0-(Bz (Bl x))))) j 0) (Dl (List.getD (Bi x (Ab (0-(Bz (Bl x))))) 0 0) (Db (D7 (Bi x (Ab (0-(Bz (Bl x)))))))))),.int .u64 (E7 (Dl (Db (D7 (Bi x (Ab (0-(Bz (Bl x))))))) (List.getD (Bi x (Ab (0-(Bz (Bl x))))) 0 0)) (Db (D7 (Bi x (Ab (0-(Bz (Bl x)))))))),.int .u64 (B8 (Db (D7 (Bi x (Ab (0-(Bz (Bl x))))))) (Bz (Bl x))),.int .i64 0]) else none else none else none else none else none else none else none else none else none else bif (Eh (D7 (Bi x (Ab (0-(Bz (Bl x)))))) (Bz (Bl x))) then bif (Ai (B8 (D7 (Bi x (Ab (0-(Bz (Bl x)))))) (Bz (Bl x)))) then bif (!(Df (B8 (D7 (Bi x (Ab (0-(Bz (Bl x)))))) (Bz (Bl x))))) then some (.tup [.nil,.int .u64 0,.int .u64 0,.int .i64 2]) else bif (decide ((0:Int)<(List.length (Bi x (Ab (0-(Bz (Bl x))))):Int))) then bif (Ai (List.getD (Bi x (Ab (0-(Bz (Bl x))))) 0 0)&&Ai (D7 (Bi x (Ab (0-(Bz (Bl x))))))) then bif ((Cn (1≤(List.length (Bi x (Ab (0-(Bz (Bl x))))):Int)∧(List.length (Bi x (Ab (0-(Bz (Bl x))))):Int)≤64∧(List.length (Bi x (Ab (0-(Bz (Bl x))))):Int)=List.length (Bi x (Ab (0-(Bz (Bl x))))))&&Ah (Bi x (Ab (0-(Bz (Bl x))))))&&Ai (Dl (List.getD (Bi x (Ab (0-(Bz (Bl x))))) 0 0) (D7 (Bi x (Ab (0-(Bz (Bl x)))))))) then bif (decide ((0:Int)<(List.length (Bi x (Ab (0-(Bz (Bl x))))):Int))) then bif (Ai (D7 (Bi x (Ab (0-(Bz (Bl x))))))&&Ai (List.getD (Bi x (Ab (0-(Bz (Bl x))))) 0 0)) then bif (Ai (Dl (D7 (Bi x (Ab (0-(Bz (Bl x)))))) (List.getD (Bi x (Ab (0-(Bz (Bl x))))) 0 0))&&Ai (D7 (Bi x (Ab (0-(Bz (Bl x))))))) then some (.tup [.ints .fresh .u64 (Ie (Int.toNat (List.length (Bi x (Ab (0-(Bz (Bl x))))):Int)) (fun j=>E7 (List.getD (Bi x (Ab (0-(Bz (Bl x))))) j 0) (Dl (List.getD (Bi x (Ab (0-(Bz (Bl x))))) 0 0) (D7 (Bi x (Ab (0-(Bz (Bl x))))))))),.int .u64 (E7 (Dl (D7 (Bi x (Ab (0-(Bz (Bl x)))))) (List.getD (Bi x (Ab (0-(Bz (Bl x))))) 0 0)) (D7 (Bi x (Ab (0-(Bz (Bl x))))))),.int .u64 (B8 (D7 (Bi x (Ab (0-(Bz (Bl x)))))) (Bz (Bl x))),.int .i64 0]) else none else none else none else none else none else none else none else none else none else none else none else none else none else none else none else none else none :=
  Eq.trans (by kernel_rfl)
  (Au (Vk ((List.length x:Int)==(0:Int))) (Au (Tp ((List.length x:Int)==(0:Int))) (Au (Tp ((List.length x:Int)==(0:Int))) (Au (tt6 ((List.length x:Int)==(0:Int))) (C0 (tt5 ((List.length x:Int)==(0:Int)) (A1 64 (List.length x:Int))) rfl (E3 (E3 rfl (C0 (tt91 (decide ((1:Int)≤(List.length x:Int)))) (E3 (E3 (C0 (C3 (Cn (1≤(List.length x:Int)∧(List.length x:Int)≤64))) (C0 (C3 (decide ((0:Int)<(List.length x:Int)))) rfl rfl) rfl) rfl) rfl) rfl)) rfl))))))
abbrev _root_.Go.Proofs.S1.Ak.Iq.Kn:=A7 Tryz.prog 245 Ak.Iq.spec
theorem Ak.Iq.Ad (hk:Ax Tryz.prog Ak.Iq.Ba) (h:∀ (x:List Int),Ak.Iq.pre [.l x]=true→Bd Ak.Iq.E Tryz.f245 [.ints .arg .u64 x] (Ak.Iq.out [.l x])):Ak.Iq.Kn :=
  Al (A0 hk _ _ _) Tryz.func245 (by kernel_rfl) (by kernel_rfl) h
def Ak.Apply.hint:Nat→Option A6
  | 0=>some { keep:=[1,3,4,5,10,13,14],objs:=[(14,2,114002,.ints 37 .u64 [])],boxes:=[5,10,13] }
  | 2=>some { keep:=[1,3,4,5,10,13,14,18,90,91,92],objs:=[(14,2,114002,.ints 37 .u64 [])],boxes:=[5,10,13] }
  | _=>none
def Ak.Apply.Ba:List (Nat × Entry):=[(160,Aa.Check.spec),(191,Aa.Cz.spec),(189,Ae.M5.spec),(157,Ae.Mul.spec),(156,Ae.Sub.spec)]
def Ak.Apply.E:Env:=Bc (A9 Ak.Apply.Ba) (fun _=>false) Ak.Apply.hint (fun _=>none)
def Ak.Apply.L0 (N M:Nat) (r c:Int) (l:List Int) (i:Int) (v:List Int) (t p14:Int) (p2_1:List Int):Option DV:=B2 Ak.Apply.E N Tryz.f219 (Am Tryz.f219) [1,1,1,1,0,1,0] [] M ⟨Fw 118 [(1,.int .i64 i),(3,.ints .arg .u64 v),(4,.int .u64 t),(5,.ptr 5 0 0),(10,.ptr 10 0 0),(13,.ptr 13 0 0),(14,.int .i64 p14)],[(5,false,.box [.int .i64 r,.int .i64 c,.ints .arg .u64 l]),(10,false,.box [.int .i64 0,.int .i64 0,.nil]),(13,false,.box [.int .i64 r,.int .i64 c,.oref 114002]),(114002,false,.ints 37 .u64 p2_1)]⟩
def Ak.Apply.L1 (N M0 M:Nat) (r c:Int) (l:List Int) (i:Int) (v:List Int) (t p92:Int) (p2:List Int) (p14_1 p18:Int) (p90:List Int) (p91:Int):Option DV:=B2 Ak.Apply.E N Tryz.f219 (Am Tryz.f219) [1,1,1,1,0,1,0,0,1,0,0,1,1,1,1,0] [M0] M ⟨Fw 118 [(1,.int .i64 i),(3,.ints .arg .u64 v),(4,.int .u64 t),(5,.ptr 5 0 0),(10,.ptr 10 0 0),(13,.ptr 13 0 0),(14,.int .i64 p14_1),(18,.int .u64 p18),(90,.ints .fresh .u64 p90),(91,.int .i64 p91),(92,.int .i64 p92)],[(5,false,.box [.int .i64 r,.int .i64 c,.ints .arg .u64 l]),(10,false,.box [.int .i64 0,.int .i64 0,.nil]),(13,false,.box [.int .i64 r,.int .i64 c,.oref 114002]),(114002,false,.ints 37 .u64 p2)]⟩
theorem Ak.Apply.At (N M:Nat) (r c:Int) (l:List Int) (i:Int) (v:List Int) (t p14:Int) (p2_1:List Int):Ak.Apply.L0 N (M+1) r c l i v t p14 p2_1=bif (A1 p14 c) then bif (Ki r c l p14&&Cn (0≤i∧i≤r)) then bif (((decide ((0:Int)≤(List.length v:Int)))&&(decide ((List.length v:Int)≤(List.length v:Int))))&&((decide ((0:Int)≤(List.length v:Int)))&&(decide ((List.length v:Int)≤(List.length (Dg c l p14 i (Int.toNat (r-i))):Int))))) then bif ((Rv v (List.take (Int.toNat (List.length v:Int)) (Dg c l p14 i (Int.toNat (r-i))))&&Ah v)&&Ah (List.take (Int.toNat (List.length v:Int)) (Dg c l p14 i (Int.toNat (r-i))))) then bif (Ai t&&Ai (M3 v (List.take (Int.toNat (List.length v:Int)) (Dg c l p14 i (Int.toNat (r-i)))))) then Ak.Apply.L1 N M N r c l i v t 0 p2_1 p14 (Ej t (M3 v (List.take (Int.toNat (List.length v:Int)) (Dg c l p14 i (Int.toNat (r-i)))))) (List.take (Int.toNat (List.length v:Int)) (Dg c l p14 i (Int.toNat (r-i)))) (List.length (List.take (Int.toNat (List.length v:Int)) (Dg c l p14 i (Int.toNat (r-i)))):Int) else none else none else none else none else some (.tup [.agg [.int .i64 r,.int .i64 c,.ints (.own 114002 37) .u64 p2_1],.int .i64 0]) :=
  Eq.trans (by kernel_rfl)
  (E3 (E3 (C0 (Amz (decide ((0:Int)≤(List.length v:Int))) (decide ((List.length v:Int)≤(List.length v:Int))) (decide ((List.length v:Int)≤(List.length (Dg c l p14 i (Int.toNat (r-i))):Int)))) rfl rfl) rfl) rfl)
theorem Ak.Apply.Cc (N M0 M:Nat) (r c:Int) (l:List Int) (i:Int) (v:List Int) (t p92:Int) (p2:List Int) (p14_1 p18:Int) (p90:List Int) (p91:Int):Ak.Apply.L1 N M0 (M+1) r c l i v t p92 p2 p14_1 p18 p90 p91=bif (A1 p92 p91) then bif ((decide (0≤p92))&&(decide (p92<(List.length p90:Int)))) then bif ((decide (0≤p92))&&(decide (p92<(List.length v:Int)))) then bif (Ai p18&&Ai (List.getD v (Int.toNat p92) 0)) then bif (Ai (List.getD p90 (Int.toNat p92) 0)&&Ai (Ej p18 (List.getD v (Int.toNat p92) 0))) then bif ((decide (0≤(Ab ((Ab ((Ab (i+p92))*c))+p14_1))))&&(decide ((Ab ((Ab ((Ab (i+p92))*c))+p14_1))<(List.length p2:Int)))) then bif (decide ((Int.toNat (Ab ((Ab ((Ab (i+p92))*c))+p14_1)))<(List.length p2))) then Ak.Apply.L1 N M0 M r c l i v t (Ab (p92+1)) (List.set p2 (Int.toNat (Ab ((Ab ((Ab (i+p92))*c))+p14_1))) (Dl (List.getD p90 (Int.toNat p92) 0) (Ej p18 (List.getD v (Int.toNat p92) 0)))) p14_1 p18 p90 p91 else none else none else none else none else none else none else Ak.Apply.L0 N M0 r c l i v t (Ab (p14_1+1)) p2 :=
  Eq.trans (by kernel_rfl)
  (E3 (E3 (C0 (Li (decide (0≤p92)) (decide (p92<(List.length v:Int)))) (C0 (C3 (Ai p18&&Ai (List.getD v (Int.toNat p92) 0))) (C0 (C3 (Ai (List.getD p90 (Int.toNat p92) 0)&&Ai (Ej p18 (List.getD v (Int.toNat p92) 0)))) (C0 (Li (decide (0≤(Ab ((Ab ((Ab (i+p92))*c))+p14_1)))) (decide ((Ab ((Ab ((Ab (i+p92))*c))+p14_1))<(List.length p2:Int)))) (C0 (C3 (decide ((Int.toNat (Ab ((Ab ((Ab (i+p92))*c))+p14_1)))<(List.length p2)))) rfl rfl) rfl) rfl) rfl) rfl) rfl) rfl)
theorem Ak.Apply.ev (N:Nat) (r c:Int) (l:List Int) (i k:Int) (v:List Int) (t:Int):By Ak.Apply.E N Tryz.f219 (Am Tryz.f219) [.agg [.int .i64 r,.int .i64 c,.ints .arg .u64 l],.int .i64 i,.int .i64 k,.ints .arg .u64 v,.int .u64 t]=bif ((Io r c l) !=(0:Int)) then some (.tup [.agg [.int .i64 0,.int .i64 0,.nil],.int .i64 (Io r c l)]) else bif (((((A1 i 0)||(A1 r (List.length v:Int)))||(A1 (Ab (r-(List.length v:Int))) i))||(A1 k 0))||(A1 c k)) then some (.tup [.agg [.int .i64 0,.int .i64 0,.nil],.int .i64 3]) else bif (decide (0+(List.length l)≤Gq)) then Ak.Apply.L0 N N r c l i v t k ([]++l) else none :=
  Eq.trans (by kernel_rfl)
  (E3 rfl (Au (Vk (A1 i 0)) (Au (Tp (A1 i 0)) (Au (Vk (A1 i 0)) (Au (Tp (A1 i 0)) (Au (tt8 (A1 i 0)) (Au (tt6 (A1 i 0)) (Au (Agl (A1 i 0) (A1 r (List.length v:Int))) (Au (Agl (A1 i 0) (A1 r (List.length v:Int))) (Au (Ad5 (A1 i 0) (A1 r (List.length v:Int))) (Au (Agl (A1 i 0) (A1 r (List.length v:Int))) (Au (Ad5 (A1 i 0) (A1 r (List.length v:Int))) (Au (Apf (A1 i 0) (A1 r (List.length v:Int))) (Au (Apf (A1 i 0) (A1 r (List.length v:Int))) (Au (Am0 (A1 i 0) (A1 r (List.length v:Int))) (Au (Aj5 (A1 i 0) (A1 r (List.length v:Int)) (A1 (Ab (r-(List.length v:Int))) i)) (Au (Apm (A1 i 0) (A1 r (List.length v:Int)) (A1 (Ab (r-(List.length v:Int))) i)) (Au (Am1 (A1 i 0) (A1 r (List.length v:Int)) (A1 (Ab (r-(List.length v:Int))) i)) (Au (Abe (A1 i 0) (A1 r (List.length v:Int)) (A1 (Ab (r-(List.length v:Int))) i) (A1 k 0)) (Au (Abe (A1 i 0) (A1 r (List.length v:Int)) (A1 (Ab (r-(List.length v:Int))) i) (A1 k 0)) (Au (Aj6 (A1 i 0) (A1 r (List.length v:Int)) (A1 (Ab (r-(List.length v:Int))) i) (A1 k 0)) (Au (Aj7 (A1 i 0) (A1 r (List.length v:Int)) (A1 (Ab (r-(List.length v:Int))) i) (A1 k 0)) (Au (Am2 (A1 i 0) (A1 r (List.length v:Int)) (A1 (Ab (r-(List.length v:Int))) i) (A1 k 0)) (C0 (Apg (A1 i 0) (A1 r (List.length v:Int)) (A1 (Ab (r-(List.length v:Int))) i) (A1 k 0) (A1 c k)) rfl (C0 (C3 (decide (0+(List.length l)≤Gq))) rfl rfl)))))))))))))))))))))))))
abbrev _root_.Go.Proofs.S1.Ak.Apply.Kn:=A7 Tryz.prog 219 Ak.Apply.spec
theorem Ak.Apply.Ad (hk:Ax Tryz.prog Ak.Apply.Ba) (h:∀ (r c:Int) (l:List Int) (i k:Int) (v:List Int) (t:Int),Ak.Apply.pre [.i r,.i c,.l l,.i i,.i k,.l v,.i t]=true→Bd Ak.Apply.E Tryz.f219 [.agg [.int .i64 r,.int .i64 c,.ints .arg .u64 l],.int .i64 i,.int .i64 k,.ints .arg .u64 v,.int .u64 t] (Ak.Apply.out [.i r,.i c,.l l,.i i,.i k,.l v,.i t])):Ak.Apply.Kn :=
  Al (A0 hk _ _ _) Tryz.func219 (by kernel_rfl) (by kernel_rfl) h
end EqHouse
open EqHouse
theorem Ado (x:Int):((A4 x) !=(0:Int))=!(decide (A4 x=0)):=by
  rw [Arc]; simp
theorem Xv (N:Nat) {x:List Int} (hx:C4 x=true):∀ (k i F:Nat),i+k=x.length→k<F→Ak.Cp.L0 N F x (i:Int)=some (.bool (I2 (x.drop i))):=by
  obtain ⟨hl,hu⟩:=Kw hx
  intro k
  induction k with
  | zero =>
    intro i F hi hF
    obtain ⟨F,rfl⟩:∃ G,F=G+1:=⟨F-1,by omega⟩
    rw [Ak.Cp.At,Aq,Aq1 (by omega),Aq0,Ara (by omega)]; rfl
  | succ k ih =>
    intro i F hi hF
    obtain ⟨F,rfl⟩:∃ G,F=G+1:=⟨F-1,by omega⟩
    rw [Ak.Cp.At,Aq,Aqx (show (i:Int)<(x.length:Int) by omega),Aqw,Aqx (show (0:Int)≤(i:Int) by omega),Aq2,Aqw,Aqy,hu i (by omega),Aqw,Ado,Im (by omega)]
    unfold I2
    rw [List.all_cons]
    cases decide (A4 (x.getD i 0)=0) with
    | false=>rfl
    | true =>
      rw [Bool.not_true,Aq0,Bool.true_and,An (by omega) (by omega)]
      exact ih (i+1) F (by omega) (by omega)
theorem Ak.Cp.known:Ak.Cp.Kn:=Ak.Cp.Ad (.cons soft.Kind.known .nil) fun x hp=>by
  refine ⟨x.length+1,Ak.Cp.out [.l x],[],?_,.bool⟩
  rw [Ak.Cp.ev]
  exact Xv (x.length+1) hp x.length 0 (x.length+1) (by omega) (by omega)
theorem Afc (N:Nat) {x:List Int} (hx:C4 x=true):∀ (k i F:Nat),i+k=x.length→k<F→Ak.lead.L0 N F x (i:Int)=some (.int .u64 (O1 (x.drop i))):=by
  obtain ⟨hl,hu⟩:=Kw hx
  intro k
  induction k with
  | zero =>
    intro i F hi hF
    obtain ⟨F,rfl⟩:∃ G,F=G+1:=⟨F-1,by omega⟩
    rw [Ak.lead.At,Aq,Aq1 (by omega),Aq0,Ara (by omega)]; rfl
  | succ k ih =>
    intro i F hi hF
    obtain ⟨F,rfl⟩:∃ G,F=G+1:=⟨F-1,by omega⟩
    rw [Ak.lead.At,Aq,Aqx (show (i:Int)<(x.length:Int) by omega),Aqw,Aqx (show (0:Int)≤(i:Int) by omega),Aq2,Aqw,Aqy,hu i (by omega),Aqw,Ado,Im (by omega),O1]
    by_cases h:A4 (x.getD i 0)=0
    · rw [Aqx h,if_pos h,Bool.not_true,Aq0,An (by omega) (by omega)]
      exact ih (i+1) F (by omega) (by omega)
    · rw [Aq1 h,if_neg h]; rfl
theorem Ak.lead.known:Ak.lead.Kn:=Ak.lead.Ad (.cons soft.Kind.known .nil) fun x hp=>by
  refine ⟨x.length+1,Ak.lead.out [.l x],[],?_,.int⟩
  rw [Ak.lead.ev]
  exact Afc (x.length+1) hp x.length 0 (x.length+1) (by omega) (by omega)
theorem Abf {x:List Int} {i:Nat} (h:i<x.length) (f:Int→Int):(x.take (i+1)).map f=(x.take i).map f++[f (x.getD i 0)]:=by
  rw [List.take_succ_eq_append_getElem h,List.map_append,Aq6,Ard h]; rfl
theorem Xk (N:Nat) {x:List Int} {e:Int} (hx:C4 x=true) (hl:x.length≤1000) (he:-2300≤e∧e≤2300):∀ (k i F:Nat),i+k=x.length→k<F →
    Ak.Cr.L0 N F x e (i:Int) ((x.take i).map fun b=>B8 b e)=some (.ints (.own 100005 tB) .u64 (Bi x e)):=by
  obtain ⟨_,hu⟩:=Kw hx
  intro k
  induction k with
  | zero =>
    intro i F hi hF
    obtain ⟨F,rfl⟩:∃ G,F=G+1:=⟨F-1,by omega⟩
    rw [Ak.Cr.At,Aq,Aq1 (by omega),Aq0,List.take_of_length_le (by omega)]; rfl
  | succ k ih =>
    intro i F hi hF
    obtain ⟨F,rfl⟩:∃ G,F=G+1:=⟨F-1,by omega⟩
    rw [Ak.Cr.At,Aq,Aqx (show (i:Int)<(x.length:Int) by omega),Aqw,Aqx (show (0:Int)≤(i:Int) by omega),Aq2,Aqw,Aqy,
      show Eh (List.getD x i 0) e=true from Af.2 ⟨hu i (by omega),Ao.2 he⟩,Aqw,Aqx (by rw [List.length_map,List.length_take]; unfold Gq; omega),Aqw,An (by omega) (by omega)]
    have:=ih (i+1) F (by omega) (by omega)
    rw [Abf (by omega)] at this
    exact this
theorem Ak.Cr.known:Ak.Cr.Kn:=Ak.Cr.Ad (.cons Ae.Bp.known .nil) fun x k hp=>by
  obtain ⟨h1,h2⟩:=Af.1 hp
  have h2:=Ao.1 h2
  refine ⟨x.length+1,.ints (.own 100005 tB) .u64 (Bi x k),[100005],?_,.drop _ _ _ _ (List.mem_singleton.2 rfl)⟩
  rw [Ak.Cr.ev]
  exact Xk (x.length+1) h1 h2.1 h2.2 x.length 0 (x.length+1) (by omega) (by omega)
theorem Ak.Ew.known:Ak.Ew.Kn:=Ak.Ew.Ad .nil fun i _=>⟨0,Ak.Ew.out [.i i],[],by rw [Ak.Ew.ev]; rfl,.int⟩
theorem Ak.Ev.known:Ak.Ev.Kn:=Ak.Ev.Ad (.cons Ae.Div.known .nil) fun i y d hp=>by
  obtain ⟨h1,h2⟩:=Af.1 (show ((Cn (0≤i∧i<List.length y)&&Ah y)&&Ai d)=true from hp)
  obtain ⟨h3,h4⟩:=Af.1 h1
  have h3:=Ao.1 h3
  refine ⟨0,Ak.Ev.out [.i i,.l y,.i d],[],?_,.int⟩
  rw [Ak.Ev.ev,Aqx h3.1,Aqx h3.2,Lw h4,h2]; rfl
theorem N9 (n i:Nat) (f:Nat→Int) (h:i+1=n):Ie n f=Ano::(List.range i).map fun j=>f (j+1):=by unfold Ie; rw [show n-1=i by omega]
theorem Adc {n:Nat} (f:Nat→Int) (h:n≠0):(((decide ((0:Int)≤(n:Int)))&&(decide ((n:Int)≤(n:Int))))&&((decide ((0:Int)≤(n:Int)))&&(decide ((n:Int)≤(List.length (Ie n f):Int)))))=true ∧
    List.take (Int.toNat ((n:Int)-(0:Int))) (List.drop 0 (Ie n f))=Ie n f:=by
  have:=Qc h f
  refine ⟨?_,?_⟩
  · rw [Aqx (by omega),Aqx (by omega),Aqx (by omega)]; rfl
  · rw [List.drop_zero,List.take_of_length_le (by omega)]
theorem Vl (N:Nat) {n:Nat} (h64:n≤64) (h0:n≠0):∀ (k i F:Nat),i+1+k=n→k<F →
    Ak.row.Zero.L0 N F (n:Int) ((i+1:Nat):Int) (Ie (i+1) fun _=>0)=some (.ints .fresh .u64 (Ie n fun _=>0)):=by
  intro k
  induction k with
  | zero =>
    intro i F hi hF
    obtain ⟨F,rfl⟩:∃ G,F=G+1:=⟨F-1,by omega⟩
    obtain rfl:i+1=n:=by omega
    obtain ⟨e1,e2⟩:=Adc (fun _=>0) h0
    rw [Ak.row.Zero.At,Aq,Aq1 (by omega),Aq0,e1,Aqw,e2]
  | succ k ih =>
    intro i F hi hF
    obtain ⟨F,rfl⟩:∃ G,F=G+1:=⟨F-1,by omega⟩
    rw [Ak.row.Zero.At,Aq,Aqx (by omega),Aqw,Aqx (by rw [Qc (by omega)]; unfold Gq; omega),Aqw,An (by omega) (by omega)]
    have:=ih (i+1) F (by omega) (by omega)
    rw [N9 (i+1+1) (i+1) _ rfl,Hy] at this
    rw [N9 (i+1) i _ rfl]
    exact this
theorem Ak.row.Zero.known:Ak.row.Zero.Kn:=Ak.row.Zero.Ad (.cons Ak.Ew.known .nil) fun n hp=>by
  have hp:=Ao.1 (show Cn (1≤n∧n≤64)=true from hp)
  obtain ⟨m,rfl⟩:∃ m:Nat,n=m:=⟨n.toNat,by omega⟩
  refine ⟨65,Ak.row.Zero.out [.i m],[],?_,.Kf⟩
  show _=some (DV.ints .fresh .u64 (Ie (Int.toNat (m:Int)) fun _=>0))
  rw [Ak.row.Zero.ev,Aqy]
  exact Vl 65 (by omega) (by omega) (m-1) 0 65 (by omega) (by omega)
theorem Xm (N:Nat) {n:Nat} {y:List Int} {d:Int} (h64:n≤64) (h0:n≠0) (hy:n=y.length) (al:Ah y=true) (hd:Ai d=true):∀ (k i F:Nat),i+1+k=n→k<F →
    Ak.row.Div.L0 N F (n:Int) y d ((i+1:Nat):Int) (Ie (i+1) fun j=>E7 (y.getD j 0) d)=some (.ints .fresh .u64 (Ie n fun j=>E7 (y.getD j 0) d)):=by
  intro k
  induction k with
  | zero =>
    intro i F hi hF
    obtain ⟨F,rfl⟩:∃ G,F=G+1:=⟨F-1,by omega⟩
    obtain rfl:i+1=n:=by omega
    obtain ⟨e1,e2⟩:=Adc (fun j=>E7 (y.getD j 0) d) h0
    rw [Ak.row.Div.At,Aq,Aq1 (by omega),Aq0,e1,Aqw,e2]
  | succ k ih =>
    intro i F hi hF
    obtain ⟨F,rfl⟩:∃ G,F=G+1:=⟨F-1,by omega⟩
    rw [Ak.row.Div.At,Aq,Aqx (by omega),Aqw,Ao.2 (show 0≤((i+1:Nat):Int)∧((i+1:Nat):Int)<(y.length:Int) by omega),al,hd,Aq2,Aq2,Aqw,Aqx (by rw [Qc (by omega)]; unfold Gq; omega),Aqw,An (by omega) (by omega),Aqy]
    have:=ih (i+1) F (by omega) (by omega)
    rw [N9 (i+1+1) (i+1) _ rfl,Hy] at this
    rw [N9 (i+1) i _ rfl]
    exact this
theorem Ak.row.Div.known:Ak.row.Div.Kn:=Ak.row.Div.Ad (.cons Ak.Ev.known .nil) fun n y d hp=>by
  obtain ⟨h1,h2⟩:=Af.1 (show ((Cn (1≤n∧n≤64∧n=List.length y)&&Ah y)&&Ai d)=true from hp)
  obtain ⟨h3,h4⟩:=Af.1 h1
  have h3:=Ao.1 h3
  obtain ⟨m,rfl⟩:∃ m:Nat,n=m:=⟨n.toNat,by omega⟩
  refine ⟨65,Ak.row.Div.out [.i m,.l y,.i d],[],?_,.Kf⟩
  show _=some (DV.ints .fresh .u64 (Ie (Int.toNat (m:Int)) fun j=>E7 (List.getD y j 0) d))
  rw [Ak.row.Div.ev,Aqy]
  exact Xm 65 (by omega) (by omega) (by omega) h4 h2 (m-1) 0 65 (by omega) (by omega)
theorem V5 {x:List Int} {k:Int} {j:Nat} (h:j<x.length):(Bi x k).getD j 0=B8 (x.getD j 0) k:=by
  unfold Bi
  rw [Aq6,List.getElem?_map,Ard h,Aq6,Ard h]; rfl
theorem Aed (x:List Int) (k:Int):(Bi x k).length=x.length:=by unfold Bi; rw [List.length_map]
theorem Aee {x:List Int} (k:Int) (h:Ah x=true):Ah (Bi x k)=true:=Oj fun y hy=>by
  obtain ⟨b,hb,rfl⟩:=List.mem_map.1 hy
  exact Iy (Ao.1 h b hb)
theorem X8:∀ {x:List Int},Ah x=true→Ai (O1 x)=true
  | [],_=>Ir
  | b::l,h=>by
    unfold O1
    split
    · exact X8 (Oj fun y hy=>Ao.1 h y (List.mem_cons_of_mem _ hy))
    · exact Ao.1 h b List.mem_cons_self
theorem W4 {x:List Int} (h:C4 x=true):Ah x=true:=Ao.2 (Ao.1 h).2
theorem Hs {drops:List Nat} {g:Aa5}:Wk drops .nil (.ints g .u64 []):=.nil g .u64
theorem Aej {n:Nat} {f g:Nat→Int} (h:∀ j,j<n→f j=g j):Ie n f=Ie n g:=by
  unfold Ie
  congr 1
  exact List.map_congr_left fun j hj=>h _ (by have:=List.mem_range.1 hj; omega)
theorem Ak.Iq.known:Ak.Iq.Kn:=Ak.Iq.Ad (.cons compare.Sw.known (.cons Ak.lead.known (.cons Ak.Cp.known (.cons (A7.alt Ak.row.Zero.known Ak.row.Div.known) (.cons Ak.Cr.known (.cons soft.Finite.known (.cons soft.Fe.known (.cons soft.Sign.known (.cons Ae.Cf.known (.cons Ae.Div.known (.cons Ae.Finite.known (.cons Ae.Norm.known (.cons Ae.Bp.known (.cons Ae.Sub.known .nil)))))))))))))) fun x hp=>by
  have hx:C4 x=true:=hp
  have al:=W4 hx
  have he:=Ait (Bl x)
  show ∃ N dv drops,_=some dv∧Wk drops dv (DV.tup [.ints .fresh .u64 (B7 x).1,.int .u64 (B7 x).2.1,.int .u64 (B7 x).2.2.1,.int .i64 (B7 x).2.2.2])
  unfold B7
  by_cases h1:x.length=0∨64<x.length
  · rw [if_pos h1]
    refine ⟨0,.tup [.nil,.int .u64 0,.int .u64 0,.int .i64 3],[],?_,Wk.Gb (.cons Hs (.cons .int (.cons .int (.cons .int .nil))))⟩
    have:(((List.length x:Int)==(0:Int))||(A1 (64:Int) (List.length x:Int)))=true:=by
      rw [Aq,Bool.or_eq_true,beq_iff_eq,Aq3]; omega
    rw [Ak.Iq.ev,this,Aqw]
  have c1:(((List.length x:Int)==(0:Int))||(A1 (64:Int) (List.length x:Int)))=false:=by
    rw [Aq,Bool.or_eq_false_iff,beq_eq_false_iff_ne,Arf]; omega
  rw [if_neg h1]
  by_cases h2:D9 x=true
  · rw [if_pos h2]
    unfold Akx
    have ok1:C4 (x.drop 1)=true:=K9 (Oj fun y hy=>Ao.1 al y (List.mem_of_mem_drop hy)) (by rw [List.length_drop]; omega)
    have d1:decide ((1:Int)≤(x.length:Int))=true:=Aqx (by omega)
    have d0:decide ((0:Int)<(x.length:Int))=true:=Aqx (by omega)
    by_cases h3:I2 (x.drop 1)=true
    · rw [if_pos h3]
      refine ⟨0,.tup [.ints .fresh .u64 (Ie x.length fun _=>0),.int .u64 0,.int .u64 (x.getD 0 0),.int .i64 0],[],?_,Wk.Gb (.cons .Kf (.cons .int (.cons .int (.cons .int .nil))))⟩
      rw [Ak.Iq.ev,c1,Aq0,hx,Aqw,h2,Bool.not_true,Aq0,d1,Aqw,ok1,Aqw,h3,Aqw,Ao.2 (show 1≤(x.length:Int)∧(x.length:Int)≤64 by omega),Aqw,d0,Aqw,Aqy]
    · rw [if_neg h3]
      have h3:I2 (x.drop 1)=false:=by simpa using h3
      have ew:Ab (0-Bz (Bl x))=-Bz (Bl x):=by rw [An (by omega) (by omega)]; omega
      have ly:=Aed x (-Bz (Bl x))
      have ay:=Aee (-Bz (Bl x)) al
      have oky:C4 (Bi x (-Bz (Bl x)))=true:=K9 ay (by omega)
      have gy:=V5 (x:=x) (k:=-Bz (Bl x)) (j:=0) (by omega)
      have iy:=Lw ay 0
      have key:∀ mu:Int,muI x=mu→Ai mu=true→∀ b:Bool,Df (G9 x)=b→∃ dv:DV,(bif (!b) then
              some (.tup [.nil,.int .u64 (0:Int),.int .u64 (0:Int),.int .i64 (2:Int)])
            else some (.tup [.ints .fresh .u64 (Ie (Int.toNat (List.length (Bi x (-Bz (Bl x))):Int)) (fun j=>E7 (List.getD (Bi x (-Bz (Bl x))) j 0) (Dl (List.getD (Bi x (-Bz (Bl x))) 0 0) mu))),.int .u64 (E7 (Dl mu (List.getD (Bi x (-Bz (Bl x))) 0 0)) mu),.int .u64 (B8 mu (Bz (Bl x))),.int .i64 (0:Int)]))=some dv ∧
          Wk [] dv (DV.tup [.ints .fresh .u64 (if Df (G9 x)=true then (Zx x,Ab3 x,G9 x,(0:Int)) else ([],0,0,2)).1,.int .u64 (if Df (G9 x)=true then (Zx x,Ab3 x,G9 x,(0:Int)) else ([],0,0,2)).2.1,.int .u64 (if Df (G9 x)=true then (Zx x,Ab3 x,G9 x,(0:Int)) else ([],0,0,2)).2.2.1,.int .i64 (if Df (G9 x)=true then (Zx x,Ab3 x,G9 x,(0:Int)) else ([],0,0,2)).2.2.2]):=by
        intro mu hmu _ b hb
        rw [hb]
        cases b with
        | false=>exact ⟨_,rfl,Wk.Gb (.cons Hs (.cons .int (.cons .int (.cons .int .nil))))⟩
        | true =>
          refine ⟨_,rfl,?_⟩
          rw [if_pos rfl]
          dsimp only
          have e1:Ie (Int.toNat (List.length (Bi x (-Bz (Bl x))):Int)) (fun j=>E7 (List.getD (Bi x (-Bz (Bl x))) j 0) (Dl (List.getD (Bi x (-Bz (Bl x))) 0 0) mu))=Zx x:=by
            unfold Zx
            rw [Aqy,ly,gy,← hmu]
            exact Aej fun j hj=>by rw [V5 hj]; rfl
          have e2:E7 (Dl mu (List.getD (Bi x (-Bz (Bl x))) 0 0)) mu=Ab3 x:=by
            unfold Ab3
            rw [gy,hmu]; rfl
          have e3:B8 mu (Bz (Bl x))=G9 x:=by unfold G9; rw [hmu]
          rw [e1,e2,e3]
          exact Wk.Gb (.cons .Kf (.cons .int (.cons .int (.cons .int .nil))))
      have dz:decide ((0:Int)<((Bi x (-Bz (Bl x))).length:Int))=true:=Aqx (by omega)
      have cz':Cn (1≤((Bi x (-Bz (Bl x))).length:Int)∧((Bi x (-Bz (Bl x))).length:Int)≤64∧True)=true:=Ao.2 ⟨by omega,by omega,trivial⟩
      have p1:Cn (x.length≤1000∧-2300≤-Bz (Bl x)∧-Bz (Bl x)≤2300)=true:=Ao.2 (by omega)
      have p2:Cn ((Bi x (-Bz (Bl x))).length≤64)=true:=Ao.2 (by omega)
      have sp:∀ mu:Int,Ai mu=true→Eh mu (Bz (Bl x))=true:=fun mu h=>Af.2 ⟨h,Ao.2 (by omega)⟩
      have ny:=Xx (Bi x (-Bz (Bl x)))
      cases hn:Dd (O1 x) with
      | true =>
        have hm:muI x=D7 (Bi x (-Bz (Bl x))):=by unfold muI; rw [if_pos hn]
        obtain ⟨dv,k1,k2⟩:=key _ hm ny (Df (G9 x)) rfl
        refine ⟨0,dv,[],?_,k2⟩
        rw [← k1]
        have eb:G9 x=B8 (D7 (Bi x (-Bz (Bl x)))) (Bz (Bl x)):=by unfold G9; rw [hm]
        rw [Ak.Iq.ev,ew,eb]
        simp only [c1,Aq0,hx,Aqw,h2,Bool.not_true,d1,ok1,h3,Pw,p1,oky,p2,Aq2,X8 al,hn,sp _ ny,Iy ny,dz,cz',ay,iy,ny,L5 iy ny,L5 ny iy]
      | false =>
        have hm:muI x=Db (D7 (Bi x (-Bz (Bl x)))):=by unfold muI; rw [if_neg (by rw [hn]; decide)]
        have my:=Z0 ny
        obtain ⟨dv,k1,k2⟩:=key _ hm my (Df (G9 x)) rfl
        refine ⟨0,dv,[],?_,k2⟩
        rw [← k1]
        have eb:G9 x=B8 (Db (D7 (Bi x (-Bz (Bl x))))) (Bz (Bl x)):=by unfold G9; rw [hm]
        rw [Ak.Iq.ev,ew,eb]
        simp only [c1,Aq0,hx,Aqw,h2,Bool.not_true,d1,ok1,h3,Pw,p1,oky,p2,Aq2,X8 al,hn,Bool.not_false,sp _ my,Iy my,dz,cz',ay,iy,ny,my,L5 iy my,L5 my iy]
  · rw [if_neg h2]
    have h2:D9 x=false:=by simpa using h2
    refine ⟨0,.tup [.nil,.int .u64 0,.int .u64 0,.int .i64 4],[],?_,Wk.Gb (.cons Hs (.cons .int (.cons .int (.cons .int .nil))))⟩
    rw [Ak.Iq.ev,c1,Aq0,hx,Aqw,h2,Bool.not_false,Aqw]
open EqHouse
def apD (i k c j a b:Nat):Bool:=decide (k≤b∧i≤a∧(b<c∨(b=c∧a<i+j)))
def apS (R C:Nat) (l:List Int) (i k:Nat) (v:List Int) (t:Int) (c j:Nat):List Int :=
  Ci R C fun a b=>if apD i k c j a b=true∧a<i+v.length then Ny (C:Int) l (i:Int) (k:Int) v t (a:Int) (b:Int) else Ef (C:Int) l (a:Int) (b:Int)
section
variable {R C i k:Nat} {l v:List Int} {t:Int}
theorem Al6 (c j:Nat):(apS R C l i k v t c j).length=R*C:=Bw _ _ _
theorem Ajj (h:l.length=R*C):apS R C l i k v t k 0=l:=by
  unfold apS
  conv=>rhs; rw [← Wq h]
  refine Dh fun a b ha hb=>?_
  rw [if_neg]
  rintro ⟨h,_⟩
  have:=of_decide_eq_true h
  omega
theorem Ajk (c:Nat):apS R C l i k v t c v.length=apS R C l i k v t (c+1) 0:=by
  unfold apS
  refine Dh fun a b ha hb=>?_
  have:(apD i k c v.length a b=true∧a<i+v.length)↔(apD i k (c+1) 0 a b=true∧a<i+v.length):=by
    unfold apD
    rw [Aq3,Aq3]
    omega
  by_cases h:apD i k c v.length a b=true∧a<i+v.length
  · rw [if_pos h,if_pos (this.1 h)]
  · rw [if_neg h,if_neg (fun hh=>h (this.2 hh))]
theorem Al7:apS R C l i k v t C 0=Fu R C l (i:Int) (k:Int) v t:=by
  unfold apS Fu
  refine Dh fun a b ha hb=>?_
  by_cases h:apD i k C 0 a b=true∧a<i+v.length
  · rw [if_pos h]
  · rw [if_neg h]
    unfold Ny
    rw [if_neg]
    intro hh
    refine h ⟨?_,by omega⟩
    unfold apD
    rw [Aq3]; omega
theorem Al5 {c j:Nat} (hc:c<C) (hk:k≤c) (hj:j<v.length) {x:Int} (hx:x=Ny (C:Int) l (i:Int) (k:Int) v t ((i+j:Nat):Int) (c:Int)) :
    List.set (apS R C l i k v t c j) ((i+j)*C+c) x=apS R C l i k v t c (j+1):=by
  unfold apS
  rw [Qv hc]
  refine Dh fun a b ha hb=>?_
  by_cases h:a=i+j∧b=c
  · obtain ⟨rfl,rfl⟩:=h
    rw [if_pos ⟨rfl,rfl⟩,if_pos ⟨by unfold apD; rw [Aq3]; omega,by omega⟩,hx]
  · rw [if_neg h]
    have:(apD i k c j a b=true∧a<i+v.length)↔(apD i k c (j+1) a b=true∧a<i+v.length):=by
      unfold apD
      rw [Aq3,Aq3]
      omega
    by_cases h2:apD i k c j a b=true∧a<i+v.length
    · rw [if_pos h2,if_pos (this.1 h2)]
    · rw [if_neg h2,if_neg (fun hh=>h2 (this.2 hh))]
theorem Aji {c j:Nat} (hk:k≤c) (hj:j<v.length):Ny (C:Int) l (i:Int) (k:Int) v t ((i+j:Nat):Int) (c:Int) =
    Dl ((Dg (C:Int) l (c:Int) (i:Int) v.length).getD j 0) (Ej (Yp (C:Int) l (i:Int) v t (c:Int)) (v.getD j 0)):=by
  unfold Ny
  rw [if_pos ⟨by omega,by omega,by omega⟩]
  have e1:(((i+j:Nat):Int)-(i:Int)).toNat=j:=by omega
  have e2:(Dg (C:Int) l (c:Int) (i:Int) v.length).getD j 0=Ef (C:Int) l ((i+j:Nat):Int) (c:Int):=by
    unfold Dg
    rw [Aq6,List.getElem?_map,List.getElem?_range hj]
    show Ef (C:Int) l ((i:Int)+(j:Int)) (c:Int)=_
    rw [← Int.natCast_add]
  rw [e1,e2]
theorem Agz {c b i:Int} {l:List Int} {m n:Nat} (h:m≤n):List.take m (Dg c l b i n)=Dg c l b i m:=by
  unfold Dg
  rw [← List.map_take,List.take_range,Nat.min_eq_left h]
theorem Acy (N M0:Nat) (r6:R≤6) (c6:C≤6) (al:Ah l=true) (av:Ah v=true) (hv:i+v.length≤R) {c:Nat} (hc:c<C) (hk:k≤c):∀ (cnt j F:Nat),j+cnt=v.length→cnt<F →
    Ak.Apply.L1 N M0 F (R:Int) (C:Int) l (i:Int) v t (j:Int) (apS R C l i k v t c j) (c:Int) (Yp (C:Int) l (i:Int) v t (c:Int)) (Dg (C:Int) l (c:Int) (i:Int) v.length) (v.length:Int) =
    Ak.Apply.L0 N M0 (R:Int) (C:Int) l (i:Int) v t ((c+1:Nat):Int) (apS R C l i k v t (c+1) 0):=by
  intro cnt
  induction cnt with
  | zero =>
    intro j F hj hF
    obtain ⟨F,rfl⟩:∃ G,F=G+1:=⟨F-1,by omega⟩
    obtain rfl:j=v.length:=by omega
    rw [Ak.Apply.Cc,Aq,Aq1 (by omega),Aq0,An (by omega) (by omega),Ajk]
    rfl
  | succ cnt ih =>
    intro j F hj hF
    obtain ⟨F,rfl⟩:∃ G,F=G+1:=⟨F-1,by omega⟩
    have hm:=Lj (a:=((i+j:Nat):Int)) (b:=(C:Int)) (by omega) (by omega) (by omega) (by omega)
    have hpl:=J2 (show i+j<R by omega) hc
    have e1:Ab ((i:Int)+(j:Int))=((i+j:Nat):Int):=by rw [An (by omega) (by omega)]; omega
    have e2:Ab (((i+j:Nat):Int)*(C:Int))=(((i+j)*C:Nat):Int):=by rw [An (by omega) (by omega)]; exact (Ari _ _).symm
    have h36:=Nat.mul_le_mul r6 c6
    have e3:Ab ((((i+j)*C:Nat):Int)+(c:Int))=(((i+j)*C+c:Nat):Int):=by rw [An (by omega) (by omega)]; omega
    have hlen:=Al6 (R:=R) (C:=C) (l:=l) (i:=i) (k:=k) (v:=v) (t:=t) c j
    have sl:=Ic (C:Int) (c:Int) (i:Int) v.length l
    rw [Ak.Apply.Cc,Aq,Aqx (show (j:Int)<(v.length:Int) by omega),Aqw,e1,e2,e3,sl,Aqx (show (0:Int)≤(j:Int) by omega),Aqx (show (j:Int)<(v.length:Int) by omega),Aq2,Aqw,Aqy,Aqy]
    have a1:=Lw av j
    have a2:=Lw (Rg (c:=(C:Int)) (b:=(c:Int)) (i:=(i:Int)) (n:=v.length) al) j
    have a3:Ai (Yp (C:Int) l (i:Int) v t (c:Int))=true:=La _ _
    rw [Aqw,a3,a1,Aq2,Aqw,a2,La,Aq2,Aqw,Aqx (by omega),Aqx (by omega),Aq2,Aqw,Aqx (by omega),Aqw,
      Al5 hc hk (by omega) (Aji hk (by omega)).symm,An (by omega) (by omega)]
    exact ih (j+1) F (by omega) (by omega)
theorem Acz (N:Nat) (r6:R≤6) (c6:C≤6) (hN:7<N) (hr:Bh (R:Int) (C:Int) l=true) (al:Ah l=true) (av:Ah v=true) (ht:Ai t=true) (hv:i+v.length≤R):∀ (cnt c F:Nat),c+cnt=C→k≤c→cnt<F →
    Ak.Apply.L0 N F (R:Int) (C:Int) l (i:Int) v t (c:Int) (apS R C l i k v t c 0) =
    some (.tup [.agg [.int .i64 (R:Int),.int .i64 (C:Int),.ints (.own 114002 tB) .u64 (Fu R C l (i:Int) (k:Int) v t)],.int .i64 (0:Int)]):=by
  intro cnt
  induction cnt with
  | zero =>
    intro c F hc hk hF
    obtain ⟨F,rfl⟩:∃ G,F=G+1:=⟨F-1,by omega⟩
    obtain rfl:c=C:=by omega
    rw [Ak.Apply.At,Aq,Aq1 (by omega),Aq0,Al7]
  | succ cnt ih =>
    intro c F hc hk hF
    obtain ⟨F,rfl⟩:∃ G,F=G+1:=⟨F-1,by omega⟩
    have cp:Ki (R:Int) (C:Int) l (c:Int)=true:=Af.2 ⟨hr,Ao.2 (by omega)⟩
    have e0:Int.toNat ((R:Int)-(i:Int))=R-i:=by omega
    have st:=Agz (c:=(C:Int)) (b:=(c:Int)) (i:=(i:Int)) (l:=l) (m:=v.length) (n:=R-i) (by omega)
    have sl:=Ic (C:Int) (c:Int) (i:Int) v.length l
    have sl2:=Ic (C:Int) (c:Int) (i:Int) (R-i) l
    have sa:=Rg (c:=(C:Int)) (b:=(c:Int)) (i:=(i:Int)) (n:=v.length) al
    have ft:Rv v (Dg (C:Int) l (c:Int) (i:Int) v.length)=true:=Yc.2 ⟨by omega,by omega⟩
    rw [Ak.Apply.At,Aq,Aqx (by omega),Aqw,cp,Ao.2 (show 0≤(i:Int)∧(i:Int)≤(R:Int) by omega),Aq2,Aqw,e0,Aqy,st,sl2,sl,
      Aqx (show (0:Int)≤(v.length:Int) by omega),Aqx (show (v.length:Int)≤(v.length:Int) by omega),Aqx (show (v.length:Int)≤((R-i:Nat):Int) by omega),Aq2,Aq2,Aqw,ft,av,sa,Aq2,Aq2,Aqw,ht,Tf,Aq2,Aqw]
    have:=Acy (t:=t) N F r6 c6 al av hv (show c<C by omega) hk v.length 0 N (by omega) (by omega)
    exact this.trans (ih (c+1) F (by omega) (by omega) (by omega))
end
theorem Ak.Apply.known:Ak.Apply.Kn:=Ak.Apply.Ad (.cons Aa.Check.known (.cons Aa.Cz.known (.cons Ae.M5.known (.cons Ae.Mul.known (.cons Ae.Sub.known .nil))))) fun r c l i k v t hp=>by
  obtain ⟨h1,ht⟩:=Af.1 (show (((Bh r c l&&Lf r c i k v)&&(Ah l&&Ah v))&&Ai t)=true from hp)
  obtain ⟨h2,h3⟩:=Af.1 h1
  obtain ⟨hr,hb⟩:=Af.1 h2
  obtain ⟨al,av⟩:=Af.1 h3
  have hb:=of_decide_eq_true hb
  have hc:Io r c l=0:=by unfold Io; rw [if_pos hr]
  have h36:=Rj hr
  obtain ⟨R,C,rfl,rfl,r6,c6,hl⟩:=C1 hr
  obtain ⟨i,rfl⟩:∃ j:Nat,i=j:=⟨i.toNat,by omega⟩
  obtain ⟨k,rfl⟩:∃ j:Nat,k=j:=⟨k.toNat,by omega⟩
  refine ⟨8,Ak.Apply.out [.i (R:Int),.i (C:Int),.l l,.i (i:Int),.i (k:Int),.l v,.i t],[],?_,Wk.Gb (.cons (Wk.Ip (.cons .int (.cons .int (.cons (.keep _ _ _ _ List.not_mem_nil) .nil)))) (.cons .int .nil))⟩
  show _=some (DV.tup [.agg [.int .i64 (R:Int),.int .i64 (C:Int),.ints (.own 114002 tB) .u64 (Fu (Int.toNat (R:Int)) (Int.toNat (C:Int)) l (i:Int) (k:Int) v t)],.int .i64 0])
  have hlt:(((((A1 (i:Int) (0:Int))||(A1 (R:Int) (List.length v:Int)))||(A1 (Ab ((R:Int)-(List.length v:Int))) (i:Int)))||(A1 (k:Int) (0:Int)))||(A1 (C:Int) (k:Int)))=false:=by
    rw [Aq,Aq,Aq,Aq,Aq,An (by omega) (by omega),Aq1 (by omega),Aq1 (by omega),Aq1 (by omega),Aq1 (by omega),Aq1 (by omega)]; rfl
  rw [Ak.Apply.ev,hc,show ((0:Int) !=(0:Int))=false from rfl,Aq0,hlt,Aq0,Aqx (show 0+l.length≤Gq by unfold Gq; omega),Aqw,List.nil_append,Aqy,Aqy]
  have:=Acz (R:=R) (C:=C) (i:=i) (k:=k) (l:=l) (v:=v) (t:=t) 8 r6 c6 (by omega) hr al av ht (by omega) (C-k) k 8 (by omega) (by omega) (by omega)
  rw [Ajj hl] at this
  exact this
namespace EqSol
def solve.check.hint:Nat→Option A6
  | 0=>some { keep:=[2,3,11,12],objs:=[],boxes:=[2,3] }
  | 2=>some { keep:=[2,34,35],objs:=[],boxes:=[2] }
  | _=>none
def solve.check.Ba:List (Nat × Entry):=[(86,B4.Check.spec),(155,soft.Kind.spec)]
def solve.check.E:Env:=Bc (A9 solve.check.Ba) (fun _=>false) solve.check.hint (fun _=>none)
def solve.check.L0 (N M:Nat) (r c:Int) (l:List Int) (p35:Int):Option DV:=B2 solve.check.E N Tryz.f75 (Am Tryz.f75) [1,1,1,0,1,0] [] M ⟨Fw 51 [(2,.ptr 2 0 0),(34,.int .i64 r),(35,.int .i64 p35)],[(2,false,.box [.int .i64 r,.int .i64 c,.ints .arg .u64 l])]⟩
theorem solve.check.At (N M:Nat) (r c:Int) (l:List Int) (p35:Int):solve.check.L0 (N+4) (M+1) r c l p35=bif (A1 p35 r) then bif ((decide (0≤(Ab ((Ab (p35*c))+p35))))&&(decide ((Ab ((Ab (p35*c))+p35))<(List.length l:Int)))) then bif (Ai (List.getD l (Int.toNat (Ab ((Ab (p35*c))+p35))) 0)) then bif ((A4 (List.getD l (Int.toNat (Ab ((Ab (p35*c))+p35))) 0))==(0:Int)) then some (.int .i64 5) else solve.check.L0 (N+4) M r c l (Ab (p35+1)) else none else none else some (.int .i64 0):=by kernel_rfl
theorem solve.check.ev (N:Nat) (r c:Int) (l:List Int) (p q:Int) (m:List Int):By solve.check.E (N+4) Tryz.f75 (Am Tryz.f75) [.agg [.int .i64 r,.int .i64 c,.ints .arg .u64 l],.agg [.int .i64 p,.int .i64 q,.ints .arg .u64 m]]=bif (Ah l) then bif ((B5 r c l) !=(0:Int)) then some (.int .i64 (B5 r c l)) else bif (Ah m) then bif ((B5 p q m) !=(0:Int)) then some (.int .i64 (B5 p q m)) else bif ((r !=c)||(r !=p)) then some (.int .i64 3) else solve.check.L0 (N+4) (N+4) r c l (0:Int) else none else none :=
  Eq.trans (by kernel_rfl)
  (E3 (E3 rfl (E3 (E3 rfl (Au (Vk (r !=c)) (Au (Tp (r !=c)) (Au (Vk (r !=c)) (Au (Tp (r !=c)) (Au (tt8 (r !=c)) (Au (tt6 (r !=c)) (C0 (tt5 (r !=c) (r !=p)) rfl rfl)))))))) rfl)) rfl)
abbrev _root_.Go.Proofs.S1.solve.check.Kn:=A7 Tryz.prog 75 solve.check.spec
theorem solve.check.Ad (hk:Ax Tryz.prog solve.check.Ba) (h:∀ (r c:Int) (l:List Int) (p q:Int) (m:List Int),solve.check.pre [.i r,.i c,.l l,.i p,.i q,.l m]=true→Bd solve.check.E Tryz.f75 [.agg [.int .i64 r,.int .i64 c,.ints .arg .u64 l],.agg [.int .i64 p,.int .i64 q,.ints .arg .u64 m]] (solve.check.out [.i r,.i c,.l l,.i p,.i q,.l m])):solve.check.Kn :=
  Al (A0 hk _ _ _) Tryz.func75 (by kernel_rfl) (by kernel_rfl) h
def Cm.Cl.up.Ba:List (Nat × Entry):=[]
def Cm.Cl.up.E:Env:=Bc (A9 Cm.Cl.up.Ba) (fun _=>false) (fun _=>none) (fun _=>none)
theorem Cm.Cl.up.ev (N:Nat) (n k:Int):By Cm.Cl.up.E N Tryz.f103 (Am Tryz.f103) [.int .i64 n,.int .i64 k]=some (.int .i64 (Ab ((Ab (n-1))-k))):=by kernel_rfl
abbrev _root_.Go.Proofs.S1.Cm.Cl.up.Kn:=A7 Tryz.prog 103 Cm.Cl.up.spec
theorem Cm.Cl.up.Ad (hk:Ax Tryz.prog Cm.Cl.up.Ba) (h:∀ (n k:Int),Cm.Cl.up.pre [.i n,.i k]=true→Bd Cm.Cl.up.E Tryz.f103 [.int .i64 n,.int .i64 k] (Cm.Cl.up.out [.i n,.i k])):Cm.Cl.up.Kn :=
  Al (A0 hk _ _ _) Tryz.func103 (by kernel_rfl) (by kernel_rfl) h
def solve.Ds.Ba:List (Nat × Entry):=[]
def solve.Ds.E:Env:=Bc (A9 solve.Ds.Ba) (fun _=>false) (fun _=>none) (fun _=>none)
theorem solve.Ds.ev (N:Nat) (i k:Int):By solve.Ds.E N Tryz.f104 (Am Tryz.f104) [.int .i64 i,.int .i64 k]=some (.bool (A1 i k)):=by kernel_rfl
abbrev _root_.Go.Proofs.S1.solve.Ds.Kn:=A7 Tryz.prog 104 solve.Ds.spec
theorem solve.Ds.Ad (hk:Ax Tryz.prog solve.Ds.Ba) (h:∀ (i k:Int),solve.Ds.pre [.i i,.i k]=true→Bd solve.Ds.E Tryz.f104 [.int .i64 i,.int .i64 k] (solve.Ds.out [.i i,.i k])):solve.Ds.Kn :=
  Al (A0 hk _ _ _) Tryz.func104 (by kernel_rfl) (by kernel_rfl) h
def Aa.of.B3.own.hint:Nat→Option A6
  | 0=>some { keep:=[1,2,6,7,13,14],objs:=[(8,2,108002,.ints 37 .u64 [])],boxes:=[6,7] }
  | 2=>some { keep:=[1,2,6,7,8,13,14,17,18],objs:=[(8,2,108002,.ints 37 .u64 [])],boxes:=[6,7] }
  | _=>none
def Aa.of.B3.own.Ba:List (Nat × Entry):=[(205,Aa.Dk.spec)]
def Aa.of.B3.own.E:Env:=Bc (A9 Aa.of.B3.own.Ba) (fun _=>false) Aa.of.B3.own.hint (fun _=>none)
abbrev _root_.Go.Proofs.S1.Aa.of.B3.own.Kn:=A7 Tryz.prog 187 Aa.of.B3.own.spec
theorem Aa.of.B3.own.Ad (hk:Ax Tryz.prog Aa.of.B3.own.Ba) (h:∀ (a b:Int),Aa.of.B3.own.pre [.i a,.i b]=true→Bd Aa.of.B3.own.E Tryz.f187 [.int .i64 a,.int .i64 b,.fn 205 [] []] (Aa.of.B3.own.out [.i a,.i b])):Aa.of.B3.own.Kn :=
  Al (A0 hk _ _ _) Tryz.func187 (by kernel_rfl) (by kernel_rfl) h
def Aa.B3.own.Ba:List (Nat × Entry):=[(187,Aa.of.B3.own.spec),(204,Aa.size.spec)]
def Aa.B3.own.E:Env:=Bc (A9 Aa.B3.own.Ba) (fun n=>Nat.beq n 17) (fun _=>none) (fun _=>none)
theorem Aa.B3.own.ev (N:Nat) (a b:Int):By Aa.B3.own.E N Tryz.f151 (Am Tryz.f151) [.int .i64 a,.int .i64 b]=bif ((!(Bn a))||(!(Bn b))) then some (.tup [.agg [.int .i64 0,.int .i64 0,.nil],.int .i64 3]) else bif (Bn a&&Bn b) then some (.tup [.agg [.int .i64 a,.int .i64 b,.ints (.own 1136 37) .u64 (Ci (Int.toNat a) (Int.toNat b) (fun _ _=>0))],.int .i64 0]) else none :=
  Eq.trans (by kernel_rfl)
  (Au (Ad6 (Bn a)) (Au (Tq (Bn a)) (Au (Tq (Bn a)) (Au (Ad7 (Bn a)) (C0 (Am7 (Bn a) (Bn b)) rfl rfl)))))
abbrev _root_.Go.Proofs.S1.Aa.B3.own.Kn:=A7 Tryz.prog 151 Aa.B3.own.spec
theorem Aa.B3.own.Ad (hk:Ax Tryz.prog Aa.B3.own.Ba) (h:∀ (a b:Int),Aa.B3.own.pre [.i a,.i b]=true→Bd Aa.B3.own.E Tryz.f151 [.int .i64 a,.int .i64 b] (Aa.B3.own.out [.i a,.i b])):Aa.B3.own.Kn :=
  Al (A0 hk _ _ _) Tryz.func151 (by kernel_rfl) (by kernel_rfl) h
def solve.Ap.Up.hint:Nat→Option A6
  | 0=>some { keep:=[2,3,4,5,8,10,11,28,29],objs:=[(12,2,112002,.ints 37 .u64 [])],boxes:=[4,5,8,11] }
  | 2=>some { keep:=[2,3,4,5,8,10,11,13,28,29,32,33],objs:=[(12,2,112002,.ints 37 .u64 [])],boxes:=[4,5,8,11] }
  | 4=>some { keep:=[2,3,4,5,8,10,11,13,15,16,28,29,32,33,49,50],objs:=[(12,2,112002,.ints 37 .u64 [])],boxes:=[4,5,8,11] }
  | _=>none
def solve.Ap.Up.Ba:List (Nat × Entry):=[(103,Cm.Cl.up.spec),(151,Aa.B3.own.spec),(104,solve.Ds.spec),(158,Ae.Div.spec),(150,Ae.Finite.spec),(157,Ae.Mul.spec),(156,Ae.Sub.spec)]
def solve.Ap.Up.E:Env:=Bc (A9 solve.Ap.Up.Ba) (fun n=>Nat.beq n 24) solve.Ap.Up.hint (fun _=>none)
def solve.Ap.Up.L0 (N M:Nat) (r c:Int) (l:List Int) (p q:Int) (m:List Int) (n p29:Int) (p2_2:List Int):Option DV:=B2 solve.Ap.Up.E N Tryz.f76 (Am Tryz.f76) [1,1,1,0,1,0] [] M ⟨Fw 108 [(2,.fn 103 [.int .i64 n] []),(3,.fn 104 [] []),(4,.ptr 4 0 0),(5,.ptr 5 0 0),(8,.ptr 8 0 0),(10,.int .i64 r),(11,.ptr 11 0 0),(28,.int .i64 q),(29,.int .i64 p29)],[(4,false,.box [.int .i64 r,.int .i64 c,.ints .arg .u64 l]),(5,false,.box [.int .i64 p,.int .i64 q,.ints .arg .u64 m]),(8,false,.box [.int .i64 0,.int .i64 0,.nil]),(11,false,.box [.int .i64 r,.int .i64 q,.oref 112002]),(112002,false,.ints 37 .u64 p2_2)]⟩
def solve.Ap.Up.L1 (N M0 M:Nat) (r c:Int) (l:List Int) (p q:Int) (m:List Int) (n p33:Int) (p2:List Int) (p13 p29_1:Int):Option DV:=B2 solve.Ap.Up.E N Tryz.f76 (Am Tryz.f76) [1,1,1,0,1,0,0,1,1,0,0,1,0,1,1,0] [M0] M ⟨Fw 108 [(2,.fn 103 [.int .i64 n] []),(3,.fn 104 [] []),(4,.ptr 4 0 0),(5,.ptr 5 0 0),(8,.ptr 8 0 0),(10,.int .i64 r),(11,.ptr 11 0 0),(13,.int .i64 p13),(28,.int .i64 q),(29,.int .i64 p29_1),(32,.int .i64 r),(33,.int .i64 p33)],[(4,false,.box [.int .i64 r,.int .i64 c,.ints .arg .u64 l]),(5,false,.box [.int .i64 p,.int .i64 q,.ints .arg .u64 m]),(8,false,.box [.int .i64 0,.int .i64 0,.nil]),(11,false,.box [.int .i64 r,.int .i64 q,.oref 112002]),(112002,false,.ints 37 .u64 p2)]⟩
def solve.Ap.Up.L2 (N M0 M1 M:Nat) (r c:Int) (l:List Int) (p q:Int) (m:List Int) (n p16:Int) (p50 p13_1:Int) (p15 p29_2 p33_1:Int) (p2_1:List Int):Option DV:=B2 solve.Ap.Up.E N Tryz.f76 (Am Tryz.f76) [1,1,1,0,1,0,0,1,1,0,0,1,0,1,1,0,0,1,1,0,0,1,1,1,0,1,0] [M0,M1] M ⟨Fw 108 [(2,.fn 103 [.int .i64 n] []),(3,.fn 104 [] []),(4,.ptr 4 0 0),(5,.ptr 5 0 0),(8,.ptr 8 0 0),(10,.int .i64 r),(11,.ptr 11 0 0),(13,.int .i64 p13_1),(15,.int .i64 p15),(16,.int .u64 p16),(28,.int .i64 q),(29,.int .i64 p29_2),(32,.int .i64 r),(33,.int .i64 p33_1),(49,.int .i64 r),(50,.int .i64 p50)],[(4,false,.box [.int .i64 r,.int .i64 c,.ints .arg .u64 l]),(5,false,.box [.int .i64 p,.int .i64 q,.ints .arg .u64 m]),(8,false,.box [.int .i64 0,.int .i64 0,.nil]),(11,false,.box [.int .i64 r,.int .i64 q,.oref 112002]),(112002,false,.ints 37 .u64 p2_1)]⟩
theorem solve.Ap.Up.At (N M:Nat) (r c:Int) (l:List Int) (p q:Int) (m:List Int) (n p29:Int) (p2_2:List Int):solve.Ap.Up.L0 N (M+1) r c l p q m n p29 p2_2=bif (A1 p29 q) then solve.Ap.Up.L1 N M N r c l p q m n 0 p2_2 p29 p29 else bif (C4 p2_2) then bif (!(D9 p2_2)) then some (.tup [.agg [.int .i64 0,.int .i64 0,.nil],.int .i64 2]) else some (.tup [.agg [.int .i64 r,.int .i64 q,.ints (.own 112002 37) .u64 p2_2],.int .i64 0]) else none:=by kernel_rfl
theorem solve.Ap.Up.Cc (N M0 M:Nat) (r c:Int) (l:List Int) (p q:Int) (m:List Int) (n p33:Int) (p2:List Int) (p13 p29_1:Int):solve.Ap.Up.L1 N M0 (M+1) r c l p q m n p33 p2 p13 p29_1=bif (A1 p33 r) then bif (Cn (0≤p33∧p33<n∧n≤10)) then bif ((decide (0≤(Ab ((Ab ((n-1-p33)*q))+p13))))&&(decide ((Ab ((Ab ((n-1-p33)*q))+p13))<(List.length m:Int)))) then solve.Ap.Up.L2 N M0 M N r c l p q m n (List.getD m (Int.toNat (Ab ((Ab ((n-1-p33)*q))+p13))) 0) 0 p13 (n-1-p33) p29_1 p33 p2 else none else none else solve.Ap.Up.L0 N M0 r c l p q m n (Ab (p29_1+1)) p2:=by kernel_rfl
theorem solve.Ap.Up.Gz (N M0 M1 M:Nat) (r c:Int) (l:List Int) (p q:Int) (m:List Int) (n p16:Int) (p50 p13_1:Int) (p15 p29_2 p33_1:Int) (p2_1:List Int):solve.Ap.Up.L2 N M0 M1 (M+1) r c l p q m n p16 p50 p13_1 p15 p29_2 p33_1 p2_1=bif (A1 p50 r) then bif (decide (p15<p50)) then bif ((decide (0≤(Ab ((Ab (p15*r))+p50))))&&(decide ((Ab ((Ab (p15*r))+p50))<(List.length l:Int)))) then bif ((decide (0≤(Ab ((Ab (p50*q))+p13_1))))&&(decide ((Ab ((Ab (p50*q))+p13_1))<(List.length p2_1:Int)))) then bif (decide ((Int.toNat (Ab ((Ab (p50*q))+p13_1)))<(List.length p2_1))) then bif (Ai (List.getD l (Int.toNat (Ab ((Ab (p15*r))+p50))) 0)&&Ai (List.getD p2_1 (Int.toNat (Ab ((Ab (p50*q))+p13_1))) 0)) then bif (Ai p16&&Ai (Ej (List.getD l (Int.toNat (Ab ((Ab (p15*r))+p50))) 0) (List.getD p2_1 (Int.toNat (Ab ((Ab (p50*q))+p13_1))) 0))) then solve.Ap.Up.L2 N M0 M1 M r c l p q m n (Dl p16 (Ej (List.getD l (Int.toNat (Ab ((Ab (p15*r))+p50))) 0) (List.getD p2_1 (Int.toNat (Ab ((Ab (p50*q))+p13_1))) 0))) (Ab (p50+1)) p13_1 p15 p29_2 p33_1 p2_1 else none else none else none else none else none else solve.Ap.Up.L2 N M0 M1 M r c l p q m n p16 (Ab (p50+1)) p13_1 p15 p29_2 p33_1 p2_1 else bif ((decide (0≤(Ab ((Ab (p15*r))+p15))))&&(decide ((Ab ((Ab (p15*r))+p15))<(List.length l:Int)))) then bif (Ai p16&&Ai (List.getD l (Int.toNat (Ab ((Ab (p15*r))+p15))) 0)) then bif ((decide (0≤(Ab ((Ab (p15*q))+p13_1))))&&(decide ((Ab ((Ab (p15*q))+p13_1))<(List.length p2_1:Int)))) then bif (decide ((Int.toNat (Ab ((Ab (p15*q))+p13_1)))<(List.length p2_1))) then solve.Ap.Up.L1 N M0 M1 r c l p q m n (Ab (p33_1+1)) (List.set p2_1 (Int.toNat (Ab ((Ab (p15*q))+p13_1))) (E7 p16 (List.getD l (Int.toNat (Ab ((Ab (p15*r))+p15))) 0))) p13_1 p29_2 else none else none else none else none :=
  Eq.trans (by kernel_rfl)
  (E3 (E3 (C0 (Li (decide (0≤(Ab ((Ab (p15*r))+p50)))) (decide ((Ab ((Ab (p15*r))+p50))<(List.length l:Int)))) (C0 (Li (decide (0≤(Ab ((Ab (p50*q))+p13_1)))) (decide ((Ab ((Ab (p50*q))+p13_1))<(List.length p2_1:Int)))) (C0 (C3 (decide ((Int.toNat (Ab ((Ab (p50*q))+p13_1)))<(List.length p2_1)))) (C0 (C3 (Ai (List.getD l (Int.toNat (Ab ((Ab (p15*r))+p50))) 0)&&Ai (List.getD p2_1 (Int.toNat (Ab ((Ab (p50*q))+p13_1))) 0))) (C0 (C3 (Ai p16&&Ai (Ej (List.getD l (Int.toNat (Ab ((Ab (p15*r))+p50))) 0) (List.getD p2_1 (Int.toNat (Ab ((Ab (p50*q))+p13_1))) 0)))) rfl rfl) rfl) rfl) rfl) rfl) rfl) (C0 (Li (decide (0≤(Ab ((Ab (p15*r))+p15)))) (decide ((Ab ((Ab (p15*r))+p15))<(List.length l:Int)))) (C0 (C3 (Ai p16&&Ai (List.getD l (Int.toNat (Ab ((Ab (p15*r))+p15))) 0))) (C0 (Li (decide (0≤(Ab ((Ab (p15*q))+p13_1)))) (decide ((Ab ((Ab (p15*q))+p13_1))<(List.length p2_1:Int)))) (C0 (C3 (decide ((Int.toNat (Ab ((Ab (p15*q))+p13_1)))<(List.length p2_1)))) rfl rfl) rfl) rfl) rfl))
theorem solve.Ap.Up.ev (N:Nat) (r c:Int) (l:List Int) (p q:Int) (m:List Int) (n:Int):By solve.Ap.Up.E N Tryz.f76 (Am Tryz.f76) [.agg [.int .i64 r,.int .i64 c,.ints .arg .u64 l],.agg [.int .i64 p,.int .i64 q,.ints .arg .u64 m],.fn 103 [.int .i64 n] [],.fn 104 [] []]=bif (Bn r&&Bn q) then solve.Ap.Up.L0 N N r c l p q m n 0 (Ci (Int.toNat r) (Int.toNat q) (fun _ _=>0)) else none:=by kernel_rfl
abbrev _root_.Go.Proofs.S1.solve.Ap.Up.Kn:=A7 Tryz.prog 76 solve.Ap.Up.spec
theorem solve.Ap.Up.Ad (hk:Ax Tryz.prog solve.Ap.Up.Ba) (h:∀ (r c:Int) (l:List Int) (p q:Int) (m:List Int) (n:Int),solve.Ap.Up.pre [.i r,.i c,.l l,.i p,.i q,.l m,.i n]=true→Bd solve.Ap.Up.E Tryz.f76 [.agg [.int .i64 r,.int .i64 c,.ints .arg .u64 l],.agg [.int .i64 p,.int .i64 q,.ints .arg .u64 m],.fn 103 [.int .i64 n] [],.fn 104 [] []] (solve.Ap.Up.out [.i r,.i c,.l l,.i p,.i q,.l m,.i n])):solve.Ap.Up.Kn :=
  Al (A0 hk _ _ _) Tryz.func76 (by kernel_rfl) (by kernel_rfl) h
def solve.Gf.Ba:List (Nat × Entry):=[(75,solve.check.spec),(76,solve.Ap.Up.spec)]
def solve.Gf.E:Env:=Bc (A9 solve.Gf.Ba) (fun _=>false) (fun _=>none) (fun _=>none)
theorem solve.Gf.ev (N:Nat) (r c:Int) (l:List Int) (p q:Int) (m:List Int):By solve.Gf.E N Tryz.f36 (Am Tryz.f36) [.agg [.int .i64 r,.int .i64 c,.ints .arg .u64 l],.agg [.int .i64 p,.int .i64 q,.ints .arg .u64 m]]=bif (Ah l&&Ah m) then bif ((M4 r c l p q m) !=(0:Int)) then some (.tup [.agg [.int .i64 0,.int .i64 0,.nil],.int .i64 (M4 r c l p q m)]) else bif (M9 r c l p q m&&decide (r=r)) then some (.tup [.agg [.int .i64 ((Il r q (Y4 c l q m (Int.toNat r) (Int.toNat q))).1),.int .i64 ((Il r q (Y4 c l q m (Int.toNat r) (Int.toNat q))).2.1),.ints .fresh .u64 ((Il r q (Y4 c l q m (Int.toNat r) (Int.toNat q))).2.2.1)],.int .i64 ((Il r q (Y4 c l q m (Int.toNat r) (Int.toNat q))).2.2.2)]) else none else none:=by kernel_rfl
abbrev _root_.Go.Proofs.S1.solve.Gf.Kn:=A7 Tryz.prog 36 solve.Gf.spec
theorem solve.Gf.Ad (hk:Ax Tryz.prog solve.Gf.Ba) (h:∀ (r c:Int) (l:List Int) (p q:Int) (m:List Int),solve.Gf.pre [.i r,.i c,.l l,.i p,.i q,.l m]=true→Bd solve.Gf.E Tryz.f36 [.agg [.int .i64 r,.int .i64 c,.ints .arg .u64 l],.agg [.int .i64 p,.int .i64 q,.ints .arg .u64 m]] (solve.Gf.out [.i r,.i c,.l l,.i p,.i q,.l m])):solve.Gf.Kn :=
  Al (A0 hk _ _ _) Tryz.func36 (by kernel_rfl) (by kernel_rfl) h
def solve.Flat.hint:Nat→Option A6
  | 0=>some { keep:=[1,5,6],objs:=[(0,5,100005,.ints 37 .u64 [])],boxes:=[1] }
  | 2=>some { keep:=[7,44,45,46],objs:=[(0,44,100044,.ints 37 .u64 [])],boxes:=[] }
  | _=>none
def solve.Flat.Ba:List (Nat × Entry):=[(86,B4.Check.spec),(87,compare.Sx.spec),(90,compare.Jx.spec),(89,Ae.Cf.spec),(88,Ae.Bp.spec)]
def solve.Flat.E:Env:=Bc (A9 solve.Flat.Ba) (fun _=>false) solve.Flat.hint (fun _=>none)
def solve.Flat.L0 (N M:Nat) (r c:Int) (l:List Int) (p6:Int) (p5:List Int):Option DV:=B2 solve.Flat.E N Tryz.f24 (Am Tryz.f24) [1,1,1,0,1,0] [] M ⟨Fw 55 [(1,.ptr 1 0 0),(5,.oref 100005),(6,.int .i64 p6)],[(1,false,.box [.int .i64 r,.int .i64 c,.ints .arg .u64 l]),(100005,false,.ints 37 .u64 p5)]⟩
def solve.Flat.L1 (N M:Nat) (p5:List Int) (p46:Int):Option DV:=B2 solve.Flat.E N Tryz.f24 (Am Tryz.f24) [1,1,1,1,1,0,1,0] [] M ⟨Fw 55 [(7,.int .u64 (B8 (Bl p5) (-40:Int))),(44,.oref 100044),(45,.int .i64 (List.length p5:Int)),(46,.int .i64 p46)],[(100044,false,.ints 37 .u64 p5)]⟩
theorem solve.Flat.At (N M:Nat) (r c:Int) (l:List Int) (p6:Int) (p5:List Int):solve.Flat.L0 N (M+1) r c l p6 p5=bif ((A1 p6 r)&&(A1 p6 c)) then bif ((decide (0≤(Ab ((Ab (p6*c))+p6))))&&(decide ((Ab ((Ab (p6*c))+p6))<(List.length l:Int)))) then bif (Ai (List.getD l (Int.toNat (Ab ((Ab (p6*c))+p6))) 0)) then bif (decide ((List.length p5)+1≤Gq)) then solve.Flat.L0 N M r c l (Ab (p6+1)) (p5++[(Z4 (List.getD l (Int.toNat (Ab ((Ab (p6*c))+p6))) 0))]) else none else none else none else bif (C4 p5) then bif (Eh (Bl p5) (-40:Int)) then solve.Flat.L1 N N p5 (0:Int) else none else none :=
  Eq.trans (by kernel_rfl)
  (Au (N7 (A1 p6 r)) (Au (N7 (A1 p6 r)) (Au (Kq (A1 p6 r)) (Au (Agm (A1 p6 r)) (Au (Q9 (A1 p6 r)) (C0 (tt1 (A1 p6 r) (A1 p6 c)) rfl rfl))))))
theorem solve.Flat.Cc (N M:Nat) (p5:List Int) (p46:Int):solve.Flat.L1 N (M+1) p5 p46=bif (A1 p46 (List.length p5:Int)) then bif ((decide (0≤p46))&&(decide (p46<(List.length p5:Int)))) then bif (decide ((Int.toNat p46)<(List.length p5))) then bif (Ai (B8 (Bl p5) (-40:Int))&&Ai (List.getD p5 (Int.toNat p46) 0)) then bif (!(decide (Abx (B8 (Bl p5) (-40:Int)) (List.getD p5 (Int.toNat p46) 0)<0))) then some (.tup [.bool true,.int .i64 0]) else solve.Flat.L1 N M p5 (Ab (p46+1)) else none else none else none else some (.tup [.bool false,.int .i64 0]):=by kernel_rfl
theorem solve.Flat.ev (N:Nat) (r c:Int) (l:List Int):By solve.Flat.E N Tryz.f24 (Am Tryz.f24) [.agg [.int .i64 r,.int .i64 c,.ints .arg .u64 l]]=bif (Ah l) then bif ((B5 r c l) !=(0:Int)) then some (.tup [.bool false,.int .i64 (B5 r c l)]) else solve.Flat.L0 N N r c l 0 [] else none:=by kernel_rfl
abbrev _root_.Go.Proofs.S1.solve.Flat.Kn:=A7 Tryz.prog 24 solve.Flat.spec
theorem solve.Flat.Ad (hk:Ax Tryz.prog solve.Flat.Ba) (h:∀ (r c:Int) (l:List Int),solve.Flat.pre [.i r,.i c,.l l]=true→Bd solve.Flat.E Tryz.f24 [.agg [.int .i64 r,.int .i64 c,.ints .arg .u64 l]] (solve.Flat.out [.i r,.i c,.l l])):solve.Flat.Kn :=
  Al (A0 hk _ _ _) Tryz.func24 (by kernel_rfl) (by kernel_rfl) h
end EqSol
open EqSol
theorem solve.Ds.known:solve.Ds.Kn:=solve.Ds.Ad .nil fun i k _=>by
  refine ⟨0,solve.Ds.out [.i i,.i k],[],?_,.bool⟩
  rw [solve.Ds.ev,Aq]; rfl
theorem Aha.known:Cm.Cl.up.Kn:=Cm.Cl.up.Ad .nil fun n k hp=>by
  have hp:=Ao.1 (show Cn (0≤k∧k<n∧n≤10)=true from hp)
  refine ⟨0,Cm.Cl.up.out [.i n,.i k],[],?_,.int⟩
  rw [Cm.Cl.up.ev,An (x:=n-1) (by omega) (by omega),An (by omega) (by omega)]; rfl
theorem Aa.of.B3.own.known:Aa.of.B3.own.Kn:=Aa.of.B3.own.Ad (.cons Aa.Dk.known .nil) fun a b hp=>by
  have h1:(Bn a&&Bn b)=true:=hp
  obtain ⟨ha,hb⟩:=Af.1 h1
  obtain ⟨A,rfl,hA⟩:=F7 ha
  obtain ⟨B,rfl,hB⟩:=F7 hb
  refine ⟨8,.agg [.int .i64 (A:Int),.int .i64 (B:Int),.ints (.own 108002 tB) .u64 (Ci A B fun (i j:Nat)=>(0:Int))],[],?_,Wk.Ip (.cons .int (.cons .int (.cons (.keep _ _ _ _ List.not_mem_nil) .nil)))⟩
  have n:=of.B3.outer 8 hA hB (by omega) (F:=fun (i j:Nat)=>(0:Int)) (fun _ _=>rfl) A 0 8 (by omega) (by omega)
  rw [J4] at n
  exact (EqOf.Aa.of.B3.ev 8 (A:Int) (B:Int)).trans n
theorem Aa.B3.own.known:Aa.B3.own.Kn:=Aa.B3.own.Ad (.cons Aa.of.B3.own.known (.cons Aa.size.known .nil)) fun a b hp=>by
  have hp:(Bn a&&Bn b)=true:=hp
  obtain ⟨ha,hb⟩:=Af.1 hp
  refine ⟨0,Aa.B3.own.out [.i a,.i b],[],?_,?_⟩
  · rw [Aa.B3.own.ev,ha,hb]; rfl
  · exact Wk.Gb (.cons (Wk.Ip (.cons .int (.cons .int (.cons (.keep _ _ _ _ List.not_mem_nil) .nil)))) (.cons .int .nil))
section
variable {n Q:Nat} {l m:List Int}
def upF (n Q:Nat) (l m:List Int) (i j:Nat):Int:=(Xc (n:Int) l (fun i=>Ef (Q:Int) m (i:Int) (j:Int)) n n).getD i 0
def upD (n j k a b:Nat):Bool:=decide (b<j∨(b=j∧n-k≤a))
def Sa (n Q:Nat) (l m:List Int) (j k:Nat):List Int:=Ci n Q fun a b=>if upD n j k a b=true then upF n Q l m a b else 0
theorem Agf (i j:Nat):Ai (upF n Q l m i j)=true:=Qw (Abc _ _ _ _ _) i
theorem Amv (j k:Nat):Ah (Sa n Q l m j k)=true:=F5 fun a b=>by
  split
  · exact Agf _ _
  · exact B0 (n:=0) (by decide)
theorem Aj1 {j k t:Nat} (ht:t<n) (hj:j<Q) (hk:n-k≤t):Ef (Q:Int) (Sa n Q l m j k) (t:Int) (j:Int)=upF n Q l m t j:=by
  unfold Sa
  have hd:upD n j k t j=true:=Aqx (.inr ⟨rfl,hk⟩)
  rw [Adr ht hj,hd,if_pos rfl]
theorem Xb (j k:Nat):(Sa n Q l m j k).length=n*Q:=Bw _ _ _
theorem Agc (N:Nat) (n6:n≤6) (q6:Q≤6) (hl:l.length=n*n) (al:Ah l=true) {i j k:Nat} (hi:i+k+1=n) (hj:j<Q) (M0 M1:Nat) (p29 p33:Int) :
    ∀ (cnt t F:Nat) (s:Int),t+cnt=n→cnt<F→i+1≤t→Ai s=true →
    solve.Ap.Up.L2 N M0 M1 F (n:Int) (n:Int) l (n:Int) (Q:Int) m (n:Int) s (t:Int) (j:Int) (i:Int) p29 p33 (Sa n Q l m j k) =
    solve.Ap.Up.L1 N M0 M1 (n:Int) (n:Int) l (n:Int) (Q:Int) m (n:Int) (Ab (p33+(1:Int))) (List.set (Sa n Q l m j k) (Int.toNat ((i:Int)*(Q:Int)+(j:Int))) (E7 (Mu (n:Int) l (i:Int) s (t:Int) ((Xc (n:Int) l (fun i=>Ef (Q:Int) m (i:Int) (j:Int)) n n).drop t)) (Ef (n:Int) l (i:Int) (i:Int)))) (j:Int) p29:=by
  intro cnt
  induction cnt with
  | zero =>
    intro t F s ht hF hit hs
    obtain ⟨F,rfl⟩:∃ G,F=G+1:=⟨F-1,by omega⟩
    obtain ⟨e1,g1,g2⟩:=Gy (R:=(n:Int)) (Fi n6 n6 hl (show i<n by omega) (show i<n by omega))
    obtain ⟨e2,g3,g4⟩:=Gy (R:=(n:Int)) (Fi n6 q6 (Xb (l:=l) (m:=m) j k) (show i<n by omega) hj)
    rw [Ara (by rw [O9]; omega),Mu]
    rw [solve.Ap.Up.Gz,Aq,Aq1 (show ¬ (t:Int)<(n:Int) by omega),Aq0,e1,Aqx g1,Aqx g2,Aq2,Aqw,hs,show Ai (List.getD l (Int.toNat ((i:Int)*(n:Int)+(i:Int))) 0)=true from Gt (c:=(n:Int)) al,Aq2,Aqw,
      e2,Aqx g3,Aqx g4,Aq2,Aqw,Aqx (show Int.toNat ((i:Int)*(Q:Int)+(j:Int))<(Sa n Q l m j k).length by omega),Aqw]
    rfl
  | succ cnt ih =>
    intro t F s ht hF hit hs
    obtain ⟨F,rfl⟩:∃ G,F=G+1:=⟨F-1,by omega⟩
    obtain ⟨e1,g1,g2⟩:=Gy (R:=(n:Int)) (Fi n6 n6 hl (show i<n by omega) (show t<n by omega))
    obtain ⟨e2,g3,g4⟩:=Gy (R:=(n:Int)) (Fi n6 q6 (Xb (l:=l) (m:=m) j k) (show t<n by omega) hj)
    have hx:List.getD (Sa n Q l m j k) (Int.toNat ((t:Int)*(Q:Int)+(j:Int))) 0=upF n Q l m t j:=Aj1 (by omega) hj (by omega)
    rw [solve.Ap.Up.Gz,Aq,Aqx (show (t:Int)<(n:Int) by omega),Aqw,Aqx (show (i:Int)<(t:Int) by omega),Aqw,e1,Aqx g1,Aqx g2,Aq2,Aqw,
      e2,Aqx g3,Aqx g4,Aq2,Aqw,Aqx (show Int.toNat ((t:Int)*(Q:Int)+(j:Int))<(Sa n Q l m j k).length by omega),Aqw,hx,
      show Ai (List.getD l (Int.toNat ((i:Int)*(n:Int)+(t:Int))) 0)=true from Gt (c:=(n:Int)) al,Agf,Aq2,Aqw,hs,La,Aq2,Aqw,An (x:=(t:Int)+1) (by omega) (by omega)]
    have:=ih (t+1) F (Dl s (Ej (Ef (n:Int) l (i:Int) (t:Int)) (upF n Q l m t j))) (by omega) (by omega) (by omega) (L5 hs (La _ _))
    rw [Wn (by rw [O9]; omega)]
    exact this
theorem Ajx (N:Nat) (n6:n≤6) {i j k:Nat} (hi:i<n) (M0 M1:Nat) (p29 p33 s:Int):∀ (cnt t F:Nat),t+cnt=i+1 →
    solve.Ap.Up.L2 N M0 M1 (F+cnt) (n:Int) (n:Int) l (n:Int) (Q:Int) m (n:Int) s (t:Int) (j:Int) (i:Int) p29 p33 (Sa n Q l m j k) =
    solve.Ap.Up.L2 N M0 M1 F (n:Int) (n:Int) l (n:Int) (Q:Int) m (n:Int) s ((i+1:Nat):Int) (j:Int) (i:Int) p29 p33 (Sa n Q l m j k):=by
  intro cnt
  induction cnt with
  | zero =>
    intro t F ht
    obtain rfl:t=i+1:=by omega
    rfl
  | succ cnt ih =>
    intro t F ht
    rw [← Nat.add_assoc,solve.Ap.Up.Gz,Aq,Aqx (show (t:Int)<(n:Int) by omega),Aqw,Aq1 (show ¬ (i:Int)<(t:Int) by omega),Aq0,An (by omega) (by omega)]
    exact ih (t+1) F (by omega)
theorem Aj0 {i j k:Nat} (hi:i+k+1=n) (hj:j<Q) {x:Int} (hx:x=upF n Q l m i j):List.set (Sa n Q l m j k) (Int.toNat ((i:Int)*(Q:Int)+(j:Int))) x=Sa n Q l m j (k+1):=by
  refine Aav hj hx fun a b ha hb=>?_
  unfold upD
  rw [Aq3,Aq3]
  omega
theorem Ajy (N:Nat) (n6:n≤6) (q6:Q≤6) (hN:7<N) (hl:l.length=n*n) (hm:m.length=n*Q) (al:Ah l=true) (am:Ah m=true) {j:Nat} (hj:j<Q) (M0:Nat):∀ (cnt k F:Nat),k+cnt=n→cnt<F →
    solve.Ap.Up.L1 N M0 F (n:Int) (n:Int) l (n:Int) (Q:Int) m (n:Int) (k:Int) (Sa n Q l m j k) (j:Int) (j:Int) =
    solve.Ap.Up.L0 N M0 (n:Int) (n:Int) l (n:Int) (Q:Int) m (n:Int) ((j+1:Nat):Int) (Sa n Q l m j n):=by
  intro cnt
  induction cnt with
  | zero =>
    intro k F hk hF
    obtain ⟨F,rfl⟩:∃ G,F=G+1:=⟨F-1,by omega⟩
    obtain rfl:k=n:=by omega
    rw [solve.Ap.Up.Cc,Aq,Aq1 (by omega),Aq0,An (by omega) (by omega)]
    rfl
  | succ cnt ih =>
    intro k F hk hF
    obtain ⟨F,rfl⟩:∃ G,F=G+1:=⟨F-1,by omega⟩
    obtain ⟨i,hi⟩:∃ i:Nat,i+k+1=n:=⟨n-k-1,by omega⟩
    have ei:(n:Int)-1-(k:Int)=(i:Int):=by omega
    obtain ⟨e2,g3,g4⟩:=Gy (R:=(n:Int)) (Fi n6 q6 hm (show i<n by omega) hj)
    rw [solve.Ap.Up.Cc,Aq,Aqx (show (k:Int)<(n:Int) by omega),Aqw,Ao.2 (show 0≤(k:Int)∧(k:Int)<(n:Int)∧(n:Int)≤10 by omega),Aqw,ei,e2,Aqx g3,Aqx g4,Aq2,Aqw]
    obtain ⟨G,rfl⟩:∃ G,N=G+(i+1):=⟨N-(i+1),by omega⟩
    have hs:=Ajx (n:=n) (Q:=Q) (l:=l) (m:=m) (G+(i+1)) n6 (i:=i) (j:=j) (k:=k) (by omega) M0 F (j:Int) (k:Int) (Ef (Q:Int) m (i:Int) (j:Int)) (i+1) 0 G (by omega)
    have hr:=Agc (n:=n) (Q:=Q) (l:=l) (m:=m) (G+(i+1)) n6 q6 hl al hi hj M0 F (j:Int) (k:Int) (n-(i+1)) (i+1) G (Ef (Q:Int) m (i:Int) (j:Int)) (by omega) (by omega) (by omega) (Gt (c:=(Q:Int)) am)
    rw [Aj0 hi hj (Aj3 (show i<n by omega)).symm,An (by omega) (by omega)] at hr
    exact (hs.trans hr).trans (ih (k+1) F (by omega) (by omega))
theorem Age (j:Nat):Sa n Q l m j n=Sa n Q l m (j+1) 0:=by
  unfold Sa
  refine Dh fun a b ha hb=>?_
  have:upD n j n a b=upD n (j+1) 0 a b:=by
    unfold upD
    rw [decide_eq_decide]
    omega
  rw [this]
theorem Agd:Sa n Q l m 0 0=Ci n Q fun _ _=>0:=by
  unfold Sa
  refine Dh fun a b ha hb=>?_
  have:upD n 0 0 a b=false:=Aq1 (by omega)
  rw [this]; rfl
theorem Aj2:Sa n Q l m Q 0=Y4 (n:Int) l (Q:Int) m n Q:=by
  unfold Sa Y4
  refine Dh fun a b ha hb=>?_
  have:upD n Q 0 a b=true:=Aqx (.inl hb)
  rw [this]; rfl
theorem Ajz (N:Nat) (n6:n≤6) (q6:Q≤6) (hN:7<N) (hl:l.length=n*n) (hm:m.length=n*Q) (al:Ah l=true) (am:Ah m=true):∀ (cnt j F:Nat),j+cnt=Q→cnt<F →
    solve.Ap.Up.L0 N F (n:Int) (n:Int) l (n:Int) (Q:Int) m (n:Int) (j:Int) (Sa n Q l m j 0) =
    bif D9 (Sa n Q l m Q 0) then some (.tup [.agg [.int .i64 (n:Int),.int .i64 (Q:Int),.ints (.own 112002 tB) .u64 (Sa n Q l m Q 0)],.int .i64 (0:Int)]) else some (Aev 2):=by
  intro cnt
  induction cnt with
  | zero =>
    intro j F hj hF
    obtain ⟨F,rfl⟩:∃ G,F=G+1:=⟨F-1,by omega⟩
    obtain rfl:j=Q:=by omega
    have h36:=Nat.mul_le_mul n6 q6
    rw [solve.Ap.Up.At,Aq,Aq1 (by omega),Aq0,K9 (Amv _ _) (by rw [Xb]; omega),Aqw]
    cases D9 (Sa n j l m j 0)<;>rfl
  | succ cnt ih =>
    intro j F hj hF
    obtain ⟨F,rfl⟩:∃ G,F=G+1:=⟨F-1,by omega⟩
    have hr:=Ajy N n6 q6 hN hl hm al am (show j<Q by omega) F n 0 N (by omega) (by omega)
    rw [Age] at hr
    rw [solve.Ap.Up.At,Aq,Aqx (show (j:Int)<(Q:Int) by omega),Aqw]
    exact hr.trans (ih (j+1) F (by omega) (by omega))
end
theorem solve.Ap.Up.known:solve.Ap.Up.Kn:=solve.Ap.Up.Ad (.cons Aha.known (.cons Aa.B3.own.known (.cons solve.Ds.known (.cons Ae.Div.known (.cons Ae.Finite.known (.cons Ae.Mul.known (.cons Ae.Sub.known .nil))))))) fun r c l p q m n hp=>by
  show ∃ N dv drops,_=some dv∧Wk drops dv (Pg (Il r q (Y4 c l q m (Int.toNat r) (Int.toNat q))))
  obtain ⟨h1,hn⟩:=Af.1 (show (M9 r c l p q m&&decide (n=r))=true from hp)
  obtain ⟨h2,h3⟩:=Af.1 h1
  obtain ⟨hr,hm⟩:=Af.1 h2
  obtain ⟨h4,h5⟩:=Af.1 h3
  obtain ⟨al,am⟩:=Af.1 h4
  obtain ⟨rfl,rfl⟩:=Ao.1 h5
  obtain rfl:=of_decide_eq_true hn
  have s1:=(Fh hr).1
  have s2:=(Fh hm).2
  obtain ⟨R,C,rfl,hC,r6,c6,hl⟩:=C1 hr
  obtain ⟨P,Q,hP,rfl,p6,q6,hl2⟩:=C1 hm
  obtain rfl:R=C:=by omega
  obtain rfl:R=P:=by omega
  have h:=Ajz (n:=R) (Q:=Q) (l:=l) (m:=m) 8 r6 q6 (by omega) hl hl2 al am Q 0 8 (by omega) (by omega)
  rw [Agd,Aj2,show ((0:Nat):Int)=0 from rfl] at h
  rw [Aqy,Aqy]
  unfold Il
  cases hf:D9 (Y4 (R:Int) l (Q:Int) m R Q) with
  | true =>
    rw [hf,Aqw] at h
    rw [if_pos rfl]
    refine ⟨8,.tup [.agg [.int .i64 (R:Int),.int .i64 (Q:Int),.ints (.own 112002 tB) .u64 (Y4 (R:Int) l (Q:Int) m R Q)],.int .i64 0],[112002],?_,Wk.Gb (.cons (Aba (List.mem_singleton.2 rfl)) (.cons .int .nil))⟩
    rw [solve.Ap.Up.ev,s1,s2,Aq2,Aqw,Aqy,Aqy]
    exact h
  | false =>
    rw [hf,Aq0] at h
    rw [if_neg (by decide)]
    refine ⟨8,Aev 2,[],?_,Kp⟩
    rw [solve.Ap.Up.ev,s1,s2,Aq2,Aqw,Aqy,Aqy]
    exact h
end Go.Proofs.S1
end
