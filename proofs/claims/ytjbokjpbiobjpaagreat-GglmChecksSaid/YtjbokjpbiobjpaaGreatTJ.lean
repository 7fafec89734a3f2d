/- A verified evaluator of the program's form and its use for this seat: S1PRootA, LdxL, S1EqLdx, S1PLdx, S1PLdxA, S1EqRef08, S1EqRef13, S1PRef08, S1EqOf, S1POf, S1PMatA, S1EqRef10, S1PRef10, S1PFill, S1EqHouse, S1PHouse, S1PApply, S1EqSol. -/
import Derived.Test.YtjbokjpbiobjpaaGreatTI
import Derived.Test.YtjbokjpbiobjpaaGreatTE
import Derived.Test.YtjbokjpbiobjpaaGreatTF
import Derived.Test.YtjbokjpbiobjpaaGreatTG
set_option linter.unusedVariables false
set_option linter.unusedSimpArgs false
noncomputable section
namespace Go.Proofs.S1
open Go Go.Den Go.Rnd Go.Proofs
open EqRoot
theorem Uo {b:Nat} (h:Av b≠0):D1 (Av b:Int)=((Av b).log2:Int)+1:=by
  unfold D1
  rw [if_neg (by omega),Aq0]
theorem Aeh {w:Nat} {E:Int} {s:Bool} (hw:2^62≤w) (n:Nat) (h:P3 n=w) (hs:s=decide (w*w≠n)) :
    Fb false (w / 2) (E+2) (bif s then true else decide (w%2=1))=(Ch (Fq n) E,flagsOf (Fq n) E):=by
  have e1:Fq n / 2^2=w / 2:=by unfold Fq; rw [h]; split<;>omega
  have e2:(bif s then true else decide (w%2=1))=decide (Fq n%2^2≠0):=by
    rw [hs]
    unfold Fq
    rw [h]
    by_cases h0:w*w=n
    · rw [Aq3 (by omega),Aq2,if_pos h0,decide_eq_decide]; omega
    · rw [Aqz h0,Aqy,if_neg h0]; symm; exact Aqz (by omega)
  rw [← e1]
  have:=Qs false (V:=Fq n) (k:=2) (E:=E) (e:=E+2) rfl e2 (by rw [e1]; omega) (by left; rw [e1]; omega)
  rw [Agz] at this
  exact this
theorem root.Sqrt.num {b:Nat} (hb:b<2^64) (h4:Au b≠4) (h:¬ (Au b=0∨b=G8)) (hn:D4 b=false) {z:Nat} (hz:2^60≤Av b*2^z) (hz2:Av b*2^z<2^62) (he:(Be b-(z:Int))%2=0) (z60:z≤62) :
    root.Sqrt.L0 2 2 (Be b-(z:Int)) (Qu ((Av b*2^z:Nat):Int)) (!(Qv ((Av b*2^z:Nat):Int)))=some (.tup [.int .u64 (G6 (b:Int)),.int .u8 (Nb (b:Int))]):=by
  have hE:=Eb b
  have hM:=Ek b
  have h3:Au b≠3:=fun h3=>by
    refine h (.inr ?_)
    have hpn:D4 b=false:=hn
    unfold D4 at hpn
    have hlt:b<2^63:=by simpa using hpn
    unfold Au at h3
    have hp:=Js b
    unfold G7 at h3
    unfold Ft at h3
    unfold G8
    split at h3
    · split at h3
      · omega
      · omega
    · split at h3
      · omega
      · split at h3<;>omega
  have hm:Av b≠0:=fun h0=>h (.inl ((Ke h3 h4).1 h0))
  have eN:Av b*2^z*2^64=Av b*2^(z+64):=by rw [Nat.mul_assoc,← Nat.pow_add]
  have i1:2^62≤P3 (Av b*2^z*2^64):=X9 (t:=62) (by omega)
  have i2:=(Nq (Av b*2^z*2^64)).1
  have i3:P3 (Av b*2^z*2^64)<2^63:=by
    refine Zh (Nat.lt_of_le_of_lt i2 ?_)
    show _<9223372036854775808*9223372036854775808
    omega
  have r1:Qu ((Av b*2^z:Nat):Int)=(P3 (Av b*2^z*2^64):Int):=by unfold Qu; rw [Aq0]
  have r2:(!(Qv ((Av b*2^z:Nat):Int)))=decide (P3 (Av b*2^z*2^64)*P3 (Av b*2^z*2^64)≠Av b*2^z*2^64):=by
    unfold Qv; rw [Aq0,← decide_not]
  obtain ⟨k1,k2⟩:=Ag6 hm
  have same:=Aer (m:=Av b) (k:=z+64) (l:=Jj b) (E:=(Be b-(z:Int)) / 2-33) (F:=(Be b-(Jj b:Int)) / 2-1) (by rw [← eN]; omega) k1 (by omega)
  rw [← eN] at same
  have near:=Aeh (E:=(Be b-(z:Int)) / 2-33) i1 _ rfl r2
  rw [same.1,same.2] at near
  have sq:Ms b=_:=Agv h4 h hn
  rw [r1,r2]
  rw [r2] at near
  generalize P3 (Av b*2^z*2^64)=w at *
  have w1:Dk (4611686018427387904:Int) (w:Int)=true:=by rw [D7]; exact Aqz (by omega)
  have w2:Cv .u64 (w:Int) (1:Int)=((w / 2:Nat):Int):=by rw [show (1:Int)=((1:Nat):Int) from rfl,Q8 _ _ (by decide)]
  have w3:((E9 .u64 (w:Int) (1:Int))==(1:Int))=decide (w%2=1):=by
    rw [show E9 .u64 (w:Int) (1:Int)=((w%2^1:Nat):Int) from G0 1 (by omega) (by decide),Are,beq_iff_eq,Aq5]
    omega
  have w4:Dk (4611686018427387904:Int) ((w / 2:Nat):Int)=false:=by rw [D7]; exact Aq3 (by omega)
  have w5:Ab (Ab (Int.tdiv (Be b-(z:Int)+2) 2)-32)=(Be b-(z:Int)) / 2-33+2:=by
    have:Int.tdiv (Be b-(z:Int)+2) 2=(Be b-(z:Int)) / 2+1:=by
      rw [Int.tdiv_eq_ediv]
      split<;>omega
    rw [this,An (x:=(Be b-(z:Int)) / 2+1) (by omega) (by omega),An (by omega) (by omega)]
    omega
  have w6:Ab (Be b-(z:Int)+2)=Be b-(z:Int)+2:=An (by omega) (by omega)
  generalize hs:decide (w*w≠Av b*2^z*2^64)=s at *
  have pre:Di ((w / 2:Nat):Int) ((Be b-(z:Int)) / 2-33+2) (bif s then true else decide (w%2=1))=true:=Ao.2 ⟨by omega,by omega,by omega,by omega,fun _=>.inl (by omega)⟩
  rw [show (2:Nat)=1+1 from rfl,root.Sqrt.At,w1,Aqy,w2,w3,w6,show (1:Nat)=0+1 from rfl,root.Sqrt.At,w4,Aq2,w5,pre,Aqy]
  unfold D0 Dz G6 Nb
  rw [Aq0,Aq0,near,sq]
theorem root.Sqrt.known:root.Sqrt.Kn:=root.Sqrt.Ad (.cons B9.Bk.known (.cons root.Fm.known (.cons soft.Kind.known (.cons soft.Cr.known (.cons soft.E4.known (.cons soft.Sign.known .nil)))))) fun a hp=>by
  obtain ⟨b,rfl,hb⟩:=Bt (x:=a) hp
  refine ⟨2,root.Sqrt.out [.i b],[],?_,Wk.Gd (.cons .int (.cons .int .nil))⟩
  show _=some (DV.tup [.int .u64 (G6 (b:Int)),.int .u8 (Nb (b:Int))])
  have hk:A8 (b:Int)=(Au b:Int):=rfl
  rw [root.Sqrt.ev,B1 hb,Aqy,Aqy,Aqy,Aqy,hk]
  by_cases h4:Au b=4
  · rw [h4,show (((4:Nat):Int)==(4:Int))=true from rfl,Aqy]
    unfold G6 Nb
    rw [Aq0,Zg h4]; rfl
  have k4:(((Au b:Nat):Int)==(4:Int))=false:=by rw [beq_eq_false_iff_ne]; omega
  rw [k4,Aq2]
  by_cases h0:Au b=0
  · rw [h0,show (((0:Nat):Int)==(0:Int))=true from rfl,Aqy]
    unfold G6 Nb
    rw [Aq0,Rh h4 (.inl h0)]; rfl
  have k0:(((Au b:Nat):Int)==(0:Int))=false:=by rw [beq_eq_false_iff_ne]; omega
  rw [k0,Aq2]
  by_cases hi:b=G8
  · rw [show (((b:Nat):Int)==(9218868437227405312:Int))=true by rw [hi]; rfl,Aqy]
    unfold G6 Nb
    rw [Aq0,Rh h4 (.inr hi)]; rfl
  have ki:(((b:Nat):Int)==(9218868437227405312:Int))=false:=by
    rw [beq_eq_false_iff_ne]; intro hh; refine hi (show b=9218868437227405312 from ?_); omega
  rw [ki,Aq2]
  have hh:¬ (Au b=0∨b=G8):=by rintro (h | h); exact h0 h; exact hi h
  have hneg:Df (b:Int)=D4 b:=rfl
  rw [hneg]
  cases hn:D4 b with
  | true =>
    rw [Aqy]
    unfold G6 Nb
    rw [Aq0,Zf h4 hh hn]; rfl
  | false =>
    rw [Aq2]
    have hm:Av b≠0:=fun hz=>by
      have h3:Au b≠3:=fun h3=>by
        rcases Acj b with ⟨p,_,_⟩ | ⟨_,_,q⟩ | ⟨_,q,_⟩
        · unfold Av at hz
          rw [if_neg (by omega)] at hz
          omega
        · omega
        · exact q h3
      exact hh (.inl ((Ke h3 h4).1 hz))
    have hM:=Ek b
    have hE:=Eb b
    have hl:(Av b).log2≤52:=by have:=(Nat.log2_lt hm).2 (show Av b<2^53 by omega); omega
    have e1:Bg (b:Int)=(Av b:Int):=rfl
    have e2:Aw (b:Int)=Be b:=rfl
    have l1:∀ z:Nat,(Av b).log2+z=60∨(Av b).log2+z=61→2^60≤Av b*2^z∧Av b*2^z<2^62:=by
      intro z hz
      have hlz:=Ui (Av b) z hm
      have hne:Av b*2^z≠0:=Md hm
      constructor
      · rw [← Nat.le_log2 hne]; omega
      · rw [← Nat.log2_lt hne]; omega
    have ez:Ab ((64-(((Av b).log2:Int)+1))-(2:Int))=((61-(Av b).log2:Nat):Int):=by rw [An (by omega) (by omega)]; omega
    have ez':Ab (((61-(Av b).log2:Nat):Int)-(1:Int))=((60-(Av b).log2:Nat):Int):=by rw [An (by omega) (by omega)]; omega
    rw [e1,e2,B1 (n:=Av b) (by omega),Aqy,Uo hm,ez,ez',An (x:=Be b-((61-(Av b).log2:Nat):Int)) (by omega) (by omega),An (x:=Be b-((60-(Av b).log2:Nat):Int)) (by omega) (by omega)]
    by_cases hp2:(Be b-((61-(Av b).log2:Nat):Int))%2=0
    · have t0:(Int.tmod (Be b-((61-(Av b).log2:Nat):Int)) (2:Int) !=(0:Int))=false:=by
        rw [bne_eq_false_iff_eq]; exact Int.tmod_eq_zero_of_dvd (Int.dvd_of_emod_eq_zero hp2)
      obtain ⟨m1,m2⟩:=l1 (61-(Av b).log2) (by omega)
      rw [t0,Aq2,Aqz (by omega),Aqy,Em _ _ (by omega),Arb (by omega),Ao.2 (by omega),Aqy]
      exact root.Sqrt.num hb h4 hh hn m1 m2 hp2 (by omega)
    · have t0:(Int.tmod (Be b-((61-(Av b).log2:Nat):Int)) (2:Int) !=(0:Int))=true:=by
        rw [bne_iff_ne]; intro hz; exact hp2 (Int.emod_eq_zero_of_dvd (Int.dvd_of_tmod_eq_zero hz))
      obtain ⟨m1,m2⟩:=l1 (60-(Av b).log2) (by omega)
      rw [t0,Aqy,Aqz (by omega),Aqy,Em _ _ (by omega),Arb (by omega),Ao.2 (by omega),Aqy]
      exact root.Sqrt.num hb h4 hh hn m1 m2 (by omega) (by omega)
theorem Ae.Sqrt.known:Ae.Sqrt.Kn:=Ae.Sqrt.Ad (.cons root.Sqrt.known .nil) fun a hp=>by
  have hp:Ai a=true:=hp
  refine ⟨0,Ae.Sqrt.out [.i a],[],?_,.int⟩
  rw [Ae.Sqrt.ev,hp]; rfl
theorem compare.Sx.known:compare.Sx.Kn:=compare.Sx.Ad (.cons B9.Jc.known (.cons soft.Finite.known (.cons soft.Kind.known (.cons soft.E4.known .nil)))) fun a hp=>by
  obtain ⟨b,rfl,hb⟩:=Bt (x:=a) hp
  refine ⟨0,compare.Sx.out [.i b],[],?_,.int⟩
  show _=some (DV.int .i64 (B0 (b:Int)))
  have hk:A8 (b:Int)=(Au b:Int):=rfl
  have hf:C9 (b:Int)=Le b:=rfl
  have hE:=Eb b
  have hM:=Ek b
  rw [compare.Sx.ev,B1 hb,Aqy,Bool.or_true,Aqy,hk,hf]
  unfold B0
  rw [Aq0]
  unfold Aiy
  cases hfin:Le b with
  | false=>rfl
  | true =>
    by_cases h0:Au b=0
    · rw [h0]; rfl
    · have k0:(((Au b:Nat):Int)==(0:Int))=false:=by rw [beq_eq_false_iff_ne]; omega
      have hm:Av b≠0:=fun hz=>by
        obtain ⟨f4,f3⟩:=U1 hfin
        exact h0 ((Ke f3 f4).1 hz)
      have hl:(Av b).log2≤52:=by have:=(Nat.log2_lt hm).2 (show Av b<2^53 by omega); omega
      have e1:Bg (b:Int)=(Av b:Int):=rfl
      have e2:Aw (b:Int)=Be b:=rfl
      rw [k0,if_pos ⟨rfl,h0⟩,Bool.not_true,Bool.false_or,Aq2,Aqy,e1,e2,B1 (n:=Av b) (by omega),Aqy,Uo hm,An (x:=((Av b).log2:Int)+1-1) (by omega) (by omega),An (by omega) (by omega)]
      congr 2; omega
theorem Agu {x:List Int} {i:Nat} (h:i<x.length) (k s:Int):Abn k s (x.drop i)=Abn k (Jn s (El (B8 (x.getD i 0) k) (B8 (x.getD i 0) k))) (x.drop (i+1)):=by
  rw [Hu h,Abn]
theorem Ae0 (N:Nat) {x:List Int} (hx:Cu x=true) (hl:x.length≤1000):∀ (k i F:Nat) (s:Int),i+k=x.length→k<F→Ai s=true →
    Ae.Norm.L0 N F x s (i:Int)=some (.tup [.int .u64 (B8 (G6 (Abn (-B0 (Bm x)) s (x.drop i))) (B0 (Bm x))),.int .i64 0]):=by
  obtain ⟨_,hu⟩:=Ju hx
  have he:=Aix (Bm x)
  intro k
  induction k with
  | zero =>
    intro i F s hi hF hs
    obtain ⟨F,rfl⟩:∃ G,F=G+1:=⟨F-1,by omega⟩
    rw [Ae.Norm.At,Ar,Aq3 (by omega),Aq2,hs,Aqy,show Ej (G6 s) (B0 (Bm x))=true from Af.2 ⟨Adc hs,Ao.2 (by omega)⟩,Aqy,Arc (by omega)]
    rfl
  | succ k ih =>
    intro i F s hi hF hs
    obtain ⟨F,rfl⟩:∃ G,F=G+1:=⟨F-1,by omega⟩
    rw [Ae.Norm.At,Ar,Aqz (show (i:Int)<(x.length:Int) by omega),Aqy,Aqz (show (0:Int)≤(i:Int) by omega),Aq4,Aqy,Aq0,An (x:=0-B0 (Bm x)) (by omega) (by omega),show (0:Int)-B0 (Bm x)=-B0 (Bm x) by omega,
      show Ej (List.getD x i 0) (-B0 (Bm x))=true from Af.2 ⟨hu i (by omega),Ao.2 (by omega)⟩,Aqy,I1 (hu i (by omega)),Aq4,Aqy,hs,Lc,Aq4,Aqy,Agu (by omega),An (by omega) (by omega)]
    exact ih (i+1) F _ (by omega) (by omega) (Ajm hs (Lc _ _))
theorem Ae.Norm.known:Ae.Norm.Kn:=Ae.Norm.Ad (.cons compare.Sx.known (.cons soft.Finite.known (.cons Ae.Add.known (.cons Ae.Cf.known (.cons Ae.Mul.known (.cons Ae.Bp.known (.cons Ae.Sqrt.known .nil))))))) fun x hp=>by
  obtain ⟨hx,hl⟩:=Af.1 (show (Cu x&&Cn (List.length x≤64))=true from hp)
  have hl:=Ao.1 hl
  refine ⟨65,Ae.Norm.out [.l x],[],?_,Wk.Gd (.cons .int (.cons .int .nil))⟩
  show _=some (DV.tup [.int .u64 (Ea x),.int .i64 0])
  rw [Ae.Norm.ev,Ar,Aq3 (by omega),Aq2,hx,Aqy,P0,Bool.or_true,Aqy]
  unfold Ea
  by_cases h:Bm x=0∨C9 (Bm x)=false
  · have:((Bm x==(0:Int))||(!(C9 (Bm x))))=true:=by
      rcases h with h | h
      · rw [h]; rfl
      · rw [h,Bool.not_false,Bool.or_true]
    rw [this,Aqy,if_pos h]
  · have:((Bm x==(0:Int))||(!(C9 (Bm x))))=false:=by
      rw [Bool.or_eq_false_iff,beq_eq_false_iff_ne,Bool.not_eq_false']
      refine ⟨fun h0=>h (.inl h0),?_⟩
      cases hf:C9 (Bm x) with
      | true=>rfl
      | false=>exact absurd (.inr hf) h
    rw [this,Aq2,Aqy,if_neg h]
    exact Ae0 65 hx (by omega) x.length 0 65 0 (by omega) (by omega) Iv
end Go.Proofs.S1
namespace Go.Rnd
open Go.Den
end Go.Rnd
namespace Go.Proofs.S1
open Go Go.Den Go.Rnd Go.Proofs
set_option maxRecDepth 100000
namespace EqLdx
end EqLdx
open EqLdx
open EqLdx
namespace EqRef08
end EqRef08
namespace EqRef13
end EqRef13
open EqRef08 EqRef13
namespace EqOf
def Aa.of.B3.hint:Nat→Option A5
  | 0=>some { keep:=[1,2,6,7,13,14],objs:=[(8,2,108002,.ints 37 .u64 [])],boxes:=[6,7] }
  | 2=>some { keep:=[1,2,6,7,8,13,14,17,18],objs:=[(8,2,108002,.ints 37 .u64 [])],boxes:=[6,7] }
  | _=>none
def Aa.of.B3.Ba:List (Nat × Entry):=[(205,Aa.Dl.spec)]
def Aa.of.B3.E:Env:=Bb (A9 Aa.of.B3.Ba) (fun _=>false) Aa.of.B3.hint (fun _=>none)
def Aa.of.B3.L0 (N M:Nat) (a b p14:Int) (p2_1:List Int):Option DV:=B2 Aa.of.B3.E N Tryz.f187 (Am Tryz.f187) [1,1,0,1,0] [] M ⟨Fw 33 [(1,.int .i64 b),(2,.fn 205 [] []),(6,.ptr 6 0 0),(7,.ptr 7 0 0),(13,.int .i64 a),(14,.int .i64 p14)],[(6,false,.box [.int .i64 0,.int .i64 0,.nil]),(7,false,.box [.int .i64 a,.int .i64 b,.oref 108002]),(108002,false,.ints 37 .u64 p2_1)]⟩
def Aa.of.B3.L1 (N M0 M:Nat) (a b:Int) (p8 p14_1 p18:Int) (p2:List Int):Option DV:=B2 Aa.of.B3.E N Tryz.f187 (Am Tryz.f187) [1,1,0,1,0,0,1,1,0,0,1,1,0] [M0] M ⟨Fw 33 [(1,.int .i64 b),(2,.fn 205 [] []),(6,.ptr 6 0 0),(7,.ptr 7 0 0),(8,.int .i64 p8),(13,.int .i64 a),(14,.int .i64 p14_1),(17,.int .i64 b),(18,.int .i64 p18)],[(6,false,.box [.int .i64 0,.int .i64 0,.nil]),(7,false,.box [.int .i64 a,.int .i64 b,.oref 108002]),(108002,false,.ints 37 .u64 p2)]⟩
theorem Aa.of.B3.At (N M:Nat) (a b p14:Int) (p2_1:List Int):Aa.of.B3.L0 N (M+1) a b p14 p2_1=bif (A1 p14 a) then Aa.of.B3.L1 N M N a b p14 p14 0 p2_1 else some (.agg [.int .i64 a,.int .i64 b,.ints (.own 108002 37) .u64 p2_1]):=by kernel_rfl
theorem Aa.of.B3.Cb (N M0 M:Nat) (a b:Int) (p8 p14_1 p18:Int) (p2:List Int):Aa.of.B3.L1 N M0 (M+1) a b p8 p14_1 p18 p2=bif (A1 p18 b) then bif (decide ((List.length p2)+1≤Gv)) then Aa.of.B3.L1 N M0 M a b p8 p14_1 (Ab (p18+1)) (p2++[(0:Int)]) else none else Aa.of.B3.L0 N M0 a b (Ab (p14_1+1)) p2 :=
  Eq.trans (by kernel_rfl)
  (E2 (Cy (Cz (decide ((List.length p2)+1≤Gv))) rfl rfl) rfl)
theorem Aa.of.B3.ev (N:Nat) (a b:Int):Bv Aa.of.B3.E N Tryz.f187 (Am Tryz.f187) [.int .i64 a,.int .i64 b,.fn 205 [] []] =
  Aa.of.B3.L0 N N a b 0 []:=by kernel_rfl
def Aa.of.Gs.hint:Nat→Option A5
  | 0=>some { keep:=[1,2,6,7,13,14],objs:=[(8,2,108002,.ints 37 .u64 [])],boxes:=[6,7] }
  | 2=>some { keep:=[1,2,6,7,8,13,14,17,18],objs:=[(8,2,108002,.ints 37 .u64 [])],boxes:=[6,7] }
  | _=>none
def Aa.of.Gs.Ba:List (Nat × Entry):=[(246,Aa.Gr.spec)]
def Aa.of.Gs.E:Env:=Bb (A9 Aa.of.Gs.Ba) (fun _=>false) Aa.of.Gs.hint (fun _=>none)
def Aa.of.Gs.L0 (N M:Nat) (a b p14:Int) (p2_1:List Int):Option DV:=B2 Aa.of.Gs.E N Tryz.f187 (Am Tryz.f187) [1,1,0,1,0] [] M ⟨Fw 33 [(1,.int .i64 b),(2,.fn 246 [] []),(6,.ptr 6 0 0),(7,.ptr 7 0 0),(13,.int .i64 a),(14,.int .i64 p14)],[(6,false,.box [.int .i64 0,.int .i64 0,.nil]),(7,false,.box [.int .i64 a,.int .i64 b,.oref 108002]),(108002,false,.ints 37 .u64 p2_1)]⟩
def Aa.of.Gs.L1 (N M0 M:Nat) (a b:Int) (p8 p14_1 p18:Int) (p2:List Int):Option DV:=B2 Aa.of.Gs.E N Tryz.f187 (Am Tryz.f187) [1,1,0,1,0,0,1,1,0,0,1,1,0] [M0] M ⟨Fw 33 [(1,.int .i64 b),(2,.fn 246 [] []),(6,.ptr 6 0 0),(7,.ptr 7 0 0),(8,.int .i64 p8),(13,.int .i64 a),(14,.int .i64 p14_1),(17,.int .i64 b),(18,.int .i64 p18)],[(6,false,.box [.int .i64 0,.int .i64 0,.nil]),(7,false,.box [.int .i64 a,.int .i64 b,.oref 108002]),(108002,false,.ints 37 .u64 p2)]⟩
theorem Aa.of.Gs.At (N M:Nat) (a b p14:Int) (p2_1:List Int):Aa.of.Gs.L0 N (M+1) a b p14 p2_1=bif (A1 p14 a) then Aa.of.Gs.L1 N M N a b p14 p14 0 p2_1 else some (.agg [.int .i64 a,.int .i64 b,.ints (.own 108002 37) .u64 p2_1]):=by kernel_rfl
theorem Aa.of.Gs.Cb (N M0 M:Nat) (a b:Int) (p8 p14_1 p18:Int) (p2:List Int):Aa.of.Gs.L1 N M0 (M+1) a b p8 p14_1 p18 p2=bif (A1 p18 b) then bif (decide ((List.length p2)+1≤Gv)) then Aa.of.Gs.L1 N M0 M a b p8 p14_1 (Ab (p18+1)) (p2++[(R0 p8 p18)]) else none else Aa.of.Gs.L0 N M0 a b (Ab (p14_1+1)) p2 :=
  Eq.trans (by kernel_rfl)
  (E2 (Cy (Cz (decide ((List.length p2)+1≤Gv))) rfl rfl) rfl)
theorem Aa.of.Gs.ev (N:Nat) (a b:Int):Bv Aa.of.Gs.E N Tryz.f187 (Am Tryz.f187) [.int .i64 a,.int .i64 b,.fn 246 [] []] =
  Aa.of.Gs.L0 N N a b 0 []:=by kernel_rfl
abbrev _root_.Go.Proofs.S1.Aa.of.Gs.Kn:=A4 Tryz.prog 187 Aa.of.Gs.spec
theorem Aa.of.Gs.Ad (hk:Ax Tryz.prog Aa.of.Gs.Ba) (h:∀ (a b:Int),Aa.of.Gs.pre [.i a,.i b]=true→Bc Aa.of.Gs.E Tryz.f187 [.int .i64 a,.int .i64 b,.fn 246 [] []] (Aa.of.Gs.out [.i a,.i b])):Aa.of.Gs.Kn :=
  Al (Ay hk _ _ _) Tryz.func187 (by kernel_rfl) (by kernel_rfl) h
def Aa.of.C3.hint:Nat→Option A5
  | 0=>some { keep:=[1,2,6,7,13,14],objs:=[(8,2,108002,.ints 37 .u64 [])],boxes:=[6,7] }
  | 2=>some { keep:=[1,2,6,7,8,13,14,17,18],objs:=[(8,2,108002,.ints 37 .u64 [])],boxes:=[6,7] }
  | _=>none
def Aa.of.C3.Ba:List (Nat × Entry):=[(220,Aa.Et.spec)]
def Aa.of.C3.E:Env:=Bb (A9 Aa.of.C3.Ba) (fun _=>false) Aa.of.C3.hint (fun _=>none)
def Aa.of.C3.L0 (N M:Nat) (a b:Int) (r c:Int) (l:List Int) (p14:Int) (p2_1:List Int):Option DV:=B2 Aa.of.C3.E N Tryz.f187 (Am Tryz.f187) [1,1,0,1,0] [] M ⟨Fw 33 [(1,.int .i64 b),(2,.fn 220 [] [.cellp [.int .i64 r,.int .i64 c,.ints .arg .u64 l]]),(6,.ptr 6 0 0),(7,.ptr 7 0 0),(13,.int .i64 a),(14,.int .i64 p14)],[(6,false,.box [.int .i64 0,.int .i64 0,.nil]),(7,false,.box [.int .i64 a,.int .i64 b,.oref 108002]),(108002,false,.ints 37 .u64 p2_1)]⟩
def Aa.of.C3.L1 (N M0 M:Nat) (a b:Int) (r c:Int) (l:List Int) (p8 p14_1 p18:Int) (p2:List Int):Option DV:=B2 Aa.of.C3.E N Tryz.f187 (Am Tryz.f187) [1,1,0,1,0,0,1,1,0,0,1,1,0] [M0] M ⟨Fw 33 [(1,.int .i64 b),(2,.fn 220 [] [.cellp [.int .i64 r,.int .i64 c,.ints .arg .u64 l]]),(6,.ptr 6 0 0),(7,.ptr 7 0 0),(8,.int .i64 p8),(13,.int .i64 a),(14,.int .i64 p14_1),(17,.int .i64 b),(18,.int .i64 p18)],[(6,false,.box [.int .i64 0,.int .i64 0,.nil]),(7,false,.box [.int .i64 a,.int .i64 b,.oref 108002]),(108002,false,.ints 37 .u64 p2)]⟩
theorem Aa.of.C3.At (N M:Nat) (a b:Int) (r c:Int) (l:List Int) (p14:Int) (p2_1:List Int):Aa.of.C3.L0 N (M+1) a b r c l p14 p2_1=bif (A1 p14 a) then Aa.of.C3.L1 N M N a b r c l p14 p14 0 p2_1 else some (.agg [.int .i64 a,.int .i64 b,.ints (.own 108002 37) .u64 p2_1]):=by kernel_rfl
theorem Aa.of.C3.Cb (N M0 M:Nat) (a b:Int) (r c:Int) (l:List Int) (p8 p14_1 p18:Int) (p2:List Int):Aa.of.C3.L1 N M0 (M+1) a b r c l p8 p14_1 p18 p2=bif (A1 p18 b) then bif (D2 r c l p18 p8) then bif (decide ((List.length p2)+1≤Gv)) then Aa.of.C3.L1 N M0 M a b r c l p8 p14_1 (Ab (p18+1)) (p2++[(Eh c l p18 p8)]) else none else none else Aa.of.C3.L0 N M0 a b r c l (Ab (p14_1+1)) p2 :=
  Eq.trans (by kernel_rfl)
  (E2 (Cy (Cz (D2 r c l p18 p8)) (Cy (Cz (decide ((List.length p2)+1≤Gv))) rfl rfl) rfl) rfl)
theorem Aa.of.C3.ev (N:Nat) (a b:Int) (r c:Int) (l:List Int):Bv Aa.of.C3.E N Tryz.f187 (Am Tryz.f187) [.int .i64 a,.int .i64 b,.fn 220 [] [.cellp [.int .i64 r,.int .i64 c,.ints .arg .u64 l]]] =
  Aa.of.C3.L0 N N a b r c l 0 []:=by kernel_rfl
abbrev _root_.Go.Proofs.S1.Aa.of.C3.Kn:=A4 Tryz.prog 187 Aa.of.C3.spec
theorem Aa.of.C3.Ad (hk:Ax Tryz.prog Aa.of.C3.Ba) (h:∀ (a b:Int) (r c:Int) (l:List Int),Aa.of.C3.pre [.i a,.i b,.i r,.i c,.l l]=true→Bc Aa.of.C3.E Tryz.f187 [.int .i64 a,.int .i64 b,.fn 220 [] [.cellp [.int .i64 r,.int .i64 c,.ints .arg .u64 l]]] (Aa.of.C3.out [.i a,.i b,.i r,.i c,.l l])):Aa.of.C3.Kn :=
  Al (Ay hk _ _ _) Tryz.func187 (by kernel_rfl) (by kernel_rfl) h
def Aa.of.Part.hint:Nat→Option A5
  | 0=>some { keep:=[1,2,6,7,13,14],objs:=[(8,2,108002,.ints 37 .u64 [])],boxes:=[6,7] }
  | 2=>some { keep:=[1,2,6,7,8,13,14,17,18],objs:=[(8,2,108002,.ints 37 .u64 [])],boxes:=[6,7] }
  | _=>none
def Aa.of.Part.Ba:List (Nat × Entry):=[(192,Aa.Ev.spec)]
def Aa.of.Part.E:Env:=Bb (A9 Aa.of.Part.Ba) (fun _=>false) Aa.of.Part.hint (fun _=>none)
def Aa.of.Part.L0 (N M:Nat) (a b:Int) (r c:Int) (l:List Int) (x y p14:Int) (p2_1:List Int):Option DV:=B2 Aa.of.Part.E N Tryz.f187 (Am Tryz.f187) [1,1,0,1,0] [] M ⟨Fw 33 [(1,.int .i64 b),(2,.fn 192 [] [.cellp [.int .i64 r,.int .i64 c,.ints .arg .u64 l],.cellp [.int .i64 x],.cellp [.int .i64 y]]),(6,.ptr 6 0 0),(7,.ptr 7 0 0),(13,.int .i64 a),(14,.int .i64 p14)],[(6,false,.box [.int .i64 0,.int .i64 0,.nil]),(7,false,.box [.int .i64 a,.int .i64 b,.oref 108002]),(108002,false,.ints 37 .u64 p2_1)]⟩
def Aa.of.Part.L1 (N M0 M:Nat) (a b:Int) (r c:Int) (l:List Int) (x y:Int) (p8 p14_1 p18:Int) (p2:List Int):Option DV:=B2 Aa.of.Part.E N Tryz.f187 (Am Tryz.f187) [1,1,0,1,0,0,1,1,0,0,1,1,0] [M0] M ⟨Fw 33 [(1,.int .i64 b),(2,.fn 192 [] [.cellp [.int .i64 r,.int .i64 c,.ints .arg .u64 l],.cellp [.int .i64 x],.cellp [.int .i64 y]]),(6,.ptr 6 0 0),(7,.ptr 7 0 0),(8,.int .i64 p8),(13,.int .i64 a),(14,.int .i64 p14_1),(17,.int .i64 b),(18,.int .i64 p18)],[(6,false,.box [.int .i64 0,.int .i64 0,.nil]),(7,false,.box [.int .i64 a,.int .i64 b,.oref 108002]),(108002,false,.ints 37 .u64 p2)]⟩
theorem Aa.of.Part.At (N M:Nat) (a b:Int) (r c:Int) (l:List Int) (x y p14:Int) (p2_1:List Int):Aa.of.Part.L0 N (M+1) a b r c l x y p14 p2_1=bif (A1 p14 a) then Aa.of.Part.L1 N M N a b r c l x y p14 p14 0 p2_1 else some (.agg [.int .i64 a,.int .i64 b,.ints (.own 108002 37) .u64 p2_1]):=by kernel_rfl
theorem Aa.of.Part.Cb (N M0 M:Nat) (a b:Int) (r c:Int) (l:List Int) (x y:Int) (p8 p14_1 p18:Int) (p2:List Int):Aa.of.Part.L1 N M0 (M+1) a b r c l x y p8 p14_1 p18 p2=bif (A1 p18 b) then bif (D2 r c l (x+p8) (y+p18)&&Rj x y p8 p18) then bif (decide ((List.length p2)+1≤Gv)) then Aa.of.Part.L1 N M0 M a b r c l x y p8 p14_1 (Ab (p18+1)) (p2++[(Eh c l (x+p8) (y+p18))]) else none else none else Aa.of.Part.L0 N M0 a b r c l x y (Ab (p14_1+1)) p2 :=
  Eq.trans (by kernel_rfl)
  (E2 (Cy (Cz (D2 r c l (x+p8) (y+p18)&&Rj x y p8 p18)) (Cy (Cz (decide ((List.length p2)+1≤Gv))) rfl rfl) rfl) rfl)
theorem Aa.of.Part.ev (N:Nat) (a b:Int) (r c:Int) (l:List Int) (x y:Int):Bv Aa.of.Part.E N Tryz.f187 (Am Tryz.f187) [.int .i64 a,.int .i64 b,.fn 192 [] [.cellp [.int .i64 r,.int .i64 c,.ints .arg .u64 l],.cellp [.int .i64 x],.cellp [.int .i64 y]]] =
  Aa.of.Part.L0 N N a b r c l x y 0 []:=by kernel_rfl
abbrev _root_.Go.Proofs.S1.Aa.of.Part.Kn:=A4 Tryz.prog 187 Aa.of.Part.spec
theorem Aa.of.Part.Ad (hk:Ax Tryz.prog Aa.of.Part.Ba) (h:∀ (a b:Int) (r c:Int) (l:List Int) (x y:Int),Aa.of.Part.pre [.i a,.i b,.i r,.i c,.l l,.i x,.i y]=true→Bc Aa.of.Part.E Tryz.f187 [.int .i64 a,.int .i64 b,.fn 192 [] [.cellp [.int .i64 r,.int .i64 c,.ints .arg .u64 l],.cellp [.int .i64 x],.cellp [.int .i64 y]]] (Aa.of.Part.out [.i a,.i b,.i r,.i c,.l l,.i x,.i y])):Aa.of.Part.Kn :=
  Al (Ay hk _ _ _) Tryz.func187 (by kernel_rfl) (by kernel_rfl) h
def Aa.of.Sub.hint:Nat→Option A5
  | 0=>some { keep:=[1,2,6,7,13,14],objs:=[(8,2,108002,.ints 37 .u64 [])],boxes:=[6,7] }
  | 2=>some { keep:=[1,2,6,7,8,13,14,17,18],objs:=[(8,2,108002,.ints 37 .u64 [])],boxes:=[6,7] }
  | _=>none
def Aa.of.Sub.Ba:List (Nat × Entry):=[(194,Aa.Gl.spec)]
def Aa.of.Sub.E:Env:=Bb (A9 Aa.of.Sub.Ba) (fun _=>false) Aa.of.Sub.hint (fun _=>none)
def Aa.of.Sub.L0 (N M:Nat) (a b:Int) (r c:Int) (l:List Int) (p q:Int) (m:List Int) (p14:Int) (p2_1:List Int):Option DV:=B2 Aa.of.Sub.E N Tryz.f187 (Am Tryz.f187) [1,1,0,1,0] [] M ⟨Fw 33 [(1,.int .i64 b),(2,.fn 194 [] [.cellp [.int .i64 r,.int .i64 c,.ints .arg .u64 l],.cellp [.int .i64 p,.int .i64 q,.ints .arg .u64 m]]),(6,.ptr 6 0 0),(7,.ptr 7 0 0),(13,.int .i64 a),(14,.int .i64 p14)],[(6,false,.box [.int .i64 0,.int .i64 0,.nil]),(7,false,.box [.int .i64 a,.int .i64 b,.oref 108002]),(108002,false,.ints 37 .u64 p2_1)]⟩
def Aa.of.Sub.L1 (N M0 M:Nat) (a b:Int) (r c:Int) (l:List Int) (p q:Int) (m:List Int) (p8 p14_1 p18:Int) (p2:List Int):Option DV:=B2 Aa.of.Sub.E N Tryz.f187 (Am Tryz.f187) [1,1,0,1,0,0,1,1,0,0,1,1,0] [M0] M ⟨Fw 33 [(1,.int .i64 b),(2,.fn 194 [] [.cellp [.int .i64 r,.int .i64 c,.ints .arg .u64 l],.cellp [.int .i64 p,.int .i64 q,.ints .arg .u64 m]]),(6,.ptr 6 0 0),(7,.ptr 7 0 0),(8,.int .i64 p8),(13,.int .i64 a),(14,.int .i64 p14_1),(17,.int .i64 b),(18,.int .i64 p18)],[(6,false,.box [.int .i64 0,.int .i64 0,.nil]),(7,false,.box [.int .i64 a,.int .i64 b,.oref 108002]),(108002,false,.ints 37 .u64 p2)]⟩
theorem Aa.of.Sub.At (N M:Nat) (a b:Int) (r c:Int) (l:List Int) (p q:Int) (m:List Int) (p14:Int) (p2_1:List Int):Aa.of.Sub.L0 N (M+1) a b r c l p q m p14 p2_1=bif (A1 p14 a) then Aa.of.Sub.L1 N M N a b r c l p q m p14 p14 0 p2_1 else some (.agg [.int .i64 a,.int .i64 b,.ints (.own 108002 37) .u64 p2_1]):=by kernel_rfl
theorem Aa.of.Sub.Cb (N M0 M:Nat) (a b:Int) (r c:Int) (l:List Int) (p q:Int) (m:List Int) (p8 p14_1 p18:Int) (p2:List Int):Aa.of.Sub.L1 N M0 (M+1) a b r c l p q m p8 p14_1 p18 p2=bif (A1 p18 b) then bif (((D2 r c l p8 p18&&D2 p q m p8 p18)&&Ah l)&&Ah m) then bif (decide ((List.length p2)+1≤Gv)) then Aa.of.Sub.L1 N M0 M a b r c l p q m p8 p14_1 (Ab (p18+1)) (p2++[(Dm (Eh c l p8 p18) (Eh q m p8 p18))]) else none else none else Aa.of.Sub.L0 N M0 a b r c l p q m (Ab (p14_1+1)) p2 :=
  Eq.trans (by kernel_rfl)
  (E2 (Cy (Cz (((D2 r c l p8 p18&&D2 p q m p8 p18)&&Ah l)&&Ah m)) (Cy (Cz (decide ((List.length p2)+1≤Gv))) rfl rfl) rfl) rfl)
theorem Aa.of.Sub.ev (N:Nat) (a b:Int) (r c:Int) (l:List Int) (p q:Int) (m:List Int):Bv Aa.of.Sub.E N Tryz.f187 (Am Tryz.f187) [.int .i64 a,.int .i64 b,.fn 194 [] [.cellp [.int .i64 r,.int .i64 c,.ints .arg .u64 l],.cellp [.int .i64 p,.int .i64 q,.ints .arg .u64 m]]] =
  Aa.of.Sub.L0 N N a b r c l p q m 0 []:=by kernel_rfl
abbrev _root_.Go.Proofs.S1.Aa.of.Sub.Kn:=A4 Tryz.prog 187 Aa.of.Sub.spec
theorem Aa.of.Sub.Ad (hk:Ax Tryz.prog Aa.of.Sub.Ba) (h:∀ (a b:Int) (r c:Int) (l:List Int) (p q:Int) (m:List Int),Aa.of.Sub.pre [.i a,.i b,.i r,.i c,.l l,.i p,.i q,.l m]=true→Bc Aa.of.Sub.E Tryz.f187 [.int .i64 a,.int .i64 b,.fn 194 [] [.cellp [.int .i64 r,.int .i64 c,.ints .arg .u64 l],.cellp [.int .i64 p,.int .i64 q,.ints .arg .u64 m]]] (Aa.of.Sub.out [.i a,.i b,.i r,.i c,.l l,.i p,.i q,.l m])):Aa.of.Sub.Kn :=
  Al (Ay hk _ _ _) Tryz.func187 (by kernel_rfl) (by kernel_rfl) h
def Aa.of.Mul.hint:Nat→Option A5
  | 0=>some { keep:=[1,2,6,7,13,14],objs:=[(8,2,108002,.ints 37 .u64 [])],boxes:=[6,7] }
  | 2=>some { keep:=[1,2,6,7,8,13,14,17,18],objs:=[(8,2,108002,.ints 37 .u64 [])],boxes:=[6,7] }
  | _=>none
def Aa.of.Mul.Ba:List (Nat × Entry):=[(188,Aa.Gn.spec)]
def Aa.of.Mul.E:Env:=Bb (A9 Aa.of.Mul.Ba) (fun _=>false) Aa.of.Mul.hint (fun _=>none)
def Aa.of.Mul.L0 (N M:Nat) (a b:Int) (r c:Int) (l:List Int) (p q:Int) (m:List Int) (p14:Int) (p2_1:List Int):Option DV:=B2 Aa.of.Mul.E N Tryz.f187 (Am Tryz.f187) [1,1,0,1,0] [] M ⟨Fw 33 [(1,.int .i64 b),(2,.fn 188 [] [.cellp [.int .i64 r,.int .i64 c,.ints .arg .u64 l],.cellp [.int .i64 p,.int .i64 q,.ints .arg .u64 m]]),(6,.ptr 6 0 0),(7,.ptr 7 0 0),(13,.int .i64 a),(14,.int .i64 p14)],[(6,false,.box [.int .i64 0,.int .i64 0,.nil]),(7,false,.box [.int .i64 a,.int .i64 b,.oref 108002]),(108002,false,.ints 37 .u64 p2_1)]⟩
def Aa.of.Mul.L1 (N M0 M:Nat) (a b:Int) (r c:Int) (l:List Int) (p q:Int) (m:List Int) (p8 p14_1 p18:Int) (p2:List Int):Option DV:=B2 Aa.of.Mul.E N Tryz.f187 (Am Tryz.f187) [1,1,0,1,0,0,1,1,0,0,1,1,0] [M0] M ⟨Fw 33 [(1,.int .i64 b),(2,.fn 188 [] [.cellp [.int .i64 r,.int .i64 c,.ints .arg .u64 l],.cellp [.int .i64 p,.int .i64 q,.ints .arg .u64 m]]),(6,.ptr 6 0 0),(7,.ptr 7 0 0),(8,.int .i64 p8),(13,.int .i64 a),(14,.int .i64 p14_1),(17,.int .i64 b),(18,.int .i64 p18)],[(6,false,.box [.int .i64 0,.int .i64 0,.nil]),(7,false,.box [.int .i64 a,.int .i64 b,.oref 108002]),(108002,false,.ints 37 .u64 p2)]⟩
theorem Aa.of.Mul.At (N M:Nat) (a b:Int) (r c:Int) (l:List Int) (p q:Int) (m:List Int) (p14:Int) (p2_1:List Int):Aa.of.Mul.L0 N (M+1) a b r c l p q m p14 p2_1=bif (A1 p14 a) then Aa.of.Mul.L1 N M N a b r c l p q m p14 p14 0 p2_1 else some (.agg [.int .i64 a,.int .i64 b,.ints (.own 108002 37) .u64 p2_1]):=by kernel_rfl
theorem Aa.of.Mul.Cb (N M0 M:Nat) (a b:Int) (r c:Int) (l:List Int) (p q:Int) (m:List Int) (p8 p14_1 p18:Int) (p2:List Int):Aa.of.Mul.L1 N M0 (M+1) a b r c l p q m p8 p14_1 p18 p2=bif (A1 p18 b) then bif (Pm r c l p q m p8 p18) then bif (decide ((List.length p2)+1≤Gv)) then Aa.of.Mul.L1 N M0 M a b r c l p q m p8 p14_1 (Ab (p18+1)) (p2++[(Ov (La c l p8) (Pv p q m p18))]) else none else none else Aa.of.Mul.L0 N M0 a b r c l p q m (Ab (p14_1+1)) p2 :=
  Eq.trans (by kernel_rfl)
  (E2 (Cy (Cz (Pm r c l p q m p8 p18)) (Cy (Cz (decide ((List.length p2)+1≤Gv))) rfl rfl) rfl) rfl)
theorem Aa.of.Mul.ev (N:Nat) (a b:Int) (r c:Int) (l:List Int) (p q:Int) (m:List Int):Bv Aa.of.Mul.E N Tryz.f187 (Am Tryz.f187) [.int .i64 a,.int .i64 b,.fn 188 [] [.cellp [.int .i64 r,.int .i64 c,.ints .arg .u64 l],.cellp [.int .i64 p,.int .i64 q,.ints .arg .u64 m]]] =
  Aa.of.Mul.L0 N N a b r c l p q m 0 []:=by kernel_rfl
abbrev _root_.Go.Proofs.S1.Aa.of.Mul.Kn:=A4 Tryz.prog 187 Aa.of.Mul.spec
theorem Aa.of.Mul.Ad (hk:Ax Tryz.prog Aa.of.Mul.Ba) (h:∀ (a b:Int) (r c:Int) (l:List Int) (p q:Int) (m:List Int),Aa.of.Mul.pre [.i a,.i b,.i r,.i c,.l l,.i p,.i q,.l m]=true→Bc Aa.of.Mul.E Tryz.f187 [.int .i64 a,.int .i64 b,.fn 188 [] [.cellp [.int .i64 r,.int .i64 c,.ints .arg .u64 l],.cellp [.int .i64 p,.int .i64 q,.ints .arg .u64 m]]] (Aa.of.Mul.out [.i a,.i b,.i r,.i c,.l l,.i p,.i q,.l m])):Aa.of.Mul.Kn :=
  Al (Ay hk _ _ _) Tryz.func187 (by kernel_rfl) (by kernel_rfl) h
def Aa.Gs.Ba:List (Nat × Entry):=[(187,Aa.of.Gs.spec),(204,Aa.size.spec)]
def Aa.Gs.E:Env:=Bb (A9 Aa.Gs.Ba) (fun _=>false) (fun _=>none) (fun _=>none)
theorem Aa.Gs.ev (N:Nat) (n:Int):Bv Aa.Gs.E N Tryz.f218 (Am Tryz.f218) [.int .i64 n]=bif (!(Bl n)) then some (.tup [.agg [.int .i64 0,.int .i64 0,.nil],.int .i64 3]) else bif ((Bl n&&Bl n)) then some (.tup [.agg [.int .i64 n,.int .i64 n,.ints .fresh .u64 (Cq (Int.toNat n) (Int.toNat n) (fun j1 j2=>R0 j1 j2))],.int .i64 0]) else none:=by kernel_rfl
abbrev _root_.Go.Proofs.S1.Aa.Gs.Kn:=A4 Tryz.prog 218 Aa.Gs.spec
theorem Aa.Gs.Ad (hk:Ax Tryz.prog Aa.Gs.Ba) (h:∀ (n:Int),Aa.Gs.pre [.i n]=true→Bc Aa.Gs.E Tryz.f218 [.int .i64 n] (Aa.Gs.out [.i n])):Aa.Gs.Kn :=
  Al (Ay hk _ _ _) Tryz.func218 (by kernel_rfl) (by kernel_rfl) h
def Aa.C3.Ba:List (Nat × Entry):=[(160,Aa.Check.spec),(187,Aa.of.C3.spec)]
def Aa.C3.E:Env:=Bb (A9 Aa.C3.Ba) (fun _=>false) (fun _=>none) (fun _=>none)
theorem Aa.C3.ev (N:Nat) (r c:Int) (l:List Int):Bv Aa.C3.E N Tryz.f167 (Am Tryz.f167) [.agg [.int .i64 r,.int .i64 c,.ints .arg .u64 l]]=bif ((It r c l) !=(0:Int)) then some (.tup [.agg [.int .i64 0,.int .i64 0,.nil],.int .i64 (It r c l)]) else bif ((Bl c&&Bl r)&&Bf r c l&&decide (c=c∧r=r)) then some (.tup [.agg [.int .i64 c,.int .i64 r,.ints .fresh .u64 (Cq (Int.toNat c) (Int.toNat r) (fun j1 j2=>Eh c l j2 j1))],.int .i64 0]) else none:=by kernel_rfl
abbrev _root_.Go.Proofs.S1.Aa.C3.Kn:=A4 Tryz.prog 167 Aa.C3.spec
theorem Aa.C3.Ad (hk:Ax Tryz.prog Aa.C3.Ba) (h:∀ (r c:Int) (l:List Int),Aa.C3.pre [.i r,.i c,.l l]=true→Bc Aa.C3.E Tryz.f167 [.agg [.int .i64 r,.int .i64 c,.ints .arg .u64 l]] (Aa.C3.out [.i r,.i c,.l l])):Aa.C3.Kn :=
  Al (Ay hk _ _ _) Tryz.func167 (by kernel_rfl) (by kernel_rfl) h
def Aa.Part.Ba:List (Nat × Entry):=[(160,Aa.Check.spec),(187,Aa.of.Part.spec)]
def Aa.Part.E:Env:=Bb (A9 Aa.Part.Ba) (fun _=>false) (fun _=>none) (fun _=>none)
theorem Aa.Part.ev (N:Nat) (r c:Int) (l:List Int) (x y:Int) (a b:Int):Bv Aa.Part.E N Tryz.f124 (Am Tryz.f124) [.agg [.int .i64 r,.int .i64 c,.ints .arg .u64 l],.int .i64 x,.int .i64 y,.int .i64 a,.int .i64 b]=bif ((It r c l) !=(0:Int)) then some (.tup [.agg [.int .i64 0,.int .i64 0,.nil],.int .i64 (It r c l)]) else bif ((((((((A1 x 0)||(A1 y 0))||(A1 a 0))||(A1 b 0))||(A1 r x))||(A1 c y))||(A1 (Ab (r-x)) a))||(A1 (Ab (c-y)) b)) then some (.tup [.agg [.int .i64 0,.int .i64 0,.nil],.int .i64 3]) else bif ((Bl a&&Bl b)&&Bf r c l&&O0 r c x y a b) then some (.tup [.agg [.int .i64 a,.int .i64 b,.ints .fresh .u64 (Cq (Int.toNat a) (Int.toNat b) (fun j1 j2=>Eh c l (x+j1) (y+j2)))],.int .i64 0]) else none :=
  Eq.trans (by kernel_rfl)
  (E2 rfl (Ap (Tq (A1 x 0)) (Ap (Rd (A1 x 0)) (Ap (Y8 (A1 x 0)) (Ap (Ad9 (A1 x 0) (A1 y 0)) (Ap (Xb (A1 x 0) (A1 y 0)) (Ap (Aj5 (A1 x 0) (A1 y 0)) (Ap (Aea (A1 x 0) (A1 y 0) (A1 a 0)) (Ap (Aeb (A1 x 0) (A1 y 0) (A1 a 0)) (Ap (Aj6 (A1 x 0) (A1 y 0) (A1 a 0)) (Ap (Vh (A1 x 0) (A1 y 0) (A1 a 0) (A1 b 0)) (Ap (Vh (A1 x 0) (A1 y 0) (A1 a 0) (A1 b 0)) (Ap (Vi (A1 x 0) (A1 y 0) (A1 a 0) (A1 b 0)) (Ap (Aec (A1 x 0) (A1 y 0) (A1 a 0) (A1 b 0)) (Ap (Aj7 (A1 x 0) (A1 y 0) (A1 a 0) (A1 b 0)) (Ap (Apo (A1 x 0) (A1 y 0) (A1 a 0) (A1 b 0) (A1 r x)) (Ap (Apo (A1 x 0) (A1 y 0) (A1 a 0) (A1 b 0) (A1 r x)) (Ap (tt55 (A1 x 0) (A1 y 0) (A1 a 0) (A1 b 0) (A1 r x)) (Ap (tt54 (A1 x 0) (A1 y 0) (A1 a 0) (A1 b 0) (A1 r x)) (Ap (tt53 (A1 x 0) (A1 y 0) (A1 a 0) (A1 b 0) (A1 r x)) (Ap (Am5 (A1 x 0) (A1 y 0) (A1 a 0) (A1 b 0) (A1 r x) (A1 c y)) (Ap (Am5 (A1 x 0) (A1 y 0) (A1 a 0) (A1 b 0) (A1 r x) (A1 c y)) (Ap (tt52 (A1 x 0) (A1 y 0) (A1 a 0) (A1 b 0) (A1 r x) (A1 c y)) (Ap (Am5 (A1 x 0) (A1 y 0) (A1 a 0) (A1 b 0) (A1 r x) (A1 c y)) (Ap (Apq (A1 x 0) (A1 y 0) (A1 a 0) (A1 b 0) (A1 r x) (A1 c y)) (Ap (Apq (A1 x 0) (A1 y 0) (A1 a 0) (A1 b 0) (A1 r x) (A1 c y)) (Ap (tt49 (A1 x 0) (A1 y 0) (A1 a 0) (A1 b 0) (A1 r x) (A1 c y)) (Ap (Am6 (A1 x 0) (A1 y 0) (A1 a 0) (A1 b 0) (A1 r x) (A1 c y) (A1 (Ab (r-x)) a)) (Ap (Am6 (A1 x 0) (A1 y 0) (A1 a 0) (A1 b 0) (A1 r x) (A1 c y) (A1 (Ab (r-x)) a)) (Ap (tt48 (A1 x 0) (A1 y 0) (A1 a 0) (A1 b 0) (A1 r x) (A1 c y) (A1 (Ab (r-x)) a)) (Ap (Am6 (A1 x 0) (A1 y 0) (A1 a 0) (A1 b 0) (A1 r x) (A1 c y) (A1 (Ab (r-x)) a)) (Ap (Apr (A1 x 0) (A1 y 0) (A1 a 0) (A1 b 0) (A1 r x) (A1 c y) (A1 (Ab (r-x)) a)) (Ap (Apr (A1 x 0) (A1 y 0) (A1 a 0) (A1 b 0) (A1 r x) (A1 c y) (A1 (Ab (r-x)) a)) (Ap (tt45 (A1 x 0) (A1 y 0) (A1 a 0) (A1 b 0) (A1 r x) (A1 c y) (A1 (Ab (r-x)) a)) (Cy (tt44 (A1 x 0) (A1 y 0) (A1 a 0) (A1 b 0) (A1 r x) (A1 c y) (A1 (Ab (r-x)) a) (A1 (Ab (c-y)) b)) rfl rfl)))))))))))))))))))))))))))))))))))
abbrev _root_.Go.Proofs.S1.Aa.Part.Kn:=A4 Tryz.prog 124 Aa.Part.spec
theorem Aa.Part.Ad (hk:Ax Tryz.prog Aa.Part.Ba) (h:∀ (r c:Int) (l:List Int) (x y:Int) (a b:Int),Aa.Part.pre [.i r,.i c,.l l,.i x,.i y,.i a,.i b]=true→Bc Aa.Part.E Tryz.f124 [.agg [.int .i64 r,.int .i64 c,.ints .arg .u64 l],.int .i64 x,.int .i64 y,.int .i64 a,.int .i64 b] (Aa.Part.out [.i r,.i c,.l l,.i x,.i y,.i a,.i b])):Aa.Part.Kn :=
  Al (Ay hk _ _ _) Tryz.func124 (by kernel_rfl) (by kernel_rfl) h
def Aa.Sub.Ba:List (Nat × Entry):=[(187,Aa.of.Sub.spec),(186,Aa.two.spec)]
def Aa.Sub.E:Env:=Bb (A9 Aa.Sub.Ba) (fun _=>false) (fun _=>none) (fun _=>none)
theorem Aa.Sub.ev (N:Nat) (r c:Int) (l:List Int) (p q:Int) (m:List Int):Bv Aa.Sub.E N Tryz.f125 (Am Tryz.f125) [.agg [.int .i64 r,.int .i64 c,.ints .arg .u64 l],.agg [.int .i64 p,.int .i64 q,.ints .arg .u64 m]]=bif ((Tp r c l p q m) !=(0:Int)) then some (.tup [.agg [.int .i64 0,.int .i64 0,.nil],.int .i64 (Tp r c l p q m)]) else bif (!((r==p)&&(c==q))) then some (.tup [.agg [.int .i64 0,.int .i64 0,.nil],.int .i64 3]) else bif ((Bl r&&Bl c)&&((Bf r c l&&Bf p q m)&&(Ah l&&Ah m))&&decide (r=r∧c=c∧p=r∧q=c)) then some (.tup [.agg [.int .i64 r,.int .i64 c,.ints .fresh .u64 (Cq (Int.toNat r) (Int.toNat c) (fun j1 j2=>Dm (Eh c l j1 j2) (Eh q m j1 j2)))],.int .i64 0]) else none :=
  Eq.trans (by kernel_rfl)
  (E2 rfl (Cy (tt67 (r==p) (c==q)) rfl rfl))
abbrev _root_.Go.Proofs.S1.Aa.Sub.Kn:=A4 Tryz.prog 125 Aa.Sub.spec
theorem Aa.Sub.Ad (hk:Ax Tryz.prog Aa.Sub.Ba) (h:∀ (r c:Int) (l:List Int) (p q:Int) (m:List Int),Aa.Sub.pre [.i r,.i c,.l l,.i p,.i q,.l m]=true→Bc Aa.Sub.E Tryz.f125 [.agg [.int .i64 r,.int .i64 c,.ints .arg .u64 l],.agg [.int .i64 p,.int .i64 q,.ints .arg .u64 m]] (Aa.Sub.out [.i r,.i c,.l l,.i p,.i q,.l m])):Aa.Sub.Kn :=
  Al (Ay hk _ _ _) Tryz.func125 (by kernel_rfl) (by kernel_rfl) h
def Aa.Mul.Ba:List (Nat × Entry):=[(187,Aa.of.Mul.spec),(186,Aa.two.spec)]
def Aa.Mul.E:Env:=Bb (A9 Aa.Mul.Ba) (fun _=>false) (fun _=>none) (fun _=>none)
theorem Aa.Mul.ev (N:Nat) (r c:Int) (l:List Int) (p q:Int) (m:List Int):Bv Aa.Mul.E N Tryz.f123 (Am Tryz.f123) [.agg [.int .i64 r,.int .i64 c,.ints .arg .u64 l],.agg [.int .i64 p,.int .i64 q,.ints .arg .u64 m]]=bif ((Tp r c l p q m) !=(0:Int)) then some (.tup [.agg [.int .i64 0,.int .i64 0,.nil],.int .i64 (Tp r c l p q m)]) else bif (c !=p) then some (.tup [.agg [.int .i64 0,.int .i64 0,.nil],.int .i64 3]) else bif ((Bl r&&Bl q)&&((Bf r c l&&Bf p q m)&&(Ah l&&Ah m))&&decide (r=r∧q=q∧c=p)) then some (.tup [.agg [.int .i64 r,.int .i64 q,.ints .fresh .u64 (Cq (Int.toNat r) (Int.toNat q) (fun j1 j2=>Ov (La c l j1) (Pv p q m j2)))],.int .i64 0]) else none:=by kernel_rfl
abbrev _root_.Go.Proofs.S1.Aa.Mul.Kn:=A4 Tryz.prog 123 Aa.Mul.spec
theorem Aa.Mul.Ad (hk:Ax Tryz.prog Aa.Mul.Ba) (h:∀ (r c:Int) (l:List Int) (p q:Int) (m:List Int),Aa.Mul.pre [.i r,.i c,.l l,.i p,.i q,.l m]=true→Bc Aa.Mul.E Tryz.f123 [.agg [.int .i64 r,.int .i64 c,.ints .arg .u64 l],.agg [.int .i64 p,.int .i64 q,.ints .arg .u64 m]] (Aa.Mul.out [.i r,.i c,.l l,.i p,.i q,.l m])):Aa.Mul.Kn :=
  Al (Ay hk _ _ _) Tryz.func123 (by kernel_rfl) (by kernel_rfl) h
end EqOf
open EqOf
theorem of.B3.inner (N:Nat)  {A B:Nat} (hA:A≤6) (hB:B≤6) {F:Nat→Nat→Int} (hF:∀ i j:Nat,F i j=(0:Int)) {i:Nat} (hi:i<A):∀ (k j M0 M:Nat),j+k=B→k<M →
    Aa.of.B3.L1 N M0 M (A:Int) (B:Int) (i:Int) (i:Int) (j:Int) (Cq i B F++(List.range j).map (F i))=Aa.of.B3.L0 N M0 (A:Int) (B:Int) ((i+1:Nat):Int) (Cq (i+1) B F):=by
  intro k
  induction k with
  | zero =>
    intro j M0 M hj hM
    obtain ⟨M,rfl⟩:∃ G,M=G+1:=⟨M-1,by omega⟩
    obtain rfl:j=B:=by omega
    rw [Aa.of.B3.Cb,Ar,Aq3 (by omega),Aq2,An (by omega) (by omega),← J9]
    rfl
  | succ k ih =>
    intro j M0 M hj hM
    obtain ⟨M,rfl⟩:∃ G,M=G+1:=⟨M-1,by omega⟩
    have d:decide ((Cq i B F++(List.range j).map (F i)).length+1≤Gv)=true:=by
      refine Aqz ?_
      have:=Nat.mul_le_mul (show i≤6 by omega) hB
      rw [List.length_append,Bz,List.length_map,List.length_range]; unfold Gv; omega
    rw [Aa.of.B3.Cb,Ar,Aqz (by omega),Aqy,d,Aqy,An (by omega) (by omega),← hF i j]
    have:=ih (j+1) M0 M (by omega) (by omega)
    rw [H4,← List.append_assoc] at this
    exact this
theorem of.B3.outer (N:Nat)  {A B:Nat} (hA:A≤6) (hB:B≤6) (hN:6<N) {F:Nat→Nat→Int} (hF:∀ i j:Nat,F i j=(0:Int)):∀ (k i M:Nat),i+k=A→k<M →
    Aa.of.B3.L0 N M (A:Int) (B:Int) (i:Int) (Cq i B F)=some (.agg [.int .i64 (A:Int),.int .i64 (B:Int),.ints (.own 108002 tB) .u64 (Cq A B F)]):=by
  intro k
  induction k with
  | zero =>
    intro i M hi hM
    obtain ⟨M,rfl⟩:∃ G,M=G+1:=⟨M-1,by omega⟩
    obtain rfl:i=A:=by omega
    rw [Aa.of.B3.At,Ar,Aq3 (by omega),Aq2]
  | succ k ih =>
    intro i M hi hM
    obtain ⟨M,rfl⟩:∃ G,M=G+1:=⟨M-1,by omega⟩
    have n:=of.B3.inner N hA hB hF (show i<A by omega) B 0 M N (by omega) (by omega)
    rw [List.range_zero,List.map_nil,List.append_nil] at n
    rw [Aa.of.B3.At,Ar,Aqz (by omega),Aqy]
    exact n.trans (ih (i+1) M (by omega) (by omega))
theorem of.Gs.inner (N:Nat)  {A B:Nat} (hA:A≤6) (hB:B≤6) {F:Nat→Nat→Int} (hF:∀ i j:Nat,F i j=R0 (i:Int) (j:Int)) {i:Nat} (hi:i<A):∀ (k j M0 M:Nat),j+k=B→k<M →
    Aa.of.Gs.L1 N M0 M (A:Int) (B:Int) (i:Int) (i:Int) (j:Int) (Cq i B F++(List.range j).map (F i))=Aa.of.Gs.L0 N M0 (A:Int) (B:Int) ((i+1:Nat):Int) (Cq (i+1) B F):=by
  intro k
  induction k with
  | zero =>
    intro j M0 M hj hM
    obtain ⟨M,rfl⟩:∃ G,M=G+1:=⟨M-1,by omega⟩
    obtain rfl:j=B:=by omega
    rw [Aa.of.Gs.Cb,Ar,Aq3 (by omega),Aq2,An (by omega) (by omega),← J9]
    rfl
  | succ k ih =>
    intro j M0 M hj hM
    obtain ⟨M,rfl⟩:∃ G,M=G+1:=⟨M-1,by omega⟩
    have d:decide ((Cq i B F++(List.range j).map (F i)).length+1≤Gv)=true:=by
      refine Aqz ?_
      have:=Nat.mul_le_mul (show i≤6 by omega) hB
      rw [List.length_append,Bz,List.length_map,List.length_range]; unfold Gv; omega
    rw [Aa.of.Gs.Cb,Ar,Aqz (by omega),Aqy,d,Aqy,An (by omega) (by omega),← hF i j]
    have:=ih (j+1) M0 M (by omega) (by omega)
    rw [H4,← List.append_assoc] at this
    exact this
theorem of.Gs.outer (N:Nat)  {A B:Nat} (hA:A≤6) (hB:B≤6) (hN:6<N) {F:Nat→Nat→Int} (hF:∀ i j:Nat,F i j=R0 (i:Int) (j:Int)):∀ (k i M:Nat),i+k=A→k<M →
    Aa.of.Gs.L0 N M (A:Int) (B:Int) (i:Int) (Cq i B F)=some (.agg [.int .i64 (A:Int),.int .i64 (B:Int),.ints (.own 108002 tB) .u64 (Cq A B F)]):=by
  intro k
  induction k with
  | zero =>
    intro i M hi hM
    obtain ⟨M,rfl⟩:∃ G,M=G+1:=⟨M-1,by omega⟩
    obtain rfl:i=A:=by omega
    rw [Aa.of.Gs.At,Ar,Aq3 (by omega),Aq2]
  | succ k ih =>
    intro i M hi hM
    obtain ⟨M,rfl⟩:∃ G,M=G+1:=⟨M-1,by omega⟩
    have n:=of.Gs.inner N hA hB hF (show i<A by omega) B 0 M N (by omega) (by omega)
    rw [List.range_zero,List.map_nil,List.append_nil] at n
    rw [Aa.of.Gs.At,Ar,Aqz (by omega),Aqy]
    exact n.trans (ih (i+1) M (by omega) (by omega))
theorem Aa.of.Gs.known:Aa.of.Gs.Kn:=Aa.of.Gs.Ad (.cons Aa.Gr.known .nil) fun a b hp=>by
  have h1:(Bl a&&Bl b)=true:=hp
  obtain ⟨ha,hb⟩:=Af.1 h1
  obtain ⟨A,rfl,hA⟩:=F9 ha
  obtain ⟨B,rfl,hB⟩:=F9 hb
  refine ⟨8,.agg [.int .i64 (A:Int),.int .i64 (B:Int),.ints (.own 108002 tB) .u64 (Cq A B fun (i j:Nat)=>R0 (i:Int) (j:Int))],[108002],?_,Wk.Ig (.cons .int (.cons .int (.cons (.drop _ _ _ _ (List.mem_singleton.2 rfl)) .nil)))⟩
  rw [Aa.of.Gs.ev]
  have n:=of.Gs.outer 8 hA hB (by omega) (F:=fun (i j:Nat)=>R0 (i:Int) (j:Int)) (fun _ _=>rfl) A 0 8 (by omega) (by omega)
  rw [J8] at n
  exact n
theorem of.C3.inner (N:Nat) (r c:Int) (l:List Int) {A B:Nat} (hA:A≤6) (hB:B≤6) {F:Nat→Nat→Int} (hF:∀ i j:Nat,F i j=Eh c l (j:Int) (i:Int)) {i:Nat} (hi:i<A) (hp:∀ j:Nat,j<B→D2 r c l (j:Int) (i:Int)=true):∀ (k j M0 M:Nat),j+k=B→k<M →
    Aa.of.C3.L1 N M0 M (A:Int) (B:Int) r c l (i:Int) (i:Int) (j:Int) (Cq i B F++(List.range j).map (F i))=Aa.of.C3.L0 N M0 (A:Int) (B:Int) r c l ((i+1:Nat):Int) (Cq (i+1) B F):=by
  intro k
  induction k with
  | zero =>
    intro j M0 M hj hM
    obtain ⟨M,rfl⟩:∃ G,M=G+1:=⟨M-1,by omega⟩
    obtain rfl:j=B:=by omega
    rw [Aa.of.C3.Cb,Ar,Aq3 (by omega),Aq2,An (by omega) (by omega),← J9]
    rfl
  | succ k ih =>
    intro j M0 M hj hM
    obtain ⟨M,rfl⟩:∃ G,M=G+1:=⟨M-1,by omega⟩
    have d:decide ((Cq i B F++(List.range j).map (F i)).length+1≤Gv)=true:=by
      refine Aqz ?_
      have:=Nat.mul_le_mul (show i≤6 by omega) hB
      rw [List.length_append,Bz,List.length_map,List.length_range]; unfold Gv; omega
    rw [Aa.of.C3.Cb,Ar,Aqz (by omega),Aqy,hp j (by omega),Aqy,d,Aqy,An (by omega) (by omega),← hF i j]
    have:=ih (j+1) M0 M (by omega) (by omega)
    rw [H4,← List.append_assoc] at this
    exact this
theorem of.C3.outer (N:Nat) (r c:Int) (l:List Int) {A B:Nat} (hA:A≤6) (hB:B≤6) (hN:6<N) {F:Nat→Nat→Int} (hF:∀ i j:Nat,F i j=Eh c l (j:Int) (i:Int)) (hp:∀ i j:Nat,i<A→j<B→D2 r c l (j:Int) (i:Int)=true):∀ (k i M:Nat),i+k=A→k<M →
    Aa.of.C3.L0 N M (A:Int) (B:Int) r c l (i:Int) (Cq i B F)=some (.agg [.int .i64 (A:Int),.int .i64 (B:Int),.ints (.own 108002 tB) .u64 (Cq A B F)]):=by
  intro k
  induction k with
  | zero =>
    intro i M hi hM
    obtain ⟨M,rfl⟩:∃ G,M=G+1:=⟨M-1,by omega⟩
    obtain rfl:i=A:=by omega
    rw [Aa.of.C3.At,Ar,Aq3 (by omega),Aq2]
  | succ k ih =>
    intro i M hi hM
    obtain ⟨M,rfl⟩:∃ G,M=G+1:=⟨M-1,by omega⟩
    have n:=of.C3.inner N r c l hA hB hF (show i<A by omega) (fun j hj=>hp i j (by omega) hj) B 0 M N (by omega) (by omega)
    rw [List.range_zero,List.map_nil,List.append_nil] at n
    rw [Aa.of.C3.At,Ar,Aqz (by omega),Aqy]
    exact n.trans (ih (i+1) M (by omega) (by omega))
theorem Aa.of.C3.known:Aa.of.C3.Kn:=Aa.of.C3.Ad (.cons Aa.Et.known .nil) fun a b r c l hp=>by
  obtain ⟨h12,hy⟩:=Af.1 (show (((Bl a&&Bl b)&&Bf r c l)&&decide (a=c∧b=r))=true from hp)
  obtain ⟨h1,hx⟩:=Af.1 h12
  have h2:=Af.2 ⟨hx,hy⟩
  obtain ⟨ha,hb⟩:=Af.1 h1
  obtain ⟨A,rfl,hA⟩:=F9 ha
  obtain ⟨B,rfl,hB⟩:=F9 hb
  obtain ⟨hr,he⟩:=Af.1 h2
  obtain ⟨e1,e2⟩:=of_decide_eq_true he
  have hp:∀ i j:Nat,i<A→j<B→D2 r c l (j:Int) (i:Int)=true:=fun i j hi hj=>K5 hr (by omega) (by omega) (by omega) (by omega) r
  refine ⟨8,.agg [.int .i64 (A:Int),.int .i64 (B:Int),.ints (.own 108002 tB) .u64 (Cq A B fun (i j:Nat)=>Eh c l (j:Int) (i:Int))],[108002],?_,Wk.Ig (.cons .int (.cons .int (.cons (.drop _ _ _ _ (List.mem_singleton.2 rfl)) .nil)))⟩
  rw [Aa.of.C3.ev]
  have n:=of.C3.outer 8 r c l hA hB (by omega) (F:=fun (i j:Nat)=>Eh c l (j:Int) (i:Int)) (fun _ _=>rfl) hp A 0 8 (by omega) (by omega)
  rw [J8] at n
  exact n
theorem of.Part.inner (N:Nat) (r c:Int) (l:List Int) (x y:Int) {A B:Nat} (hA:A≤6) (hB:B≤6) {F:Nat→Nat→Int} (hF:∀ i j:Nat,F i j=Eh c l (x+(i:Int)) (y+(j:Int))) {i:Nat} (hi:i<A) (hp:∀ j:Nat,j<B→(D2 r c l (x+(i:Int)) (y+(j:Int))&&Rj x y (i:Int) (j:Int))=true):∀ (k j M0 M:Nat),j+k=B→k<M →
    Aa.of.Part.L1 N M0 M (A:Int) (B:Int) r c l x y (i:Int) (i:Int) (j:Int) (Cq i B F++(List.range j).map (F i))=Aa.of.Part.L0 N M0 (A:Int) (B:Int) r c l x y ((i+1:Nat):Int) (Cq (i+1) B F):=by
  intro k
  induction k with
  | zero =>
    intro j M0 M hj hM
    obtain ⟨M,rfl⟩:∃ G,M=G+1:=⟨M-1,by omega⟩
    obtain rfl:j=B:=by omega
    rw [Aa.of.Part.Cb,Ar,Aq3 (by omega),Aq2,An (by omega) (by omega),← J9]
    rfl
  | succ k ih =>
    intro j M0 M hj hM
    obtain ⟨M,rfl⟩:∃ G,M=G+1:=⟨M-1,by omega⟩
    have d:decide ((Cq i B F++(List.range j).map (F i)).length+1≤Gv)=true:=by
      refine Aqz ?_
      have:=Nat.mul_le_mul (show i≤6 by omega) hB
      rw [List.length_append,Bz,List.length_map,List.length_range]; unfold Gv; omega
    rw [Aa.of.Part.Cb,Ar,Aqz (by omega),Aqy,hp j (by omega),Aqy,d,Aqy,An (by omega) (by omega),← hF i j]
    have:=ih (j+1) M0 M (by omega) (by omega)
    rw [H4,← List.append_assoc] at this
    exact this
theorem of.Part.outer (N:Nat) (r c:Int) (l:List Int) (x y:Int) {A B:Nat} (hA:A≤6) (hB:B≤6) (hN:6<N) {F:Nat→Nat→Int} (hF:∀ i j:Nat,F i j=Eh c l (x+(i:Int)) (y+(j:Int))) (hp:∀ i j:Nat,i<A→j<B→(D2 r c l (x+(i:Int)) (y+(j:Int))&&Rj x y (i:Int) (j:Int))=true):∀ (k i M:Nat),i+k=A→k<M →
    Aa.of.Part.L0 N M (A:Int) (B:Int) r c l x y (i:Int) (Cq i B F)=some (.agg [.int .i64 (A:Int),.int .i64 (B:Int),.ints (.own 108002 tB) .u64 (Cq A B F)]):=by
  intro k
  induction k with
  | zero =>
    intro i M hi hM
    obtain ⟨M,rfl⟩:∃ G,M=G+1:=⟨M-1,by omega⟩
    obtain rfl:i=A:=by omega
    rw [Aa.of.Part.At,Ar,Aq3 (by omega),Aq2]
  | succ k ih =>
    intro i M hi hM
    obtain ⟨M,rfl⟩:∃ G,M=G+1:=⟨M-1,by omega⟩
    have n:=of.Part.inner N r c l x y hA hB hF (show i<A by omega) (fun j hj=>hp i j (by omega) hj) B 0 M N (by omega) (by omega)
    rw [List.range_zero,List.map_nil,List.append_nil] at n
    rw [Aa.of.Part.At,Ar,Aqz (by omega),Aqy]
    exact n.trans (ih (i+1) M (by omega) (by omega))
theorem Aa.of.Part.known:Aa.of.Part.Kn:=Aa.of.Part.Ad (.cons Aa.Ev.known .nil) fun a b r c l x y hp=>by
  obtain ⟨h12,hy⟩:=Af.1 (show (((Bl a&&Bl b)&&Bf r c l)&&O0 r c x y a b)=true from hp)
  obtain ⟨h1,hx⟩:=Af.1 h12
  have h2:=Af.2 ⟨hx,hy⟩
  obtain ⟨ha,hb⟩:=Af.1 h1
  obtain ⟨A,rfl,hA⟩:=F9 ha
  obtain ⟨B,rfl,hB⟩:=F9 hb
  obtain ⟨hr,he⟩:=Af.1 h2
  have he:=of_decide_eq_true he
  have hs:=J5.1 hr
  have hp:∀ i j:Nat,i<A→j<B→(D2 r c l (x+(i:Int)) (y+(j:Int))&&Rj x y (i:Int) (j:Int))=true:=fun i j hi hj =>
    Af.2 ⟨K5 hr (by omega) (by omega) (by omega) (by omega) r,Ao.2 (by omega)⟩
  refine ⟨8,.agg [.int .i64 (A:Int),.int .i64 (B:Int),.ints (.own 108002 tB) .u64 (Cq A B fun (i j:Nat)=>Eh c l (x+(i:Int)) (y+(j:Int)))],[108002],?_,Wk.Ig (.cons .int (.cons .int (.cons (.drop _ _ _ _ (List.mem_singleton.2 rfl)) .nil)))⟩
  rw [Aa.of.Part.ev]
  have n:=of.Part.outer 8 r c l x y hA hB (by omega) (F:=fun (i j:Nat)=>Eh c l (x+(i:Int)) (y+(j:Int))) (fun _ _=>rfl) hp A 0 8 (by omega) (by omega)
  rw [J8] at n
  exact n
theorem of.Mul.inner (N:Nat) (r c:Int) (l:List Int) (p q:Int) (m:List Int) {A B:Nat} (hA:A≤6) (hB:B≤6) {F:Nat→Nat→Int} (hF:∀ i j:Nat,F i j=Ov (La c l (i:Int)) (Pv p q m (j:Int))) {i:Nat} (hi:i<A) (hp:∀ j:Nat,j<B→Pm r c l p q m (i:Int) (j:Int)=true):∀ (k j M0 M:Nat),j+k=B→k<M →
    Aa.of.Mul.L1 N M0 M (A:Int) (B:Int) r c l p q m (i:Int) (i:Int) (j:Int) (Cq i B F++(List.range j).map (F i))=Aa.of.Mul.L0 N M0 (A:Int) (B:Int) r c l p q m ((i+1:Nat):Int) (Cq (i+1) B F):=by
  intro k
  induction k with
  | zero =>
    intro j M0 M hj hM
    obtain ⟨M,rfl⟩:∃ G,M=G+1:=⟨M-1,by omega⟩
    obtain rfl:j=B:=by omega
    rw [Aa.of.Mul.Cb,Ar,Aq3 (by omega),Aq2,An (by omega) (by omega),← J9]
    rfl
  | succ k ih =>
    intro j M0 M hj hM
    obtain ⟨M,rfl⟩:∃ G,M=G+1:=⟨M-1,by omega⟩
    have d:decide ((Cq i B F++(List.range j).map (F i)).length+1≤Gv)=true:=by
      refine Aqz ?_
      have:=Nat.mul_le_mul (show i≤6 by omega) hB
      rw [List.length_append,Bz,List.length_map,List.length_range]; unfold Gv; omega
    rw [Aa.of.Mul.Cb,Ar,Aqz (by omega),Aqy,hp j (by omega),Aqy,d,Aqy,An (by omega) (by omega),← hF i j]
    have:=ih (j+1) M0 M (by omega) (by omega)
    rw [H4,← List.append_assoc] at this
    exact this
theorem of.Mul.outer (N:Nat) (r c:Int) (l:List Int) (p q:Int) (m:List Int) {A B:Nat} (hA:A≤6) (hB:B≤6) (hN:6<N) {F:Nat→Nat→Int} (hF:∀ i j:Nat,F i j=Ov (La c l (i:Int)) (Pv p q m (j:Int))) (hp:∀ i j:Nat,i<A→j<B→Pm r c l p q m (i:Int) (j:Int)=true):∀ (k i M:Nat),i+k=A→k<M →
    Aa.of.Mul.L0 N M (A:Int) (B:Int) r c l p q m (i:Int) (Cq i B F)=some (.agg [.int .i64 (A:Int),.int .i64 (B:Int),.ints (.own 108002 tB) .u64 (Cq A B F)]):=by
  intro k
  induction k with
  | zero =>
    intro i M hi hM
    obtain ⟨M,rfl⟩:∃ G,M=G+1:=⟨M-1,by omega⟩
    obtain rfl:i=A:=by omega
    rw [Aa.of.Mul.At,Ar,Aq3 (by omega),Aq2]
  | succ k ih =>
    intro i M hi hM
    obtain ⟨M,rfl⟩:∃ G,M=G+1:=⟨M-1,by omega⟩
    have n:=of.Mul.inner N r c l p q m hA hB hF (show i<A by omega) (fun j hj=>hp i j (by omega) hj) B 0 M N (by omega) (by omega)
    rw [List.range_zero,List.map_nil,List.append_nil] at n
    rw [Aa.of.Mul.At,Ar,Aqz (by omega),Aqy]
    exact n.trans (ih (i+1) M (by omega) (by omega))
theorem Aa.of.Mul.known:Aa.of.Mul.Kn:=Aa.of.Mul.Ad (.cons Aa.Gn.known .nil) fun a b r c l p q m hp=>by
  obtain ⟨h12,hy⟩:=Af.1 (show (((Bl a&&Bl b)&&((Bf r c l&&Bf p q m)&&(Ah l&&Ah m)))&&decide (a=r∧b=q∧c=p))=true from hp)
  obtain ⟨h1,hx⟩:=Af.1 h12
  have h2:=Af.2 ⟨hx,hy⟩
  obtain ⟨ha,hb⟩:=Af.1 h1
  obtain ⟨A,rfl,hA⟩:=F9 ha
  obtain ⟨B,rfl,hB⟩:=F9 hb
  obtain ⟨h3,he⟩:=Af.1 h2
  obtain ⟨h4,h5⟩:=Af.1 h3
  obtain ⟨hr,hm⟩:=Af.1 h4
  obtain ⟨e1,e2,e3⟩:=of_decide_eq_true he
  have hp:∀ i j:Nat,i<A→j<B→Pm r c l p q m (i:Int) (j:Int)=true:=fun i j hi hj =>
    Af.2 ⟨Af.2 ⟨Af.2 ⟨hr,Ao.2 (by omega)⟩,Af.2 ⟨hm,Ao.2 (by omega)⟩⟩,Af.2 ⟨h5,Ao.2 e3⟩⟩
  refine ⟨8,.agg [.int .i64 (A:Int),.int .i64 (B:Int),.ints (.own 108002 tB) .u64 (Cq A B fun (i j:Nat)=>Ov (La c l (i:Int)) (Pv p q m (j:Int)))],[108002],?_,Wk.Ig (.cons .int (.cons .int (.cons (.drop _ _ _ _ (List.mem_singleton.2 rfl)) .nil)))⟩
  rw [Aa.of.Mul.ev]
  have n:=of.Mul.outer 8 r c l p q m hA hB (by omega) (F:=fun (i j:Nat)=>Ov (La c l (i:Int)) (Pv p q m (j:Int))) (fun _ _=>rfl) hp A 0 8 (by omega) (by omega)
  rw [J8] at n
  exact n
open EqOf
def Pk (x:MX):DV:=.tup [.agg [.int .i64 x.1,.int .i64 x.2.1,.ints .fresh .u64 x.2.2.1],.int .i64 x.2.2.2]
def Ae2 (e:Int):DV:=.tup [.agg [.int .i64 0,.int .i64 0,.nil],.int .i64 e]
theorem L4 {drops:List Nat} {x:MX}:Wk drops (Pk x) (Pk x) :=
  Wk.Gd (.cons (Wk.Ig (.cons .int (.cons .int (.cons .Ki .nil)))) (.cons .int .nil))
theorem Ku {drops:List Nat} {e:Int}:Wk drops (Ae2 e) (Pk (Gh e)) :=
  Wk.Gd (.cons (Wk.Ig (.cons .int (.cons .int (.cons (.nil _ _) .nil)))) (.cons .int .nil))
theorem Aa.Gs.known:Aa.Gs.Kn:=Aa.Gs.Ad (.cons Aa.of.Gs.known (.cons Aa.size.known .nil)) fun n _=>by
  show ∃ N dv drops,_=some dv∧Wk drops dv (Pk (Kj n))
  unfold Kj
  by_cases h:Bl n=true
  · rw [if_pos h]
    exact ⟨0,_,[],by rw [Aa.Gs.ev,h]; rfl,L4⟩
  · have e:Bl n=false:=by simpa using h
    rw [if_neg h]
    exact ⟨0,_,[],by rw [Aa.Gs.ev,e]; rfl,Ku⟩
theorem Fg {r c:Int} {l:List Int} (h:Bf r c l=true):Bl r=true∧Bl c=true:=by
  obtain ⟨h1,h2,_⟩:=J5.1 h
  exact ⟨Hc.2 h1,Hc.2 h2⟩
theorem Aa.C3.known:Aa.C3.Kn:=Aa.C3.Ad (.cons Aa.Check.known (.cons Aa.of.C3.known .nil)) fun r c l _=>by
  show ∃ N dv drops,_=some dv∧Wk drops dv (Pk (A6 r c l))
  unfold A6
  by_cases h:Bf r c l=true
  · obtain ⟨h1,h2⟩:=Fg h
    rw [if_pos h]
    exact ⟨0,_,[],by rw [Aa.C3.ev,Pw,h,h1,h2,Aqz ⟨rfl,rfl⟩]; rfl,L4⟩
  · have e:Bf r c l=false:=by simpa using h
    have ec:It r c l=1:=by unfold It; rw [e]; rfl
    rw [if_neg h]
    exact ⟨0,_,[],by rw [Aa.C3.ev,Pw,e,ec]; rfl,Ku⟩
theorem Wa {r c x y a b:Int} (hr:0≤r∧r≤6) (hc:0≤c∧c≤6) :
    ((((((((A1 x (0:Int))||(A1 y (0:Int)))||(A1 a (0:Int)))||(A1 b (0:Int)))||(A1 r x))||(A1 c y))||(A1 (Ab (r-x)) a))||(A1 (Ab (c-y)) b))=!(O0 r c x y a b):=by
  unfold O0
  simp only [Ar]
  by_cases h:0≤x∧0≤y∧x≤r∧y≤c
  · rw [An (x:=r-x) (by omega) (by omega),An (x:=c-y) (by omega) (by omega),Are]
    simp only [Bool.or_eq_true,Aq5,Bool.not_eq_true',Ari]
    omega
  · have e:decide (0≤x∧0≤y∧0≤a∧0≤b∧x≤r∧y≤c∧a≤r-x∧b≤c-y)=false:=Aq3 (by omega)
    rw [e,Are]
    simp only [Bool.or_eq_true,Aq5,Bool.not_false,iff_true]
    omega
theorem Abz {r c x y a b:Int} {l:List Int} (h:Bf r c l=true) (hp:O0 r c x y a b=true):Bl a=true∧Bl b=true:=by
  obtain ⟨h1,h2,_⟩:=J5.1 h
  have:=of_decide_eq_true hp
  exact ⟨Hc.2 (by omega),Hc.2 (by omega)⟩
theorem Aa.Part.known:Aa.Part.Kn:=Aa.Part.Ad (.cons Aa.Check.known (.cons Aa.of.Part.known .nil)) fun r c l x y a b _=>by
  show ∃ N dv drops,_=some dv∧Wk drops dv (Pk (D5 r c l x y a b))
  unfold D5
  by_cases h:Bf r c l=true
  · obtain ⟨h1,h2,_⟩:=J5.1 h
    by_cases hp:O0 r c x y a b=true
    · obtain ⟨s1,s2⟩:=Abz h hp
      rw [if_pos h,if_pos hp]
      exact ⟨0,_,[],by rw [Aa.Part.ev,Pw,Wa h1 h2,h,hp,s1,s2]; rfl,L4⟩
    · have e:O0 r c x y a b=false:=by simpa using hp
      rw [if_pos h,if_neg hp]
      exact ⟨0,_,[],by rw [Aa.Part.ev,Pw,Wa h1 h2,h,e]; rfl,Ku⟩
  · have e:Bf r c l=false:=by simpa using h
    have ec:It r c l=1:=by unfold It; rw [e]; rfl
    rw [if_neg h]
    exact ⟨0,_,[],by rw [Aa.Part.ev,Pw,e,ec]; rfl,Ku⟩
theorem Rc (r c:Int) (l:List Int) (p q:Int) (m:List Int):((Tp r c l p q m) !=(0:Int))=!(Bf r c l&&Bf p q m):=by
  unfold Tp
  cases Bf r c l&&Bf p q m<;>rfl
theorem Agm {r c:Int} {l:List Int} {p q:Int} {m:List Int} (h:(Bf r c l&&Bf p q m)=false):Tp r c l p q m=1:=by
  unfold Tp; rw [h]; rfl
theorem Aa.Mul.known:Aa.Mul.Kn:=Aa.Mul.Ad (.cons Aa.of.Mul.known (.cons Aa.two.known .nil)) fun r c l p q m hp=>by
  show ∃ N dv drops,_=some dv∧Wk drops dv (Pk (M4 r c l p q m))
  unfold M4
  have hp:(Ah l&&Ah m)=true:=hp
  by_cases h:(Bf r c l&&Bf p q m)=true
  · obtain ⟨h1,h2⟩:=Af.1 h
    by_cases hc:c=p
    · have e:(c !=p)=false:=by rw [hc]; simp
      rw [if_pos h,if_pos hc]
      exact ⟨0,_,[],by rw [Aa.Mul.ev,Rc,h,e,(Fg h1).1,(Fg h2).2,hp,Aqz ⟨rfl,rfl,hc⟩]; rfl,L4⟩
    · have e:(c !=p)=true:=by simpa using hc
      rw [if_pos h,if_neg hc]
      exact ⟨0,_,[],by rw [Aa.Mul.ev,Rc,h,e]; rfl,Ku⟩
  · have e:(Bf r c l&&Bf p q m)=false:=by simpa using h
    rw [if_neg h]
    exact ⟨0,_,[],by rw [Aa.Mul.ev,Rc,e,Agm e]; rfl,Ku⟩
namespace EqRef10
def Gg.Gm.Ba:List (Nat × Entry):=[]
def Gg.Gm.E:Env:=Bb (A9 Gg.Gm.Ba) (fun _=>false) (fun _=>none) (fun _=>none)
theorem Gg.Gm.ev (N:Nat) (r c:Int) (l:List Int):Bv Gg.Gm.E N Tryz.f91 (Am Tryz.f91) [.agg [.int .i64 r,.int .i64 c,.ints .arg .u64 l]]=some (.bool (bif (bif (bif (bif (Dk 0 r) then (Dk r 6) else false) then (Dk 0 c) else false) then (Dk c 6) else false) then ((List.length l:Int)==(Ab (r*c))) else false)) :=
  Eq.trans (by kernel_rfl)
  (Ap (Ot (Dk 0 r)) (Ap (Ks (Dk 0 r)) (Ap (Ks (Dk 0 r)) (Ap (Sc (Dk 0 r)) (Ap (Apk (Dk 0 r) (Dk r 6)) (Ap (Am3 (Dk 0 r) (Dk r 6)) (Ap (Am3 (Dk 0 r) (Dk r 6)) (Ap (Apl (Dk 0 r) (Dk r 6)) (Ap (tt74 (Dk 0 r) (Dk r 6) (Dk 0 c)) (Ap (Apm (Dk 0 r) (Dk r 6) (Dk 0 c)) (Ap (Apm (Dk 0 r) (Dk r 6) (Dk 0 c)) (Ap (tt72 (Dk 0 r) (Dk r 6) (Dk 0 c)) (Ap (Am4 (Dk 0 r) (Dk r 6) (Dk 0 c) (Dk c 6)) (Ap (Aj4 (Dk 0 r) (Dk r 6) (Dk 0 c) (Dk c 6)) (Ap (Aj4 (Dk 0 r) (Dk r 6) (Dk 0 c) (Dk c 6)) (Ap (Am4 (Dk 0 r) (Dk r 6) (Dk 0 c) (Dk c 6)) (Ap (Aj4 (Dk 0 r) (Dk r 6) (Dk 0 c) (Dk c 6)) (Ap (Am4 (Dk 0 r) (Dk r 6) (Dk 0 c) (Dk c 6)) (Ap (Aj4 (Dk 0 r) (Dk r 6) (Dk 0 c) (Dk c 6)) (Ap (Apn (Dk 0 r) (Dk r 6) (Dk 0 c) (Dk c 6)) (Ap (Apn (Dk 0 r) (Dk r 6) (Dk 0 c) (Dk c 6)) (Ap (tt68 (Dk 0 r) (Dk r 6) (Dk 0 c) (Dk c 6)) rfl))))))))))))))))))))))
abbrev _root_.Go.Proofs.S1.Gg.Gm.Kn:=A4 Tryz.prog 91 Gg.Gm.spec
theorem Gg.Gm.Ad (hk:Ax Tryz.prog Gg.Gm.Ba) (h:∀ (r c:Int) (l:List Int),Gg.Gm.pre [.i r,.i c,.l l]=true→Bc Gg.Gm.E Tryz.f91 [.agg [.int .i64 r,.int .i64 c,.ints .arg .u64 l]] (Gg.Gm.out [.i r,.i c,.l l])):Gg.Gm.Kn :=
  Al (Ay hk _ _ _) Tryz.func91 (by kernel_rfl) (by kernel_rfl) h
end EqRef10
open EqRef10
theorem Gg.Gm.known:Gg.Gm.Kn:=Gg.Gm.Ad .nil fun r c l _=>by
  refine ⟨0,Gg.Gm.out [.i r,.i c,.l l],[],?_,.bool⟩
  have e:(bif (bif (bif (bif (Dk (0:Int) r) then (Dk r (6:Int)) else false) then (Dk (0:Int) c) else false) then (Dk c (6:Int)) else false) then ((List.length l:Int)==(Ab (r*c))) else false)=Bf r c l:=by
    have:=Aa1 r c l
    have h:(bif (bif (bif (bif (Dk (0:Int) r) then (Dk r (6:Int)) else false) then (Dk (0:Int) c) else false) then (Dk c (6:Int)) else false) then ((List.length l:Int)==(Ab (r*c))) else false)=!(((!(Bl r))||(!(Bl c)))||((List.length l:Int) !=(Ab (r*c)))):=by
      unfold Bl bne
      rw [D7,D7,D7,D7]
      cases decide (0≤r)<;>cases decide (r≤6)<;>cases decide (0≤c)<;>cases decide (c≤6)<;>cases ((List.length l:Int)==(Ab (r*c)))<;>rfl
    rw [h,this,Bool.not_not]
  rw [Gg.Gm.ev,e]; rfl
theorem Abf {drops:List Nat} {i:Nat} {e:TypeId} {a b:Int} {l:List Int} (h:i∈drops):Wk drops (.agg [.int .i64 a,.int .i64 b,.ints (.own i e) .u64 l]) (.agg [.int .i64 a,.int .i64 b,.ints .fresh .u64 l]) :=
  Wk.Ig (.cons .int (.cons .int (.cons (.drop _ _ _ _ h) .nil)))
theorem Aaz {r c i k:Nat} (hk:k<c) {d d':Nat→Nat→Bool} {f:Nat→Nat→Int} {x:Int} (hx:x=f i k)
    (h:∀ a b,a<r→b<c→(d' a b=true↔d a b=true∨(a=i∧b=k))) :
    List.set (Cq r c fun a b=>if d a b=true then f a b else 0) (Int.toNat ((i:Int)*(c:Int)+(k:Int))) x=Cq r c fun a b=>if d' a b=true then f a b else 0:=by
  have e:((i:Int)*(c:Int)+(k:Int)).toNat=i*c+k:=by rw [← Ark,← Int.natCast_add,Aq0]
  rw [e,Q0 hk]
  refine Dn fun a b ha hb=>?_
  have h:=h a b ha hb
  by_cases hab:a=i∧b=k
  · rw [if_pos hab,if_pos (h.2 (.inr hab)),hx,hab.1,hab.2]
  · rw [if_neg hab]
    by_cases hd:d a b=true
    · rw [if_pos hd,if_pos (h.2 (.inl hd))]
    · rw [if_neg hd,if_neg (fun k=>(h.1 k).elim hd hab)]
open EqRef10
namespace EqHouse
def Ak.Cp.hint:Nat→Option A5
  | 0=>some { keep:=[5,6,7],objs:=[],boxes:=[] }
  | _=>none
def Ak.Cp.Ba:List (Nat × Entry):=[(155,soft.Kind.spec)]
def Ak.Cp.E:Env:=Bb (A9 Ak.Cp.Ba) (fun _=>false) Ak.Cp.hint (fun _=>none)
def Ak.Cp.L0 (N M:Nat) (x:List Int) (p7:Int):Option DV:=B2 Ak.Cp.E N Tryz.f252 (Am Tryz.f252) [1,0,1,0] [] M ⟨Fw 15 [(5,.ints .arg .u64 x),(6,.int .i64 (List.length x:Int)),(7,.int .i64 p7)],[]⟩
theorem Ak.Cp.At (N M:Nat) (x:List Int) (p7:Int):Ak.Cp.L0 N (M+1) x p7=bif (A1 p7 (List.length x:Int)) then bif ((decide (0≤p7))&&(decide (p7<(List.length x:Int)))) then bif (Ai (List.getD x (Int.toNat p7) 0)) then bif ((A8 (List.getD x (Int.toNat p7) 0)) !=(0:Int)) then some (.bool false) else Ak.Cp.L0 N M x (Ab (p7+1)) else none else none else some (.bool true):=by kernel_rfl
theorem Ak.Cp.ev (N:Nat) (x:List Int):Bv Ak.Cp.E N Tryz.f252 (Am Tryz.f252) [.ints .arg .u64 x] =
  Ak.Cp.L0 N N x 0:=by kernel_rfl
abbrev _root_.Go.Proofs.S1.Ak.Cp.Kn:=A4 Tryz.prog 252 Ak.Cp.spec
theorem Ak.Cp.Ad (hk:Ax Tryz.prog Ak.Cp.Ba) (h:∀ (x:List Int),Ak.Cp.pre [.l x]=true→Bc Ak.Cp.E Tryz.f252 [.ints .arg .u64 x] (Ak.Cp.out [.l x])):Ak.Cp.Kn :=
  Al (Ay hk _ _ _) Tryz.func252 (by kernel_rfl) (by kernel_rfl) h
def Ak.lead.hint:Nat→Option A5
  | 0=>some { keep:=[5,6,7],objs:=[],boxes:=[] }
  | _=>none
def Ak.lead.Ba:List (Nat × Entry):=[(155,soft.Kind.spec)]
def Ak.lead.E:Env:=Bb (A9 Ak.lead.Ba) (fun _=>false) Ak.lead.hint (fun _=>none)
def Ak.lead.L0 (N M:Nat) (x:List Int) (p7:Int):Option DV:=B2 Ak.lead.E N Tryz.f258 (Am Tryz.f258) [1,0,1,0] [] M ⟨Fw 16 [(5,.ints .arg .u64 x),(6,.int .i64 (List.length x:Int)),(7,.int .i64 p7)],[]⟩
theorem Ak.lead.At (N M:Nat) (x:List Int) (p7:Int):Ak.lead.L0 N (M+1) x p7=bif (A1 p7 (List.length x:Int)) then bif ((decide (0≤p7))&&(decide (p7<(List.length x:Int)))) then bif (Ai (List.getD x (Int.toNat p7) 0)) then bif ((A8 (List.getD x (Int.toNat p7) 0)) !=(0:Int)) then some (.int .u64 (List.getD x (Int.toNat p7) 0)) else Ak.lead.L0 N M x (Ab (p7+1)) else none else none else some (.int .u64 0):=by kernel_rfl
theorem Ak.lead.ev (N:Nat) (x:List Int):Bv Ak.lead.E N Tryz.f258 (Am Tryz.f258) [.ints .arg .u64 x] =
  Ak.lead.L0 N N x 0:=by kernel_rfl
abbrev _root_.Go.Proofs.S1.Ak.lead.Kn:=A4 Tryz.prog 258 Ak.lead.spec
theorem Ak.lead.Ad (hk:Ax Tryz.prog Ak.lead.Ba) (h:∀ (x:List Int),Ak.lead.pre [.l x]=true→Bc Ak.lead.E Tryz.f258 [.ints .arg .u64 x] (Ak.lead.out [.l x])):Ak.lead.Kn :=
  Al (Ay hk _ _ _) Tryz.func258 (by kernel_rfl) (by kernel_rfl) h
def Ak.Cs.hint:Nat→Option A5
  | 0=>some { keep:=[1,5,8,9,10],objs:=[(0,5,100005,.ints 37 .u64 [])],boxes:=[] }
  | _=>none
def Ak.Cs.Ba:List (Nat × Entry):=[(88,Ae.Bp.spec)]
def Ak.Cs.E:Env:=Bb (A9 Ak.Cs.Ba) (fun _=>false) Ak.Cs.hint (fun _=>none)
def Ak.Cs.L0 (N M:Nat) (x:List Int) (k p10:Int) (p5:List Int):Option DV:=B2 Ak.Cs.E N Tryz.f256 (Am Tryz.f256) [1,1,0,1,0] [] M ⟨Fw 22 [(1,.int .i64 k),(5,.oref 100005),(8,.ints .arg .u64 x),(9,.int .i64 (List.length x:Int)),(10,.int .i64 p10)],[(100005,false,.ints 37 .u64 p5)]⟩
theorem Ak.Cs.At (N M:Nat) (x:List Int) (k p10:Int) (p5:List Int):Ak.Cs.L0 N (M+1) x k p10 p5=bif (A1 p10 (List.length x:Int)) then bif ((decide (0≤p10))&&(decide (p10<(List.length x:Int)))) then bif (Ej (List.getD x (Int.toNat p10) 0) k) then bif (decide ((List.length p5)+1≤Gv)) then Ak.Cs.L0 N M x k (Ab (p10+1)) (p5++[(B8 (List.getD x (Int.toNat p10) 0) k)]) else none else none else none else some (.ints (.own 100005 37) .u64 p5):=by kernel_rfl
theorem Ak.Cs.ev (N:Nat) (x:List Int) (k:Int):Bv Ak.Cs.E N Tryz.f256 (Am Tryz.f256) [.ints .arg .u64 x,.int .i64 k] =
  Ak.Cs.L0 N N x k 0 []:=by kernel_rfl
abbrev _root_.Go.Proofs.S1.Ak.Cs.Kn:=A4 Tryz.prog 256 Ak.Cs.spec
theorem Ak.Cs.Ad (hk:Ax Tryz.prog Ak.Cs.Ba) (h:∀ (x:List Int) (k:Int),Ak.Cs.pre [.l x,.i k]=true→Bc Ak.Cs.E Tryz.f256 [.ints .arg .u64 x,.int .i64 k] (Ak.Cs.out [.l x,.i k])):Ak.Cs.Kn :=
  Al (Ay hk _ _ _) Tryz.func256 (by kernel_rfl) (by kernel_rfl) h
def Ak.Ex.Ba:List (Nat × Entry):=[]
def Ak.Ex.E:Env:=Bb (A9 Ak.Ex.Ba) (fun _=>false) (fun _=>none) (fun _=>none)
theorem Ak.Ex.ev (N:Nat) (i:Int):Bv Ak.Ex.E N Tryz.f254 (Am Tryz.f254) [.int .i64 i]=some (.int .u64 0):=by kernel_rfl
abbrev _root_.Go.Proofs.S1.Ak.Ex.Kn:=A4 Tryz.prog 254 Ak.Ex.spec
theorem Ak.Ex.Ad (hk:Ax Tryz.prog Ak.Ex.Ba) (h:∀ (i:Int),Ak.Ex.pre [.i i]=true→Bc Ak.Ex.E Tryz.f254 [.int .i64 i] (Ak.Ex.out [.i i])):Ak.Ex.Kn :=
  Al (Ay hk _ _ _) Tryz.func254 (by kernel_rfl) (by kernel_rfl) h
def Ak.Ew.Ba:List (Nat × Entry):=[(158,Ae.Div.spec)]
def Ak.Ew.E:Env:=Bb (A9 Ak.Ew.Ba) (fun _=>false) (fun _=>none) (fun _=>none)
theorem Ak.Ew.ev (N:Nat) (i:Int) (y:List Int) (d:Int):Bv Ak.Ew.E N Tryz.f259 (Am Tryz.f259) [.int .i64 i,.cellp [.ints .arg .u64 y],.cellp [.int .u64 d]]=bif ((decide (0≤i))&&(decide (i<(List.length y:Int)))) then bif (Ai (List.getD y (Int.toNat i) 0)&&Ai d) then some (.int .u64 (E8 (List.getD y (Int.toNat i) 0) d)) else none else none :=
  Eq.trans (by kernel_rfl)
  (Cy (Ll (decide (0≤i)) (decide (i<(List.length y:Int)))) (Cy (Cz (Ai (List.getD y (Int.toNat i) 0)&&Ai d)) rfl rfl) rfl)
abbrev _root_.Go.Proofs.S1.Ak.Ew.Kn:=A4 Tryz.prog 259 Ak.Ew.spec
theorem Ak.Ew.Ad (hk:Ax Tryz.prog Ak.Ew.Ba) (h:∀ (i:Int) (y:List Int) (d:Int),Ak.Ew.pre [.i i,.l y,.i d]=true→Bc Ak.Ew.E Tryz.f259 [.int .i64 i,.cellp [.ints .arg .u64 y],.cellp [.int .u64 d]] (Ak.Ew.out [.i i,.l y,.i d])):Ak.Ew.Kn :=
  Al (Ay hk _ _ _) Tryz.func259 (by kernel_rfl) (by kernel_rfl) h
def Ak.row.Zero.hint:Nat→Option A5
  | 0=>some { keep:=[0,1,5,6],objs:=[(0,5,100005,.ints 37 .u64 [])],boxes:=[] }
  | _=>none
def Ak.row.Zero.Ba:List (Nat × Entry):=[(254,Ak.Ex.spec)]
def Ak.row.Zero.E:Env:=Bb (A9 Ak.row.Zero.Ba) (fun _=>false) Ak.row.Zero.hint (fun _=>none)
def Ak.row.Zero.L0 (N M:Nat) (n p6:Int) (p5:List Int):Option DV:=B2 Ak.row.Zero.E N Tryz.f253 (Am Tryz.f253) [1,1,0,1,0] [] M ⟨Fw 23 [(0,.int .i64 n),(1,.fn 254 [] []),(5,.oref 100005),(6,.int .i64 p6)],[(100005,false,.ints 37 .u64 p5)]⟩
theorem Ak.row.Zero.At (N M:Nat) (n p6:Int) (p5:List Int):Ak.row.Zero.L0 N (M+1) n p6 p5=bif (A1 p6 n) then bif (decide ((List.length p5)+1≤Gv)) then Ak.row.Zero.L0 N M n (Ab (p6+1)) (p5++[(0:Int)]) else none else bif (((decide ((0:Int)≤n))&&(decide (n≤n)))&&((decide ((0:Int)≤n))&&(decide (n≤(List.length p5:Int))))) then some (.ints .fresh .u64 (List.take (Int.toNat (n-0)) (List.drop 0 p5))) else none :=
  Eq.trans (by kernel_rfl)
  (E2 rfl (Cy (Am2 (decide ((0:Int)≤n)) (decide (n≤n)) (decide (n≤(List.length p5:Int)))) rfl rfl))
theorem Ak.row.Zero.ev (N:Nat) (n:Int):Bv Ak.row.Zero.E N Tryz.f253 (Am Tryz.f253) [.int .i64 n,.fn 254 [] []] =
  Ak.row.Zero.L0 N N n 1 [(4607182418800017408:Int)]:=by kernel_rfl
abbrev _root_.Go.Proofs.S1.Ak.row.Zero.Kn:=A4 Tryz.prog 253 Ak.row.Zero.spec
theorem Ak.row.Zero.Ad (hk:Ax Tryz.prog Ak.row.Zero.Ba) (h:∀ (n:Int),Ak.row.Zero.pre [.i n]=true→Bc Ak.row.Zero.E Tryz.f253 [.int .i64 n,.fn 254 [] []] (Ak.row.Zero.out [.i n])):Ak.row.Zero.Kn :=
  Al (Ay hk _ _ _) Tryz.func253 (by kernel_rfl) (by kernel_rfl) h
def Ak.row.Div.hint:Nat→Option A5
  | 0=>some { keep:=[0,1,5,6],objs:=[(0,5,100005,.ints 37 .u64 [])],boxes:=[] }
  | _=>none
def Ak.row.Div.Ba:List (Nat × Entry):=[(259,Ak.Ew.spec)]
def Ak.row.Div.E:Env:=Bb (A9 Ak.row.Div.Ba) (fun _=>false) Ak.row.Div.hint (fun _=>none)
def Ak.row.Div.L0 (N M:Nat) (n:Int) (y:List Int) (d p6:Int) (p5:List Int):Option DV:=B2 Ak.row.Div.E N Tryz.f253 (Am Tryz.f253) [1,1,0,1,0] [] M ⟨Fw 23 [(0,.int .i64 n),(1,.fn 259 [] [.cellp [.ints .arg .u64 y],.cellp [.int .u64 d]]),(5,.oref 100005),(6,.int .i64 p6)],[(100005,false,.ints 37 .u64 p5)]⟩
theorem Ak.row.Div.At (N M:Nat) (n:Int) (y:List Int) (d p6:Int) (p5:List Int):Ak.row.Div.L0 N (M+1) n y d p6 p5=bif (A1 p6 n) then bif ((Cn (0≤p6∧p6<List.length y)&&Ah y)&&Ai d) then bif (decide ((List.length p5)+1≤Gv)) then Ak.row.Div.L0 N M n y d (Ab (p6+1)) (p5++[(E8 (List.getD y (Int.toNat p6) 0) d)]) else none else none else bif (((decide ((0:Int)≤n))&&(decide (n≤n)))&&((decide ((0:Int)≤n))&&(decide (n≤(List.length p5:Int))))) then some (.ints .fresh .u64 (List.take (Int.toNat (n-0)) (List.drop 0 p5))) else none :=
  Eq.trans (by kernel_rfl)
  (E2 rfl (Cy (Am2 (decide ((0:Int)≤n)) (decide (n≤n)) (decide (n≤(List.length p5:Int)))) rfl rfl))
theorem Ak.row.Div.ev (N:Nat) (n:Int) (y:List Int) (d:Int):Bv Ak.row.Div.E N Tryz.f253 (Am Tryz.f253) [.int .i64 n,.fn 259 [] [.cellp [.ints .arg .u64 y],.cellp [.int .u64 d]]] =
  Ak.row.Div.L0 N N n y d 1 [(4607182418800017408:Int)]:=by kernel_rfl
abbrev _root_.Go.Proofs.S1.Ak.row.Div.Kn:=A4 Tryz.prog 253 Ak.row.Div.spec
theorem Ak.row.Div.Ad (hk:Ax Tryz.prog Ak.row.Div.Ba) (h:∀ (n:Int) (y:List Int) (d:Int),Ak.row.Div.pre [.i n,.l y,.i d]=true→Bc Ak.row.Div.E Tryz.f253 [.int .i64 n,.fn 259 [] [.cellp [.ints .arg .u64 y],.cellp [.int .u64 d]]] (Ak.row.Div.out [.i n,.l y,.i d])):Ak.row.Div.Kn :=
  Al (Ay hk _ _ _) Tryz.func253 (by kernel_rfl) (by kernel_rfl) h
def Ak.Iu.Ba:List (Nat × Entry):=[(255,compare.Sx.spec),(258,Ak.lead.spec),(252,Ak.Cp.spec),(253,(Aoi [.i .i64,.fn 254 []] Ak.row.Zero.spec Ak.row.Div.spec)),(256,Ak.Cs.spec),(148,soft.Finite.spec),(233,soft.Fc.spec),(213,soft.Sign.spec),(89,Ae.Cf.spec),(158,Ae.Div.spec),(150,Ae.Finite.spec),(257,Ae.Norm.spec),(88,Ae.Bp.spec),(156,Ae.Sub.spec)]
def Ak.Iu.E:Env:=Bb (A9 Ak.Iu.Ba) (fun _=>false) (fun _=>none) (fun _=>none)
theorem Ak.Iu.ev (N:Nat) (x:List Int):Bv Ak.Iu.E N Tryz.f245 (Am Tryz.f245) [.ints .arg .u64 x]=bif (((List.length x:Int)==(0:Int))||(A1 64 (List.length x:Int))) then some (.tup [.nil,.int .u64 0,.int .u64 0,.int .i64 3]) else bif (Cu x) then bif (!(D8 x)) then some (.tup [.nil,.int .u64 0,.int .u64 0,.int .i64 4]) else bif (decide ((1:Int)≤(List.length x:Int))) then bif (Cu (List.drop 1 x)) then bif (I4 (List.drop 1 x)) then bif (Cn (1≤(List.length x:Int)∧(List.length x:Int)≤64)) then bif (decide ((0:Int)<(List.length x:Int))) then some (.tup [.ints .fresh .u64 (Il (Int.toNat (List.length x:Int)) (fun _=>0)),.int .u64 0,.int .u64 (List.getD x 0 0),.int .i64 0]) else none else none else bif (Cu x) then bif (Ai (Bm x)) then bif (Cu x&&Cn (List.length x≤1000∧-2300≤(Ab (0-(B0 (Bm x))))∧(Ab (0-(B0 (Bm x))))≤2300)) then bif (Cu (Bi x (Ab (0-(B0 (Bm x)))))&&Cn (List.length (Bi x (Ab (0-(B0 (Bm x)))))≤64)) then bif (Cu x) then bif (Ai (O5 x)) then bif (!(Df (O5 x))) then bif (Ai (Ea (Bi x (Ab (0-(B0 (Bm x))))))) then bif (Ej (Dd (Ea (Bi x (Ab (0-(B0 (Bm x))))))) (B0 (Bm x))) then bif (Ai (B8 (Dd (Ea (Bi x (Ab (0-(B0 (Bm x))))))) (B0 (Bm x)))) then bif (!(C9 (B8 (Dd (Ea (Bi x (Ab (0-(B0 (Bm x))))))) (B0 (Bm x))))) then some (.tup [.nil,.int .u64 0,.int .u64 0,.int .i64 2]) else bif (decide ((0:Int)<(List.length (Bi x (Ab (0-(B0 (Bm x))))):Int))) then bif (Ai (List.getD (Bi x (Ab (0-(B0 (Bm x))))) 0 0)&&Ai (Dd (Ea (Bi x (Ab (0-(B0 (Bm x)))))))) then bif ((Cn (1≤(List.length (Bi x (Ab (0-(B0 (Bm x))))):Int)∧(List.length (Bi x (Ab (0-(B0 (Bm x))))):Int)≤64∧(List.length (Bi x (Ab (0-(B0 (Bm x))))):Int)=List.length (Bi x (Ab (0-(B0 (Bm x))))))&&Ah (Bi x (Ab (0-(B0 (Bm x))))))&&Ai (Dm (List.getD (Bi x (Ab (0-(B0 (Bm x))))) 0 0) (Dd (Ea (Bi x (Ab (0-(B0 (Bm x))))))))) then bif (decide ((0:Int)<(List.length (Bi x (Ab (0-(B0 (Bm x))))):Int))) then bif (Ai (Dd (Ea (Bi x (Ab (0-(B0 (Bm x)))))))&&Ai (List.getD (Bi x (Ab (0-(B0 (Bm x))))) 0 0)) then bif (Ai (Dm (Dd (Ea (Bi x (Ab (0-(B0 (Bm x))))))) (List.getD (Bi x (Ab (0-(B0 (Bm x))))) 0 0))&&Ai (Dd (Ea (Bi x (Ab (0-(B0 (Bm x)))))))) then some (.tup [.ints .fresh .u64 (Il (Int.toNat (List.length (Bi x (Ab (0-(B0 (Bm x))))):Int)) (fun j=>E8 (List.getD (Bi x (Ab (0-(B0 (Bm x))))) j 0) (Dm (List.getD (Bi x (Ab (0-(B0 (Bm x))))) 0 0) (Dd (Ea (Bi x (Ab (0-(B0 (Bm x)))))))))),.int .u64 (E8 (Dm (Dd (Ea (Bi x (Ab (0-(B0 (Bm x))))))) (List.getD (Bi x (Ab (0-(B0 (Bm x))))) 0 0)) (Dd (Ea (Bi x (Ab (0-(B0 (Bm x)))))))),.int .u64 (B8 (Dd (Ea (Bi x (Ab (0-(B0 (Bm x))))))) (B0 (Bm x))),.int .i64 0]) else none else none else none else none else none else none else none else none else none else bif (Ej (Ea (Bi x (Ab (0-(B0 (Bm x)))))) (B0 (Bm x))) then bif (Ai (B8 (Ea (Bi x (Ab (0-(B0 (Bm x)))))) (B0 (Bm x)))) then bif (!(C9 (B8 (Ea (Bi x (Ab (0-(B0 (Bm x)))))) (B0 (Bm x))))) then some (.tup [.nil,.int .u64 0,.int .u64 0,.int .i64 2]) else bif (decide ((0:Int)<(List.length (Bi x (Ab (0-(B0 (Bm x))))):Int))) then bif (Ai (List.getD (Bi x (Ab (0-(B0 (Bm x))))) 0 0)&&Ai (Ea (Bi x (Ab (0-(B0 (Bm x))))))) then bif ((Cn (1≤(List.length (Bi x (Ab (0-(B0 (Bm x))))):Int)∧(List.length (Bi x (Ab (0-(B0 (Bm x))))):Int)≤64∧(List.length (Bi x (Ab (0-(B0 (Bm x))))):Int)=List.length (Bi x (Ab (0-(B0 (Bm x))))))&&Ah (Bi x (Ab (0-(B0 (Bm x))))))&&Ai (Dm (List.getD (Bi x (Ab (0-(B0 (Bm x))))) 0 0) (Ea (Bi x (Ab (0-(B0 (Bm x)))))))) then bif (decide ((0:Int)<(List.length (Bi x (Ab (0-(B0 (Bm x))))):Int))) then bif (Ai (Ea (Bi x (Ab (0-(B0 (Bm x))))))&&Ai (List.getD (Bi x (Ab (0-(B0 (Bm x))))) 0 0)) then bif (Ai (Dm (Ea (Bi x (Ab (0-(B0 (Bm x)))))) (List.getD (Bi x (Ab (0-(B0 (Bm x))))) 0 0))&&Ai (Ea (Bi x (Ab (0-(B0 (Bm x))))))) then some (.tup [.ints .fresh .u64 (Il (Int.toNat (List.length (Bi x (Ab (0-(B0 (Bm x))))):Int)) (fun j=>E8 (List.getD (Bi x (Ab (0-(B0 (Bm x))))) j 0) (Dm (List.getD (Bi x (Ab (0-(B0 (Bm x))))) 0 0) (Ea (Bi x (Ab (0-(B0 (Bm x))))))))),.int .u64 (E8 (Dm (Ea (Bi x (Ab (0-(B0 (Bm x)))))) (List.getD (Bi x (Ab (0-(B0 (Bm x))))) 0 0)) (Ea (Bi x (Ab (0-(B0 (Bm x))))))),.int .u64 (B8 (Ea (Bi x (Ab (0-(B0 (Bm x)))))) (B0 (Bm x))),.int .i64 0]) else none else none else none else none else none else none else none else none else none else none else none else none else none else none else none else none else none :=
  Eq.trans (by kernel_rfl)
  (Ap (Tq ((List.length x:Int)==(0:Int))) (Ap (Rd ((List.length x:Int)==(0:Int))) (Ap (Rd ((List.length x:Int)==(0:Int))) (Ap (Y8 ((List.length x:Int)==(0:Int))) (Cy (tt5 ((List.length x:Int)==(0:Int)) (A1 64 (List.length x:Int))) rfl (E2 (E2 rfl (Cy (tt91 (decide ((1:Int)≤(List.length x:Int)))) (E2 (E2 (Cy (Cz (Cn (1≤(List.length x:Int)∧(List.length x:Int)≤64))) (Cy (Cz (decide ((0:Int)<(List.length x:Int)))) rfl rfl) rfl) rfl) rfl) rfl)) rfl))))))
abbrev _root_.Go.Proofs.S1.Ak.Iu.Kn:=A4 Tryz.prog 245 Ak.Iu.spec
theorem Ak.Iu.Ad (hk:Ax Tryz.prog Ak.Iu.Ba) (h:∀ (x:List Int),Ak.Iu.pre [.l x]=true→Bc Ak.Iu.E Tryz.f245 [.ints .arg .u64 x] (Ak.Iu.out [.l x])):Ak.Iu.Kn :=
  Al (Ay hk _ _ _) Tryz.func245 (by kernel_rfl) (by kernel_rfl) h
def Ak.Apply.hint:Nat→Option A5
  | 0=>some { keep:=[1,3,4,5,10,13,14],objs:=[(14,2,114002,.ints 37 .u64 [])],boxes:=[5,10,13] }
  | 2=>some { keep:=[1,3,4,5,10,13,14,18,90,91,92],objs:=[(14,2,114002,.ints 37 .u64 [])],boxes:=[5,10,13] }
  | _=>none
def Ak.Apply.Ba:List (Nat × Entry):=[(160,Aa.Check.spec),(191,Aa.C4.spec),(189,Ae.M6.spec),(157,Ae.Mul.spec),(156,Ae.Sub.spec)]
def Ak.Apply.E:Env:=Bb (A9 Ak.Apply.Ba) (fun _=>false) Ak.Apply.hint (fun _=>none)
def Ak.Apply.L0 (N M:Nat) (r c:Int) (l:List Int) (i:Int) (v:List Int) (t p14:Int) (p2_1:List Int):Option DV:=B2 Ak.Apply.E N Tryz.f219 (Am Tryz.f219) [1,1,1,1,0,1,0] [] M ⟨Fw 118 [(1,.int .i64 i),(3,.ints .arg .u64 v),(4,.int .u64 t),(5,.ptr 5 0 0),(10,.ptr 10 0 0),(13,.ptr 13 0 0),(14,.int .i64 p14)],[(5,false,.box [.int .i64 r,.int .i64 c,.ints .arg .u64 l]),(10,false,.box [.int .i64 0,.int .i64 0,.nil]),(13,false,.box [.int .i64 r,.int .i64 c,.oref 114002]),(114002,false,.ints 37 .u64 p2_1)]⟩
def Ak.Apply.L1 (N M0 M:Nat) (r c:Int) (l:List Int) (i:Int) (v:List Int) (t p92:Int) (p2:List Int) (p14_1 p18:Int) (p90:List Int) (p91:Int):Option DV:=B2 Ak.Apply.E N Tryz.f219 (Am Tryz.f219) [1,1,1,1,0,1,0,0,1,0,0,1,1,1,1,0] [M0] M ⟨Fw 118 [(1,.int .i64 i),(3,.ints .arg .u64 v),(4,.int .u64 t),(5,.ptr 5 0 0),(10,.ptr 10 0 0),(13,.ptr 13 0 0),(14,.int .i64 p14_1),(18,.int .u64 p18),(90,.ints .fresh .u64 p90),(91,.int .i64 p91),(92,.int .i64 p92)],[(5,false,.box [.int .i64 r,.int .i64 c,.ints .arg .u64 l]),(10,false,.box [.int .i64 0,.int .i64 0,.nil]),(13,false,.box [.int .i64 r,.int .i64 c,.oref 114002]),(114002,false,.ints 37 .u64 p2)]⟩
theorem Ak.Apply.At (N M:Nat) (r c:Int) (l:List Int) (i:Int) (v:List Int) (t p14:Int) (p2_1:List Int):Ak.Apply.L0 N (M+1) r c l i v t p14 p2_1=bif (A1 p14 c) then bif (Kl r c l p14&&Cn (0≤i∧i≤r)) then bif (((decide ((0:Int)≤(List.length v:Int)))&&(decide ((List.length v:Int)≤(List.length v:Int))))&&((decide ((0:Int)≤(List.length v:Int)))&&(decide ((List.length v:Int)≤(List.length (Dh c l p14 i (Int.toNat (r-i))):Int))))) then bif ((Rx v (List.take (Int.toNat (List.length v:Int)) (Dh c l p14 i (Int.toNat (r-i))))&&Ah v)&&Ah (List.take (Int.toNat (List.length v:Int)) (Dh c l p14 i (Int.toNat (r-i))))) then bif (Ai t&&Ai (Ov v (List.take (Int.toNat (List.length v:Int)) (Dh c l p14 i (Int.toNat (r-i)))))) then Ak.Apply.L1 N M N r c l i v t 0 p2_1 p14 (El t (Ov v (List.take (Int.toNat (List.length v:Int)) (Dh c l p14 i (Int.toNat (r-i)))))) (List.take (Int.toNat (List.length v:Int)) (Dh c l p14 i (Int.toNat (r-i)))) (List.length (List.take (Int.toNat (List.length v:Int)) (Dh c l p14 i (Int.toNat (r-i)))):Int) else none else none else none else none else some (.tup [.agg [.int .i64 r,.int .i64 c,.ints (.own 114002 37) .u64 p2_1],.int .i64 0]) :=
  Eq.trans (by kernel_rfl)
  (E2 (E2 (Cy (Am2 (decide ((0:Int)≤(List.length v:Int))) (decide ((List.length v:Int)≤(List.length v:Int))) (decide ((List.length v:Int)≤(List.length (Dh c l p14 i (Int.toNat (r-i))):Int)))) rfl rfl) rfl) rfl)
theorem Ak.Apply.Cb (N M0 M:Nat) (r c:Int) (l:List Int) (i:Int) (v:List Int) (t p92:Int) (p2:List Int) (p14_1 p18:Int) (p90:List Int) (p91:Int):Ak.Apply.L1 N M0 (M+1) r c l i v t p92 p2 p14_1 p18 p90 p91=bif (A1 p92 p91) then bif ((decide (0≤p92))&&(decide (p92<(List.length p90:Int)))) then bif ((decide (0≤p92))&&(decide (p92<(List.length v:Int)))) then bif (Ai p18&&Ai (List.getD v (Int.toNat p92) 0)) then bif (Ai (List.getD p90 (Int.toNat p92) 0)&&Ai (El p18 (List.getD v (Int.toNat p92) 0))) then bif ((decide (0≤(Ab ((Ab ((Ab (i+p92))*c))+p14_1))))&&(decide ((Ab ((Ab ((Ab (i+p92))*c))+p14_1))<(List.length p2:Int)))) then bif (decide ((Int.toNat (Ab ((Ab ((Ab (i+p92))*c))+p14_1)))<(List.length p2))) then Ak.Apply.L1 N M0 M r c l i v t (Ab (p92+1)) (List.set p2 (Int.toNat (Ab ((Ab ((Ab (i+p92))*c))+p14_1))) (Dm (List.getD p90 (Int.toNat p92) 0) (El p18 (List.getD v (Int.toNat p92) 0)))) p14_1 p18 p90 p91 else none else none else none else none else none else none else Ak.Apply.L0 N M0 r c l i v t (Ab (p14_1+1)) p2 :=
  Eq.trans (by kernel_rfl)
  (E2 (E2 (Cy (Ll (decide (0≤p92)) (decide (p92<(List.length v:Int)))) (Cy (Cz (Ai p18&&Ai (List.getD v (Int.toNat p92) 0))) (Cy (Cz (Ai (List.getD p90 (Int.toNat p92) 0)&&Ai (El p18 (List.getD v (Int.toNat p92) 0)))) (Cy (Ll (decide (0≤(Ab ((Ab ((Ab (i+p92))*c))+p14_1)))) (decide ((Ab ((Ab ((Ab (i+p92))*c))+p14_1))<(List.length p2:Int)))) (Cy (Cz (decide ((Int.toNat (Ab ((Ab ((Ab (i+p92))*c))+p14_1)))<(List.length p2)))) rfl rfl) rfl) rfl) rfl) rfl) rfl) rfl)
theorem Ak.Apply.ev (N:Nat) (r c:Int) (l:List Int) (i k:Int) (v:List Int) (t:Int):Bv Ak.Apply.E N Tryz.f219 (Am Tryz.f219) [.agg [.int .i64 r,.int .i64 c,.ints .arg .u64 l],.int .i64 i,.int .i64 k,.ints .arg .u64 v,.int .u64 t]=bif ((It r c l) !=(0:Int)) then some (.tup [.agg [.int .i64 0,.int .i64 0,.nil],.int .i64 (It r c l)]) else bif (((((A1 i 0)||(A1 r (List.length v:Int)))||(A1 (Ab (r-(List.length v:Int))) i))||(A1 k 0))||(A1 c k)) then some (.tup [.agg [.int .i64 0,.int .i64 0,.nil],.int .i64 3]) else bif (decide (0+(List.length l)≤Gv)) then Ak.Apply.L0 N N r c l i v t k ([]++l) else none :=
  Eq.trans (by kernel_rfl)
  (E2 rfl (Ap (Tq (A1 i 0)) (Ap (Rd (A1 i 0)) (Ap (Tq (A1 i 0)) (Ap (Rd (A1 i 0)) (Ap (tt8 (A1 i 0)) (Ap (Y8 (A1 i 0)) (Ap (Ad9 (A1 i 0) (A1 r (List.length v:Int))) (Ap (Ad9 (A1 i 0) (A1 r (List.length v:Int))) (Ap (Xb (A1 i 0) (A1 r (List.length v:Int))) (Ap (Ad9 (A1 i 0) (A1 r (List.length v:Int))) (Ap (Xb (A1 i 0) (A1 r (List.length v:Int))) (Ap (Apf (A1 i 0) (A1 r (List.length v:Int))) (Ap (Apf (A1 i 0) (A1 r (List.length v:Int))) (Ap (Aj5 (A1 i 0) (A1 r (List.length v:Int))) (Ap (Aea (A1 i 0) (A1 r (List.length v:Int)) (A1 (Ab (r-(List.length v:Int))) i)) (Ap (Aeb (A1 i 0) (A1 r (List.length v:Int)) (A1 (Ab (r-(List.length v:Int))) i)) (Ap (Aj6 (A1 i 0) (A1 r (List.length v:Int)) (A1 (Ab (r-(List.length v:Int))) i)) (Ap (Vh (A1 i 0) (A1 r (List.length v:Int)) (A1 (Ab (r-(List.length v:Int))) i) (A1 k 0)) (Ap (Vh (A1 i 0) (A1 r (List.length v:Int)) (A1 (Ab (r-(List.length v:Int))) i) (A1 k 0)) (Ap (Vi (A1 i 0) (A1 r (List.length v:Int)) (A1 (Ab (r-(List.length v:Int))) i) (A1 k 0)) (Ap (Aec (A1 i 0) (A1 r (List.length v:Int)) (A1 (Ab (r-(List.length v:Int))) i) (A1 k 0)) (Ap (Aj7 (A1 i 0) (A1 r (List.length v:Int)) (A1 (Ab (r-(List.length v:Int))) i) (A1 k 0)) (Cy (Am1 (A1 i 0) (A1 r (List.length v:Int)) (A1 (Ab (r-(List.length v:Int))) i) (A1 k 0) (A1 c k)) rfl (Cy (Cz (decide (0+(List.length l)≤Gv))) rfl rfl)))))))))))))))))))))))))
abbrev _root_.Go.Proofs.S1.Ak.Apply.Kn:=A4 Tryz.prog 219 Ak.Apply.spec
theorem Ak.Apply.Ad (hk:Ax Tryz.prog Ak.Apply.Ba) (h:∀ (r c:Int) (l:List Int) (i k:Int) (v:List Int) (t:Int),Ak.Apply.pre [.i r,.i c,.l l,.i i,.i k,.l v,.i t]=true→Bc Ak.Apply.E Tryz.f219 [.agg [.int .i64 r,.int .i64 c,.ints .arg .u64 l],.int .i64 i,.int .i64 k,.ints .arg .u64 v,.int .u64 t] (Ak.Apply.out [.i r,.i c,.l l,.i i,.i k,.l v,.i t])):Ak.Apply.Kn :=
  Al (Ay hk _ _ _) Tryz.func219 (by kernel_rfl) (by kernel_rfl) h
end EqHouse
open EqHouse
theorem Ads (x:Int):((A8 x) !=(0:Int))=!(decide (A8 x=0)):=by
  rw [Are]; simp
theorem Xu (N:Nat) {x:List Int} (hx:Cu x=true):∀ (k i F:Nat),i+k=x.length→k<F→Ak.Cp.L0 N F x (i:Int)=some (.bool (I4 (x.drop i))):=by
  obtain ⟨hl,hu⟩:=Ju hx
  intro k
  induction k with
  | zero =>
    intro i F hi hF
    obtain ⟨F,rfl⟩:∃ G,F=G+1:=⟨F-1,by omega⟩
    rw [Ak.Cp.At,Ar,Aq3 (by omega),Aq2,Arc (by omega)]; rfl
  | succ k ih =>
    intro i F hi hF
    obtain ⟨F,rfl⟩:∃ G,F=G+1:=⟨F-1,by omega⟩
    rw [Ak.Cp.At,Ar,Aqz (show (i:Int)<(x.length:Int) by omega),Aqy,Aqz (show (0:Int)≤(i:Int) by omega),Aq4,Aqy,Aq0,hu i (by omega),Aqy,Ads,Hu (by omega)]
    unfold I4
    rw [List.all_cons]
    cases decide (A8 (x.getD i 0)=0) with
    | false=>rfl
    | true =>
      rw [Bool.not_true,Aq2,Bool.true_and,An (by omega) (by omega)]
      exact ih (i+1) F (by omega) (by omega)
theorem Ak.Cp.known:Ak.Cp.Kn:=Ak.Cp.Ad (.cons soft.Kind.known .nil) fun x hp=>by
  refine ⟨x.length+1,Ak.Cp.out [.l x],[],?_,.bool⟩
  rw [Ak.Cp.ev]
  exact Xu (x.length+1) hp x.length 0 (x.length+1) (by omega) (by omega)
theorem Afj (N:Nat) {x:List Int} (hx:Cu x=true):∀ (k i F:Nat),i+k=x.length→k<F→Ak.lead.L0 N F x (i:Int)=some (.int .u64 (O5 (x.drop i))):=by
  obtain ⟨hl,hu⟩:=Ju hx
  intro k
  induction k with
  | zero =>
    intro i F hi hF
    obtain ⟨F,rfl⟩:∃ G,F=G+1:=⟨F-1,by omega⟩
    rw [Ak.lead.At,Ar,Aq3 (by omega),Aq2,Arc (by omega)]; rfl
  | succ k ih =>
    intro i F hi hF
    obtain ⟨F,rfl⟩:∃ G,F=G+1:=⟨F-1,by omega⟩
    rw [Ak.lead.At,Ar,Aqz (show (i:Int)<(x.length:Int) by omega),Aqy,Aqz (show (0:Int)≤(i:Int) by omega),Aq4,Aqy,Aq0,hu i (by omega),Aqy,Ads,Hu (by omega),O5]
    by_cases h:A8 (x.getD i 0)=0
    · rw [Aqz h,if_pos h,Bool.not_true,Aq2,An (by omega) (by omega)]
      exact ih (i+1) F (by omega) (by omega)
    · rw [Aq3 h,if_neg h]; rfl
theorem Ak.lead.known:Ak.lead.Kn:=Ak.lead.Ad (.cons soft.Kind.known .nil) fun x hp=>by
  refine ⟨x.length+1,Ak.lead.out [.l x],[],?_,.int⟩
  rw [Ak.lead.ev]
  exact Afj (x.length+1) hp x.length 0 (x.length+1) (by omega) (by omega)
theorem Abk {x:List Int} {i:Nat} (h:i<x.length) (f:Int→Int):(x.take (i+1)).map f=(x.take i).map f++[f (x.getD i 0)]:=by
  rw [List.take_succ_eq_append_getElem h,List.map_append,Aq8,Arf h]; rfl
theorem Xi (N:Nat) {x:List Int} {e:Int} (hx:Cu x=true) (hl:x.length≤1000) (he:-2300≤e∧e≤2300):∀ (k i F:Nat),i+k=x.length→k<F →
    Ak.Cs.L0 N F x e (i:Int) ((x.take i).map fun b=>B8 b e)=some (.ints (.own 100005 tB) .u64 (Bi x e)):=by
  obtain ⟨_,hu⟩:=Ju hx
  intro k
  induction k with
  | zero =>
    intro i F hi hF
    obtain ⟨F,rfl⟩:∃ G,F=G+1:=⟨F-1,by omega⟩
    rw [Ak.Cs.At,Ar,Aq3 (by omega),Aq2,List.take_of_length_le (by omega)]; rfl
  | succ k ih =>
    intro i F hi hF
    obtain ⟨F,rfl⟩:∃ G,F=G+1:=⟨F-1,by omega⟩
    rw [Ak.Cs.At,Ar,Aqz (show (i:Int)<(x.length:Int) by omega),Aqy,Aqz (show (0:Int)≤(i:Int) by omega),Aq4,Aqy,Aq0,
      show Ej (List.getD x i 0) e=true from Af.2 ⟨hu i (by omega),Ao.2 he⟩,Aqy,Aqz (by rw [List.length_map,List.length_take]; unfold Gv; omega),Aqy,An (by omega) (by omega)]
    have:=ih (i+1) F (by omega) (by omega)
    rw [Abk (by omega)] at this
    exact this
theorem Ak.Cs.known:Ak.Cs.Kn:=Ak.Cs.Ad (.cons Ae.Bp.known .nil) fun x k hp=>by
  obtain ⟨h1,h2⟩:=Af.1 hp
  have h2:=Ao.1 h2
  refine ⟨x.length+1,.ints (.own 100005 tB) .u64 (Bi x k),[100005],?_,.drop _ _ _ _ (List.mem_singleton.2 rfl)⟩
  rw [Ak.Cs.ev]
  exact Xi (x.length+1) h1 h2.1 h2.2 x.length 0 (x.length+1) (by omega) (by omega)
theorem Ak.Ex.known:Ak.Ex.Kn:=Ak.Ex.Ad .nil fun i _=>⟨0,Ak.Ex.out [.i i],[],by rw [Ak.Ex.ev]; rfl,.int⟩
theorem Ak.Ew.known:Ak.Ew.Kn:=Ak.Ew.Ad (.cons Ae.Div.known .nil) fun i y d hp=>by
  obtain ⟨h1,h2⟩:=Af.1 (show ((Cn (0≤i∧i<List.length y)&&Ah y)&&Ai d)=true from hp)
  obtain ⟨h3,h4⟩:=Af.1 h1
  have h3:=Ao.1 h3
  refine ⟨0,Ak.Ew.out [.i i,.l y,.i d],[],?_,.int⟩
  rw [Ak.Ew.ev,Aqz h3.1,Aqz h3.2,Ly h4,h2]; rfl
theorem Ob (n i:Nat) (f:Nat→Int) (h:i+1=n):Il n f=Anq::(List.range i).map fun j=>f (j+1):=by unfold Il; rw [show n-1=i by omega]
theorem Adh {n:Nat} (f:Nat→Int) (h:n≠0):(((decide ((0:Int)≤(n:Int)))&&(decide ((n:Int)≤(n:Int))))&&((decide ((0:Int)≤(n:Int)))&&(decide ((n:Int)≤(List.length (Il n f):Int)))))=true ∧
    List.take (Int.toNat ((n:Int)-(0:Int))) (List.drop 0 (Il n f))=Il n f:=by
  have:=Qg h f
  refine ⟨?_,?_⟩
  · rw [Aqz (by omega),Aqz (by omega),Aqz (by omega)]; rfl
  · rw [List.drop_zero,List.take_of_length_le (by omega)]
theorem Vj (N:Nat) {n:Nat} (h64:n≤64) (h0:n≠0):∀ (k i F:Nat),i+1+k=n→k<F →
    Ak.row.Zero.L0 N F (n:Int) ((i+1:Nat):Int) (Il (i+1) fun _=>0)=some (.ints .fresh .u64 (Il n fun _=>0)):=by
  intro k
  induction k with
  | zero =>
    intro i F hi hF
    obtain ⟨F,rfl⟩:∃ G,F=G+1:=⟨F-1,by omega⟩
    obtain rfl:i+1=n:=by omega
    obtain ⟨e1,e2⟩:=Adh (fun _=>0) h0
    rw [Ak.row.Zero.At,Ar,Aq3 (by omega),Aq2,e1,Aqy,e2]
  | succ k ih =>
    intro i F hi hF
    obtain ⟨F,rfl⟩:∃ G,F=G+1:=⟨F-1,by omega⟩
    rw [Ak.row.Zero.At,Ar,Aqz (by omega),Aqy,Aqz (by rw [Qg (by omega)]; unfold Gv; omega),Aqy,An (by omega) (by omega)]
    have:=ih (i+1) F (by omega) (by omega)
    rw [Ob (i+1+1) (i+1) _ rfl,H4] at this
    rw [Ob (i+1) i _ rfl]
    exact this
theorem Ak.row.Zero.known:Ak.row.Zero.Kn:=Ak.row.Zero.Ad (.cons Ak.Ex.known .nil) fun n hp=>by
  have hp:=Ao.1 (show Cn (1≤n∧n≤64)=true from hp)
  obtain ⟨m,rfl⟩:∃ m:Nat,n=m:=⟨n.toNat,by omega⟩
  refine ⟨65,Ak.row.Zero.out [.i m],[],?_,.Ki⟩
  show _=some (DV.ints .fresh .u64 (Il (Int.toNat (m:Int)) fun _=>0))
  rw [Ak.row.Zero.ev,Aq0]
  exact Vj 65 (by omega) (by omega) (m-1) 0 65 (by omega) (by omega)
theorem Xk (N:Nat) {n:Nat} {y:List Int} {d:Int} (h64:n≤64) (h0:n≠0) (hy:n=y.length) (al:Ah y=true) (hd:Ai d=true):∀ (k i F:Nat),i+1+k=n→k<F →
    Ak.row.Div.L0 N F (n:Int) y d ((i+1:Nat):Int) (Il (i+1) fun j=>E8 (y.getD j 0) d)=some (.ints .fresh .u64 (Il n fun j=>E8 (y.getD j 0) d)):=by
  intro k
  induction k with
  | zero =>
    intro i F hi hF
    obtain ⟨F,rfl⟩:∃ G,F=G+1:=⟨F-1,by omega⟩
    obtain rfl:i+1=n:=by omega
    obtain ⟨e1,e2⟩:=Adh (fun j=>E8 (y.getD j 0) d) h0
    rw [Ak.row.Div.At,Ar,Aq3 (by omega),Aq2,e1,Aqy,e2]
  | succ k ih =>
    intro i F hi hF
    obtain ⟨F,rfl⟩:∃ G,F=G+1:=⟨F-1,by omega⟩
    rw [Ak.row.Div.At,Ar,Aqz (by omega),Aqy,Ao.2 (show 0≤((i+1:Nat):Int)∧((i+1:Nat):Int)<(y.length:Int) by omega),al,hd,Aq4,Aq4,Aqy,Aqz (by rw [Qg (by omega)]; unfold Gv; omega),Aqy,An (by omega) (by omega),Aq0]
    have:=ih (i+1) F (by omega) (by omega)
    rw [Ob (i+1+1) (i+1) _ rfl,H4] at this
    rw [Ob (i+1) i _ rfl]
    exact this
theorem Ak.row.Div.known:Ak.row.Div.Kn:=Ak.row.Div.Ad (.cons Ak.Ew.known .nil) fun n y d hp=>by
  obtain ⟨h1,h2⟩:=Af.1 (show ((Cn (1≤n∧n≤64∧n=List.length y)&&Ah y)&&Ai d)=true from hp)
  obtain ⟨h3,h4⟩:=Af.1 h1
  have h3:=Ao.1 h3
  obtain ⟨m,rfl⟩:∃ m:Nat,n=m:=⟨n.toNat,by omega⟩
  refine ⟨65,Ak.row.Div.out [.i m,.l y,.i d],[],?_,.Ki⟩
  show _=some (DV.ints .fresh .u64 (Il (Int.toNat (m:Int)) fun j=>E8 (List.getD y j 0) d))
  rw [Ak.row.Div.ev,Aq0]
  exact Xk 65 (by omega) (by omega) (by omega) h4 h2 (m-1) 0 65 (by omega) (by omega)
theorem V2 {x:List Int} {k:Int} {j:Nat} (h:j<x.length):(Bi x k).getD j 0=B8 (x.getD j 0) k:=by
  unfold Bi
  rw [Aq8,List.getElem?_map,Arf h,Aq8,Arf h]; rfl
theorem Aek (x:List Int) (k:Int):(Bi x k).length=x.length:=by unfold Bi; rw [List.length_map]
theorem Ael {x:List Int} (k:Int) (h:Ah x=true):Ah (Bi x k)=true:=Om fun y hy=>by
  obtain ⟨b,hb,rfl⟩:=List.mem_map.1 hy
  exact I1 (Ao.1 h b hb)
theorem X8:∀ {x:List Int},Ah x=true→Ai (O5 x)=true
  | [],_=>Iv
  | b::l,h=>by
    unfold O5
    split
    · exact X8 (Om fun y hy=>Ao.1 h y (List.mem_cons_of_mem _ hy))
    · exact Ao.1 h b List.mem_cons_self
theorem W1 {x:List Int} (h:Cu x=true):Ah x=true:=Ao.2 (Ao.1 h).2
theorem Hy {drops:List Nat} {g:Abb}:Wk drops .nil (.ints g .u64 []):=.nil g .u64
theorem Aeq {n:Nat} {f g:Nat→Int} (h:∀ j,j<n→f j=g j):Il n f=Il n g:=by
  unfold Il
  congr 1
  exact List.map_congr_left fun j hj=>h _ (by have:=List.mem_range.1 hj; omega)
theorem Ak.Iu.known:Ak.Iu.Kn:=Ak.Iu.Ad (.cons compare.Sx.known (.cons Ak.lead.known (.cons Ak.Cp.known (.cons (A4.alt Ak.row.Zero.known Ak.row.Div.known) (.cons Ak.Cs.known (.cons soft.Finite.known (.cons soft.Fc.known (.cons soft.Sign.known (.cons Ae.Cf.known (.cons Ae.Div.known (.cons Ae.Finite.known (.cons Ae.Norm.known (.cons Ae.Bp.known (.cons Ae.Sub.known .nil)))))))))))))) fun x hp=>by
  have hx:Cu x=true:=hp
  have al:=W1 hx
  have he:=Aix (Bm x)
  show ∃ N dv drops,_=some dv∧Wk drops dv (DV.tup [.ints .fresh .u64 (B7 x).1,.int .u64 (B7 x).2.1,.int .u64 (B7 x).2.2.1,.int .i64 (B7 x).2.2.2])
  unfold B7
  by_cases h1:x.length=0∨64<x.length
  · rw [if_pos h1]
    refine ⟨0,.tup [.nil,.int .u64 0,.int .u64 0,.int .i64 3],[],?_,Wk.Gd (.cons Hy (.cons .int (.cons .int (.cons .int .nil))))⟩
    have:(((List.length x:Int)==(0:Int))||(A1 (64:Int) (List.length x:Int)))=true:=by
      rw [Ar,Bool.or_eq_true,beq_iff_eq,Aq5]; omega
    rw [Ak.Iu.ev,this,Aqy]
  have c1:(((List.length x:Int)==(0:Int))||(A1 (64:Int) (List.length x:Int)))=false:=by
    rw [Ar,Bool.or_eq_false_iff,beq_eq_false_iff_ne,Ari]; omega
  rw [if_neg h1]
  by_cases h2:D8 x=true
  · rw [if_pos h2]
    unfold Akx
    have ok1:Cu (x.drop 1)=true:=Kf (Om fun y hy=>Ao.1 al y (List.mem_of_mem_drop hy)) (by rw [List.length_drop]; omega)
    have d1:decide ((1:Int)≤(x.length:Int))=true:=Aqz (by omega)
    have d0:decide ((0:Int)<(x.length:Int))=true:=Aqz (by omega)
    by_cases h3:I4 (x.drop 1)=true
    · rw [if_pos h3]
      refine ⟨0,.tup [.ints .fresh .u64 (Il x.length fun _=>0),.int .u64 0,.int .u64 (x.getD 0 0),.int .i64 0],[],?_,Wk.Gd (.cons .Ki (.cons .int (.cons .int (.cons .int .nil))))⟩
      rw [Ak.Iu.ev,c1,Aq2,hx,Aqy,h2,Bool.not_true,Aq2,d1,Aqy,ok1,Aqy,h3,Aqy,Ao.2 (show 1≤(x.length:Int)∧(x.length:Int)≤64 by omega),Aqy,d0,Aqy,Aq0]
    · rw [if_neg h3]
      have h3:I4 (x.drop 1)=false:=by simpa using h3
      have ew:Ab (0-B0 (Bm x))=-B0 (Bm x):=by rw [An (by omega) (by omega)]; omega
      have ly:=Aek x (-B0 (Bm x))
      have ay:=Ael (-B0 (Bm x)) al
      have oky:Cu (Bi x (-B0 (Bm x)))=true:=Kf ay (by omega)
      have gy:=V2 (x:=x) (k:=-B0 (Bm x)) (j:=0) (by omega)
      have iy:=Ly ay 0
      have key:∀ mu:Int,muI x=mu→Ai mu=true→∀ b:Bool,C9 (He x)=b→∃ dv:DV,(bif (!b) then
              some (.tup [.nil,.int .u64 (0:Int),.int .u64 (0:Int),.int .i64 (2:Int)])
            else some (.tup [.ints .fresh .u64 (Il (Int.toNat (List.length (Bi x (-B0 (Bm x))):Int)) (fun j=>E8 (List.getD (Bi x (-B0 (Bm x))) j 0) (Dm (List.getD (Bi x (-B0 (Bm x))) 0 0) mu))),.int .u64 (E8 (Dm mu (List.getD (Bi x (-B0 (Bm x))) 0 0)) mu),.int .u64 (B8 mu (B0 (Bm x))),.int .i64 (0:Int)]))=some dv ∧
          Wk [] dv (DV.tup [.ints .fresh .u64 (if C9 (He x)=true then (Z2 x,Ab7 x,He x,(0:Int)) else ([],0,0,2)).1,.int .u64 (if C9 (He x)=true then (Z2 x,Ab7 x,He x,(0:Int)) else ([],0,0,2)).2.1,.int .u64 (if C9 (He x)=true then (Z2 x,Ab7 x,He x,(0:Int)) else ([],0,0,2)).2.2.1,.int .i64 (if C9 (He x)=true then (Z2 x,Ab7 x,He x,(0:Int)) else ([],0,0,2)).2.2.2]):=by
        intro mu hmu _ b hb
        rw [hb]
        cases b with
        | false=>exact ⟨_,rfl,Wk.Gd (.cons Hy (.cons .int (.cons .int (.cons .int .nil))))⟩
        | true =>
          refine ⟨_,rfl,?_⟩
          rw [if_pos rfl]
          dsimp only
          have e1:Il (Int.toNat (List.length (Bi x (-B0 (Bm x))):Int)) (fun j=>E8 (List.getD (Bi x (-B0 (Bm x))) j 0) (Dm (List.getD (Bi x (-B0 (Bm x))) 0 0) mu))=Z2 x:=by
            unfold Z2
            rw [Aq0,ly,gy,← hmu]
            exact Aeq fun j hj=>by rw [V2 hj]; rfl
          have e2:E8 (Dm mu (List.getD (Bi x (-B0 (Bm x))) 0 0)) mu=Ab7 x:=by
            unfold Ab7
            rw [gy,hmu]; rfl
          have e3:B8 mu (B0 (Bm x))=He x:=by unfold He; rw [hmu]
          rw [e1,e2,e3]
          exact Wk.Gd (.cons .Ki (.cons .int (.cons .int (.cons .int .nil))))
      have dz:decide ((0:Int)<((Bi x (-B0 (Bm x))).length:Int))=true:=Aqz (by omega)
      have cz':Cn (1≤((Bi x (-B0 (Bm x))).length:Int)∧((Bi x (-B0 (Bm x))).length:Int)≤64∧True)=true:=Ao.2 ⟨by omega,by omega,trivial⟩
      have p1:Cn (x.length≤1000∧-2300≤-B0 (Bm x)∧-B0 (Bm x)≤2300)=true:=Ao.2 (by omega)
      have p2:Cn ((Bi x (-B0 (Bm x))).length≤64)=true:=Ao.2 (by omega)
      have sp:∀ mu:Int,Ai mu=true→Ej mu (B0 (Bm x))=true:=fun mu h=>Af.2 ⟨h,Ao.2 (by omega)⟩
      have ny:=Xw (Bi x (-B0 (Bm x)))
      cases hn:Df (O5 x) with
      | true =>
        have hm:muI x=Ea (Bi x (-B0 (Bm x))):=by unfold muI; rw [if_pos hn]
        obtain ⟨dv,k1,k2⟩:=key _ hm ny (C9 (He x)) rfl
        refine ⟨0,dv,[],?_,k2⟩
        rw [← k1]
        have eb:He x=B8 (Ea (Bi x (-B0 (Bm x)))) (B0 (Bm x)):=by unfold He; rw [hm]
        rw [Ak.Iu.ev,ew,eb]
        simp only [c1,Aq2,hx,Aqy,h2,Bool.not_true,d1,ok1,h3,P0,p1,oky,p2,Aq4,X8 al,hn,sp _ ny,I1 ny,dz,cz',ay,iy,ny,L7 iy ny,L7 ny iy]
      | false =>
        have hm:muI x=Dd (Ea (Bi x (-B0 (Bm x)))):=by unfold muI; rw [if_neg (by rw [hn]; decide)]
        have my:=Z5 ny
        obtain ⟨dv,k1,k2⟩:=key _ hm my (C9 (He x)) rfl
        refine ⟨0,dv,[],?_,k2⟩
        rw [← k1]
        have eb:He x=B8 (Dd (Ea (Bi x (-B0 (Bm x))))) (B0 (Bm x)):=by unfold He; rw [hm]
        rw [Ak.Iu.ev,ew,eb]
        simp only [c1,Aq2,hx,Aqy,h2,Bool.not_true,d1,ok1,h3,P0,p1,oky,p2,Aq4,X8 al,hn,Bool.not_false,sp _ my,I1 my,dz,cz',ay,iy,ny,my,L7 iy my,L7 my iy]
  · rw [if_neg h2]
    have h2:D8 x=false:=by simpa using h2
    refine ⟨0,.tup [.nil,.int .u64 0,.int .u64 0,.int .i64 4],[],?_,Wk.Gd (.cons Hy (.cons .int (.cons .int (.cons .int .nil))))⟩
    rw [Ak.Iu.ev,c1,Aq2,hx,Aqy,h2,Bool.not_false,Aqy]
open EqHouse
def apD (i k c j a b:Nat):Bool:=decide (k≤b∧i≤a∧(b<c∨(b=c∧a<i+j)))
def apS (R C:Nat) (l:List Int) (i k:Nat) (v:List Int) (t:Int) (c j:Nat):List Int :=
  Cq R C fun a b=>if apD i k c j a b=true∧a<i+v.length then Nz (C:Int) l (i:Int) (k:Int) v t (a:Int) (b:Int) else Eh (C:Int) l (a:Int) (b:Int)
section
variable {R C i k:Nat} {l v:List Int} {t:Int}
theorem Al5 (c j:Nat):(apS R C l i k v t c j).length=R*C:=Bz _ _ _
theorem Ajj (h:l.length=R*C):apS R C l i k v t k 0=l:=by
  unfold apS
  conv=>rhs; rw [← Wn h]
  refine Dn fun a b ha hb=>?_
  rw [if_neg]
  rintro ⟨h,_⟩
  have:=of_decide_eq_true h
  omega
theorem Ajk (c:Nat):apS R C l i k v t c v.length=apS R C l i k v t (c+1) 0:=by
  unfold apS
  refine Dn fun a b ha hb=>?_
  have:(apD i k c v.length a b=true∧a<i+v.length)↔(apD i k (c+1) 0 a b=true∧a<i+v.length):=by
    unfold apD
    rw [Aq5,Aq5]
    omega
  by_cases h:apD i k c v.length a b=true∧a<i+v.length
  · rw [if_pos h,if_pos (this.1 h)]
  · rw [if_neg h,if_neg (fun hh=>h (this.2 hh))]
theorem Al6:apS R C l i k v t C 0=Fu R C l (i:Int) (k:Int) v t:=by
  unfold apS Fu
  refine Dn fun a b ha hb=>?_
  by_cases h:apD i k C 0 a b=true∧a<i+v.length
  · rw [if_pos h]
  · rw [if_neg h]
    unfold Nz
    rw [if_neg]
    intro hh
    refine h ⟨?_,by omega⟩
    unfold apD
    rw [Aq5]; omega
theorem Al4 {c j:Nat} (hc:c<C) (hk:k≤c) (hj:j<v.length) {x:Int} (hx:x=Nz (C:Int) l (i:Int) (k:Int) v t ((i+j:Nat):Int) (c:Int)) :
    List.set (apS R C l i k v t c j) ((i+j)*C+c) x=apS R C l i k v t c (j+1):=by
  unfold apS
  rw [Q0 hc]
  refine Dn fun a b ha hb=>?_
  by_cases h:a=i+j∧b=c
  · obtain ⟨rfl,rfl⟩:=h
    rw [if_pos ⟨rfl,rfl⟩,if_pos ⟨by unfold apD; rw [Aq5]; omega,by omega⟩,hx]
  · rw [if_neg h]
    have:(apD i k c j a b=true∧a<i+v.length)↔(apD i k c (j+1) a b=true∧a<i+v.length):=by
      unfold apD
      rw [Aq5,Aq5]
      omega
    by_cases h2:apD i k c j a b=true∧a<i+v.length
    · rw [if_pos h2,if_pos (this.1 h2)]
    · rw [if_neg h2,if_neg (fun hh=>h2 (this.2 hh))]
theorem Aji {c j:Nat} (hk:k≤c) (hj:j<v.length):Nz (C:Int) l (i:Int) (k:Int) v t ((i+j:Nat):Int) (c:Int) =
    Dm ((Dh (C:Int) l (c:Int) (i:Int) v.length).getD j 0) (El (Yq (C:Int) l (i:Int) v t (c:Int)) (v.getD j 0)):=by
  unfold Nz
  rw [if_pos ⟨by omega,by omega,by omega⟩]
  have e1:(((i+j:Nat):Int)-(i:Int)).toNat=j:=by omega
  have e2:(Dh (C:Int) l (c:Int) (i:Int) v.length).getD j 0=Eh (C:Int) l ((i+j:Nat):Int) (c:Int):=by
    unfold Dh
    rw [Aq8,List.getElem?_map,List.getElem?_range hj]
    show Eh (C:Int) l ((i:Int)+(j:Int)) (c:Int)=_
    rw [← Int.natCast_add]
  rw [e1,e2]
theorem Ag2 {c b i:Int} {l:List Int} {m n:Nat} (h:m≤n):List.take m (Dh c l b i n)=Dh c l b i m:=by
  unfold Dh
  rw [← List.map_take,List.take_range,Nat.min_eq_left h]
theorem Ac2 (N M0:Nat) (r6:R≤6) (c6:C≤6) (al:Ah l=true) (av:Ah v=true) (hv:i+v.length≤R) {c:Nat} (hc:c<C) (hk:k≤c):∀ (cnt j F:Nat),j+cnt=v.length→cnt<F →
    Ak.Apply.L1 N M0 F (R:Int) (C:Int) l (i:Int) v t (j:Int) (apS R C l i k v t c j) (c:Int) (Yq (C:Int) l (i:Int) v t (c:Int)) (Dh (C:Int) l (c:Int) (i:Int) v.length) (v.length:Int) =
    Ak.Apply.L0 N M0 (R:Int) (C:Int) l (i:Int) v t ((c+1:Nat):Int) (apS R C l i k v t (c+1) 0):=by
  intro cnt
  induction cnt with
  | zero =>
    intro j F hj hF
    obtain ⟨F,rfl⟩:∃ G,F=G+1:=⟨F-1,by omega⟩
    obtain rfl:j=v.length:=by omega
    rw [Ak.Apply.Cb,Ar,Aq3 (by omega),Aq2,An (by omega) (by omega),Ajk]
    rfl
  | succ cnt ih =>
    intro j F hj hF
    obtain ⟨F,rfl⟩:∃ G,F=G+1:=⟨F-1,by omega⟩
    have hm:=Lm (a:=((i+j:Nat):Int)) (b:=(C:Int)) (by omega) (by omega) (by omega) (by omega)
    have hpl:=J6 (show i+j<R by omega) hc
    have e1:Ab ((i:Int)+(j:Int))=((i+j:Nat):Int):=by rw [An (by omega) (by omega)]; omega
    have e2:Ab (((i+j:Nat):Int)*(C:Int))=(((i+j)*C:Nat):Int):=by rw [An (by omega) (by omega)]; exact (Ark _ _).symm
    have h36:=Nat.mul_le_mul r6 c6
    have e3:Ab ((((i+j)*C:Nat):Int)+(c:Int))=(((i+j)*C+c:Nat):Int):=by rw [An (by omega) (by omega)]; omega
    have hlen:=Al5 (R:=R) (C:=C) (l:=l) (i:=i) (k:=k) (v:=v) (t:=t) c j
    have sl:=Ik (C:Int) (c:Int) (i:Int) v.length l
    rw [Ak.Apply.Cb,Ar,Aqz (show (j:Int)<(v.length:Int) by omega),Aqy,e1,e2,e3,sl,Aqz (show (0:Int)≤(j:Int) by omega),Aqz (show (j:Int)<(v.length:Int) by omega),Aq4,Aqy,Aq0,Aq0]
    have a1:=Ly av j
    have a2:=Ly (Rk (c:=(C:Int)) (b:=(c:Int)) (i:=(i:Int)) (n:=v.length) al) j
    have a3:Ai (Yq (C:Int) l (i:Int) v t (c:Int))=true:=Lc _ _
    rw [Aqy,a3,a1,Aq4,Aqy,a2,Lc,Aq4,Aqy,Aqz (by omega),Aqz (by omega),Aq4,Aqy,Aqz (by omega),Aqy,
      Al4 hc hk (by omega) (Aji hk (by omega)).symm,An (by omega) (by omega)]
    exact ih (j+1) F (by omega) (by omega)
theorem Ac3 (N:Nat) (r6:R≤6) (c6:C≤6) (hN:7<N) (hr:Bf (R:Int) (C:Int) l=true) (al:Ah l=true) (av:Ah v=true) (ht:Ai t=true) (hv:i+v.length≤R):∀ (cnt c F:Nat),c+cnt=C→k≤c→cnt<F →
    Ak.Apply.L0 N F (R:Int) (C:Int) l (i:Int) v t (c:Int) (apS R C l i k v t c 0) =
    some (.tup [.agg [.int .i64 (R:Int),.int .i64 (C:Int),.ints (.own 114002 tB) .u64 (Fu R C l (i:Int) (k:Int) v t)],.int .i64 (0:Int)]):=by
  intro cnt
  induction cnt with
  | zero =>
    intro c F hc hk hF
    obtain ⟨F,rfl⟩:∃ G,F=G+1:=⟨F-1,by omega⟩
    obtain rfl:c=C:=by omega
    rw [Ak.Apply.At,Ar,Aq3 (by omega),Aq2,Al6]
  | succ cnt ih =>
    intro c F hc hk hF
    obtain ⟨F,rfl⟩:∃ G,F=G+1:=⟨F-1,by omega⟩
    have cp:Kl (R:Int) (C:Int) l (c:Int)=true:=Af.2 ⟨hr,Ao.2 (by omega)⟩
    have e0:Int.toNat ((R:Int)-(i:Int))=R-i:=by omega
    have st:=Ag2 (c:=(C:Int)) (b:=(c:Int)) (i:=(i:Int)) (l:=l) (m:=v.length) (n:=R-i) (by omega)
    have sl:=Ik (C:Int) (c:Int) (i:Int) v.length l
    have sl2:=Ik (C:Int) (c:Int) (i:Int) (R-i) l
    have sa:=Rk (c:=(C:Int)) (b:=(c:Int)) (i:=(i:Int)) (n:=v.length) al
    have ft:Rx v (Dh (C:Int) l (c:Int) (i:Int) v.length)=true:=Yc.2 ⟨by omega,by omega⟩
    rw [Ak.Apply.At,Ar,Aqz (by omega),Aqy,cp,Ao.2 (show 0≤(i:Int)∧(i:Int)≤(R:Int) by omega),Aq4,Aqy,e0,Aq0,st,sl2,sl,
      Aqz (show (0:Int)≤(v.length:Int) by omega),Aqz (show (v.length:Int)≤(v.length:Int) by omega),Aqz (show (v.length:Int)≤((R-i:Nat):Int) by omega),Aq4,Aq4,Aqy,ft,av,sa,Aq4,Aq4,Aqy,ht,Th,Aq4,Aqy]
    have:=Ac2 (t:=t) N F r6 c6 al av hv (show c<C by omega) hk v.length 0 N (by omega) (by omega)
    exact this.trans (ih (c+1) F (by omega) (by omega) (by omega))
end
theorem Ak.Apply.known:Ak.Apply.Kn:=Ak.Apply.Ad (.cons Aa.Check.known (.cons Aa.C4.known (.cons Ae.M6.known (.cons Ae.Mul.known (.cons Ae.Sub.known .nil))))) fun r c l i k v t hp=>by
  obtain ⟨h1,ht⟩:=Af.1 (show (((Bf r c l&&Li r c i k v)&&(Ah l&&Ah v))&&Ai t)=true from hp)
  obtain ⟨h2,h3⟩:=Af.1 h1
  obtain ⟨hr,hb⟩:=Af.1 h2
  obtain ⟨al,av⟩:=Af.1 h3
  have hb:=of_decide_eq_true hb
  have hc:It r c l=0:=by unfold It; rw [if_pos hr]
  have h36:=Oc hr
  obtain ⟨R,C,rfl,rfl,r6,c6,hl⟩:=Db hr
  obtain ⟨i,rfl⟩:∃ j:Nat,i=j:=⟨i.toNat,by omega⟩
  obtain ⟨k,rfl⟩:∃ j:Nat,k=j:=⟨k.toNat,by omega⟩
  refine ⟨8,Ak.Apply.out [.i (R:Int),.i (C:Int),.l l,.i (i:Int),.i (k:Int),.l v,.i t],[],?_,Wk.Gd (.cons (Wk.Ig (.cons .int (.cons .int (.cons (.keep _ _ _ _ List.not_mem_nil) .nil)))) (.cons .int .nil))⟩
  show _=some (DV.tup [.agg [.int .i64 (R:Int),.int .i64 (C:Int),.ints (.own 114002 tB) .u64 (Fu (Int.toNat (R:Int)) (Int.toNat (C:Int)) l (i:Int) (k:Int) v t)],.int .i64 0])
  have hlt:(((((A1 (i:Int) (0:Int))||(A1 (R:Int) (List.length v:Int)))||(A1 (Ab ((R:Int)-(List.length v:Int))) (i:Int)))||(A1 (k:Int) (0:Int)))||(A1 (C:Int) (k:Int)))=false:=by
    rw [Ar,Ar,Ar,Ar,Ar,An (by omega) (by omega),Aq3 (by omega),Aq3 (by omega),Aq3 (by omega),Aq3 (by omega),Aq3 (by omega)]; rfl
  rw [Ak.Apply.ev,hc,show ((0:Int) !=(0:Int))=false from rfl,Aq2,hlt,Aq2,Aqz (show 0+l.length≤Gv by unfold Gv; omega),Aqy,List.nil_append,Aq0,Aq0]
  have:=Ac3 (R:=R) (C:=C) (i:=i) (k:=k) (l:=l) (v:=v) (t:=t) 8 r6 c6 (by omega) hr al av ht (by omega) (C-k) k 8 (by omega) (by omega) (by omega)
  rw [Ajj hl] at this
  exact this
namespace EqSol
def solve.check.hint:Nat→Option A5
  | 0=>some { keep:=[2,3,11,12],objs:=[],boxes:=[2,3] }
  | 2=>some { keep:=[2,34,35],objs:=[],boxes:=[2] }
  | _=>none
def solve.check.Ba:List (Nat × Entry):=[(86,B4.Check.spec),(155,soft.Kind.spec)]
def solve.check.E:Env:=Bb (A9 solve.check.Ba) (fun _=>false) solve.check.hint (fun _=>none)
def solve.check.L0 (N M:Nat) (r c:Int) (l:List Int) (p35:Int):Option DV:=B2 solve.check.E N Tryz.f75 (Am Tryz.f75) [1,1,1,0,1,0] [] M ⟨Fw 51 [(2,.ptr 2 0 0),(34,.int .i64 r),(35,.int .i64 p35)],[(2,false,.box [.int .i64 r,.int .i64 c,.ints .arg .u64 l])]⟩
theorem solve.check.At (N M:Nat) (r c:Int) (l:List Int) (p35:Int):solve.check.L0 (N+4) (M+1) r c l p35=bif (A1 p35 r) then bif ((decide (0≤(Ab ((Ab (p35*c))+p35))))&&(decide ((Ab ((Ab (p35*c))+p35))<(List.length l:Int)))) then bif (Ai (List.getD l (Int.toNat (Ab ((Ab (p35*c))+p35))) 0)) then bif ((A8 (List.getD l (Int.toNat (Ab ((Ab (p35*c))+p35))) 0))==(0:Int)) then some (.int .i64 5) else solve.check.L0 (N+4) M r c l (Ab (p35+1)) else none else none else some (.int .i64 0):=by kernel_rfl
theorem solve.check.ev (N:Nat) (r c:Int) (l:List Int) (p q:Int) (m:List Int):Bv solve.check.E (N+4) Tryz.f75 (Am Tryz.f75) [.agg [.int .i64 r,.int .i64 c,.ints .arg .u64 l],.agg [.int .i64 p,.int .i64 q,.ints .arg .u64 m]]=bif (Ah l) then bif ((Bx r c l) !=(0:Int)) then some (.int .i64 (Bx r c l)) else bif (Ah m) then bif ((Bx p q m) !=(0:Int)) then some (.int .i64 (Bx p q m)) else bif ((r !=c)||(r !=p)) then some (.int .i64 3) else solve.check.L0 (N+4) (N+4) r c l (0:Int) else none else none :=
  Eq.trans (by kernel_rfl)
  (E2 (E2 rfl (E2 (E2 rfl (Ap (Tq (r !=c)) (Ap (Rd (r !=c)) (Ap (Tq (r !=c)) (Ap (Rd (r !=c)) (Ap (tt8 (r !=c)) (Ap (Y8 (r !=c)) (Cy (tt5 (r !=c) (r !=p)) rfl rfl)))))))) rfl)) rfl)
abbrev _root_.Go.Proofs.S1.solve.check.Kn:=A4 Tryz.prog 75 solve.check.spec
theorem solve.check.Ad (hk:Ax Tryz.prog solve.check.Ba) (h:∀ (r c:Int) (l:List Int) (p q:Int) (m:List Int),solve.check.pre [.i r,.i c,.l l,.i p,.i q,.l m]=true→Bc solve.check.E Tryz.f75 [.agg [.int .i64 r,.int .i64 c,.ints .arg .u64 l],.agg [.int .i64 p,.int .i64 q,.ints .arg .u64 m]] (solve.check.out [.i r,.i c,.l l,.i p,.i q,.l m])):solve.check.Kn :=
  Al (Ay hk _ _ _) Tryz.func75 (by kernel_rfl) (by kernel_rfl) h
def Cl.Ck.up.Ba:List (Nat × Entry):=[]
def Cl.Ck.up.E:Env:=Bb (A9 Cl.Ck.up.Ba) (fun _=>false) (fun _=>none) (fun _=>none)
theorem Cl.Ck.up.ev (N:Nat) (n k:Int):Bv Cl.Ck.up.E N Tryz.f103 (Am Tryz.f103) [.int .i64 n,.int .i64 k]=some (.int .i64 (Ab ((Ab (n-1))-k))):=by kernel_rfl
abbrev _root_.Go.Proofs.S1.Cl.Ck.up.Kn:=A4 Tryz.prog 103 Cl.Ck.up.spec
theorem Cl.Ck.up.Ad (hk:Ax Tryz.prog Cl.Ck.up.Ba) (h:∀ (n k:Int),Cl.Ck.up.pre [.i n,.i k]=true→Bc Cl.Ck.up.E Tryz.f103 [.int .i64 n,.int .i64 k] (Cl.Ck.up.out [.i n,.i k])):Cl.Ck.up.Kn :=
  Al (Ay hk _ _ _) Tryz.func103 (by kernel_rfl) (by kernel_rfl) h
def solve.Du.Ba:List (Nat × Entry):=[]
def solve.Du.E:Env:=Bb (A9 solve.Du.Ba) (fun _=>false) (fun _=>none) (fun _=>none)
theorem solve.Du.ev (N:Nat) (i k:Int):Bv solve.Du.E N Tryz.f104 (Am Tryz.f104) [.int .i64 i,.int .i64 k]=some (.bool (A1 i k)):=by kernel_rfl
abbrev _root_.Go.Proofs.S1.solve.Du.Kn:=A4 Tryz.prog 104 solve.Du.spec
theorem solve.Du.Ad (hk:Ax Tryz.prog solve.Du.Ba) (h:∀ (i k:Int),solve.Du.pre [.i i,.i k]=true→Bc solve.Du.E Tryz.f104 [.int .i64 i,.int .i64 k] (solve.Du.out [.i i,.i k])):solve.Du.Kn :=
  Al (Ay hk _ _ _) Tryz.func104 (by kernel_rfl) (by kernel_rfl) h
def Aa.of.B3.own.hint:Nat→Option A5
  | 0=>some { keep:=[1,2,6,7,13,14],objs:=[(8,2,108002,.ints 37 .u64 [])],boxes:=[6,7] }
  | 2=>some { keep:=[1,2,6,7,8,13,14,17,18],objs:=[(8,2,108002,.ints 37 .u64 [])],boxes:=[6,7] }
  | _=>none
def Aa.of.B3.own.Ba:List (Nat × Entry):=[(205,Aa.Dl.spec)]
def Aa.of.B3.own.E:Env:=Bb (A9 Aa.of.B3.own.Ba) (fun _=>false) Aa.of.B3.own.hint (fun _=>none)
abbrev _root_.Go.Proofs.S1.Aa.of.B3.own.Kn:=A4 Tryz.prog 187 Aa.of.B3.own.spec
theorem Aa.of.B3.own.Ad (hk:Ax Tryz.prog Aa.of.B3.own.Ba) (h:∀ (a b:Int),Aa.of.B3.own.pre [.i a,.i b]=true→Bc Aa.of.B3.own.E Tryz.f187 [.int .i64 a,.int .i64 b,.fn 205 [] []] (Aa.of.B3.own.out [.i a,.i b])):Aa.of.B3.own.Kn :=
  Al (Ay hk _ _ _) Tryz.func187 (by kernel_rfl) (by kernel_rfl) h
def Aa.B3.own.Ba:List (Nat × Entry):=[(187,Aa.of.B3.own.spec),(204,Aa.size.spec)]
def Aa.B3.own.E:Env:=Bb (A9 Aa.B3.own.Ba) (fun n=>Nat.beq n 17) (fun _=>none) (fun _=>none)
theorem Aa.B3.own.ev (N:Nat) (a b:Int):Bv Aa.B3.own.E N Tryz.f151 (Am Tryz.f151) [.int .i64 a,.int .i64 b]=bif ((!(Bl a))||(!(Bl b))) then some (.tup [.agg [.int .i64 0,.int .i64 0,.nil],.int .i64 3]) else bif (Bl a&&Bl b) then some (.tup [.agg [.int .i64 a,.int .i64 b,.ints (.own 1136 37) .u64 (Cq (Int.toNat a) (Int.toNat b) (fun _ _=>0))],.int .i64 0]) else none :=
  Eq.trans (by kernel_rfl)
  (Ap (Aed (Bl a)) (Ap (Tr (Bl a)) (Ap (Tr (Bl a)) (Ap (Aee (Bl a)) (Cy (Am9 (Bl a) (Bl b)) rfl rfl)))))
abbrev _root_.Go.Proofs.S1.Aa.B3.own.Kn:=A4 Tryz.prog 151 Aa.B3.own.spec
theorem Aa.B3.own.Ad (hk:Ax Tryz.prog Aa.B3.own.Ba) (h:∀ (a b:Int),Aa.B3.own.pre [.i a,.i b]=true→Bc Aa.B3.own.E Tryz.f151 [.int .i64 a,.int .i64 b] (Aa.B3.own.out [.i a,.i b])):Aa.B3.own.Kn :=
  Al (Ay hk _ _ _) Tryz.func151 (by kernel_rfl) (by kernel_rfl) h
def solve.Aq.Up.hint:Nat→Option A5
  | 0=>some { keep:=[2,3,4,5,8,10,11,28,29],objs:=[(12,2,112002,.ints 37 .u64 [])],boxes:=[4,5,8,11] }
  | 2=>some { keep:=[2,3,4,5,8,10,11,13,28,29,32,33],objs:=[(12,2,112002,.ints 37 .u64 [])],boxes:=[4,5,8,11] }
  | 4=>some { keep:=[2,3,4,5,8,10,11,13,15,16,28,29,32,33,49,50],objs:=[(12,2,112002,.ints 37 .u64 [])],boxes:=[4,5,8,11] }
  | _=>none
def solve.Aq.Up.Ba:List (Nat × Entry):=[(103,Cl.Ck.up.spec),(151,Aa.B3.own.spec),(104,solve.Du.spec),(158,Ae.Div.spec),(150,Ae.Finite.spec),(157,Ae.Mul.spec),(156,Ae.Sub.spec)]
def solve.Aq.Up.E:Env:=Bb (A9 solve.Aq.Up.Ba) (fun n=>Nat.beq n 24) solve.Aq.Up.hint (fun _=>none)
def solve.Aq.Up.L0 (N M:Nat) (r c:Int) (l:List Int) (p q:Int) (m:List Int) (n p29:Int) (p2_2:List Int):Option DV:=B2 solve.Aq.Up.E N Tryz.f76 (Am Tryz.f76) [1,1,1,0,1,0] [] M ⟨Fw 108 [(2,.fn 103 [.int .i64 n] []),(3,.fn 104 [] []),(4,.ptr 4 0 0),(5,.ptr 5 0 0),(8,.ptr 8 0 0),(10,.int .i64 r),(11,.ptr 11 0 0),(28,.int .i64 q),(29,.int .i64 p29)],[(4,false,.box [.int .i64 r,.int .i64 c,.ints .arg .u64 l]),(5,false,.box [.int .i64 p,.int .i64 q,.ints .arg .u64 m]),(8,false,.box [.int .i64 0,.int .i64 0,.nil]),(11,false,.box [.int .i64 r,.int .i64 q,.oref 112002]),(112002,false,.ints 37 .u64 p2_2)]⟩
def solve.Aq.Up.L1 (N M0 M:Nat) (r c:Int) (l:List Int) (p q:Int) (m:List Int) (n p33:Int) (p2:List Int) (p13 p29_1:Int):Option DV:=B2 solve.Aq.Up.E N Tryz.f76 (Am Tryz.f76) [1,1,1,0,1,0,0,1,1,0,0,1,0,1,1,0] [M0] M ⟨Fw 108 [(2,.fn 103 [.int .i64 n] []),(3,.fn 104 [] []),(4,.ptr 4 0 0),(5,.ptr 5 0 0),(8,.ptr 8 0 0),(10,.int .i64 r),(11,.ptr 11 0 0),(13,.int .i64 p13),(28,.int .i64 q),(29,.int .i64 p29_1),(32,.int .i64 r),(33,.int .i64 p33)],[(4,false,.box [.int .i64 r,.int .i64 c,.ints .arg .u64 l]),(5,false,.box [.int .i64 p,.int .i64 q,.ints .arg .u64 m]),(8,false,.box [.int .i64 0,.int .i64 0,.nil]),(11,false,.box [.int .i64 r,.int .i64 q,.oref 112002]),(112002,false,.ints 37 .u64 p2)]⟩
def solve.Aq.Up.L2 (N M0 M1 M:Nat) (r c:Int) (l:List Int) (p q:Int) (m:List Int) (n p16:Int) (p50 p13_1:Int) (p15 p29_2 p33_1:Int) (p2_1:List Int):Option DV:=B2 solve.Aq.Up.E N Tryz.f76 (Am Tryz.f76) [1,1,1,0,1,0,0,1,1,0,0,1,0,1,1,0,0,1,1,0,0,1,1,1,0,1,0] [M0,M1] M ⟨Fw 108 [(2,.fn 103 [.int .i64 n] []),(3,.fn 104 [] []),(4,.ptr 4 0 0),(5,.ptr 5 0 0),(8,.ptr 8 0 0),(10,.int .i64 r),(11,.ptr 11 0 0),(13,.int .i64 p13_1),(15,.int .i64 p15),(16,.int .u64 p16),(28,.int .i64 q),(29,.int .i64 p29_2),(32,.int .i64 r),(33,.int .i64 p33_1),(49,.int .i64 r),(50,.int .i64 p50)],[(4,false,.box [.int .i64 r,.int .i64 c,.ints .arg .u64 l]),(5,false,.box [.int .i64 p,.int .i64 q,.ints .arg .u64 m]),(8,false,.box [.int .i64 0,.int .i64 0,.nil]),(11,false,.box [.int .i64 r,.int .i64 q,.oref 112002]),(112002,false,.ints 37 .u64 p2_1)]⟩
theorem solve.Aq.Up.At (N M:Nat) (r c:Int) (l:List Int) (p q:Int) (m:List Int) (n p29:Int) (p2_2:List Int):solve.Aq.Up.L0 N (M+1) r c l p q m n p29 p2_2=bif (A1 p29 q) then solve.Aq.Up.L1 N M N r c l p q m n 0 p2_2 p29 p29 else bif (Cu p2_2) then bif (!(D8 p2_2)) then some (.tup [.agg [.int .i64 0,.int .i64 0,.nil],.int .i64 2]) else some (.tup [.agg [.int .i64 r,.int .i64 q,.ints (.own 112002 37) .u64 p2_2],.int .i64 0]) else none:=by kernel_rfl
theorem solve.Aq.Up.Cb (N M0 M:Nat) (r c:Int) (l:List Int) (p q:Int) (m:List Int) (n p33:Int) (p2:List Int) (p13 p29_1:Int):solve.Aq.Up.L1 N M0 (M+1) r c l p q m n p33 p2 p13 p29_1=bif (A1 p33 r) then bif (Cn (0≤p33∧p33<n∧n≤10)) then bif ((decide (0≤(Ab ((Ab ((n-1-p33)*q))+p13))))&&(decide ((Ab ((Ab ((n-1-p33)*q))+p13))<(List.length m:Int)))) then solve.Aq.Up.L2 N M0 M N r c l p q m n (List.getD m (Int.toNat (Ab ((Ab ((n-1-p33)*q))+p13))) 0) 0 p13 (n-1-p33) p29_1 p33 p2 else none else none else solve.Aq.Up.L0 N M0 r c l p q m n (Ab (p29_1+1)) p2:=by kernel_rfl
theorem solve.Aq.Up.G2 (N M0 M1 M:Nat) (r c:Int) (l:List Int) (p q:Int) (m:List Int) (n p16:Int) (p50 p13_1:Int) (p15 p29_2 p33_1:Int) (p2_1:List Int):solve.Aq.Up.L2 N M0 M1 (M+1) r c l p q m n p16 p50 p13_1 p15 p29_2 p33_1 p2_1=bif (A1 p50 r) then bif (decide (p15<p50)) then bif ((decide (0≤(Ab ((Ab (p15*r))+p50))))&&(decide ((Ab ((Ab (p15*r))+p50))<(List.length l:Int)))) then bif ((decide (0≤(Ab ((Ab (p50*q))+p13_1))))&&(decide ((Ab ((Ab (p50*q))+p13_1))<(List.length p2_1:Int)))) then bif (decide ((Int.toNat (Ab ((Ab (p50*q))+p13_1)))<(List.length p2_1))) then bif (Ai (List.getD l (Int.toNat (Ab ((Ab (p15*r))+p50))) 0)&&Ai (List.getD p2_1 (Int.toNat (Ab ((Ab (p50*q))+p13_1))) 0)) then bif (Ai p16&&Ai (El (List.getD l (Int.toNat (Ab ((Ab (p15*r))+p50))) 0) (List.getD p2_1 (Int.toNat (Ab ((Ab (p50*q))+p13_1))) 0))) then solve.Aq.Up.L2 N M0 M1 M r c l p q m n (Dm p16 (El (List.getD l (Int.toNat (Ab ((Ab (p15*r))+p50))) 0) (List.getD p2_1 (Int.toNat (Ab ((Ab (p50*q))+p13_1))) 0))) (Ab (p50+1)) p13_1 p15 p29_2 p33_1 p2_1 else none else none else none else none else none else solve.Aq.Up.L2 N M0 M1 M r c l p q m n p16 (Ab (p50+1)) p13_1 p15 p29_2 p33_1 p2_1 else bif ((decide (0≤(Ab ((Ab (p15*r))+p15))))&&(decide ((Ab ((Ab (p15*r))+p15))<(List.length l:Int)))) then bif (Ai p16&&Ai (List.getD l (Int.toNat (Ab ((Ab (p15*r))+p15))) 0)) then bif ((decide (0≤(Ab ((Ab (p15*q))+p13_1))))&&(decide ((Ab ((Ab (p15*q))+p13_1))<(List.length p2_1:Int)))) then bif (decide ((Int.toNat (Ab ((Ab (p15*q))+p13_1)))<(List.length p2_1))) then solve.Aq.Up.L1 N M0 M1 r c l p q m n (Ab (p33_1+1)) (List.set p2_1 (Int.toNat (Ab ((Ab (p15*q))+p13_1))) (E8 p16 (List.getD l (Int.toNat (Ab ((Ab (p15*r))+p15))) 0))) p13_1 p29_2 else none else none else none else none :=
  Eq.trans (by kernel_rfl)
  (E2 (E2 (Cy (Ll (decide (0≤(Ab ((Ab (p15*r))+p50)))) (decide ((Ab ((Ab (p15*r))+p50))<(List.length l:Int)))) (Cy (Ll (decide (0≤(Ab ((Ab (p50*q))+p13_1)))) (decide ((Ab ((Ab (p50*q))+p13_1))<(List.length p2_1:Int)))) (Cy (Cz (decide ((Int.toNat (Ab ((Ab (p50*q))+p13_1)))<(List.length p2_1)))) (Cy (Cz (Ai (List.getD l (Int.toNat (Ab ((Ab (p15*r))+p50))) 0)&&Ai (List.getD p2_1 (Int.toNat (Ab ((Ab (p50*q))+p13_1))) 0))) (Cy (Cz (Ai p16&&Ai (El (List.getD l (Int.toNat (Ab ((Ab (p15*r))+p50))) 0) (List.getD p2_1 (Int.toNat (Ab ((Ab (p50*q))+p13_1))) 0)))) rfl rfl) rfl) rfl) rfl) rfl) rfl) (Cy (Ll (decide (0≤(Ab ((Ab (p15*r))+p15)))) (decide ((Ab ((Ab (p15*r))+p15))<(List.length l:Int)))) (Cy (Cz (Ai p16&&Ai (List.getD l (Int.toNat (Ab ((Ab (p15*r))+p15))) 0))) (Cy (Ll (decide (0≤(Ab ((Ab (p15*q))+p13_1)))) (decide ((Ab ((Ab (p15*q))+p13_1))<(List.length p2_1:Int)))) (Cy (Cz (decide ((Int.toNat (Ab ((Ab (p15*q))+p13_1)))<(List.length p2_1)))) rfl rfl) rfl) rfl) rfl))
theorem solve.Aq.Up.ev (N:Nat) (r c:Int) (l:List Int) (p q:Int) (m:List Int) (n:Int):Bv solve.Aq.Up.E N Tryz.f76 (Am Tryz.f76) [.agg [.int .i64 r,.int .i64 c,.ints .arg .u64 l],.agg [.int .i64 p,.int .i64 q,.ints .arg .u64 m],.fn 103 [.int .i64 n] [],.fn 104 [] []]=bif (Bl r&&Bl q) then solve.Aq.Up.L0 N N r c l p q m n 0 (Cq (Int.toNat r) (Int.toNat q) (fun _ _=>0)) else none:=by kernel_rfl
abbrev _root_.Go.Proofs.S1.solve.Aq.Up.Kn:=A4 Tryz.prog 76 solve.Aq.Up.spec
theorem solve.Aq.Up.Ad (hk:Ax Tryz.prog solve.Aq.Up.Ba) (h:∀ (r c:Int) (l:List Int) (p q:Int) (m:List Int) (n:Int),solve.Aq.Up.pre [.i r,.i c,.l l,.i p,.i q,.l m,.i n]=true→Bc solve.Aq.Up.E Tryz.f76 [.agg [.int .i64 r,.int .i64 c,.ints .arg .u64 l],.agg [.int .i64 p,.int .i64 q,.ints .arg .u64 m],.fn 103 [.int .i64 n] [],.fn 104 [] []] (solve.Aq.Up.out [.i r,.i c,.l l,.i p,.i q,.l m,.i n])):solve.Aq.Up.Kn :=
  Al (Ay hk _ _ _) Tryz.func76 (by kernel_rfl) (by kernel_rfl) h
def solve.Gk.Ba:List (Nat × Entry):=[(75,solve.check.spec),(76,solve.Aq.Up.spec)]
def solve.Gk.E:Env:=Bb (A9 solve.Gk.Ba) (fun _=>false) (fun _=>none) (fun _=>none)
theorem solve.Gk.ev (N:Nat) (r c:Int) (l:List Int) (p q:Int) (m:List Int):Bv solve.Gk.E N Tryz.f36 (Am Tryz.f36) [.agg [.int .i64 r,.int .i64 c,.ints .arg .u64 l],.agg [.int .i64 p,.int .i64 q,.ints .arg .u64 m]]=bif (Ah l&&Ah m) then bif ((M5 r c l p q m) !=(0:Int)) then some (.tup [.agg [.int .i64 0,.int .i64 0,.nil],.int .i64 (M5 r c l p q m)]) else bif (Na r c l p q m&&decide (r=r)) then some (.tup [.agg [.int .i64 ((Is r q (Y6 c l q m (Int.toNat r) (Int.toNat q))).1),.int .i64 ((Is r q (Y6 c l q m (Int.toNat r) (Int.toNat q))).2.1),.ints .fresh .u64 ((Is r q (Y6 c l q m (Int.toNat r) (Int.toNat q))).2.2.1)],.int .i64 ((Is r q (Y6 c l q m (Int.toNat r) (Int.toNat q))).2.2.2)]) else none else none:=by kernel_rfl
abbrev _root_.Go.Proofs.S1.solve.Gk.Kn:=A4 Tryz.prog 36 solve.Gk.spec
theorem solve.Gk.Ad (hk:Ax Tryz.prog solve.Gk.Ba) (h:∀ (r c:Int) (l:List Int) (p q:Int) (m:List Int),solve.Gk.pre [.i r,.i c,.l l,.i p,.i q,.l m]=true→Bc solve.Gk.E Tryz.f36 [.agg [.int .i64 r,.int .i64 c,.ints .arg .u64 l],.agg [.int .i64 p,.int .i64 q,.ints .arg .u64 m]] (solve.Gk.out [.i r,.i c,.l l,.i p,.i q,.l m])):solve.Gk.Kn :=
  Al (Ay hk _ _ _) Tryz.func36 (by kernel_rfl) (by kernel_rfl) h
def solve.Flat.hint:Nat→Option A5
  | 0=>some { keep:=[1,5,6],objs:=[(0,5,100005,.ints 37 .u64 [])],boxes:=[1] }
  | 2=>some { keep:=[7,44,45,46],objs:=[(0,44,100044,.ints 37 .u64 [])],boxes:=[] }
  | _=>none
def solve.Flat.Ba:List (Nat × Entry):=[(86,B4.Check.spec),(87,compare.Sy.spec),(90,compare.J0.spec),(89,Ae.Cf.spec),(88,Ae.Bp.spec)]
def solve.Flat.E:Env:=Bb (A9 solve.Flat.Ba) (fun _=>false) solve.Flat.hint (fun _=>none)
def solve.Flat.L0 (N M:Nat) (r c:Int) (l:List Int) (p6:Int) (p5:List Int):Option DV:=B2 solve.Flat.E N Tryz.f24 (Am Tryz.f24) [1,1,1,0,1,0] [] M ⟨Fw 55 [(1,.ptr 1 0 0),(5,.oref 100005),(6,.int .i64 p6)],[(1,false,.box [.int .i64 r,.int .i64 c,.ints .arg .u64 l]),(100005,false,.ints 37 .u64 p5)]⟩
def solve.Flat.L1 (N M:Nat) (p5:List Int) (p46:Int):Option DV:=B2 solve.Flat.E N Tryz.f24 (Am Tryz.f24) [1,1,1,1,1,0,1,0] [] M ⟨Fw 55 [(7,.int .u64 (B8 (Bm p5) (-40:Int))),(44,.oref 100044),(45,.int .i64 (List.length p5:Int)),(46,.int .i64 p46)],[(100044,false,.ints 37 .u64 p5)]⟩
theorem solve.Flat.At (N M:Nat) (r c:Int) (l:List Int) (p6:Int) (p5:List Int):solve.Flat.L0 N (M+1) r c l p6 p5=bif ((A1 p6 r)&&(A1 p6 c)) then bif ((decide (0≤(Ab ((Ab (p6*c))+p6))))&&(decide ((Ab ((Ab (p6*c))+p6))<(List.length l:Int)))) then bif (Ai (List.getD l (Int.toNat (Ab ((Ab (p6*c))+p6))) 0)) then bif (decide ((List.length p5)+1≤Gv)) then solve.Flat.L0 N M r c l (Ab (p6+1)) (p5++[(Z9 (List.getD l (Int.toNat (Ab ((Ab (p6*c))+p6))) 0))]) else none else none else none else bif (Cu p5) then bif (Ej (Bm p5) (-40:Int)) then solve.Flat.L1 N N p5 (0:Int) else none else none :=
  Eq.trans (by kernel_rfl)
  (Ap (Ot (A1 p6 r)) (Ap (Ot (A1 p6 r)) (Ap (Ks (A1 p6 r)) (Ap (Agp (A1 p6 r)) (Ap (Sc (A1 p6 r)) (Cy (tt1 (A1 p6 r) (A1 p6 c)) rfl rfl))))))
theorem solve.Flat.Cb (N M:Nat) (p5:List Int) (p46:Int):solve.Flat.L1 N (M+1) p5 p46=bif (A1 p46 (List.length p5:Int)) then bif ((decide (0≤p46))&&(decide (p46<(List.length p5:Int)))) then bif (decide ((Int.toNat p46)<(List.length p5))) then bif (Ai (B8 (Bm p5) (-40:Int))&&Ai (List.getD p5 (Int.toNat p46) 0)) then bif (!(decide (Ab2 (B8 (Bm p5) (-40:Int)) (List.getD p5 (Int.toNat p46) 0)<0))) then some (.tup [.bool true,.int .i64 0]) else solve.Flat.L1 N M p5 (Ab (p46+1)) else none else none else none else some (.tup [.bool false,.int .i64 0]):=by kernel_rfl
theorem solve.Flat.ev (N:Nat) (r c:Int) (l:List Int):Bv solve.Flat.E N Tryz.f24 (Am Tryz.f24) [.agg [.int .i64 r,.int .i64 c,.ints .arg .u64 l]]=bif (Ah l) then bif ((Bx r c l) !=(0:Int)) then some (.tup [.bool false,.int .i64 (Bx r c l)]) else solve.Flat.L0 N N r c l 0 [] else none:=by kernel_rfl
abbrev _root_.Go.Proofs.S1.solve.Flat.Kn:=A4 Tryz.prog 24 solve.Flat.spec
theorem solve.Flat.Ad (hk:Ax Tryz.prog solve.Flat.Ba) (h:∀ (r c:Int) (l:List Int),solve.Flat.pre [.i r,.i c,.l l]=true→Bc solve.Flat.E Tryz.f24 [.agg [.int .i64 r,.int .i64 c,.ints .arg .u64 l]] (solve.Flat.out [.i r,.i c,.l l])):solve.Flat.Kn :=
  Al (Ay hk _ _ _) Tryz.func24 (by kernel_rfl) (by kernel_rfl) h
end EqSol
end Go.Proofs.S1
end
