/- A verified evaluator of the program's form and its use for this seat: S1PRootA, LdxL, S1EqLdx, S1PLdx, S1PLdxA, S1EqRef08, S1EqRef13, S1PRef08, S1EqOf, S1POf, S1PMatA, S1EqRef10, S1PRef10, S1PFill, S1EqHouse, S1PHouse, S1PApply. -/
import Derived.Test.YtjbokjpbiobjpaaGreatTI
import Derived.Test.YtjbokjpbiobjpaaGreatTE
import Derived.Test.YtjbokjpbiobjpaaGreatTF
import Derived.Test.YtjbokjpbiobjpaaGreatTG
set_option linter.unusedVariables false
set_option linter.unusedSimpArgs false
noncomputable section
namespace Go.Proofs.S1
open Go Go.Den Go.Rnd Go.Proofs
open EqRoot
theorem V4 {b:Nat} (h:Aq b≠0):Ec (Aq b:Int)=((Aq b).log2:Int)+1:=by
  unfold Ec
  rw [if_neg (by omega),Aum]
theorem Agl {w:Nat} {E:Int} {s:Bool} (hw:2^62≤w) (n:Nat) (h:Q2 n=w) (hs:s=decide (w*w≠n)) :
    Fq false (w / 2) (E+2) (bif s then true else decide (w%2=1))=(B8 (F2 n) E,flagsOf (F2 n) E):=by
  have e1:F2 n / 2^2=w / 2:=by unfold F2; rw [h]; split<;>omega
  have e2:(bif s then true else decide (w%2=1))=decide (F2 n%2^2≠0):=by
    rw [hs]
    unfold F2
    rw [h]
    by_cases h0:w*w=n
    · rw [Aup (by omega),Auo,if_pos h0,decide_eq_decide]; omega
    · rw [Aul h0,Auk,if_neg h0]; symm; exact Aul (by omega)
  rw [← e1]
  have:=Rv false (V:=F2 n) (k:=2) (E:=E) (e:=E+2) rfl e2 (by rw [e1]; omega) (by left; rw [e1]; omega)
  rw [Ai9] at this
  exact this
theorem root.Sqrt.num {b:Nat} (hb:b<2^64) (h4:Ao b≠4) (h:¬ (Ao b=0∨b=Gg)) (hn:Cs b=false) {z:Nat} (hz:2^60≤Aq b*2^z) (hz2:Aq b*2^z<2^62) (he:(Ax b-(z:Int))%2=0) (z60:z≤62) :
    root.Sqrt.L0 2 2 (Ax b-(z:Int)) (Rx ((Aq b*2^z:Nat):Int)) (!(Ry ((Aq b*2^z:Nat):Int)))=some (.tup [.int .u64 (Hg (b:Int)),.int .u8 (N8 (b:Int))]):=by
  have hE:=Di b
  have hM:=Ei b
  have h3:Ao b≠3:=fun h3=>by
    refine h (.inr ?_)
    have hpn:Cs b=false:=hn
    unfold Cs at hpn
    have hlt:b<2^63:=by simpa using hpn
    unfold Ao at h3
    have hp:=Ij b
    unfold Em at h3
    unfold Dt at h3
    unfold Gg
    split at h3
    · split at h3
      · omega
      · omega
    · split at h3
      · omega
      · split at h3<;>omega
  have hm:Aq b≠0:=fun h0=>h (.inl ((I6 h3 h4).1 h0))
  have eN:Aq b*2^z*2^64=Aq b*2^(z+64):=by rw [Nat.mul_assoc,← Nat.pow_add]
  have i1:2^62≤Q2 (Aq b*2^z*2^64):=Zv (t:=62) (by omega)
  have i2:=(Ot (Aq b*2^z*2^64)).1
  have i3:Q2 (Aq b*2^z*2^64)<2^63:=by
    refine Aa4 (Nat.lt_of_le_of_lt i2 ?_)
    show _<9223372036854775808*9223372036854775808
    omega
  have r1:Rx ((Aq b*2^z:Nat):Int)=(Q2 (Aq b*2^z*2^64):Int):=by unfold Rx; rw [Aum]
  have r2:(!(Ry ((Aq b*2^z:Nat):Int)))=decide (Q2 (Aq b*2^z*2^64)*Q2 (Aq b*2^z*2^64)≠Aq b*2^z*2^64):=by
    unfold Ry; rw [Aum,← decide_not]
  obtain ⟨k1,k2⟩:=Ajh hm
  have same:=Agu (m:=Aq b) (k:=z+64) (l:=J8 b) (E:=(Ax b-(z:Int)) / 2-33) (F:=(Ax b-(J8 b:Int)) / 2-1) (by rw [← eN]; omega) k1 (by omega)
  rw [← eN] at same
  have near:=Agl (E:=(Ax b-(z:Int)) / 2-33) i1 _ rfl r2
  rw [same.1,same.2] at near
  have sq:Nq b=_:=Ai5 h4 h hn
  rw [r1,r2]
  rw [r2] at near
  generalize Q2 (Aq b*2^z*2^64)=w at *
  have w1:Dv (4611686018427387904:Int) (w:Int)=true:=by rw [Ed]; exact Aul (by omega)
  have w2:Da .u64 (w:Int) (1:Int)=((w / 2:Nat):Int):=by rw [show (1:Int)=((1:Nat):Int) from rfl,Se _ _ (by decide)]
  have w3:((Fj .u64 (w:Int) (1:Int))==(1:Int))=decide (w%2=1):=by
    rw [show Fj .u64 (w:Int) (1:Int)=((w%2^1:Nat):Int) from Hb 1 (by omega) (by decide),Au0,beq_iff_eq,Aur]
    omega
  have w4:Dv (4611686018427387904:Int) ((w / 2:Nat):Int)=false:=by rw [Ed]; exact Aup (by omega)
  have w5:Ab (Ab (Int.tdiv (Ax b-(z:Int)+2) 2)-32)=(Ax b-(z:Int)) / 2-33+2:=by
    have:Int.tdiv (Ax b-(z:Int)+2) 2=(Ax b-(z:Int)) / 2+1:=by
      rw [Int.tdiv_eq_ediv]
      split<;>omega
    rw [this,An (x:=(Ax b-(z:Int)) / 2+1) (by omega) (by omega),An (by omega) (by omega)]
    omega
  have w6:Ab (Ax b-(z:Int)+2)=Ax b-(z:Int)+2:=An (by omega) (by omega)
  generalize hs:decide (w*w≠Aq b*2^z*2^64)=s at *
  have pre:Ds ((w / 2:Nat):Int) ((Ax b-(z:Int)) / 2-33+2) (bif s then true else decide (w%2=1))=true:=Ap.2 ⟨by omega,by omega,by omega,by omega,fun _=>.inl (by omega)⟩
  rw [show (2:Nat)=1+1 from rfl,root.Sqrt.At,w1,Auk,w2,w3,w6,show (1:Nat)=0+1 from rfl,root.Sqrt.At,w4,Auo,w5,pre,Auk]
  unfold Eb Ea Hg N8
  rw [Aum,Aum,near,sq]
theorem root.Sqrt.known:root.Sqrt.Kn:=root.Sqrt.Ad (.cons Ch.Bp.known (.cons root.Fz.known (.cons soft.Kind.known (.cons soft.Cy.known (.cons soft.Fc.known (.cons soft.Sign.known .nil)))))) fun a hp=>by
  obtain ⟨b,rfl,hb⟩:=Bv (x:=a) hp
  refine ⟨2,root.Sqrt.out [.i b],[],?_,Wk.Gm (.cons .int (.cons .int .nil))⟩
  show _=some (DV.tup [.int .u64 (Hg (b:Int)),.int .u8 (N8 (b:Int))])
  have hk:A1 (b:Int)=(Ao b:Int):=rfl
  rw [root.Sqrt.ev,B5 hb,Auk,Auk,Auk,Auk,hk]
  by_cases h4:Ao b=4
  · rw [h4,show (((4:Nat):Int)==(4:Int))=true from rfl,Auk]
    unfold Hg N8
    rw [Aum,Aa3 h4]; rfl
  have k4:(((Ao b:Nat):Int)==(4:Int))=false:=by rw [beq_eq_false_iff_ne]; omega
  rw [k4,Auo]
  by_cases h0:Ao b=0
  · rw [h0,show (((0:Nat):Int)==(0:Int))=true from rfl,Auk]
    unfold Hg N8
    rw [Aum,Sm h4 (.inl h0)]; rfl
  have k0:(((Ao b:Nat):Int)==(0:Int))=false:=by rw [beq_eq_false_iff_ne]; omega
  rw [k0,Auo]
  by_cases hi:b=Gg
  · rw [show (((b:Nat):Int)==(9218868437227405312:Int))=true by rw [hi]; rfl,Auk]
    unfold Hg N8
    rw [Aum,Sm h4 (.inr hi)]; rfl
  have ki:(((b:Nat):Int)==(9218868437227405312:Int))=false:=by
    rw [beq_eq_false_iff_ne]; intro hh; refine hi (show b=9218868437227405312 from ?_); omega
  rw [ki,Auo]
  have hh:¬ (Ao b=0∨b=Gg):=by rintro (h | h); exact h0 h; exact hi h
  have hneg:Dp (b:Int)=Cs b:=rfl
  rw [hneg]
  cases hn:Cs b with
  | true =>
    rw [Auk]
    unfold Hg N8
    rw [Aum,Aa2 h4 hh hn]; rfl
  | false =>
    rw [Auo]
    have hm:Aq b≠0:=fun hz=>by
      have h3:Ao b≠3:=fun h3=>by
        rcases M8 b with ⟨p,_,_⟩ | ⟨_,_,q⟩ | ⟨_,q,_⟩
        · unfold Aq at hz
          rw [if_neg (by omega)] at hz
          omega
        · omega
        · exact q h3
      exact hh (.inl ((I6 h3 h4).1 hz))
    have hM:=Ei b
    have hE:=Di b
    have hl:(Aq b).log2≤52:=by have:=(Nat.log2_lt hm).2 (show Aq b<2^53 by omega); omega
    have e1:Bh (b:Int)=(Aq b:Int):=rfl
    have e2:Aw (b:Int)=Ax b:=rfl
    have l1:∀ z:Nat,(Aq b).log2+z=60∨(Aq b).log2+z=61→2^60≤Aq b*2^z∧Aq b*2^z<2^62:=by
      intro z hz
      have hlz:=Oo (Aq b) z hm
      have hne:Aq b*2^z≠0:=Ja hm
      constructor
      · rw [← Nat.le_log2 hne]; omega
      · rw [← Nat.log2_lt hne]; omega
    have ez:Ab ((64-(((Aq b).log2:Int)+1))-(2:Int))=((61-(Aq b).log2:Nat):Int):=by rw [An (by omega) (by omega)]; omega
    have ez':Ab (((61-(Aq b).log2:Nat):Int)-(1:Int))=((60-(Aq b).log2:Nat):Int):=by rw [An (by omega) (by omega)]; omega
    rw [e1,e2,B5 (n:=Aq b) (by omega),Auk,V4 hm,ez,ez',An (x:=Ax b-((61-(Aq b).log2:Nat):Int)) (by omega) (by omega),An (x:=Ax b-((60-(Aq b).log2:Nat):Int)) (by omega) (by omega)]
    by_cases hp2:(Ax b-((61-(Aq b).log2:Nat):Int))%2=0
    · have t0:(Int.tmod (Ax b-((61-(Aq b).log2:Nat):Int)) (2:Int) !=(0:Int))=false:=by
        rw [bne_eq_false_iff_eq]; exact Int.tmod_eq_zero_of_dvd (Int.dvd_of_emod_eq_zero hp2)
      obtain ⟨m1,m2⟩:=l1 (61-(Aq b).log2) (by omega)
      rw [t0,Auo,Aul (by omega),Auk,Ex _ _ (by omega),Aux (by omega),Ap.2 (by omega),Auk]
      exact root.Sqrt.num hb h4 hh hn m1 m2 hp2 (by omega)
    · have t0:(Int.tmod (Ax b-((61-(Aq b).log2:Nat):Int)) (2:Int) !=(0:Int))=true:=by
        rw [bne_iff_ne]; intro hz; exact hp2 (Int.emod_eq_zero_of_dvd (Int.dvd_of_tmod_eq_zero hz))
      obtain ⟨m1,m2⟩:=l1 (60-(Aq b).log2) (by omega)
      rw [t0,Auk,Aul (by omega),Auk,Ex _ _ (by omega),Aux (by omega),Ap.2 (by omega),Auk]
      exact root.Sqrt.num hb h4 hh hn m1 m2 (by omega) (by omega)
theorem Af.Sqrt.known:Af.Sqrt.Kn:=Af.Sqrt.Ad (.cons root.Sqrt.known .nil) fun a hp=>by
  have hp:Ai a=true:=hp
  refine ⟨0,Af.Sqrt.out [.i a],[],?_,.int⟩
  rw [Af.Sqrt.ev,hp]; rfl
theorem compare.Kd.known:compare.Kd.Kn:=compare.Kd.Ad (.cons Ch.Jx.known (.cons soft.Finite.known (.cons soft.Kind.known (.cons soft.Fc.known .nil)))) fun a hp=>by
  obtain ⟨b,rfl,hb⟩:=Bv (x:=a) hp
  refine ⟨0,compare.Kd.out [.i b],[],?_,.int⟩
  show _=some (DV.int .i64 (Bt (b:Int)))
  have hk:A1 (b:Int)=(Ao b:Int):=rfl
  have hf:Cv (b:Int)=Ir b:=rfl
  have hE:=Di b
  have hM:=Ei b
  rw [compare.Kd.ev,B5 hb,Auk,Bool.or_true,Auk,hk,hf]
  unfold Bt
  rw [Aum]
  unfold Aem
  cases hfin:Ir b with
  | false=>rfl
  | true =>
    by_cases h0:Ao b=0
    · rw [h0]; rfl
    · have k0:(((Ao b:Nat):Int)==(0:Int))=false:=by rw [beq_eq_false_iff_ne]; omega
      have hm:Aq b≠0:=fun hz=>by
        obtain ⟨f4,f3⟩:=Hn hfin
        exact h0 ((I6 f3 f4).1 hz)
      have hl:(Aq b).log2≤52:=by have:=(Nat.log2_lt hm).2 (show Aq b<2^53 by omega); omega
      have e1:Bh (b:Int)=(Aq b:Int):=rfl
      have e2:Aw (b:Int)=Ax b:=rfl
      rw [k0,if_pos ⟨rfl,h0⟩,Bool.not_true,Bool.false_or,Auo,Auk,e1,e2,B5 (n:=Aq b) (by omega),Auk,V4 hm,An (x:=((Aq b).log2:Int)+1-1) (by omega) (by omega),An (by omega) (by omega)]
      congr 2; omega
theorem Ai4 {x:List Int} {i:Nat} (h:i<x.length) (k s:Int):Adh k s (x.drop i)=Adh k (Kc s (Eg (Cg (x.getD i 0) k) (Cg (x.getD i 0) k))) (x.drop (i+1)):=by
  rw [H5 h,Adh]
theorem Ag2 (N:Nat) {x:List Int} (hx:Cw x=true) (hl:x.length≤1000):∀ (k i F:Nat) (s:Int),i+k=x.length→k<F→Ai s=true →
    Af.Norm.L0 N F x s (i:Int)=some (.tup [.int .u64 (Cg (Hg (Adh (-Bt (Bq x)) s (x.drop i))) (Bt (Bq x))),.int .i64 0]):=by
  obtain ⟨_,hu⟩:=Kj hx
  have he:=Alj (Bq x)
  intro k
  induction k with
  | zero =>
    intro i F s hi hF hs
    obtain ⟨F,rfl⟩:∃ G,F=G+1:=⟨F-1,by omega⟩
    rw [Af.Norm.At,Au,Aup (by omega),Auo,hs,Auk,show Ew (Hg s) (Bt (Bq x))=true from Ag.2 ⟨Afa hs,Ap.2 (by omega)⟩,Auk,Auy (by omega)]
    rfl
  | succ k ih =>
    intro i F s hi hF hs
    obtain ⟨F,rfl⟩:∃ G,F=G+1:=⟨F-1,by omega⟩
    rw [Af.Norm.At,Au,Aul (show (i:Int)<(x.length:Int) by omega),Auk,Aul (show (0:Int)≤(i:Int) by omega),Auq,Auk,Aum,An (x:=0-Bt (Bq x)) (by omega) (by omega),show (0:Int)-Bt (Bq x)=-Bt (Bq x) by omega,
      show Ew (List.getD x i 0) (-Bt (Bq x))=true from Ag.2 ⟨hu i (by omega),Ap.2 (by omega)⟩,Auk,Jm (hu i (by omega)),Auq,Auk,hs,L7,Auq,Auk,Ai4 (by omega),An (by omega) (by omega)]
    exact ih (i+1) F _ (by omega) (by omega) (Amb hs (L7 _ _))
theorem Af.Norm.known:Af.Norm.Kn:=Af.Norm.Ad (.cons compare.Kd.known (.cons soft.Finite.known (.cons Af.Add.known (.cons Af.Cm.known (.cons Af.Mul.known (.cons Af.Bx.known (.cons Af.Sqrt.known .nil))))))) fun x hp=>by
  obtain ⟨hx,hl⟩:=Ag.1 (show (Cw x&&Cr (List.length x≤64))=true from hp)
  have hl:=Ap.1 hl
  refine ⟨65,Af.Norm.out [.l x],[],?_,Wk.Gm (.cons .int (.cons .int .nil))⟩
  show _=some (DV.tup [.int .u64 (Ek x),.int .i64 0])
  rw [Af.Norm.ev,Au,Aup (by omega),Auo,hx,Auk,Qy,Bool.or_true,Auk]
  unfold Ek
  by_cases h:Bq x=0∨Cv (Bq x)=false
  · have:((Bq x==(0:Int))||(!(Cv (Bq x))))=true:=by
      rcases h with h | h
      · rw [h]; rfl
      · rw [h,Bool.not_false,Bool.or_true]
    rw [this,Auk,if_pos h]
  · have:((Bq x==(0:Int))||(!(Cv (Bq x))))=false:=by
      rw [Bool.or_eq_false_iff,beq_eq_false_iff_ne,Bool.not_eq_false']
      refine ⟨fun h0=>h (.inl h0),?_⟩
      cases hf:Cv (Bq x) with
      | true=>rfl
      | false=>exact absurd (.inr hf) h
    rw [this,Auo,Auk,if_neg h]
    exact Ag2 65 hx (by omega) x.length 0 65 0 (by omega) (by omega) Jh
end Go.Proofs.S1
namespace Go.Rnd
open Go.Den
end Go.Rnd
namespace Go.Proofs.S1
open Go Go.Den Go.Rnd Go.Proofs
set_option maxRecDepth 100000
namespace EqLdx
end EqLdx
open EqLdx
open EqLdx
namespace EqRef08
end EqRef08
namespace EqRef13
def G4.Kd.Bb:List (Nat × Entry):=[(180,Ay.Uw.spec),(131,A5.Finite.spec),(62,A5.Kind.spec),(63,A5.Value.spec)]
def G4.Kd.E:Env:=Be (Ba G4.Kd.Bb) (fun _=>false) (fun _=>none) (fun _=>none)
theorem G4.Kd.ev (N:Nat) (a:Int):B0 G4.Kd.E N Tryz.f132 (Al Tryz.f132) [.int .u64 a]=bif (Ai a) then bif ((!(Cv a))||(Nx a)) then bif ((!(Cv a))||((A1 a)==(0:Int))) then some (.int .i64 0) else bif (Ai a) then bif (Ib (Av (mD (A2 a))) (Ae (mD (A2 a)))&&S3 (eD (A2 a) (Aw a))) then some (.int .i64 (Ab ((Agf (wv (Av (mD (A2 a))) (Ae (mD (A2 a)))) (eD (A2 a) (Aw a)))-1))) else none else none else none else none :=
  Eq.trans (by kernel_rfl)
  (Ev (Ar (Ada (Cv a)) (C3 (Am3 (Cv a) (Nx a)) (Ar (T7 (Cv a)) (Ar (Adb (Cv a)) (C3 (Aqg (Cv a) ((A1 a)==(0:Int))) rfl rfl))) rfl)) rfl)
abbrev _root_.Go.Proofs.S1.G4.Kd.Kn:=A8 Tryz.prog 132 G4.Kd.spec
theorem G4.Kd.Ad (hk:Az Tryz.prog G4.Kd.Bb) (h:∀ (a:Int),G4.Kd.pre [.i a]=true→Bf G4.Kd.E Tryz.f132 [.int .u64 a] (G4.Kd.out [.i a])):G4.Kd.Kn :=
  Ak (A0 hk _ _ _) Tryz.func132 (by kernel_rfl) (by kernel_rfl) h
end EqRef13
open EqRef08 EqRef13
theorem Afn (b:Nat):Wy (Av (mD (A2 (b:Int)))) (Ae (mD (A2 (b:Int))))=true∧Ib (Av (mD (A2 (b:Int)))) (Ae (mD (A2 (b:Int))))=true∧S3 (eD (A2 (b:Int)) (Ax b))=true:=by
  obtain ⟨v1,v2,v3⟩:=Aij b
  have hl:C0 (mD (A2 (b:Int))).natAbs<3:=Nat.lt_of_le_of_lt (Jc (Pl _)) v1
  exact ⟨Ad1 (by omega),I8 (by omega),Ap.2 ⟨v2,v3⟩⟩
theorem G4.Kd.known:G4.Kd.Kn:=G4.Kd.Ad (.cons Ay.Uw.known (.cons A5.Finite.known (.cons A5.Kind.known (.cons A5.Value.known .nil)))) fun a hp=>by
  obtain ⟨b,rfl,hb⟩:=Bv (x:=a) hp
  refine ⟨0,.int .i64 (Bt (b:Int)),[],?_,.int⟩
  have kk:A1 (b:Int)=(Ao b:Int):=rfl
  have hf:Cv (b:Int)=Ir b:=rfl
  have pe:Aw (b:Int)=Ax b:=rfl
  obtain ⟨_,o2,o3⟩:=Afn b
  have hE:=Di b
  have hM:=Ei b
  rw [G4.Kd.ev,B5 hb,Auk,Oh,Bool.or_true,Auk,kk,hf,pe,o2,o3,Fo,Auq,Auk,Auk]
  unfold Bt
  rw [Aum]
  unfold Aem
  cases hfin:Ir b with
  | false=>rfl
  | true =>
    by_cases h0:Ao b=0
    · rw [h0]; rfl
    · have k0:(((Ao b:Nat):Int)==(0:Int))=false:=by rw [beq_eq_false_iff_ne]; omega
      obtain ⟨f4,f3⟩:=Hn hfin
      have hm:Aq b≠0:=fun hz=>h0 ((I6 f3 f4).1 hz)
      have hv:A2 (b:Int)≠0:=by
        intro h
        have:=Q5 b
        rw [h] at this
        exact hm this.symm
      have hl:(Aq b).log2≤52:=by have:=(Nat.log2_lt hm).2 (show Aq b<2^53 by omega); omega
      have ht:Agf (mD (A2 (b:Int))) (eD (A2 (b:Int)) (Ax b))=((Aq b).log2:Int)+1+Ax b:=by
        unfold Agf Zt
        rw [if_neg (fun h=>hv (Un.1 h)),if_neg (fun h=>hv (Un.1 h))]
        unfold eD
        rw [if_neg hv]
        have hs:=Aft (A2 (b:Int))
        have ha:Aq b=(mD (A2 (b:Int))).natAbs*2^Q6 (A2 (b:Int)).natAbs:=by
          have e:=congrArg Int.natAbs hs
          rw [Int.natAbs_mul,Int.natAbs_natCast] at e
          rw [← Q5 b]
          exact e
        have hmd:(mD (A2 (b:Int))).natAbs≠0:=fun h=>hv (Un.1 (Int.natAbs_eq_zero.1 h))
        have hlog:=Oo (mD (A2 (b:Int))).natAbs (Q6 (A2 (b:Int)).natAbs) hmd
        rw [← ha] at hlog
        rw [hlog]
        omega
      rw [k0,if_pos ⟨rfl,h0⟩,ht,An (by omega) (by omega)]
      show some (DV.int .i64 _)=_
      congr 2; omega
namespace EqOf
def Aa.of.Br.hint:Nat→Option A9
  | 0=>some { keep:=[1,2,6,7,13,14],objs:=[(8,2,108002,.ints 37 .u64 [])],boxes:=[6,7] }
  | 2=>some { keep:=[1,2,6,7,8,13,14,17,18],objs:=[(8,2,108002,.ints 37 .u64 [])],boxes:=[6,7] }
  | _=>none
def Aa.of.Br.Bb:List (Nat × Entry):=[(205,Aa.Dy.spec)]
def Aa.of.Br.E:Env:=Be (Ba Aa.of.Br.Bb) (fun _=>false) Aa.of.Br.hint (fun _=>none)
def Aa.of.Br.L0 (N M:Nat) (a b p14:Int) (p2_1:List Int):Option DV:=B7 Aa.of.Br.E N Tryz.f187 (Al Tryz.f187) [1,1,0,1,0] [] M ⟨Fy 33 [(1,.int .i64 b),(2,.fn 205 [] []),(6,.ptr 6 0 0),(7,.ptr 7 0 0),(13,.int .i64 a),(14,.int .i64 p14)],[(6,false,.box [.int .i64 0,.int .i64 0,.nil]),(7,false,.box [.int .i64 a,.int .i64 b,.oref 108002]),(108002,false,.ints 37 .u64 p2_1)]⟩
def Aa.of.Br.L1 (N M0 M:Nat) (a b:Int) (p8 p14_1 p18:Int) (p2:List Int):Option DV:=B7 Aa.of.Br.E N Tryz.f187 (Al Tryz.f187) [1,1,0,1,0,0,1,1,0,0,1,1,0] [M0] M ⟨Fy 33 [(1,.int .i64 b),(2,.fn 205 [] []),(6,.ptr 6 0 0),(7,.ptr 7 0 0),(8,.int .i64 p8),(13,.int .i64 a),(14,.int .i64 p14_1),(17,.int .i64 b),(18,.int .i64 p18)],[(6,false,.box [.int .i64 0,.int .i64 0,.nil]),(7,false,.box [.int .i64 a,.int .i64 b,.oref 108002]),(108002,false,.ints 37 .u64 p2)]⟩
theorem Aa.of.Br.At (N M:Nat) (a b p14:Int) (p2_1:List Int):Aa.of.Br.L0 N (M+1) a b p14 p2_1=bif (A4 p14 a) then Aa.of.Br.L1 N M N a b p14 p14 0 p2_1 else some (.agg [.int .i64 a,.int .i64 b,.ints (.own 108002 37) .u64 p2_1]):=by kernel_rfl
theorem Aa.of.Br.Ck (N M0 M:Nat) (a b:Int) (p8 p14_1 p18:Int) (p2:List Int):Aa.of.Br.L1 N M0 (M+1) a b p8 p14_1 p18 p2=bif (A4 p18 b) then bif (decide ((List.length p2)+1≤Gf)) then Aa.of.Br.L1 N M0 M a b p8 p14_1 (Ab (p18+1)) (p2++[(0:Int)]) else none else Aa.of.Br.L0 N M0 a b (Ab (p14_1+1)) p2 :=
  Eq.trans (by kernel_rfl)
  (Ev (C3 (C4 (decide ((List.length p2)+1≤Gf))) rfl rfl) rfl)
theorem Aa.of.Br.ev (N:Nat) (a b:Int):B0 Aa.of.Br.E N Tryz.f187 (Al Tryz.f187) [.int .i64 a,.int .i64 b,.fn 205 [] []] =
  Aa.of.Br.L0 N N a b 0 []:=by kernel_rfl
def Aa.of.En.hint:Nat→Option A9
  | 0=>some { keep:=[1,2,6,7,13,14],objs:=[(8,2,108002,.ints 37 .u64 [])],boxes:=[6,7] }
  | 2=>some { keep:=[1,2,6,7,8,13,14,17,18],objs:=[(8,2,108002,.ints 37 .u64 [])],boxes:=[6,7] }
  | _=>none
def Aa.of.En.Bb:List (Nat × Entry):=[(246,Aa.G0.spec)]
def Aa.of.En.E:Env:=Be (Ba Aa.of.En.Bb) (fun _=>false) Aa.of.En.hint (fun _=>none)
def Aa.of.En.L0 (N M:Nat) (a b p14:Int) (p2_1:List Int):Option DV:=B7 Aa.of.En.E N Tryz.f187 (Al Tryz.f187) [1,1,0,1,0] [] M ⟨Fy 33 [(1,.int .i64 b),(2,.fn 246 [] []),(6,.ptr 6 0 0),(7,.ptr 7 0 0),(13,.int .i64 a),(14,.int .i64 p14)],[(6,false,.box [.int .i64 0,.int .i64 0,.nil]),(7,false,.box [.int .i64 a,.int .i64 b,.oref 108002]),(108002,false,.ints 37 .u64 p2_1)]⟩
def Aa.of.En.L1 (N M0 M:Nat) (a b:Int) (p8 p14_1 p18:Int) (p2:List Int):Option DV:=B7 Aa.of.En.E N Tryz.f187 (Al Tryz.f187) [1,1,0,1,0,0,1,1,0,0,1,1,0] [M0] M ⟨Fy 33 [(1,.int .i64 b),(2,.fn 246 [] []),(6,.ptr 6 0 0),(7,.ptr 7 0 0),(8,.int .i64 p8),(13,.int .i64 a),(14,.int .i64 p14_1),(17,.int .i64 b),(18,.int .i64 p18)],[(6,false,.box [.int .i64 0,.int .i64 0,.nil]),(7,false,.box [.int .i64 a,.int .i64 b,.oref 108002]),(108002,false,.ints 37 .u64 p2)]⟩
theorem Aa.of.En.At (N M:Nat) (a b p14:Int) (p2_1:List Int):Aa.of.En.L0 N (M+1) a b p14 p2_1=bif (A4 p14 a) then Aa.of.En.L1 N M N a b p14 p14 0 p2_1 else some (.agg [.int .i64 a,.int .i64 b,.ints (.own 108002 37) .u64 p2_1]):=by kernel_rfl
theorem Aa.of.En.Ck (N M0 M:Nat) (a b:Int) (p8 p14_1 p18:Int) (p2:List Int):Aa.of.En.L1 N M0 (M+1) a b p8 p14_1 p18 p2=bif (A4 p18 b) then bif (decide ((List.length p2)+1≤Gf)) then Aa.of.En.L1 N M0 M a b p8 p14_1 (Ab (p18+1)) (p2++[(Co p8 p18)]) else none else Aa.of.En.L0 N M0 a b (Ab (p14_1+1)) p2 :=
  Eq.trans (by kernel_rfl)
  (Ev (C3 (C4 (decide ((List.length p2)+1≤Gf))) rfl rfl) rfl)
theorem Aa.of.En.ev (N:Nat) (a b:Int):B0 Aa.of.En.E N Tryz.f187 (Al Tryz.f187) [.int .i64 a,.int .i64 b,.fn 246 [] []] =
  Aa.of.En.L0 N N a b 0 []:=by kernel_rfl
abbrev _root_.Go.Proofs.S1.Aa.of.En.Kn:=A8 Tryz.prog 187 Aa.of.En.spec
theorem Aa.of.En.Ad (hk:Az Tryz.prog Aa.of.En.Bb) (h:∀ (a b:Int),Aa.of.En.pre [.i a,.i b]=true→Bf Aa.of.En.E Tryz.f187 [.int .i64 a,.int .i64 b,.fn 246 [] []] (Aa.of.En.out [.i a,.i b])):Aa.of.En.Kn :=
  Ak (A0 hk _ _ _) Tryz.func187 (by kernel_rfl) (by kernel_rfl) h
def Aa.of.Df.hint:Nat→Option A9
  | 0=>some { keep:=[1,2,6,7,13,14],objs:=[(8,2,108002,.ints 37 .u64 [])],boxes:=[6,7] }
  | 2=>some { keep:=[1,2,6,7,8,13,14,17,18],objs:=[(8,2,108002,.ints 37 .u64 [])],boxes:=[6,7] }
  | _=>none
def Aa.of.Df.Bb:List (Nat × Entry):=[(220,Aa.E2.spec)]
def Aa.of.Df.E:Env:=Be (Ba Aa.of.Df.Bb) (fun _=>false) Aa.of.Df.hint (fun _=>none)
def Aa.of.Df.L0 (N M:Nat) (a b:Int) (r c:Int) (l:List Int) (p14:Int) (p2_1:List Int):Option DV:=B7 Aa.of.Df.E N Tryz.f187 (Al Tryz.f187) [1,1,0,1,0] [] M ⟨Fy 33 [(1,.int .i64 b),(2,.fn 220 [] [.cellp [.int .i64 r,.int .i64 c,.ints .arg .u64 l]]),(6,.ptr 6 0 0),(7,.ptr 7 0 0),(13,.int .i64 a),(14,.int .i64 p14)],[(6,false,.box [.int .i64 0,.int .i64 0,.nil]),(7,false,.box [.int .i64 a,.int .i64 b,.oref 108002]),(108002,false,.ints 37 .u64 p2_1)]⟩
def Aa.of.Df.L1 (N M0 M:Nat) (a b:Int) (r c:Int) (l:List Int) (p8 p14_1 p18:Int) (p2:List Int):Option DV:=B7 Aa.of.Df.E N Tryz.f187 (Al Tryz.f187) [1,1,0,1,0,0,1,1,0,0,1,1,0] [M0] M ⟨Fy 33 [(1,.int .i64 b),(2,.fn 220 [] [.cellp [.int .i64 r,.int .i64 c,.ints .arg .u64 l]]),(6,.ptr 6 0 0),(7,.ptr 7 0 0),(8,.int .i64 p8),(13,.int .i64 a),(14,.int .i64 p14_1),(17,.int .i64 b),(18,.int .i64 p18)],[(6,false,.box [.int .i64 0,.int .i64 0,.nil]),(7,false,.box [.int .i64 a,.int .i64 b,.oref 108002]),(108002,false,.ints 37 .u64 p2)]⟩
theorem Aa.of.Df.At (N M:Nat) (a b:Int) (r c:Int) (l:List Int) (p14:Int) (p2_1:List Int):Aa.of.Df.L0 N (M+1) a b r c l p14 p2_1=bif (A4 p14 a) then Aa.of.Df.L1 N M N a b r c l p14 p14 0 p2_1 else some (.agg [.int .i64 a,.int .i64 b,.ints (.own 108002 37) .u64 p2_1]):=by kernel_rfl
theorem Aa.of.Df.Ck (N M0 M:Nat) (a b:Int) (r c:Int) (l:List Int) (p8 p14_1 p18:Int) (p2:List Int):Aa.of.Df.L1 N M0 (M+1) a b r c l p8 p14_1 p18 p2=bif (A4 p18 b) then bif (Du r c l p18 p8) then bif (decide ((List.length p2)+1≤Gf)) then Aa.of.Df.L1 N M0 M a b r c l p8 p14_1 (Ab (p18+1)) (p2++[(Ee c l p18 p8)]) else none else none else Aa.of.Df.L0 N M0 a b r c l (Ab (p14_1+1)) p2 :=
  Eq.trans (by kernel_rfl)
  (Ev (C3 (C4 (Du r c l p18 p8)) (C3 (C4 (decide ((List.length p2)+1≤Gf))) rfl rfl) rfl) rfl)
theorem Aa.of.Df.ev (N:Nat) (a b:Int) (r c:Int) (l:List Int):B0 Aa.of.Df.E N Tryz.f187 (Al Tryz.f187) [.int .i64 a,.int .i64 b,.fn 220 [] [.cellp [.int .i64 r,.int .i64 c,.ints .arg .u64 l]]] =
  Aa.of.Df.L0 N N a b r c l 0 []:=by kernel_rfl
abbrev _root_.Go.Proofs.S1.Aa.of.Df.Kn:=A8 Tryz.prog 187 Aa.of.Df.spec
theorem Aa.of.Df.Ad (hk:Az Tryz.prog Aa.of.Df.Bb) (h:∀ (a b:Int) (r c:Int) (l:List Int),Aa.of.Df.pre [.i a,.i b,.i r,.i c,.l l]=true→Bf Aa.of.Df.E Tryz.f187 [.int .i64 a,.int .i64 b,.fn 220 [] [.cellp [.int .i64 r,.int .i64 c,.ints .arg .u64 l]]] (Aa.of.Df.out [.i a,.i b,.i r,.i c,.l l])):Aa.of.Df.Kn :=
  Ak (A0 hk _ _ _) Tryz.func187 (by kernel_rfl) (by kernel_rfl) h
def Aa.of.Part.hint:Nat→Option A9
  | 0=>some { keep:=[1,2,6,7,13,14],objs:=[(8,2,108002,.ints 37 .u64 [])],boxes:=[6,7] }
  | 2=>some { keep:=[1,2,6,7,8,13,14,17,18],objs:=[(8,2,108002,.ints 37 .u64 [])],boxes:=[6,7] }
  | _=>none
def Aa.of.Part.Bb:List (Nat × Entry):=[(192,Aa.E4.spec)]
def Aa.of.Part.E:Env:=Be (Ba Aa.of.Part.Bb) (fun _=>false) Aa.of.Part.hint (fun _=>none)
def Aa.of.Part.L0 (N M:Nat) (a b:Int) (r c:Int) (l:List Int) (x y p14:Int) (p2_1:List Int):Option DV:=B7 Aa.of.Part.E N Tryz.f187 (Al Tryz.f187) [1,1,0,1,0] [] M ⟨Fy 33 [(1,.int .i64 b),(2,.fn 192 [] [.cellp [.int .i64 r,.int .i64 c,.ints .arg .u64 l],.cellp [.int .i64 x],.cellp [.int .i64 y]]),(6,.ptr 6 0 0),(7,.ptr 7 0 0),(13,.int .i64 a),(14,.int .i64 p14)],[(6,false,.box [.int .i64 0,.int .i64 0,.nil]),(7,false,.box [.int .i64 a,.int .i64 b,.oref 108002]),(108002,false,.ints 37 .u64 p2_1)]⟩
def Aa.of.Part.L1 (N M0 M:Nat) (a b:Int) (r c:Int) (l:List Int) (x y:Int) (p8 p14_1 p18:Int) (p2:List Int):Option DV:=B7 Aa.of.Part.E N Tryz.f187 (Al Tryz.f187) [1,1,0,1,0,0,1,1,0,0,1,1,0] [M0] M ⟨Fy 33 [(1,.int .i64 b),(2,.fn 192 [] [.cellp [.int .i64 r,.int .i64 c,.ints .arg .u64 l],.cellp [.int .i64 x],.cellp [.int .i64 y]]),(6,.ptr 6 0 0),(7,.ptr 7 0 0),(8,.int .i64 p8),(13,.int .i64 a),(14,.int .i64 p14_1),(17,.int .i64 b),(18,.int .i64 p18)],[(6,false,.box [.int .i64 0,.int .i64 0,.nil]),(7,false,.box [.int .i64 a,.int .i64 b,.oref 108002]),(108002,false,.ints 37 .u64 p2)]⟩
theorem Aa.of.Part.At (N M:Nat) (a b:Int) (r c:Int) (l:List Int) (x y p14:Int) (p2_1:List Int):Aa.of.Part.L0 N (M+1) a b r c l x y p14 p2_1=bif (A4 p14 a) then Aa.of.Part.L1 N M N a b r c l x y p14 p14 0 p2_1 else some (.agg [.int .i64 a,.int .i64 b,.ints (.own 108002 37) .u64 p2_1]):=by kernel_rfl
theorem Aa.of.Part.Ck (N M0 M:Nat) (a b:Int) (r c:Int) (l:List Int) (x y:Int) (p8 p14_1 p18:Int) (p2:List Int):Aa.of.Part.L1 N M0 (M+1) a b r c l x y p8 p14_1 p18 p2=bif (A4 p18 b) then bif (Du r c l (x+p8) (y+p18)&&So x y p8 p18) then bif (decide ((List.length p2)+1≤Gf)) then Aa.of.Part.L1 N M0 M a b r c l x y p8 p14_1 (Ab (p18+1)) (p2++[(Ee c l (x+p8) (y+p18))]) else none else none else Aa.of.Part.L0 N M0 a b r c l x y (Ab (p14_1+1)) p2 :=
  Eq.trans (by kernel_rfl)
  (Ev (C3 (C4 (Du r c l (x+p8) (y+p18)&&So x y p8 p18)) (C3 (C4 (decide ((List.length p2)+1≤Gf))) rfl rfl) rfl) rfl)
theorem Aa.of.Part.ev (N:Nat) (a b:Int) (r c:Int) (l:List Int) (x y:Int):B0 Aa.of.Part.E N Tryz.f187 (Al Tryz.f187) [.int .i64 a,.int .i64 b,.fn 192 [] [.cellp [.int .i64 r,.int .i64 c,.ints .arg .u64 l],.cellp [.int .i64 x],.cellp [.int .i64 y]]] =
  Aa.of.Part.L0 N N a b r c l x y 0 []:=by kernel_rfl
abbrev _root_.Go.Proofs.S1.Aa.of.Part.Kn:=A8 Tryz.prog 187 Aa.of.Part.spec
theorem Aa.of.Part.Ad (hk:Az Tryz.prog Aa.of.Part.Bb) (h:∀ (a b:Int) (r c:Int) (l:List Int) (x y:Int),Aa.of.Part.pre [.i a,.i b,.i r,.i c,.l l,.i x,.i y]=true→Bf Aa.of.Part.E Tryz.f187 [.int .i64 a,.int .i64 b,.fn 192 [] [.cellp [.int .i64 r,.int .i64 c,.ints .arg .u64 l],.cellp [.int .i64 x],.cellp [.int .i64 y]]] (Aa.of.Part.out [.i a,.i b,.i r,.i c,.l l,.i x,.i y])):Aa.of.Part.Kn :=
  Ak (A0 hk _ _ _) Tryz.func187 (by kernel_rfl) (by kernel_rfl) h
def Aa.of.Sub.hint:Nat→Option A9
  | 0=>some { keep:=[1,2,6,7,13,14],objs:=[(8,2,108002,.ints 37 .u64 [])],boxes:=[6,7] }
  | 2=>some { keep:=[1,2,6,7,8,13,14,17,18],objs:=[(8,2,108002,.ints 37 .u64 [])],boxes:=[6,7] }
  | _=>none
def Aa.of.Sub.Bb:List (Nat × Entry):=[(194,Aa.Gv.spec)]
def Aa.of.Sub.E:Env:=Be (Ba Aa.of.Sub.Bb) (fun _=>false) Aa.of.Sub.hint (fun _=>none)
def Aa.of.Sub.L0 (N M:Nat) (a b:Int) (r c:Int) (l:List Int) (p q:Int) (m:List Int) (p14:Int) (p2_1:List Int):Option DV:=B7 Aa.of.Sub.E N Tryz.f187 (Al Tryz.f187) [1,1,0,1,0] [] M ⟨Fy 33 [(1,.int .i64 b),(2,.fn 194 [] [.cellp [.int .i64 r,.int .i64 c,.ints .arg .u64 l],.cellp [.int .i64 p,.int .i64 q,.ints .arg .u64 m]]),(6,.ptr 6 0 0),(7,.ptr 7 0 0),(13,.int .i64 a),(14,.int .i64 p14)],[(6,false,.box [.int .i64 0,.int .i64 0,.nil]),(7,false,.box [.int .i64 a,.int .i64 b,.oref 108002]),(108002,false,.ints 37 .u64 p2_1)]⟩
def Aa.of.Sub.L1 (N M0 M:Nat) (a b:Int) (r c:Int) (l:List Int) (p q:Int) (m:List Int) (p8 p14_1 p18:Int) (p2:List Int):Option DV:=B7 Aa.of.Sub.E N Tryz.f187 (Al Tryz.f187) [1,1,0,1,0,0,1,1,0,0,1,1,0] [M0] M ⟨Fy 33 [(1,.int .i64 b),(2,.fn 194 [] [.cellp [.int .i64 r,.int .i64 c,.ints .arg .u64 l],.cellp [.int .i64 p,.int .i64 q,.ints .arg .u64 m]]),(6,.ptr 6 0 0),(7,.ptr 7 0 0),(8,.int .i64 p8),(13,.int .i64 a),(14,.int .i64 p14_1),(17,.int .i64 b),(18,.int .i64 p18)],[(6,false,.box [.int .i64 0,.int .i64 0,.nil]),(7,false,.box [.int .i64 a,.int .i64 b,.oref 108002]),(108002,false,.ints 37 .u64 p2)]⟩
theorem Aa.of.Sub.At (N M:Nat) (a b:Int) (r c:Int) (l:List Int) (p q:Int) (m:List Int) (p14:Int) (p2_1:List Int):Aa.of.Sub.L0 N (M+1) a b r c l p q m p14 p2_1=bif (A4 p14 a) then Aa.of.Sub.L1 N M N a b r c l p q m p14 p14 0 p2_1 else some (.agg [.int .i64 a,.int .i64 b,.ints (.own 108002 37) .u64 p2_1]):=by kernel_rfl
theorem Aa.of.Sub.Ck (N M0 M:Nat) (a b:Int) (r c:Int) (l:List Int) (p q:Int) (m:List Int) (p8 p14_1 p18:Int) (p2:List Int):Aa.of.Sub.L1 N M0 (M+1) a b r c l p q m p8 p14_1 p18 p2=bif (A4 p18 b) then bif (((Du r c l p8 p18&&Du p q m p8 p18)&&Ah l)&&Ah m) then bif (decide ((List.length p2)+1≤Gf)) then Aa.of.Sub.L1 N M0 M a b r c l p q m p8 p14_1 (Ab (p18+1)) (p2++[(Dk (Ee c l p8 p18) (Ee q m p8 p18))]) else none else none else Aa.of.Sub.L0 N M0 a b r c l p q m (Ab (p14_1+1)) p2 :=
  Eq.trans (by kernel_rfl)
  (Ev (C3 (C4 (((Du r c l p8 p18&&Du p q m p8 p18)&&Ah l)&&Ah m)) (C3 (C4 (decide ((List.length p2)+1≤Gf))) rfl rfl) rfl) rfl)
theorem Aa.of.Sub.ev (N:Nat) (a b:Int) (r c:Int) (l:List Int) (p q:Int) (m:List Int):B0 Aa.of.Sub.E N Tryz.f187 (Al Tryz.f187) [.int .i64 a,.int .i64 b,.fn 194 [] [.cellp [.int .i64 r,.int .i64 c,.ints .arg .u64 l],.cellp [.int .i64 p,.int .i64 q,.ints .arg .u64 m]]] =
  Aa.of.Sub.L0 N N a b r c l p q m 0 []:=by kernel_rfl
abbrev _root_.Go.Proofs.S1.Aa.of.Sub.Kn:=A8 Tryz.prog 187 Aa.of.Sub.spec
theorem Aa.of.Sub.Ad (hk:Az Tryz.prog Aa.of.Sub.Bb) (h:∀ (a b:Int) (r c:Int) (l:List Int) (p q:Int) (m:List Int),Aa.of.Sub.pre [.i a,.i b,.i r,.i c,.l l,.i p,.i q,.l m]=true→Bf Aa.of.Sub.E Tryz.f187 [.int .i64 a,.int .i64 b,.fn 194 [] [.cellp [.int .i64 r,.int .i64 c,.ints .arg .u64 l],.cellp [.int .i64 p,.int .i64 q,.ints .arg .u64 m]]] (Aa.of.Sub.out [.i a,.i b,.i r,.i c,.l l,.i p,.i q,.l m])):Aa.of.Sub.Kn :=
  Ak (A0 hk _ _ _) Tryz.func187 (by kernel_rfl) (by kernel_rfl) h
def Aa.of.Mul.hint:Nat→Option A9
  | 0=>some { keep:=[1,2,6,7,13,14],objs:=[(8,2,108002,.ints 37 .u64 [])],boxes:=[6,7] }
  | 2=>some { keep:=[1,2,6,7,8,13,14,17,18],objs:=[(8,2,108002,.ints 37 .u64 [])],boxes:=[6,7] }
  | _=>none
def Aa.of.Mul.Bb:List (Nat × Entry):=[(188,Aa.Gx.spec)]
def Aa.of.Mul.E:Env:=Be (Ba Aa.of.Mul.Bb) (fun _=>false) Aa.of.Mul.hint (fun _=>none)
def Aa.of.Mul.L0 (N M:Nat) (a b:Int) (r c:Int) (l:List Int) (p q:Int) (m:List Int) (p14:Int) (p2_1:List Int):Option DV:=B7 Aa.of.Mul.E N Tryz.f187 (Al Tryz.f187) [1,1,0,1,0] [] M ⟨Fy 33 [(1,.int .i64 b),(2,.fn 188 [] [.cellp [.int .i64 r,.int .i64 c,.ints .arg .u64 l],.cellp [.int .i64 p,.int .i64 q,.ints .arg .u64 m]]),(6,.ptr 6 0 0),(7,.ptr 7 0 0),(13,.int .i64 a),(14,.int .i64 p14)],[(6,false,.box [.int .i64 0,.int .i64 0,.nil]),(7,false,.box [.int .i64 a,.int .i64 b,.oref 108002]),(108002,false,.ints 37 .u64 p2_1)]⟩
def Aa.of.Mul.L1 (N M0 M:Nat) (a b:Int) (r c:Int) (l:List Int) (p q:Int) (m:List Int) (p8 p14_1 p18:Int) (p2:List Int):Option DV:=B7 Aa.of.Mul.E N Tryz.f187 (Al Tryz.f187) [1,1,0,1,0,0,1,1,0,0,1,1,0] [M0] M ⟨Fy 33 [(1,.int .i64 b),(2,.fn 188 [] [.cellp [.int .i64 r,.int .i64 c,.ints .arg .u64 l],.cellp [.int .i64 p,.int .i64 q,.ints .arg .u64 m]]),(6,.ptr 6 0 0),(7,.ptr 7 0 0),(8,.int .i64 p8),(13,.int .i64 a),(14,.int .i64 p14_1),(17,.int .i64 b),(18,.int .i64 p18)],[(6,false,.box [.int .i64 0,.int .i64 0,.nil]),(7,false,.box [.int .i64 a,.int .i64 b,.oref 108002]),(108002,false,.ints 37 .u64 p2)]⟩
theorem Aa.of.Mul.At (N M:Nat) (a b:Int) (r c:Int) (l:List Int) (p q:Int) (m:List Int) (p14:Int) (p2_1:List Int):Aa.of.Mul.L0 N (M+1) a b r c l p q m p14 p2_1=bif (A4 p14 a) then Aa.of.Mul.L1 N M N a b r c l p q m p14 p14 0 p2_1 else some (.agg [.int .i64 a,.int .i64 b,.ints (.own 108002 37) .u64 p2_1]):=by kernel_rfl
theorem Aa.of.Mul.Ck (N M0 M:Nat) (a b:Int) (r c:Int) (l:List Int) (p q:Int) (m:List Int) (p8 p14_1 p18:Int) (p2:List Int):Aa.of.Mul.L1 N M0 (M+1) a b r c l p q m p8 p14_1 p18 p2=bif (A4 p18 b) then bif (Qm r c l p q m p8 p18) then bif (decide ((List.length p2)+1≤Gf)) then Aa.of.Mul.L1 N M0 M a b r c l p q m p8 p14_1 (Ab (p18+1)) (p2++[(Nf (J0 c l p8) (N0 p q m p18))]) else none else none else Aa.of.Mul.L0 N M0 a b r c l p q m (Ab (p14_1+1)) p2 :=
  Eq.trans (by kernel_rfl)
  (Ev (C3 (C4 (Qm r c l p q m p8 p18)) (C3 (C4 (decide ((List.length p2)+1≤Gf))) rfl rfl) rfl) rfl)
theorem Aa.of.Mul.ev (N:Nat) (a b:Int) (r c:Int) (l:List Int) (p q:Int) (m:List Int):B0 Aa.of.Mul.E N Tryz.f187 (Al Tryz.f187) [.int .i64 a,.int .i64 b,.fn 188 [] [.cellp [.int .i64 r,.int .i64 c,.ints .arg .u64 l],.cellp [.int .i64 p,.int .i64 q,.ints .arg .u64 m]]] =
  Aa.of.Mul.L0 N N a b r c l p q m 0 []:=by kernel_rfl
abbrev _root_.Go.Proofs.S1.Aa.of.Mul.Kn:=A8 Tryz.prog 187 Aa.of.Mul.spec
theorem Aa.of.Mul.Ad (hk:Az Tryz.prog Aa.of.Mul.Bb) (h:∀ (a b:Int) (r c:Int) (l:List Int) (p q:Int) (m:List Int),Aa.of.Mul.pre [.i a,.i b,.i r,.i c,.l l,.i p,.i q,.l m]=true→Bf Aa.of.Mul.E Tryz.f187 [.int .i64 a,.int .i64 b,.fn 188 [] [.cellp [.int .i64 r,.int .i64 c,.ints .arg .u64 l],.cellp [.int .i64 p,.int .i64 q,.ints .arg .u64 m]]] (Aa.of.Mul.out [.i a,.i b,.i r,.i c,.l l,.i p,.i q,.l m])):Aa.of.Mul.Kn :=
  Ak (A0 hk _ _ _) Tryz.func187 (by kernel_rfl) (by kernel_rfl) h
def Aa.En.Bb:List (Nat × Entry):=[(187,Aa.of.En.spec),(204,Aa.size.spec)]
def Aa.En.E:Env:=Be (Ba Aa.En.Bb) (fun _=>false) (fun _=>none) (fun _=>none)
theorem Aa.En.ev (N:Nat) (n:Int):B0 Aa.En.E N Tryz.f218 (Al Tryz.f218) [.int .i64 n]=bif (!(Bj n)) then some (.tup [.agg [.int .i64 0,.int .i64 0,.nil],.int .i64 3]) else bif ((Bj n&&Bj n)) then some (.tup [.agg [.int .i64 n,.int .i64 n,.ints .fresh .u64 (Bl (Int.toNat n) (Int.toNat n) (fun j1 j2=>Co j1 j2))],.int .i64 0]) else none:=by kernel_rfl
abbrev _root_.Go.Proofs.S1.Aa.En.Kn:=A8 Tryz.prog 218 Aa.En.spec
theorem Aa.En.Ad (hk:Az Tryz.prog Aa.En.Bb) (h:∀ (n:Int),Aa.En.pre [.i n]=true→Bf Aa.En.E Tryz.f218 [.int .i64 n] (Aa.En.out [.i n])):Aa.En.Kn :=
  Ak (A0 hk _ _ _) Tryz.func218 (by kernel_rfl) (by kernel_rfl) h
def Aa.Df.Bb:List (Nat × Entry):=[(160,Aa.Check.spec),(187,Aa.of.Df.spec)]
def Aa.Df.E:Env:=Be (Ba Aa.Df.Bb) (fun _=>false) (fun _=>none) (fun _=>none)
theorem Aa.Df.ev (N:Nat) (r c:Int) (l:List Int):B0 Aa.Df.E N Tryz.f167 (Al Tryz.f167) [.agg [.int .i64 r,.int .i64 c,.ints .arg .u64 l]]=bif ((Je r c l) !=(0:Int)) then some (.tup [.agg [.int .i64 0,.int .i64 0,.nil],.int .i64 (Je r c l)]) else bif ((Bj c&&Bj r)&&Bg r c l&&decide (c=c∧r=r)) then some (.tup [.agg [.int .i64 c,.int .i64 r,.ints .fresh .u64 (Bl (Int.toNat c) (Int.toNat r) (fun j1 j2=>Ee c l j2 j1))],.int .i64 0]) else none:=by kernel_rfl
abbrev _root_.Go.Proofs.S1.Aa.Df.Kn:=A8 Tryz.prog 167 Aa.Df.spec
theorem Aa.Df.Ad (hk:Az Tryz.prog Aa.Df.Bb) (h:∀ (r c:Int) (l:List Int),Aa.Df.pre [.i r,.i c,.l l]=true→Bf Aa.Df.E Tryz.f167 [.agg [.int .i64 r,.int .i64 c,.ints .arg .u64 l]] (Aa.Df.out [.i r,.i c,.l l])):Aa.Df.Kn :=
  Ak (A0 hk _ _ _) Tryz.func167 (by kernel_rfl) (by kernel_rfl) h
def Aa.Part.Bb:List (Nat × Entry):=[(160,Aa.Check.spec),(187,Aa.of.Part.spec)]
def Aa.Part.E:Env:=Be (Ba Aa.Part.Bb) (fun _=>false) (fun _=>none) (fun _=>none)
theorem Aa.Part.ev (N:Nat) (r c:Int) (l:List Int) (x y:Int) (a b:Int):B0 Aa.Part.E N Tryz.f124 (Al Tryz.f124) [.agg [.int .i64 r,.int .i64 c,.ints .arg .u64 l],.int .i64 x,.int .i64 y,.int .i64 a,.int .i64 b]=bif ((Je r c l) !=(0:Int)) then some (.tup [.agg [.int .i64 0,.int .i64 0,.nil],.int .i64 (Je r c l)]) else bif ((((((((A4 x 0)||(A4 y 0))||(A4 a 0))||(A4 b 0))||(A4 r x))||(A4 c y))||(A4 (Ab (r-x)) a))||(A4 (Ab (c-y)) b)) then some (.tup [.agg [.int .i64 0,.int .i64 0,.nil],.int .i64 3]) else bif ((Bj a&&Bj b)&&Bg r c l&&Ns r c x y a b) then some (.tup [.agg [.int .i64 a,.int .i64 b,.ints .fresh .u64 (Bl (Int.toNat a) (Int.toNat b) (fun j1 j2=>Ee c l (x+j1) (y+j2)))],.int .i64 0]) else none :=
  Eq.trans (by kernel_rfl)
  (Ev rfl (Ar (U4 (A4 x 0)) (Ar (Tk (A4 x 0)) (Ar (tt6 (A4 x 0)) (Ar (Ac8 (A4 x 0) (A4 y 0)) (Ar (Aau (A4 x 0) (A4 y 0)) (Ar (Amw (A4 x 0) (A4 y 0)) (Ar (Aiw (A4 x 0) (A4 y 0) (A4 a 0)) (Ar (Aqa (A4 x 0) (A4 y 0) (A4 a 0)) (Ar (Amx (A4 x 0) (A4 y 0) (A4 a 0)) (Ar (Ac9 (A4 x 0) (A4 y 0) (A4 a 0) (A4 b 0)) (Ar (Ac9 (A4 x 0) (A4 y 0) (A4 a 0) (A4 b 0)) (Ar (Amy (A4 x 0) (A4 y 0) (A4 a 0) (A4 b 0)) (Ar (Amz (A4 x 0) (A4 y 0) (A4 a 0) (A4 b 0)) (Ar (Aqb (A4 x 0) (A4 y 0) (A4 a 0) (A4 b 0)) (Ar (As7 (A4 x 0) (A4 y 0) (A4 a 0) (A4 b 0) (A4 r x)) (Ar (As7 (A4 x 0) (A4 y 0) (A4 a 0) (A4 b 0) (A4 r x)) (Ar (tt55 (A4 x 0) (A4 y 0) (A4 a 0) (A4 b 0) (A4 r x)) (Ar (tt54 (A4 x 0) (A4 y 0) (A4 a 0) (A4 b 0) (A4 r x)) (Ar (tt53 (A4 x 0) (A4 y 0) (A4 a 0) (A4 b 0) (A4 r x)) (Ar (Aqc (A4 x 0) (A4 y 0) (A4 a 0) (A4 b 0) (A4 r x) (A4 c y)) (Ar (Aqc (A4 x 0) (A4 y 0) (A4 a 0) (A4 b 0) (A4 r x) (A4 c y)) (Ar (tt52 (A4 x 0) (A4 y 0) (A4 a 0) (A4 b 0) (A4 r x) (A4 c y)) (Ar (Aqc (A4 x 0) (A4 y 0) (A4 a 0) (A4 b 0) (A4 r x) (A4 c y)) (Ar (As8 (A4 x 0) (A4 y 0) (A4 a 0) (A4 b 0) (A4 r x) (A4 c y)) (Ar (As8 (A4 x 0) (A4 y 0) (A4 a 0) (A4 b 0) (A4 r x) (A4 c y)) (Ar (tt49 (A4 x 0) (A4 y 0) (A4 a 0) (A4 b 0) (A4 r x) (A4 c y)) (Ar (Aqd (A4 x 0) (A4 y 0) (A4 a 0) (A4 b 0) (A4 r x) (A4 c y) (A4 (Ab (r-x)) a)) (Ar (Aqd (A4 x 0) (A4 y 0) (A4 a 0) (A4 b 0) (A4 r x) (A4 c y) (A4 (Ab (r-x)) a)) (Ar (tt48 (A4 x 0) (A4 y 0) (A4 a 0) (A4 b 0) (A4 r x) (A4 c y) (A4 (Ab (r-x)) a)) (Ar (Aqd (A4 x 0) (A4 y 0) (A4 a 0) (A4 b 0) (A4 r x) (A4 c y) (A4 (Ab (r-x)) a)) (Ar (As9 (A4 x 0) (A4 y 0) (A4 a 0) (A4 b 0) (A4 r x) (A4 c y) (A4 (Ab (r-x)) a)) (Ar (As9 (A4 x 0) (A4 y 0) (A4 a 0) (A4 b 0) (A4 r x) (A4 c y) (A4 (Ab (r-x)) a)) (Ar (tt45 (A4 x 0) (A4 y 0) (A4 a 0) (A4 b 0) (A4 r x) (A4 c y) (A4 (Ab (r-x)) a)) (C3 (tt44 (A4 x 0) (A4 y 0) (A4 a 0) (A4 b 0) (A4 r x) (A4 c y) (A4 (Ab (r-x)) a) (A4 (Ab (c-y)) b)) rfl rfl)))))))))))))))))))))))))))))))))))
abbrev _root_.Go.Proofs.S1.Aa.Part.Kn:=A8 Tryz.prog 124 Aa.Part.spec
theorem Aa.Part.Ad (hk:Az Tryz.prog Aa.Part.Bb) (h:∀ (r c:Int) (l:List Int) (x y:Int) (a b:Int),Aa.Part.pre [.i r,.i c,.l l,.i x,.i y,.i a,.i b]=true→Bf Aa.Part.E Tryz.f124 [.agg [.int .i64 r,.int .i64 c,.ints .arg .u64 l],.int .i64 x,.int .i64 y,.int .i64 a,.int .i64 b] (Aa.Part.out [.i r,.i c,.l l,.i x,.i y,.i a,.i b])):Aa.Part.Kn :=
  Ak (A0 hk _ _ _) Tryz.func124 (by kernel_rfl) (by kernel_rfl) h
def Aa.Sub.Bb:List (Nat × Entry):=[(187,Aa.of.Sub.spec),(186,Aa.two.spec)]
def Aa.Sub.E:Env:=Be (Ba Aa.Sub.Bb) (fun _=>false) (fun _=>none) (fun _=>none)
theorem Aa.Sub.ev (N:Nat) (r c:Int) (l:List Int) (p q:Int) (m:List Int):B0 Aa.Sub.E N Tryz.f125 (Al Tryz.f125) [.agg [.int .i64 r,.int .i64 c,.ints .arg .u64 l],.agg [.int .i64 p,.int .i64 q,.ints .arg .u64 m]]=bif ((U2 r c l p q m) !=(0:Int)) then some (.tup [.agg [.int .i64 0,.int .i64 0,.nil],.int .i64 (U2 r c l p q m)]) else bif (!((r==p)&&(c==q))) then some (.tup [.agg [.int .i64 0,.int .i64 0,.nil],.int .i64 3]) else bif ((Bj r&&Bj c)&&((Bg r c l&&Bg p q m)&&(Ah l&&Ah m))&&decide (r=r∧c=c∧p=r∧q=c)) then some (.tup [.agg [.int .i64 r,.int .i64 c,.ints .fresh .u64 (Bl (Int.toNat r) (Int.toNat c) (fun j1 j2=>Dk (Ee c l j1 j2) (Ee q m j1 j2)))],.int .i64 0]) else none :=
  Eq.trans (by kernel_rfl)
  (Ev rfl (C3 (tt67 (r==p) (c==q)) rfl rfl))
abbrev _root_.Go.Proofs.S1.Aa.Sub.Kn:=A8 Tryz.prog 125 Aa.Sub.spec
theorem Aa.Sub.Ad (hk:Az Tryz.prog Aa.Sub.Bb) (h:∀ (r c:Int) (l:List Int) (p q:Int) (m:List Int),Aa.Sub.pre [.i r,.i c,.l l,.i p,.i q,.l m]=true→Bf Aa.Sub.E Tryz.f125 [.agg [.int .i64 r,.int .i64 c,.ints .arg .u64 l],.agg [.int .i64 p,.int .i64 q,.ints .arg .u64 m]] (Aa.Sub.out [.i r,.i c,.l l,.i p,.i q,.l m])):Aa.Sub.Kn :=
  Ak (A0 hk _ _ _) Tryz.func125 (by kernel_rfl) (by kernel_rfl) h
def Aa.Mul.Bb:List (Nat × Entry):=[(187,Aa.of.Mul.spec),(186,Aa.two.spec)]
def Aa.Mul.E:Env:=Be (Ba Aa.Mul.Bb) (fun _=>false) (fun _=>none) (fun _=>none)
theorem Aa.Mul.ev (N:Nat) (r c:Int) (l:List Int) (p q:Int) (m:List Int):B0 Aa.Mul.E N Tryz.f123 (Al Tryz.f123) [.agg [.int .i64 r,.int .i64 c,.ints .arg .u64 l],.agg [.int .i64 p,.int .i64 q,.ints .arg .u64 m]]=bif ((U2 r c l p q m) !=(0:Int)) then some (.tup [.agg [.int .i64 0,.int .i64 0,.nil],.int .i64 (U2 r c l p q m)]) else bif (c !=p) then some (.tup [.agg [.int .i64 0,.int .i64 0,.nil],.int .i64 3]) else bif ((Bj r&&Bj q)&&((Bg r c l&&Bg p q m)&&(Ah l&&Ah m))&&decide (r=r∧q=q∧c=p)) then some (.tup [.agg [.int .i64 r,.int .i64 q,.ints .fresh .u64 (Bl (Int.toNat r) (Int.toNat q) (fun j1 j2=>Nf (J0 c l j1) (N0 p q m j2)))],.int .i64 0]) else none:=by kernel_rfl
abbrev _root_.Go.Proofs.S1.Aa.Mul.Kn:=A8 Tryz.prog 123 Aa.Mul.spec
theorem Aa.Mul.Ad (hk:Az Tryz.prog Aa.Mul.Bb) (h:∀ (r c:Int) (l:List Int) (p q:Int) (m:List Int),Aa.Mul.pre [.i r,.i c,.l l,.i p,.i q,.l m]=true→Bf Aa.Mul.E Tryz.f123 [.agg [.int .i64 r,.int .i64 c,.ints .arg .u64 l],.agg [.int .i64 p,.int .i64 q,.ints .arg .u64 m]] (Aa.Mul.out [.i r,.i c,.l l,.i p,.i q,.l m])):Aa.Mul.Kn :=
  Ak (A0 hk _ _ _) Tryz.func123 (by kernel_rfl) (by kernel_rfl) h
end EqOf
open EqOf
theorem of.Br.inner (N:Nat)  {A B:Nat} (hA:A≤6) (hB:B≤6) {F:Nat→Nat→Int} (hF:∀ i j:Nat,F i j=(0:Int)) {i:Nat} (hi:i<A):∀ (k j M0 M:Nat),j+k=B→k<M →
    Aa.of.Br.L1 N M0 M (A:Int) (B:Int) (i:Int) (i:Int) (j:Int) (Bl i B F++(List.range j).map (F i))=Aa.of.Br.L0 N M0 (A:Int) (B:Int) ((i+1:Nat):Int) (Bl (i+1) B F):=by
  intro k
  induction k with
  | zero =>
    intro j M0 M hj hM
    obtain ⟨M,rfl⟩:∃ G,M=G+1:=⟨M-1,by omega⟩
    obtain rfl:j=B:=by omega
    rw [Aa.of.Br.Ck,Au,Aup (by omega),Auo,An (by omega) (by omega),← Kz]
    rfl
  | succ k ih =>
    intro j M0 M hj hM
    obtain ⟨M,rfl⟩:∃ G,M=G+1:=⟨M-1,by omega⟩
    have d:decide ((Bl i B F++(List.range j).map (F i)).length+1≤Gf)=true:=by
      refine Aul ?_
      have:=Nat.mul_le_mul (show i≤6 by omega) hB
      rw [List.length_append,Bu,List.length_map,List.length_range]; unfold Gf; omega
    rw [Aa.of.Br.Ck,Au,Aul (by omega),Auk,d,Auk,An (by omega) (by omega),← hF i j]
    have:=ih (j+1) M0 M (by omega) (by omega)
    rw [Ii,← List.append_assoc] at this
    exact this
theorem of.Br.outer (N:Nat)  {A B:Nat} (hA:A≤6) (hB:B≤6) (hN:6<N) {F:Nat→Nat→Int} (hF:∀ i j:Nat,F i j=(0:Int)):∀ (k i M:Nat),i+k=A→k<M →
    Aa.of.Br.L0 N M (A:Int) (B:Int) (i:Int) (Bl i B F)=some (.agg [.int .i64 (A:Int),.int .i64 (B:Int),.ints (.own 108002 tB) .u64 (Bl A B F)]):=by
  intro k
  induction k with
  | zero =>
    intro i M hi hM
    obtain ⟨M,rfl⟩:∃ G,M=G+1:=⟨M-1,by omega⟩
    obtain rfl:i=A:=by omega
    rw [Aa.of.Br.At,Au,Aup (by omega),Auo]
  | succ k ih =>
    intro i M hi hM
    obtain ⟨M,rfl⟩:∃ G,M=G+1:=⟨M-1,by omega⟩
    have n:=of.Br.inner N hA hB hF (show i<A by omega) B 0 M N (by omega) (by omega)
    rw [List.range_zero,List.map_nil,List.append_nil] at n
    rw [Aa.of.Br.At,Au,Aul (by omega),Auk]
    exact n.trans (ih (i+1) M (by omega) (by omega))
theorem of.En.inner (N:Nat)  {A B:Nat} (hA:A≤6) (hB:B≤6) {F:Nat→Nat→Int} (hF:∀ i j:Nat,F i j=Co (i:Int) (j:Int)) {i:Nat} (hi:i<A):∀ (k j M0 M:Nat),j+k=B→k<M →
    Aa.of.En.L1 N M0 M (A:Int) (B:Int) (i:Int) (i:Int) (j:Int) (Bl i B F++(List.range j).map (F i))=Aa.of.En.L0 N M0 (A:Int) (B:Int) ((i+1:Nat):Int) (Bl (i+1) B F):=by
  intro k
  induction k with
  | zero =>
    intro j M0 M hj hM
    obtain ⟨M,rfl⟩:∃ G,M=G+1:=⟨M-1,by omega⟩
    obtain rfl:j=B:=by omega
    rw [Aa.of.En.Ck,Au,Aup (by omega),Auo,An (by omega) (by omega),← Kz]
    rfl
  | succ k ih =>
    intro j M0 M hj hM
    obtain ⟨M,rfl⟩:∃ G,M=G+1:=⟨M-1,by omega⟩
    have d:decide ((Bl i B F++(List.range j).map (F i)).length+1≤Gf)=true:=by
      refine Aul ?_
      have:=Nat.mul_le_mul (show i≤6 by omega) hB
      rw [List.length_append,Bu,List.length_map,List.length_range]; unfold Gf; omega
    rw [Aa.of.En.Ck,Au,Aul (by omega),Auk,d,Auk,An (by omega) (by omega),← hF i j]
    have:=ih (j+1) M0 M (by omega) (by omega)
    rw [Ii,← List.append_assoc] at this
    exact this
theorem of.En.outer (N:Nat)  {A B:Nat} (hA:A≤6) (hB:B≤6) (hN:6<N) {F:Nat→Nat→Int} (hF:∀ i j:Nat,F i j=Co (i:Int) (j:Int)):∀ (k i M:Nat),i+k=A→k<M →
    Aa.of.En.L0 N M (A:Int) (B:Int) (i:Int) (Bl i B F)=some (.agg [.int .i64 (A:Int),.int .i64 (B:Int),.ints (.own 108002 tB) .u64 (Bl A B F)]):=by
  intro k
  induction k with
  | zero =>
    intro i M hi hM
    obtain ⟨M,rfl⟩:∃ G,M=G+1:=⟨M-1,by omega⟩
    obtain rfl:i=A:=by omega
    rw [Aa.of.En.At,Au,Aup (by omega),Auo]
  | succ k ih =>
    intro i M hi hM
    obtain ⟨M,rfl⟩:∃ G,M=G+1:=⟨M-1,by omega⟩
    have n:=of.En.inner N hA hB hF (show i<A by omega) B 0 M N (by omega) (by omega)
    rw [List.range_zero,List.map_nil,List.append_nil] at n
    rw [Aa.of.En.At,Au,Aul (by omega),Auk]
    exact n.trans (ih (i+1) M (by omega) (by omega))
theorem Aa.of.En.known:Aa.of.En.Kn:=Aa.of.En.Ad (.cons Aa.G0.known .nil) fun a b hp=>by
  have h1:(Bj a&&Bj b)=true:=hp
  obtain ⟨ha,hb⟩:=Ag.1 h1
  obtain ⟨A,rfl,hA⟩:=Ff ha
  obtain ⟨B,rfl,hB⟩:=Ff hb
  refine ⟨8,.agg [.int .i64 (A:Int),.int .i64 (B:Int),.ints (.own 108002 tB) .u64 (Bl A B fun (i j:Nat)=>Co (i:Int) (j:Int))],[108002],?_,Wk.Ix (.cons .int (.cons .int (.cons (.drop _ _ _ _ (List.mem_singleton.2 rfl)) .nil)))⟩
  rw [Aa.of.En.ev]
  have n:=of.En.outer 8 hA hB (by omega) (F:=fun (i j:Nat)=>Co (i:Int) (j:Int)) (fun _ _=>rfl) A 0 8 (by omega) (by omega)
  rw [Ky] at n
  exact n
theorem of.Df.inner (N:Nat) (r c:Int) (l:List Int) {A B:Nat} (hA:A≤6) (hB:B≤6) {F:Nat→Nat→Int} (hF:∀ i j:Nat,F i j=Ee c l (j:Int) (i:Int)) {i:Nat} (hi:i<A) (hp:∀ j:Nat,j<B→Du r c l (j:Int) (i:Int)=true):∀ (k j M0 M:Nat),j+k=B→k<M →
    Aa.of.Df.L1 N M0 M (A:Int) (B:Int) r c l (i:Int) (i:Int) (j:Int) (Bl i B F++(List.range j).map (F i))=Aa.of.Df.L0 N M0 (A:Int) (B:Int) r c l ((i+1:Nat):Int) (Bl (i+1) B F):=by
  intro k
  induction k with
  | zero =>
    intro j M0 M hj hM
    obtain ⟨M,rfl⟩:∃ G,M=G+1:=⟨M-1,by omega⟩
    obtain rfl:j=B:=by omega
    rw [Aa.of.Df.Ck,Au,Aup (by omega),Auo,An (by omega) (by omega),← Kz]
    rfl
  | succ k ih =>
    intro j M0 M hj hM
    obtain ⟨M,rfl⟩:∃ G,M=G+1:=⟨M-1,by omega⟩
    have d:decide ((Bl i B F++(List.range j).map (F i)).length+1≤Gf)=true:=by
      refine Aul ?_
      have:=Nat.mul_le_mul (show i≤6 by omega) hB
      rw [List.length_append,Bu,List.length_map,List.length_range]; unfold Gf; omega
    rw [Aa.of.Df.Ck,Au,Aul (by omega),Auk,hp j (by omega),Auk,d,Auk,An (by omega) (by omega),← hF i j]
    have:=ih (j+1) M0 M (by omega) (by omega)
    rw [Ii,← List.append_assoc] at this
    exact this
theorem of.Df.outer (N:Nat) (r c:Int) (l:List Int) {A B:Nat} (hA:A≤6) (hB:B≤6) (hN:6<N) {F:Nat→Nat→Int} (hF:∀ i j:Nat,F i j=Ee c l (j:Int) (i:Int)) (hp:∀ i j:Nat,i<A→j<B→Du r c l (j:Int) (i:Int)=true):∀ (k i M:Nat),i+k=A→k<M →
    Aa.of.Df.L0 N M (A:Int) (B:Int) r c l (i:Int) (Bl i B F)=some (.agg [.int .i64 (A:Int),.int .i64 (B:Int),.ints (.own 108002 tB) .u64 (Bl A B F)]):=by
  intro k
  induction k with
  | zero =>
    intro i M hi hM
    obtain ⟨M,rfl⟩:∃ G,M=G+1:=⟨M-1,by omega⟩
    obtain rfl:i=A:=by omega
    rw [Aa.of.Df.At,Au,Aup (by omega),Auo]
  | succ k ih =>
    intro i M hi hM
    obtain ⟨M,rfl⟩:∃ G,M=G+1:=⟨M-1,by omega⟩
    have n:=of.Df.inner N r c l hA hB hF (show i<A by omega) (fun j hj=>hp i j (by omega) hj) B 0 M N (by omega) (by omega)
    rw [List.range_zero,List.map_nil,List.append_nil] at n
    rw [Aa.of.Df.At,Au,Aul (by omega),Auk]
    exact n.trans (ih (i+1) M (by omega) (by omega))
theorem Aa.of.Df.known:Aa.of.Df.Kn:=Aa.of.Df.Ad (.cons Aa.E2.known .nil) fun a b r c l hp=>by
  obtain ⟨h12,hy⟩:=Ag.1 (show (((Bj a&&Bj b)&&Bg r c l)&&decide (a=c∧b=r))=true from hp)
  obtain ⟨h1,hx⟩:=Ag.1 h12
  have h2:=Ag.2 ⟨hx,hy⟩
  obtain ⟨ha,hb⟩:=Ag.1 h1
  obtain ⟨A,rfl,hA⟩:=Ff ha
  obtain ⟨B,rfl,hB⟩:=Ff hb
  obtain ⟨hr,he⟩:=Ag.1 h2
  obtain ⟨e1,e2⟩:=of_decide_eq_true he
  have hp:∀ i j:Nat,i<A→j<B→Du r c l (j:Int) (i:Int)=true:=fun i j hi hj=>Lx hr (by omega) (by omega) (by omega) (by omega) r
  refine ⟨8,.agg [.int .i64 (A:Int),.int .i64 (B:Int),.ints (.own 108002 tB) .u64 (Bl A B fun (i j:Nat)=>Ee c l (j:Int) (i:Int))],[108002],?_,Wk.Ix (.cons .int (.cons .int (.cons (.drop _ _ _ _ (List.mem_singleton.2 rfl)) .nil)))⟩
  rw [Aa.of.Df.ev]
  have n:=of.Df.outer 8 r c l hA hB (by omega) (F:=fun (i j:Nat)=>Ee c l (j:Int) (i:Int)) (fun _ _=>rfl) hp A 0 8 (by omega) (by omega)
  rw [Ky] at n
  exact n
theorem of.Part.inner (N:Nat) (r c:Int) (l:List Int) (x y:Int) {A B:Nat} (hA:A≤6) (hB:B≤6) {F:Nat→Nat→Int} (hF:∀ i j:Nat,F i j=Ee c l (x+(i:Int)) (y+(j:Int))) {i:Nat} (hi:i<A) (hp:∀ j:Nat,j<B→(Du r c l (x+(i:Int)) (y+(j:Int))&&So x y (i:Int) (j:Int))=true):∀ (k j M0 M:Nat),j+k=B→k<M →
    Aa.of.Part.L1 N M0 M (A:Int) (B:Int) r c l x y (i:Int) (i:Int) (j:Int) (Bl i B F++(List.range j).map (F i))=Aa.of.Part.L0 N M0 (A:Int) (B:Int) r c l x y ((i+1:Nat):Int) (Bl (i+1) B F):=by
  intro k
  induction k with
  | zero =>
    intro j M0 M hj hM
    obtain ⟨M,rfl⟩:∃ G,M=G+1:=⟨M-1,by omega⟩
    obtain rfl:j=B:=by omega
    rw [Aa.of.Part.Ck,Au,Aup (by omega),Auo,An (by omega) (by omega),← Kz]
    rfl
  | succ k ih =>
    intro j M0 M hj hM
    obtain ⟨M,rfl⟩:∃ G,M=G+1:=⟨M-1,by omega⟩
    have d:decide ((Bl i B F++(List.range j).map (F i)).length+1≤Gf)=true:=by
      refine Aul ?_
      have:=Nat.mul_le_mul (show i≤6 by omega) hB
      rw [List.length_append,Bu,List.length_map,List.length_range]; unfold Gf; omega
    rw [Aa.of.Part.Ck,Au,Aul (by omega),Auk,hp j (by omega),Auk,d,Auk,An (by omega) (by omega),← hF i j]
    have:=ih (j+1) M0 M (by omega) (by omega)
    rw [Ii,← List.append_assoc] at this
    exact this
theorem of.Part.outer (N:Nat) (r c:Int) (l:List Int) (x y:Int) {A B:Nat} (hA:A≤6) (hB:B≤6) (hN:6<N) {F:Nat→Nat→Int} (hF:∀ i j:Nat,F i j=Ee c l (x+(i:Int)) (y+(j:Int))) (hp:∀ i j:Nat,i<A→j<B→(Du r c l (x+(i:Int)) (y+(j:Int))&&So x y (i:Int) (j:Int))=true):∀ (k i M:Nat),i+k=A→k<M →
    Aa.of.Part.L0 N M (A:Int) (B:Int) r c l x y (i:Int) (Bl i B F)=some (.agg [.int .i64 (A:Int),.int .i64 (B:Int),.ints (.own 108002 tB) .u64 (Bl A B F)]):=by
  intro k
  induction k with
  | zero =>
    intro i M hi hM
    obtain ⟨M,rfl⟩:∃ G,M=G+1:=⟨M-1,by omega⟩
    obtain rfl:i=A:=by omega
    rw [Aa.of.Part.At,Au,Aup (by omega),Auo]
  | succ k ih =>
    intro i M hi hM
    obtain ⟨M,rfl⟩:∃ G,M=G+1:=⟨M-1,by omega⟩
    have n:=of.Part.inner N r c l x y hA hB hF (show i<A by omega) (fun j hj=>hp i j (by omega) hj) B 0 M N (by omega) (by omega)
    rw [List.range_zero,List.map_nil,List.append_nil] at n
    rw [Aa.of.Part.At,Au,Aul (by omega),Auk]
    exact n.trans (ih (i+1) M (by omega) (by omega))
theorem Aa.of.Part.known:Aa.of.Part.Kn:=Aa.of.Part.Ad (.cons Aa.E4.known .nil) fun a b r c l x y hp=>by
  obtain ⟨h12,hy⟩:=Ag.1 (show (((Bj a&&Bj b)&&Bg r c l)&&Ns r c x y a b)=true from hp)
  obtain ⟨h1,hx⟩:=Ag.1 h12
  have h2:=Ag.2 ⟨hx,hy⟩
  obtain ⟨ha,hb⟩:=Ag.1 h1
  obtain ⟨A,rfl,hA⟩:=Ff ha
  obtain ⟨B,rfl,hB⟩:=Ff hb
  obtain ⟨hr,he⟩:=Ag.1 h2
  have he:=of_decide_eq_true he
  have hs:=Kw.1 hr
  have hp:∀ i j:Nat,i<A→j<B→(Du r c l (x+(i:Int)) (y+(j:Int))&&So x y (i:Int) (j:Int))=true:=fun i j hi hj =>
    Ag.2 ⟨Lx hr (by omega) (by omega) (by omega) (by omega) r,Ap.2 (by omega)⟩
  refine ⟨8,.agg [.int .i64 (A:Int),.int .i64 (B:Int),.ints (.own 108002 tB) .u64 (Bl A B fun (i j:Nat)=>Ee c l (x+(i:Int)) (y+(j:Int)))],[108002],?_,Wk.Ix (.cons .int (.cons .int (.cons (.drop _ _ _ _ (List.mem_singleton.2 rfl)) .nil)))⟩
  rw [Aa.of.Part.ev]
  have n:=of.Part.outer 8 r c l x y hA hB (by omega) (F:=fun (i j:Nat)=>Ee c l (x+(i:Int)) (y+(j:Int))) (fun _ _=>rfl) hp A 0 8 (by omega) (by omega)
  rw [Ky] at n
  exact n
theorem of.Mul.inner (N:Nat) (r c:Int) (l:List Int) (p q:Int) (m:List Int) {A B:Nat} (hA:A≤6) (hB:B≤6) {F:Nat→Nat→Int} (hF:∀ i j:Nat,F i j=Nf (J0 c l (i:Int)) (N0 p q m (j:Int))) {i:Nat} (hi:i<A) (hp:∀ j:Nat,j<B→Qm r c l p q m (i:Int) (j:Int)=true):∀ (k j M0 M:Nat),j+k=B→k<M →
    Aa.of.Mul.L1 N M0 M (A:Int) (B:Int) r c l p q m (i:Int) (i:Int) (j:Int) (Bl i B F++(List.range j).map (F i))=Aa.of.Mul.L0 N M0 (A:Int) (B:Int) r c l p q m ((i+1:Nat):Int) (Bl (i+1) B F):=by
  intro k
  induction k with
  | zero =>
    intro j M0 M hj hM
    obtain ⟨M,rfl⟩:∃ G,M=G+1:=⟨M-1,by omega⟩
    obtain rfl:j=B:=by omega
    rw [Aa.of.Mul.Ck,Au,Aup (by omega),Auo,An (by omega) (by omega),← Kz]
    rfl
  | succ k ih =>
    intro j M0 M hj hM
    obtain ⟨M,rfl⟩:∃ G,M=G+1:=⟨M-1,by omega⟩
    have d:decide ((Bl i B F++(List.range j).map (F i)).length+1≤Gf)=true:=by
      refine Aul ?_
      have:=Nat.mul_le_mul (show i≤6 by omega) hB
      rw [List.length_append,Bu,List.length_map,List.length_range]; unfold Gf; omega
    rw [Aa.of.Mul.Ck,Au,Aul (by omega),Auk,hp j (by omega),Auk,d,Auk,An (by omega) (by omega),← hF i j]
    have:=ih (j+1) M0 M (by omega) (by omega)
    rw [Ii,← List.append_assoc] at this
    exact this
theorem of.Mul.outer (N:Nat) (r c:Int) (l:List Int) (p q:Int) (m:List Int) {A B:Nat} (hA:A≤6) (hB:B≤6) (hN:6<N) {F:Nat→Nat→Int} (hF:∀ i j:Nat,F i j=Nf (J0 c l (i:Int)) (N0 p q m (j:Int))) (hp:∀ i j:Nat,i<A→j<B→Qm r c l p q m (i:Int) (j:Int)=true):∀ (k i M:Nat),i+k=A→k<M →
    Aa.of.Mul.L0 N M (A:Int) (B:Int) r c l p q m (i:Int) (Bl i B F)=some (.agg [.int .i64 (A:Int),.int .i64 (B:Int),.ints (.own 108002 tB) .u64 (Bl A B F)]):=by
  intro k
  induction k with
  | zero =>
    intro i M hi hM
    obtain ⟨M,rfl⟩:∃ G,M=G+1:=⟨M-1,by omega⟩
    obtain rfl:i=A:=by omega
    rw [Aa.of.Mul.At,Au,Aup (by omega),Auo]
  | succ k ih =>
    intro i M hi hM
    obtain ⟨M,rfl⟩:∃ G,M=G+1:=⟨M-1,by omega⟩
    have n:=of.Mul.inner N r c l p q m hA hB hF (show i<A by omega) (fun j hj=>hp i j (by omega) hj) B 0 M N (by omega) (by omega)
    rw [List.range_zero,List.map_nil,List.append_nil] at n
    rw [Aa.of.Mul.At,Au,Aul (by omega),Auk]
    exact n.trans (ih (i+1) M (by omega) (by omega))
theorem Aa.of.Mul.known:Aa.of.Mul.Kn:=Aa.of.Mul.Ad (.cons Aa.Gx.known .nil) fun a b r c l p q m hp=>by
  obtain ⟨h12,hy⟩:=Ag.1 (show (((Bj a&&Bj b)&&((Bg r c l&&Bg p q m)&&(Ah l&&Ah m)))&&decide (a=r∧b=q∧c=p))=true from hp)
  obtain ⟨h1,hx⟩:=Ag.1 h12
  have h2:=Ag.2 ⟨hx,hy⟩
  obtain ⟨ha,hb⟩:=Ag.1 h1
  obtain ⟨A,rfl,hA⟩:=Ff ha
  obtain ⟨B,rfl,hB⟩:=Ff hb
  obtain ⟨h3,he⟩:=Ag.1 h2
  obtain ⟨h4,h5⟩:=Ag.1 h3
  obtain ⟨hr,hm⟩:=Ag.1 h4
  obtain ⟨e1,e2,e3⟩:=of_decide_eq_true he
  have hp:∀ i j:Nat,i<A→j<B→Qm r c l p q m (i:Int) (j:Int)=true:=fun i j hi hj =>
    Ag.2 ⟨Ag.2 ⟨Ag.2 ⟨hr,Ap.2 (by omega)⟩,Ag.2 ⟨hm,Ap.2 (by omega)⟩⟩,Ag.2 ⟨h5,Ap.2 e3⟩⟩
  refine ⟨8,.agg [.int .i64 (A:Int),.int .i64 (B:Int),.ints (.own 108002 tB) .u64 (Bl A B fun (i j:Nat)=>Nf (J0 c l (i:Int)) (N0 p q m (j:Int)))],[108002],?_,Wk.Ix (.cons .int (.cons .int (.cons (.drop _ _ _ _ (List.mem_singleton.2 rfl)) .nil)))⟩
  rw [Aa.of.Mul.ev]
  have n:=of.Mul.outer 8 r c l p q m hA hB (by omega) (F:=fun (i j:Nat)=>Nf (J0 c l (i:Int)) (N0 p q m (j:Int))) (fun _ _=>rfl) hp A 0 8 (by omega) (by omega)
  rw [Ky] at n
  exact n
open EqOf
def Qk (x:MX):DV:=.tup [.agg [.int .i64 x.1,.int .i64 x.2.1,.ints .fresh .u64 x.2.2.1],.int .i64 x.2.2.2]
def Ag4 (e:Int):DV:=.tup [.agg [.int .i64 0,.int .i64 0,.nil],.int .i64 e]
theorem Mu {drops:List Nat} {x:MX}:Wk drops (Qk x) (Qk x) :=
  Wk.Gm (.cons (Wk.Ix (.cons .int (.cons .int (.cons .J5 .nil)))) (.cons .int .nil))
theorem Lk {drops:List Nat} {e:Int}:Wk drops (Ag4 e) (Qk (Gk e)) :=
  Wk.Gm (.cons (Wk.Ix (.cons .int (.cons .int (.cons (.nil _ _) .nil)))) (.cons .int .nil))
theorem Aa.En.known:Aa.En.Kn:=Aa.En.Ad (.cons Aa.of.En.known (.cons Aa.size.known .nil)) fun n _=>by
  show ∃ N dv drops,_=some dv∧Wk drops dv (Qk (La n))
  unfold La
  by_cases h:Bj n=true
  · rw [if_pos h]
    exact ⟨0,_,[],by rw [Aa.En.ev,h]; rfl,Mu⟩
  · have e:Bj n=false:=by simpa using h
    rw [if_neg h]
    exact ⟨0,_,[],by rw [Aa.En.ev,e]; rfl,Lk⟩
theorem Fu {r c:Int} {l:List Int} (h:Bg r c l=true):Bj r=true∧Bj c=true:=by
  obtain ⟨h1,h2,_⟩:=Kw.1 h
  exact ⟨Hm.2 h1,Hm.2 h2⟩
theorem Aa.Df.known:Aa.Df.Kn:=Aa.Df.Ad (.cons Aa.Check.known (.cons Aa.of.Df.known .nil)) fun r c l _=>by
  show ∃ N dv drops,_=some dv∧Wk drops dv (Qk (Bc r c l))
  unfold Bc
  by_cases h:Bg r c l=true
  · obtain ⟨h1,h2⟩:=Fu h
    rw [if_pos h]
    exact ⟨0,_,[],by rw [Aa.Df.ev,Qv,h,h1,h2,Aul ⟨rfl,rfl⟩]; rfl,Mu⟩
  · have e:Bg r c l=false:=by simpa using h
    have ec:Je r c l=1:=by unfold Je; rw [e]; rfl
    rw [if_neg h]
    exact ⟨0,_,[],by rw [Aa.Df.ev,Qv,e,ec]; rfl,Lk⟩
theorem Xq {r c x y a b:Int} (hr:0≤r∧r≤6) (hc:0≤c∧c≤6) :
    ((((((((A4 x (0:Int))||(A4 y (0:Int)))||(A4 a (0:Int)))||(A4 b (0:Int)))||(A4 r x))||(A4 c y))||(A4 (Ab (r-x)) a))||(A4 (Ab (c-y)) b))=!(Ns r c x y a b):=by
  unfold Ns
  simp only [Au]
  by_cases h:0≤x∧0≤y∧x≤r∧y≤c
  · rw [An (x:=r-x) (by omega) (by omega),An (x:=c-y) (by omega) (by omega),Au0]
    simp only [Bool.or_eq_true,Aur,Bool.not_eq_true',Au3]
    omega
  · have e:decide (0≤x∧0≤y∧0≤a∧0≤b∧x≤r∧y≤c∧a≤r-x∧b≤c-y)=false:=Aup (by omega)
    rw [e,Au0]
    simp only [Bool.or_eq_true,Aur,Bool.not_false,iff_true]
    omega
theorem Adw {r c x y a b:Int} {l:List Int} (h:Bg r c l=true) (hp:Ns r c x y a b=true):Bj a=true∧Bj b=true:=by
  obtain ⟨h1,h2,_⟩:=Kw.1 h
  have:=of_decide_eq_true hp
  exact ⟨Hm.2 (by omega),Hm.2 (by omega)⟩
theorem Aa.Part.known:Aa.Part.Kn:=Aa.Part.Ad (.cons Aa.Check.known (.cons Aa.of.Part.known .nil)) fun r c l x y a b _=>by
  show ∃ N dv drops,_=some dv∧Wk drops dv (Qk (Dz r c l x y a b))
  unfold Dz
  by_cases h:Bg r c l=true
  · obtain ⟨h1,h2,_⟩:=Kw.1 h
    by_cases hp:Ns r c x y a b=true
    · obtain ⟨s1,s2⟩:=Adw h hp
      rw [if_pos h,if_pos hp]
      exact ⟨0,_,[],by rw [Aa.Part.ev,Qv,Xq h1 h2,h,hp,s1,s2]; rfl,Mu⟩
    · have e:Ns r c x y a b=false:=by simpa using hp
      rw [if_pos h,if_neg hp]
      exact ⟨0,_,[],by rw [Aa.Part.ev,Qv,Xq h1 h2,h,e]; rfl,Lk⟩
  · have e:Bg r c l=false:=by simpa using h
    have ec:Je r c l=1:=by unfold Je; rw [e]; rfl
    rw [if_neg h]
    exact ⟨0,_,[],by rw [Aa.Part.ev,Qv,e,ec]; rfl,Lk⟩
theorem Si (r c:Int) (l:List Int) (p q:Int) (m:List Int):((U2 r c l p q m) !=(0:Int))=!(Bg r c l&&Bg p q m):=by
  unfold U2
  cases Bg r c l&&Bg p q m<;>rfl
theorem Ait {r c:Int} {l:List Int} {p q:Int} {m:List Int} (h:(Bg r c l&&Bg p q m)=false):U2 r c l p q m=1:=by
  unfold U2; rw [h]; rfl
theorem Aa.Mul.known:Aa.Mul.Kn:=Aa.Mul.Ad (.cons Aa.of.Mul.known (.cons Aa.two.known .nil)) fun r c l p q m hp=>by
  show ∃ N dv drops,_=some dv∧Wk drops dv (Qk (Ml r c l p q m))
  unfold Ml
  have hp:(Ah l&&Ah m)=true:=hp
  by_cases h:(Bg r c l&&Bg p q m)=true
  · obtain ⟨h1,h2⟩:=Ag.1 h
    by_cases hc:c=p
    · have e:(c !=p)=false:=by rw [hc]; simp
      rw [if_pos h,if_pos hc]
      exact ⟨0,_,[],by rw [Aa.Mul.ev,Si,h,e,(Fu h1).1,(Fu h2).2,hp,Aul ⟨rfl,rfl,hc⟩]; rfl,Mu⟩
    · have e:(c !=p)=true:=by simpa using hc
      rw [if_pos h,if_neg hc]
      exact ⟨0,_,[],by rw [Aa.Mul.ev,Si,h,e]; rfl,Lk⟩
  · have e:(Bg r c l&&Bg p q m)=false:=by simpa using h
    rw [if_neg h]
    exact ⟨0,_,[],by rw [Aa.Mul.ev,Si,e,Ait e]; rfl,Lk⟩
namespace EqRef10
def Bo.Gw.Bb:List (Nat × Entry):=[]
def Bo.Gw.E:Env:=Be (Ba Bo.Gw.Bb) (fun _=>false) (fun _=>none) (fun _=>none)
theorem Bo.Gw.ev (N:Nat) (r c:Int) (l:List Int):B0 Bo.Gw.E N Tryz.f91 (Al Tryz.f91) [.agg [.int .i64 r,.int .i64 c,.ints .arg .u64 l]]=some (.bool (bif (bif (bif (bif (Dv 0 r) then (Dv r 6) else false) then (Dv 0 c) else false) then (Dv c 6) else false) then ((List.length l:Int)==(Ab (r*c))) else false)) :=
  Eq.trans (by kernel_rfl)
  (Ar (N2 (Dv 0 r)) (Ar (Ke (Dv 0 r)) (Ar (Ke (Dv 0 r)) (Ar (Sj (Dv 0 r)) (Ar (As3 (Dv 0 r) (Dv r 6)) (Ar (Ap8 (Dv 0 r) (Dv r 6)) (Ar (Ap8 (Dv 0 r) (Dv r 6)) (Ar (As4 (Dv 0 r) (Dv r 6)) (Ar (tt74 (Dv 0 r) (Dv r 6) (Dv 0 c)) (Ar (As5 (Dv 0 r) (Dv r 6) (Dv 0 c)) (Ar (As5 (Dv 0 r) (Dv r 6) (Dv 0 c)) (Ar (tt72 (Dv 0 r) (Dv r 6) (Dv 0 c)) (Ar (Ap9 (Dv 0 r) (Dv r 6) (Dv 0 c) (Dv c 6)) (Ar (Amv (Dv 0 r) (Dv r 6) (Dv 0 c) (Dv c 6)) (Ar (Amv (Dv 0 r) (Dv r 6) (Dv 0 c) (Dv c 6)) (Ar (Ap9 (Dv 0 r) (Dv r 6) (Dv 0 c) (Dv c 6)) (Ar (Amv (Dv 0 r) (Dv r 6) (Dv 0 c) (Dv c 6)) (Ar (Ap9 (Dv 0 r) (Dv r 6) (Dv 0 c) (Dv c 6)) (Ar (Amv (Dv 0 r) (Dv r 6) (Dv 0 c) (Dv c 6)) (Ar (As6 (Dv 0 r) (Dv r 6) (Dv 0 c) (Dv c 6)) (Ar (As6 (Dv 0 r) (Dv r 6) (Dv 0 c) (Dv c 6)) (Ar (tt68 (Dv 0 r) (Dv r 6) (Dv 0 c) (Dv c 6)) rfl))))))))))))))))))))))
abbrev _root_.Go.Proofs.S1.Bo.Gw.Kn:=A8 Tryz.prog 91 Bo.Gw.spec
theorem Bo.Gw.Ad (hk:Az Tryz.prog Bo.Gw.Bb) (h:∀ (r c:Int) (l:List Int),Bo.Gw.pre [.i r,.i c,.l l]=true→Bf Bo.Gw.E Tryz.f91 [.agg [.int .i64 r,.int .i64 c,.ints .arg .u64 l]] (Bo.Gw.out [.i r,.i c,.l l])):Bo.Gw.Kn :=
  Ak (A0 hk _ _ _) Tryz.func91 (by kernel_rfl) (by kernel_rfl) h
def Bo.Br.Bb:List (Nat × Entry):=[]
def Bo.Br.E:Env:=Be (Ba Bo.Br.Bb) (fun _=>false) (fun _=>none) (fun _=>none)
theorem Bo.Br.ev (N:Nat) (a b:Int):B0 Bo.Br.E N Tryz.f35 (Al Tryz.f35) [.int .i64 a,.int .i64 b]=bif (((decide ((0:Int)≤(Ab (a*b))))&&(decide ((Ab (a*b))≤(Ab (a*b)))))&&(decide ((Ab (a*b))≤Gf))) then some (.agg [.int .i64 a,.int .i64 b,.ints (.own 10 37) .u64 (List.replicate (Int.toNat (Ab (a*b))) 0)]) else none:=by kernel_rfl
abbrev _root_.Go.Proofs.S1.Bo.Br.Kn:=A8 Tryz.prog 35 Bo.Br.spec
theorem Bo.Br.Ad (hk:Az Tryz.prog Bo.Br.Bb) (h:∀ (a b:Int),Bo.Br.pre [.i a,.i b]=true→Bf Bo.Br.E Tryz.f35 [.int .i64 a,.int .i64 b] (Bo.Br.out [.i a,.i b])):Bo.Br.Kn :=
  Ak (A0 hk _ _ _) Tryz.func35 (by kernel_rfl) (by kernel_rfl) h
def Bo.Lg.Bb:List (Nat × Entry):=[]
def Bo.Lg.E:Env:=Be (Ba Bo.Lg.Bb) (fun _=>false) (fun _=>none) (fun _=>none)
theorem Bo.Lg.ev (N:Nat) (r c:Int) (l:List Int) (i k b:Int):B0 Bo.Lg.E N Tryz.f83 (Al Tryz.f83) [.agg [.int .i64 r,.int .i64 c,.ints .arg .u64 l],.int .i64 i,.int .i64 k,.int .u64 b]=bif (decide (0+(List.length l)≤Gf)) then bif ((decide (0≤(Ab ((Ab (i*c))+k))))&&(decide ((Ab ((Ab (i*c))+k))<(List.length ([]++l):Int)))) then bif (decide ((Int.toNat (Ab ((Ab (i*c))+k)))<(List.length ([]++l)))) then some (.agg [.int .i64 r,.int .i64 c,.ints (.own 13 37) .u64 (List.set ([]++l) (Int.toNat (Ab ((Ab (i*c))+k))) b)]) else none else none else none:=by kernel_rfl
abbrev _root_.Go.Proofs.S1.Bo.Lg.Kn:=A8 Tryz.prog 83 Bo.Lg.spec
theorem Bo.Lg.Ad (hk:Az Tryz.prog Bo.Lg.Bb) (h:∀ (r c:Int) (l:List Int) (i k b:Int),Bo.Lg.pre [.i r,.i c,.l l,.i i,.i k,.i b]=true→Bf Bo.Lg.E Tryz.f83 [.agg [.int .i64 r,.int .i64 c,.ints .arg .u64 l],.int .i64 i,.int .i64 k,.int .u64 b] (Bo.Lg.out [.i r,.i c,.l l,.i i,.i k,.i b])):Bo.Lg.Kn :=
  Ak (A0 hk _ _ _) Tryz.func83 (by kernel_rfl) (by kernel_rfl) h
def Bo.En.hint:Nat→Option A9
  | 0=>some { keep:=[0,2,3,4],objs:=[],boxes:=[2,3] }
  | _=>none
def Bo.En.Bb:List (Nat × Entry):=[(83,Bo.Lg.spec),(35,Bo.Br.spec)]
def Bo.En.E:Env:=Be (Ba Bo.En.Bb) (fun _=>false) Bo.En.hint (fun _=>none)
def Bo.En.L0 (N M:Nat) (n p4:Int) (p3:List Int):Option DV:=B7 Bo.En.E N Tryz.f33 (Al Tryz.f33) [1,1,0,1,0] [] M ⟨Fy 18 [(0,.int .i64 n),(2,.ptr 2 0 0),(3,.ptr 3 0 0),(4,.int .i64 p4)],[(2,false,.box [.int .i64 0,.int .i64 0,.nil]),(3,false,.box [.int .i64 n,.int .i64 n,.ints .fresh .u64 p3])]⟩
theorem Bo.En.At (N M:Nat) (n p4:Int) (p3:List Int):Bo.En.L0 N (M+1) n p4 p3=bif (A4 p4 n) then bif (Du n n p3 p4 p4) then Bo.En.L0 N M n (Ab (p4+1)) (List.set p3 (Int.toNat (p4*n+p4)) 4607182418800017408) else none else some (.agg [.int .i64 n,.int .i64 n,.ints .fresh .u64 p3]):=by kernel_rfl
theorem Bo.En.ev (N:Nat) (n:Int):B0 Bo.En.E N Tryz.f33 (Al Tryz.f33) [.int .i64 n]=bif (Bj n&&Bj n) then Bo.En.L0 N N n 0 (Bl (Int.toNat n) (Int.toNat n) (fun _ _=>0)) else none:=by kernel_rfl
abbrev _root_.Go.Proofs.S1.Bo.En.Kn:=A8 Tryz.prog 33 Bo.En.spec
theorem Bo.En.Ad (hk:Az Tryz.prog Bo.En.Bb) (h:∀ (n:Int),Bo.En.pre [.i n]=true→Bf Bo.En.E Tryz.f33 [.int .i64 n] (Bo.En.out [.i n])):Bo.En.Kn :=
  Ak (A0 hk _ _ _) Tryz.func33 (by kernel_rfl) (by kernel_rfl) h
end EqRef10
open EqRef10
theorem Bo.Gw.known:Bo.Gw.Kn:=Bo.Gw.Ad .nil fun r c l _=>by
  refine ⟨0,Bo.Gw.out [.i r,.i c,.l l],[],?_,.bool⟩
  have e:(bif (bif (bif (bif (Dv (0:Int) r) then (Dv r (6:Int)) else false) then (Dv (0:Int) c) else false) then (Dv c (6:Int)) else false) then ((List.length l:Int)==(Ab (r*c))) else false)=Bg r c l:=by
    have:=Acr r c l
    have h:(bif (bif (bif (bif (Dv (0:Int) r) then (Dv r (6:Int)) else false) then (Dv (0:Int) c) else false) then (Dv c (6:Int)) else false) then ((List.length l:Int)==(Ab (r*c))) else false)=!(((!(Bj r))||(!(Bj c)))||((List.length l:Int) !=(Ab (r*c)))):=by
      unfold Bj bne
      rw [Ed,Ed,Ed,Ed]
      cases decide (0≤r)<;>cases decide (r≤6)<;>cases decide (0≤c)<;>cases decide (c≤6)<;>cases ((List.length l:Int)==(Ab (r*c)))<;>rfl
    rw [h,this,Bool.not_not]
  rw [Bo.Gw.ev,e]; rfl
theorem U0 {drops:List Nat} {i:Nat} {e:TypeId} {a b:Int} {l:List Int} (h:i∈drops):Wk drops (.agg [.int .i64 a,.int .i64 b,.ints (.own i e) .u64 l]) (.agg [.int .i64 a,.int .i64 b,.ints .fresh .u64 l]) :=
  Wk.Ix (.cons .int (.cons .int (.cons (.drop _ _ _ _ h) .nil)))
theorem Aih {drops:List Nat} {a b:Int} {l:List Int}:Wk drops (.agg [.int .i64 a,.int .i64 b,.ints .fresh .u64 l]) (.agg [.int .i64 a,.int .i64 b,.ints .fresh .u64 l]) :=
  Wk.Ix (.cons .int (.cons .int (.cons .J5 .nil)))
theorem Bo.Br.known:Bo.Br.Kn:=Bo.Br.Ad .nil fun a b hp=>by
  obtain ⟨ha,hb⟩:=Ag.1 (show (Bj a&&Bj b)=true from hp)
  obtain ⟨A,rfl,hA⟩:=Ff ha
  obtain ⟨B,rfl,hB⟩:=Ff hb
  have hm:=Ku (a:=(A:Int)) (b:=(B:Int)) (by omega) (by omega) (by omega) (by omega)
  have e:((A:Int)*(B:Int)).toNat=A*B:=by rw [← Au5,Aum]
  refine ⟨0,.agg [.int .i64 (A:Int),.int .i64 (B:Int),.ints (.own 10 tB) .u64 (Bl A B fun _ _=>0)],[10],?_,U0 (List.mem_singleton.2 rfl)⟩
  rw [Bo.Br.ev,An (by omega) (by omega),Aul hm.1,Aul (Int.le_refl _),Aul (show (A:Int)*(B:Int)≤(Gf:Int) by unfold Gf; omega),e,Aei]
  rfl
theorem Bo.Lg.known:Bo.Lg.Kn:=Bo.Lg.Ad .nil fun r c l i k b hp=>by
  obtain ⟨_,_,_,_,_,_,_,h8⟩:=Ap.1 (show Du r c l i k=true from hp)
  obtain ⟨e,g1,g2⟩:=Gt (R:=r) (show Du r c l i k=true from hp)
  refine ⟨0,.agg [.int .i64 r,.int .i64 c,.ints (.own 13 tB) .u64 (List.set l (i*c+k).toNat b)],[13],?_,U0 (List.mem_singleton.2 rfl)⟩
  rw [Bo.Lg.ev,e,List.nil_append,Aul (show 0+l.length≤Gf by unfold Gf; omega),Aul g1,Aul g2,Aul (show (i*c+k).toNat<l.length by omega)]
  rfl
theorem Wl {r c i k:Nat} (hk:k<c) {d d':Nat→Nat→Bool} {f:Nat→Nat→Int} {x:Int} (hx:x=f i k)
    (h:∀ a b,a<r→b<c→(d' a b=true↔d a b=true∨(a=i∧b=k))) :
    List.set (Bl r c fun a b=>if d a b=true then f a b else 0) (Int.toNat ((i:Int)*(c:Int)+(k:Int))) x=Bl r c fun a b=>if d' a b=true then f a b else 0:=by
  have e:((i:Int)*(c:Int)+(k:Int)).toNat=i*c+k:=by rw [← Au5,← Int.natCast_add,Aum]
  rw [e,R5 hk]
  refine C9 fun a b ha hb=>?_
  have h:=h a b ha hb
  by_cases hab:a=i∧b=k
  · rw [if_pos hab,if_pos (h.2 (.inr hab)),hx,hab.1,hab.2]
  · rw [if_neg hab]
    by_cases hd:d a b=true
    · rw [if_pos hd,if_pos (h.2 (.inl hd))]
    · rw [if_neg hd,if_neg (fun k=>(h.1 k).elim hd hab)]
open EqRef10
def fill (r c:Nat) (f:Nat→Nat→Int) (d:Nat→Nat→Bool):List Int:=Bl r c fun a b=>if d a b=true then f a b else 0
theorem Ack (r c:Nat) (f:Nat→Nat→Int) (d:Nat→Nat→Bool):(fill r c f d).length=r*c:=Bu _ _ _
theorem Ala {r c i k:Nat} (hk:k<c) {d d':Nat→Nat→Bool} {f:Nat→Nat→Int} {x:Int} (hx:x=f i k) (h:∀ a b,a<r→b<c→(d' a b=true↔d a b=true∨(a=i∧b=k))) :
    List.set (fill r c f d) (Int.toNat ((i:Int)*(c:Int)+(k:Int))) x=fill r c f d':=Wl hk hx h
theorem Ahw {r c:Nat} {f:Nat→Nat→Int} {d:Nat→Nat→Bool} (h:∀ a b,a<r→b<c→¬ d a b=true):fill r c f d=Bl r c fun _ _=>0 :=
  C9 fun a b ha hb=>by rw [if_neg (h a b ha hb)]
theorem Aoi (N:Nat) {n:Nat} (h6:n≤6):∀ (k i M:Nat),i+k=n→k<M →
    Bo.En.L0 N M (n:Int) (i:Int) (fill n n (fun (a b:Nat)=>Co (a:Int) (b:Int)) fun a b=>decide (a=b∧a<i))=some (.agg [.int .i64 (n:Int),.int .i64 (n:Int),.ints .fresh .u64 (Bl n n fun (a b:Nat)=>Co (a:Int) (b:Int))]):=by
  intro k
  induction k with
  | zero =>
    intro i M hi hM
    obtain ⟨M,rfl⟩:∃ G,M=G+1:=⟨M-1,by omega⟩
    have e:fill n n (fun (a b:Nat)=>Co (a:Int) (b:Int)) (fun a b=>decide (a=b∧a<i))=Bl n n fun (a b:Nat)=>Co (a:Int) (b:Int):=by
      refine C9 fun a b ha hb=>?_
      by_cases h:a=b
      · rw [if_pos (Aul ⟨h,by omega⟩)]
      · rw [if_neg (fun k=>h (of_decide_eq_true k).1)]
        unfold Co
        rw [if_neg (by omega)]
    rw [Bo.En.At,Au,Aup (by omega),Auo,e]
  | succ k ih =>
    intro i M hi hM
    obtain ⟨M,rfl⟩:∃ G,M=G+1:=⟨M-1,by omega⟩
    have c9:Du (n:Int) (n:Int) (fill n n (fun (a b:Nat)=>Co (a:Int) (b:Int)) fun a b=>decide (a=b∧a<i)) (i:Int) (i:Int)=true:=Fk h6 h6 (Ack _ _ _ _) (by omega) (by omega)
    have one:(4607182418800017408:Int)=(fun (a b:Nat)=>Co (a:Int) (b:Int)) i i:=(if_pos rfl).symm
    rw [Bo.En.At,Au,Aul (by omega),Auk,c9,Auk,An (by omega) (by omega),Ala (d':=fun a b=>decide (a=b∧a<i+1)) (by omega) one (fun a b ha hb=>by simp only [Aur]; omega)]
    exact ih (i+1) M (by omega) (by omega)
theorem Bo.En.known:Bo.En.Kn:=Bo.En.Ad (.cons Bo.Lg.known (.cons Bo.Br.known .nil)) fun n hp=>by
  have hp:Bj n=true:=hp
  obtain ⟨n,rfl,h6⟩:=Ff hp
  refine ⟨8,.agg [.int .i64 (n:Int),.int .i64 (n:Int),.ints .fresh .u64 (Bl n n fun (a b:Nat)=>Co (a:Int) (b:Int))],[],?_,Aih⟩
  have e:=Aoi 8 h6 n 0 8 (by omega) (by omega)
  rw [Ahw (fun a b ha hb=>by simp only [Aur]; omega)] at e
  rw [Bo.En.ev,hp,Auq,Auk,Aum]
  exact e
namespace EqHouse
def Am.Cx.hint:Nat→Option A9
  | 0=>some { keep:=[5,6,7],objs:=[],boxes:=[] }
  | _=>none
def Am.Cx.Bb:List (Nat × Entry):=[(155,soft.Kind.spec)]
def Am.Cx.E:Env:=Be (Ba Am.Cx.Bb) (fun _=>false) Am.Cx.hint (fun _=>none)
def Am.Cx.L0 (N M:Nat) (x:List Int) (p7:Int):Option DV:=B7 Am.Cx.E N Tryz.f252 (Al Tryz.f252) [1,0,1,0] [] M ⟨Fy 15 [(5,.ints .arg .u64 x),(6,.int .i64 (List.length x:Int)),(7,.int .i64 p7)],[]⟩
theorem Am.Cx.At (N M:Nat) (x:List Int) (p7:Int):Am.Cx.L0 N (M+1) x p7=bif (A4 p7 (List.length x:Int)) then bif ((decide (0≤p7))&&(decide (p7<(List.length x:Int)))) then bif (Ai (List.getD x (Int.toNat p7) 0)) then bif ((A1 (List.getD x (Int.toNat p7) 0)) !=(0:Int)) then some (.bool false) else Am.Cx.L0 N M x (Ab (p7+1)) else none else none else some (.bool true):=by kernel_rfl
theorem Am.Cx.ev (N:Nat) (x:List Int):B0 Am.Cx.E N Tryz.f252 (Al Tryz.f252) [.ints .arg .u64 x] =
  Am.Cx.L0 N N x 0:=by kernel_rfl
abbrev _root_.Go.Proofs.S1.Am.Cx.Kn:=A8 Tryz.prog 252 Am.Cx.spec
theorem Am.Cx.Ad (hk:Az Tryz.prog Am.Cx.Bb) (h:∀ (x:List Int),Am.Cx.pre [.l x]=true→Bf Am.Cx.E Tryz.f252 [.ints .arg .u64 x] (Am.Cx.out [.l x])):Am.Cx.Kn :=
  Ak (A0 hk _ _ _) Tryz.func252 (by kernel_rfl) (by kernel_rfl) h
def Am.lead.hint:Nat→Option A9
  | 0=>some { keep:=[5,6,7],objs:=[],boxes:=[] }
  | _=>none
def Am.lead.Bb:List (Nat × Entry):=[(155,soft.Kind.spec)]
def Am.lead.E:Env:=Be (Ba Am.lead.Bb) (fun _=>false) Am.lead.hint (fun _=>none)
def Am.lead.L0 (N M:Nat) (x:List Int) (p7:Int):Option DV:=B7 Am.lead.E N Tryz.f258 (Al Tryz.f258) [1,0,1,0] [] M ⟨Fy 16 [(5,.ints .arg .u64 x),(6,.int .i64 (List.length x:Int)),(7,.int .i64 p7)],[]⟩
theorem Am.lead.At (N M:Nat) (x:List Int) (p7:Int):Am.lead.L0 N (M+1) x p7=bif (A4 p7 (List.length x:Int)) then bif ((decide (0≤p7))&&(decide (p7<(List.length x:Int)))) then bif (Ai (List.getD x (Int.toNat p7) 0)) then bif ((A1 (List.getD x (Int.toNat p7) 0)) !=(0:Int)) then some (.int .u64 (List.getD x (Int.toNat p7) 0)) else Am.lead.L0 N M x (Ab (p7+1)) else none else none else some (.int .u64 0):=by kernel_rfl
theorem Am.lead.ev (N:Nat) (x:List Int):B0 Am.lead.E N Tryz.f258 (Al Tryz.f258) [.ints .arg .u64 x] =
  Am.lead.L0 N N x 0:=by kernel_rfl
abbrev _root_.Go.Proofs.S1.Am.lead.Kn:=A8 Tryz.prog 258 Am.lead.spec
theorem Am.lead.Ad (hk:Az Tryz.prog Am.lead.Bb) (h:∀ (x:List Int),Am.lead.pre [.l x]=true→Bf Am.lead.E Tryz.f258 [.ints .arg .u64 x] (Am.lead.out [.l x])):Am.lead.Kn :=
  Ak (A0 hk _ _ _) Tryz.func258 (by kernel_rfl) (by kernel_rfl) h
def Am.Cz.hint:Nat→Option A9
  | 0=>some { keep:=[1,5,8,9,10],objs:=[(0,5,100005,.ints 37 .u64 [])],boxes:=[] }
  | _=>none
def Am.Cz.Bb:List (Nat × Entry):=[(88,Af.Bx.spec)]
def Am.Cz.E:Env:=Be (Ba Am.Cz.Bb) (fun _=>false) Am.Cz.hint (fun _=>none)
def Am.Cz.L0 (N M:Nat) (x:List Int) (k p10:Int) (p5:List Int):Option DV:=B7 Am.Cz.E N Tryz.f256 (Al Tryz.f256) [1,1,0,1,0] [] M ⟨Fy 22 [(1,.int .i64 k),(5,.oref 100005),(8,.ints .arg .u64 x),(9,.int .i64 (List.length x:Int)),(10,.int .i64 p10)],[(100005,false,.ints 37 .u64 p5)]⟩
theorem Am.Cz.At (N M:Nat) (x:List Int) (k p10:Int) (p5:List Int):Am.Cz.L0 N (M+1) x k p10 p5=bif (A4 p10 (List.length x:Int)) then bif ((decide (0≤p10))&&(decide (p10<(List.length x:Int)))) then bif (Ew (List.getD x (Int.toNat p10) 0) k) then bif (decide ((List.length p5)+1≤Gf)) then Am.Cz.L0 N M x k (Ab (p10+1)) (p5++[(Cg (List.getD x (Int.toNat p10) 0) k)]) else none else none else none else some (.ints (.own 100005 37) .u64 p5):=by kernel_rfl
theorem Am.Cz.ev (N:Nat) (x:List Int) (k:Int):B0 Am.Cz.E N Tryz.f256 (Al Tryz.f256) [.ints .arg .u64 x,.int .i64 k] =
  Am.Cz.L0 N N x k 0 []:=by kernel_rfl
abbrev _root_.Go.Proofs.S1.Am.Cz.Kn:=A8 Tryz.prog 256 Am.Cz.spec
theorem Am.Cz.Ad (hk:Az Tryz.prog Am.Cz.Bb) (h:∀ (x:List Int) (k:Int),Am.Cz.pre [.l x,.i k]=true→Bf Am.Cz.E Tryz.f256 [.ints .arg .u64 x,.int .i64 k] (Am.Cz.out [.l x,.i k])):Am.Cz.Kn :=
  Ak (A0 hk _ _ _) Tryz.func256 (by kernel_rfl) (by kernel_rfl) h
def Am.E6.Bb:List (Nat × Entry):=[]
def Am.E6.E:Env:=Be (Ba Am.E6.Bb) (fun _=>false) (fun _=>none) (fun _=>none)
theorem Am.E6.ev (N:Nat) (i:Int):B0 Am.E6.E N Tryz.f254 (Al Tryz.f254) [.int .i64 i]=some (.int .u64 0):=by kernel_rfl
abbrev _root_.Go.Proofs.S1.Am.E6.Kn:=A8 Tryz.prog 254 Am.E6.spec
theorem Am.E6.Ad (hk:Az Tryz.prog Am.E6.Bb) (h:∀ (i:Int),Am.E6.pre [.i i]=true→Bf Am.E6.E Tryz.f254 [.int .i64 i] (Am.E6.out [.i i])):Am.E6.Kn :=
  Ak (A0 hk _ _ _) Tryz.func254 (by kernel_rfl) (by kernel_rfl) h
def Am.E5.Bb:List (Nat × Entry):=[(158,Af.Div.spec)]
def Am.E5.E:Env:=Be (Ba Am.E5.Bb) (fun _=>false) (fun _=>none) (fun _=>none)
theorem Am.E5.ev (N:Nat) (i:Int) (y:List Int) (d:Int):B0 Am.E5.E N Tryz.f259 (Al Tryz.f259) [.int .i64 i,.cellp [.ints .arg .u64 y],.cellp [.int .u64 d]]=bif ((decide (0≤i))&&(decide (i<(List.length y:Int)))) then bif (Ai (List.getD y (Int.toNat i) 0)&&Ai d) then some (.int .u64 (Eo (List.getD y (Int.toNat i) 0) d)) else none else none :=
  Eq.trans (by kernel_rfl)
  (C3 (Li (decide (0≤i)) (decide (i<(List.length y:Int)))) (C3 (C4 (Ai (List.getD y (Int.toNat i) 0)&&Ai d)) rfl rfl) rfl)
abbrev _root_.Go.Proofs.S1.Am.E5.Kn:=A8 Tryz.prog 259 Am.E5.spec
theorem Am.E5.Ad (hk:Az Tryz.prog Am.E5.Bb) (h:∀ (i:Int) (y:List Int) (d:Int),Am.E5.pre [.i i,.l y,.i d]=true→Bf Am.E5.E Tryz.f259 [.int .i64 i,.cellp [.ints .arg .u64 y],.cellp [.int .u64 d]] (Am.E5.out [.i i,.l y,.i d])):Am.E5.Kn :=
  Ak (A0 hk _ _ _) Tryz.func259 (by kernel_rfl) (by kernel_rfl) h
def Am.row.Zero.hint:Nat→Option A9
  | 0=>some { keep:=[0,1,5,6],objs:=[(0,5,100005,.ints 37 .u64 [])],boxes:=[] }
  | _=>none
def Am.row.Zero.Bb:List (Nat × Entry):=[(254,Am.E6.spec)]
def Am.row.Zero.E:Env:=Be (Ba Am.row.Zero.Bb) (fun _=>false) Am.row.Zero.hint (fun _=>none)
def Am.row.Zero.L0 (N M:Nat) (n p6:Int) (p5:List Int):Option DV:=B7 Am.row.Zero.E N Tryz.f253 (Al Tryz.f253) [1,1,0,1,0] [] M ⟨Fy 23 [(0,.int .i64 n),(1,.fn 254 [] []),(5,.oref 100005),(6,.int .i64 p6)],[(100005,false,.ints 37 .u64 p5)]⟩
theorem Am.row.Zero.At (N M:Nat) (n p6:Int) (p5:List Int):Am.row.Zero.L0 N (M+1) n p6 p5=bif (A4 p6 n) then bif (decide ((List.length p5)+1≤Gf)) then Am.row.Zero.L0 N M n (Ab (p6+1)) (p5++[(0:Int)]) else none else bif (((decide ((0:Int)≤n))&&(decide (n≤n)))&&((decide ((0:Int)≤n))&&(decide (n≤(List.length p5:Int))))) then some (.ints .fresh .u64 (List.take (Int.toNat (n-0)) (List.drop 0 p5))) else none :=
  Eq.trans (by kernel_rfl)
  (Ev rfl (C3 (Ap5 (decide ((0:Int)≤n)) (decide (n≤n)) (decide (n≤(List.length p5:Int)))) rfl rfl))
theorem Am.row.Zero.ev (N:Nat) (n:Int):B0 Am.row.Zero.E N Tryz.f253 (Al Tryz.f253) [.int .i64 n,.fn 254 [] []] =
  Am.row.Zero.L0 N N n 1 [(4607182418800017408:Int)]:=by kernel_rfl
abbrev _root_.Go.Proofs.S1.Am.row.Zero.Kn:=A8 Tryz.prog 253 Am.row.Zero.spec
theorem Am.row.Zero.Ad (hk:Az Tryz.prog Am.row.Zero.Bb) (h:∀ (n:Int),Am.row.Zero.pre [.i n]=true→Bf Am.row.Zero.E Tryz.f253 [.int .i64 n,.fn 254 [] []] (Am.row.Zero.out [.i n])):Am.row.Zero.Kn :=
  Ak (A0 hk _ _ _) Tryz.func253 (by kernel_rfl) (by kernel_rfl) h
def Am.row.Div.hint:Nat→Option A9
  | 0=>some { keep:=[0,1,5,6],objs:=[(0,5,100005,.ints 37 .u64 [])],boxes:=[] }
  | _=>none
def Am.row.Div.Bb:List (Nat × Entry):=[(259,Am.E5.spec)]
def Am.row.Div.E:Env:=Be (Ba Am.row.Div.Bb) (fun _=>false) Am.row.Div.hint (fun _=>none)
def Am.row.Div.L0 (N M:Nat) (n:Int) (y:List Int) (d p6:Int) (p5:List Int):Option DV:=B7 Am.row.Div.E N Tryz.f253 (Al Tryz.f253) [1,1,0,1,0] [] M ⟨Fy 23 [(0,.int .i64 n),(1,.fn 259 [] [.cellp [.ints .arg .u64 y],.cellp [.int .u64 d]]),(5,.oref 100005),(6,.int .i64 p6)],[(100005,false,.ints 37 .u64 p5)]⟩
theorem Am.row.Div.At (N M:Nat) (n:Int) (y:List Int) (d p6:Int) (p5:List Int):Am.row.Div.L0 N (M+1) n y d p6 p5=bif (A4 p6 n) then bif ((Cr (0≤p6∧p6<List.length y)&&Ah y)&&Ai d) then bif (decide ((List.length p5)+1≤Gf)) then Am.row.Div.L0 N M n y d (Ab (p6+1)) (p5++[(Eo (List.getD y (Int.toNat p6) 0) d)]) else none else none else bif (((decide ((0:Int)≤n))&&(decide (n≤n)))&&((decide ((0:Int)≤n))&&(decide (n≤(List.length p5:Int))))) then some (.ints .fresh .u64 (List.take (Int.toNat (n-0)) (List.drop 0 p5))) else none :=
  Eq.trans (by kernel_rfl)
  (Ev rfl (C3 (Ap5 (decide ((0:Int)≤n)) (decide (n≤n)) (decide (n≤(List.length p5:Int)))) rfl rfl))
theorem Am.row.Div.ev (N:Nat) (n:Int) (y:List Int) (d:Int):B0 Am.row.Div.E N Tryz.f253 (Al Tryz.f253) [.int .i64 n,.fn 259 [] [.cellp [.ints .arg .u64 y],.cellp [.int .u64 d]]] =
  Am.row.Div.L0 N N n y d 1 [(4607182418800017408:Int)]:=by kernel_rfl
abbrev _root_.Go.Proofs.S1.Am.row.Div.Kn:=A8 Tryz.prog 253 Am.row.Div.spec
theorem Am.row.Div.Ad (hk:Az Tryz.prog Am.row.Div.Bb) (h:∀ (n:Int) (y:List Int) (d:Int),Am.row.Div.pre [.i n,.l y,.i d]=true→Bf Am.row.Div.E Tryz.f253 [.int .i64 n,.fn 259 [] [.cellp [.ints .arg .u64 y],.cellp [.int .u64 d]]] (Am.row.Div.out [.i n,.l y,.i d])):Am.row.Div.Kn :=
  Ak (A0 hk _ _ _) Tryz.func253 (by kernel_rfl) (by kernel_rfl) h
def Am.Jg.Bb:List (Nat × Entry):=[(255,compare.Kd.spec),(258,Am.lead.spec),(252,Am.Cx.spec),(253,(Arw [.i .i64,.fn 254 []] Am.row.Zero.spec Am.row.Div.spec)),(256,Am.Cz.spec),(148,soft.Finite.spec),(233,soft.Fs.spec),(213,soft.Sign.spec),(89,Af.Cm.spec),(158,Af.Div.spec),(150,Af.Finite.spec),(257,Af.Norm.spec),(88,Af.Bx.spec),(156,Af.Sub.spec)]
def Am.Jg.E:Env:=Be (Ba Am.Jg.Bb) (fun _=>false) (fun _=>none) (fun _=>none)
theorem Am.Jg.ev (N:Nat) (x:List Int):B0 Am.Jg.E N Tryz.f245 (Al Tryz.f245) [.ints .arg .u64 x]=bif (((List.length x:Int)==(0:Int))||(A4 64 (List.length x:Int))) then some (.tup [.nil,.int .u64 0,.int .u64 0,.int .i64 3]) else bif (Cw x) then bif (!(Dw x)) then some (.tup [.nil,.int .u64 0,.int .u64 0,.int .i64 4]) else bif (decide ((1:Int)≤(List.length x:Int))) then bif (Cw (List.drop 1 x)) then bif (Jp (List.drop 1 x)) then bif (Cr (1≤(List.length x:Int)∧(List.length x:Int)≤64)) then bif (decide ((0:Int)<(List.length x:Int))) then some (.tup [.ints .fresh .u64 (I3 (Int.toNat (List.length x:Int)) (fun _=>0)),.int .u64 0,.int .u64 (List.getD x 0 0),.int .i64 0]) else none else none else bif (Cw x) then bif (Ai (Bq x)) then bif (Cw x&&Cr (List.length x≤1000∧-2300≤(Ab (0-(Bt (Bq x))))∧(Ab (0-(Bt (Bq x))))≤2300)) then bif (Cw (Bk x (Ab (0-(Bt (Bq x)))))&&Cr (List.length (Bk x (Ab (0-(Bt (Bq x)))))≤64)) then bif (Cw x) then bif (Ai (P7 x)) then bif (!(Dp (P7 x))) then bif (Ai (Ek (Bk x (Ab (0-(Bt (Bq x))))))) then bif (Ew (Dm (Ek (Bk x (Ab (0-(Bt (Bq x))))))) (Bt (Bq x))) then bif (Ai (Cg (Dm (Ek (Bk x (Ab (0-(Bt (Bq x))))))) (Bt (Bq x)))) then bif (!(Cv (Cg (Dm (Ek (Bk x (Ab (0-(Bt (Bq x))))))) (Bt (Bq x))))) then some (.tup [.nil,.int .u64 0,.int .u64 0,.int .i64 2]) else bif (decide ((0:Int)<(List.length (Bk x (Ab (0-(Bt (Bq x))))):Int))) then bif (Ai (List.getD (Bk x (Ab (0-(Bt (Bq x))))) 0 0)&&Ai (Dm (Ek (Bk x (Ab (0-(Bt (Bq x)))))))) then bif ((Cr (1≤(List.length (Bk x (Ab (0-(Bt (Bq x))))):Int)∧(List.length (Bk x (Ab (0-(Bt (Bq x))))):Int)≤64∧(List.length (Bk x (Ab (0-(Bt (Bq x))))):Int)=List.length (Bk x (Ab (0-(Bt (Bq x))))))&&Ah (Bk x (Ab (0-(Bt (Bq x))))))&&Ai (Dk (List.getD (Bk x (Ab (0-(Bt (Bq x))))) 0 0) (Dm (Ek (Bk x (Ab (0-(Bt (Bq x))))))))) then bif (decide ((0:Int)<(List.length (Bk x (Ab (0-(Bt (Bq x))))):Int))) then bif (Ai (Dm (Ek (Bk x (Ab (0-(Bt (Bq x)))))))&&Ai (List.getD (Bk x (Ab (0-(Bt (Bq x))))) 0 0)) then bif (Ai (Dk (Dm (Ek (Bk x (Ab (0-(Bt (Bq x))))))) (List.getD (Bk x (Ab (0-(Bt (Bq x))))) 0 0))&&Ai (Dm (Ek (Bk x (Ab (0-(Bt (Bq x)))))))) then some (.tup [.ints .fresh .u64 (I3 (Int.toNat (List.length (Bk x (Ab (0-(Bt (Bq x))))):Int)) (fun j=>Eo (List.getD (Bk x (Ab (0-(Bt (Bq x))))) j 0) (Dk (List.getD (Bk x (Ab (0-(Bt (Bq x))))) 0 0) (Dm (Ek (Bk x (Ab (0-(Bt (Bq x)))))))))),.int .u64 (Eo (Dk (Dm (Ek (Bk x (Ab (0-(Bt (Bq x))))))) (List.getD (Bk x (Ab (0-(Bt (Bq x))))) 0 0)) (Dm (Ek (Bk x (Ab (0-(Bt (Bq x)))))))),.int .u64 (Cg (Dm (Ek (Bk x (Ab (0-(Bt (Bq x))))))) (Bt (Bq x))),.int .i64 0]) else none else none else none else none else none else none else none else none else none else bif (Ew (Ek (Bk x (Ab (0-(Bt (Bq x)))))) (Bt (Bq x))) then bif (Ai (Cg (Ek (Bk x (Ab (0-(Bt (Bq x)))))) (Bt (Bq x)))) then bif (!(Cv (Cg (Ek (Bk x (Ab (0-(Bt (Bq x)))))) (Bt (Bq x))))) then some (.tup [.nil,.int .u64 0,.int .u64 0,.int .i64 2]) else bif (decide ((0:Int)<(List.length (Bk x (Ab (0-(Bt (Bq x))))):Int))) then bif (Ai (List.getD (Bk x (Ab (0-(Bt (Bq x))))) 0 0)&&Ai (Ek (Bk x (Ab (0-(Bt (Bq x))))))) then bif ((Cr (1≤(List.length (Bk x (Ab (0-(Bt (Bq x))))):Int)∧(List.length (Bk x (Ab (0-(Bt (Bq x))))):Int)≤64∧(List.length (Bk x (Ab (0-(Bt (Bq x))))):Int)=List.length (Bk x (Ab (0-(Bt (Bq x))))))&&Ah (Bk x (Ab (0-(Bt (Bq x))))))&&Ai (Dk (List.getD (Bk x (Ab (0-(Bt (Bq x))))) 0 0) (Ek (Bk x (Ab (0-(Bt (Bq x)))))))) then bif (decide ((0:Int)<(List.length (Bk x (Ab (0-(Bt (Bq x))))):Int))) then bif (Ai (Ek (Bk x (Ab (0-(Bt (Bq x))))))&&Ai (List.getD (Bk x (Ab (0-(Bt (Bq x))))) 0 0)) then bif (Ai (Dk (Ek (Bk x (Ab (0-(Bt (Bq x)))))) (List.getD (Bk x (Ab (0-(Bt (Bq x))))) 0 0))&&Ai (Ek (Bk x (Ab (0-(Bt (Bq x))))))) then some (.tup [.ints .fresh .u64 (I3 (Int.toNat (List.length (Bk x (Ab (0-(Bt (Bq x))))):Int)) (fun j=>Eo (List.getD (Bk x (Ab (0-(Bt (Bq x))))) j 0) (Dk (List.getD (Bk x (Ab (0-(Bt (Bq x))))) 0 0) (Ek (Bk x (Ab (0-(Bt (Bq x))))))))),.int .u64 (Eo (Dk (Ek (Bk x (Ab (0-(Bt (Bq x)))))) (List.getD (Bk x (Ab (0-(Bt (Bq x))))) 0 0)) (Ek (Bk x (Ab (0-(Bt (Bq x))))))),.int .u64 (Cg (Ek (Bk x (Ab (0-(Bt (Bq x)))))) (Bt (Bq x))),.int .i64 0]) else none else none else none else none else none else none else none else none else none else none else none else none else none else none else none else none else none :=
  Eq.trans (by kernel_rfl)
  (Ar (U4 ((List.length x:Int)==(0:Int))) (Ar (Tk ((List.length x:Int)==(0:Int))) (Ar (Tk ((List.length x:Int)==(0:Int))) (Ar (tt6 ((List.length x:Int)==(0:Int))) (C3 (tt5 ((List.length x:Int)==(0:Int)) (A4 64 (List.length x:Int))) rfl (Ev (Ev rfl (C3 (tt91 (decide ((1:Int)≤(List.length x:Int)))) (Ev (Ev (C3 (C4 (Cr (1≤(List.length x:Int)∧(List.length x:Int)≤64))) (C3 (C4 (decide ((0:Int)<(List.length x:Int)))) rfl rfl) rfl) rfl) rfl) rfl)) rfl))))))
abbrev _root_.Go.Proofs.S1.Am.Jg.Kn:=A8 Tryz.prog 245 Am.Jg.spec
theorem Am.Jg.Ad (hk:Az Tryz.prog Am.Jg.Bb) (h:∀ (x:List Int),Am.Jg.pre [.l x]=true→Bf Am.Jg.E Tryz.f245 [.ints .arg .u64 x] (Am.Jg.out [.l x])):Am.Jg.Kn :=
  Ak (A0 hk _ _ _) Tryz.func245 (by kernel_rfl) (by kernel_rfl) h
def Am.Apply.hint:Nat→Option A9
  | 0=>some { keep:=[1,3,4,5,10,13,14],objs:=[(14,2,114002,.ints 37 .u64 [])],boxes:=[5,10,13] }
  | 2=>some { keep:=[1,3,4,5,10,13,14,18,90,91,92],objs:=[(14,2,114002,.ints 37 .u64 [])],boxes:=[5,10,13] }
  | _=>none
def Am.Apply.Bb:List (Nat × Entry):=[(160,Aa.Check.spec),(191,Aa.Dg.spec),(189,Af.N1.spec),(157,Af.Mul.spec),(156,Af.Sub.spec)]
def Am.Apply.E:Env:=Be (Ba Am.Apply.Bb) (fun _=>false) Am.Apply.hint (fun _=>none)
def Am.Apply.L0 (N M:Nat) (r c:Int) (l:List Int) (i:Int) (v:List Int) (t p14:Int) (p2_1:List Int):Option DV:=B7 Am.Apply.E N Tryz.f219 (Al Tryz.f219) [1,1,1,1,0,1,0] [] M ⟨Fy 118 [(1,.int .i64 i),(3,.ints .arg .u64 v),(4,.int .u64 t),(5,.ptr 5 0 0),(10,.ptr 10 0 0),(13,.ptr 13 0 0),(14,.int .i64 p14)],[(5,false,.box [.int .i64 r,.int .i64 c,.ints .arg .u64 l]),(10,false,.box [.int .i64 0,.int .i64 0,.nil]),(13,false,.box [.int .i64 r,.int .i64 c,.oref 114002]),(114002,false,.ints 37 .u64 p2_1)]⟩
def Am.Apply.L1 (N M0 M:Nat) (r c:Int) (l:List Int) (i:Int) (v:List Int) (t p92:Int) (p2:List Int) (p14_1 p18:Int) (p90:List Int) (p91:Int):Option DV:=B7 Am.Apply.E N Tryz.f219 (Al Tryz.f219) [1,1,1,1,0,1,0,0,1,0,0,1,1,1,1,0] [M0] M ⟨Fy 118 [(1,.int .i64 i),(3,.ints .arg .u64 v),(4,.int .u64 t),(5,.ptr 5 0 0),(10,.ptr 10 0 0),(13,.ptr 13 0 0),(14,.int .i64 p14_1),(18,.int .u64 p18),(90,.ints .fresh .u64 p90),(91,.int .i64 p91),(92,.int .i64 p92)],[(5,false,.box [.int .i64 r,.int .i64 c,.ints .arg .u64 l]),(10,false,.box [.int .i64 0,.int .i64 0,.nil]),(13,false,.box [.int .i64 r,.int .i64 c,.oref 114002]),(114002,false,.ints 37 .u64 p2)]⟩
theorem Am.Apply.At (N M:Nat) (r c:Int) (l:List Int) (i:Int) (v:List Int) (t p14:Int) (p2_1:List Int):Am.Apply.L0 N (M+1) r c l i v t p14 p2_1=bif (A4 p14 c) then bif (Lc r c l p14&&Cr (0≤i∧i≤r)) then bif (((decide ((0:Int)≤(List.length v:Int)))&&(decide ((List.length v:Int)≤(List.length v:Int))))&&((decide ((0:Int)≤(List.length v:Int)))&&(decide ((List.length v:Int)≤(List.length (Dr c l p14 i (Int.toNat (r-i))):Int))))) then bif ((S8 v (List.take (Int.toNat (List.length v:Int)) (Dr c l p14 i (Int.toNat (r-i))))&&Ah v)&&Ah (List.take (Int.toNat (List.length v:Int)) (Dr c l p14 i (Int.toNat (r-i))))) then bif (Ai t&&Ai (Nf v (List.take (Int.toNat (List.length v:Int)) (Dr c l p14 i (Int.toNat (r-i)))))) then Am.Apply.L1 N M N r c l i v t 0 p2_1 p14 (Eg t (Nf v (List.take (Int.toNat (List.length v:Int)) (Dr c l p14 i (Int.toNat (r-i)))))) (List.take (Int.toNat (List.length v:Int)) (Dr c l p14 i (Int.toNat (r-i)))) (List.length (List.take (Int.toNat (List.length v:Int)) (Dr c l p14 i (Int.toNat (r-i)))):Int) else none else none else none else none else some (.tup [.agg [.int .i64 r,.int .i64 c,.ints (.own 114002 37) .u64 p2_1],.int .i64 0]) :=
  Eq.trans (by kernel_rfl)
  (Ev (Ev (C3 (Ap5 (decide ((0:Int)≤(List.length v:Int))) (decide ((List.length v:Int)≤(List.length v:Int))) (decide ((List.length v:Int)≤(List.length (Dr c l p14 i (Int.toNat (r-i))):Int)))) rfl rfl) rfl) rfl)
theorem Am.Apply.Ck (N M0 M:Nat) (r c:Int) (l:List Int) (i:Int) (v:List Int) (t p92:Int) (p2:List Int) (p14_1 p18:Int) (p90:List Int) (p91:Int):Am.Apply.L1 N M0 (M+1) r c l i v t p92 p2 p14_1 p18 p90 p91=bif (A4 p92 p91) then bif ((decide (0≤p92))&&(decide (p92<(List.length p90:Int)))) then bif ((decide (0≤p92))&&(decide (p92<(List.length v:Int)))) then bif (Ai p18&&Ai (List.getD v (Int.toNat p92) 0)) then bif (Ai (List.getD p90 (Int.toNat p92) 0)&&Ai (Eg p18 (List.getD v (Int.toNat p92) 0))) then bif ((decide (0≤(Ab ((Ab ((Ab (i+p92))*c))+p14_1))))&&(decide ((Ab ((Ab ((Ab (i+p92))*c))+p14_1))<(List.length p2:Int)))) then bif (decide ((Int.toNat (Ab ((Ab ((Ab (i+p92))*c))+p14_1)))<(List.length p2))) then Am.Apply.L1 N M0 M r c l i v t (Ab (p92+1)) (List.set p2 (Int.toNat (Ab ((Ab ((Ab (i+p92))*c))+p14_1))) (Dk (List.getD p90 (Int.toNat p92) 0) (Eg p18 (List.getD v (Int.toNat p92) 0)))) p14_1 p18 p90 p91 else none else none else none else none else none else none else Am.Apply.L0 N M0 r c l i v t (Ab (p14_1+1)) p2 :=
  Eq.trans (by kernel_rfl)
  (Ev (Ev (C3 (Li (decide (0≤p92)) (decide (p92<(List.length v:Int)))) (C3 (C4 (Ai p18&&Ai (List.getD v (Int.toNat p92) 0))) (C3 (C4 (Ai (List.getD p90 (Int.toNat p92) 0)&&Ai (Eg p18 (List.getD v (Int.toNat p92) 0)))) (C3 (Li (decide (0≤(Ab ((Ab ((Ab (i+p92))*c))+p14_1)))) (decide ((Ab ((Ab ((Ab (i+p92))*c))+p14_1))<(List.length p2:Int)))) (C3 (C4 (decide ((Int.toNat (Ab ((Ab ((Ab (i+p92))*c))+p14_1)))<(List.length p2)))) rfl rfl) rfl) rfl) rfl) rfl) rfl) rfl)
theorem Am.Apply.ev (N:Nat) (r c:Int) (l:List Int) (i k:Int) (v:List Int) (t:Int):B0 Am.Apply.E N Tryz.f219 (Al Tryz.f219) [.agg [.int .i64 r,.int .i64 c,.ints .arg .u64 l],.int .i64 i,.int .i64 k,.ints .arg .u64 v,.int .u64 t]=bif ((Je r c l) !=(0:Int)) then some (.tup [.agg [.int .i64 0,.int .i64 0,.nil],.int .i64 (Je r c l)]) else bif (((((A4 i 0)||(A4 r (List.length v:Int)))||(A4 (Ab (r-(List.length v:Int))) i))||(A4 k 0))||(A4 c k)) then some (.tup [.agg [.int .i64 0,.int .i64 0,.nil],.int .i64 3]) else bif (decide (0+(List.length l)≤Gf)) then Am.Apply.L0 N N r c l i v t k ([]++l) else none :=
  Eq.trans (by kernel_rfl)
  (Ev rfl (Ar (U4 (A4 i 0)) (Ar (Tk (A4 i 0)) (Ar (U4 (A4 i 0)) (Ar (Tk (A4 i 0)) (Ar (tt8 (A4 i 0)) (Ar (tt6 (A4 i 0)) (Ar (Ac8 (A4 i 0) (A4 r (List.length v:Int))) (Ar (Ac8 (A4 i 0) (A4 r (List.length v:Int))) (Ar (Aau (A4 i 0) (A4 r (List.length v:Int))) (Ar (Ac8 (A4 i 0) (A4 r (List.length v:Int))) (Ar (Aau (A4 i 0) (A4 r (List.length v:Int))) (Ar (Ap4 (A4 i 0) (A4 r (List.length v:Int))) (Ar (Ap4 (A4 i 0) (A4 r (List.length v:Int))) (Ar (Amw (A4 i 0) (A4 r (List.length v:Int))) (Ar (Aiw (A4 i 0) (A4 r (List.length v:Int)) (A4 (Ab (r-(List.length v:Int))) i)) (Ar (Aqa (A4 i 0) (A4 r (List.length v:Int)) (A4 (Ab (r-(List.length v:Int))) i)) (Ar (Amx (A4 i 0) (A4 r (List.length v:Int)) (A4 (Ab (r-(List.length v:Int))) i)) (Ar (Ac9 (A4 i 0) (A4 r (List.length v:Int)) (A4 (Ab (r-(List.length v:Int))) i) (A4 k 0)) (Ar (Ac9 (A4 i 0) (A4 r (List.length v:Int)) (A4 (Ab (r-(List.length v:Int))) i) (A4 k 0)) (Ar (Amy (A4 i 0) (A4 r (List.length v:Int)) (A4 (Ab (r-(List.length v:Int))) i) (A4 k 0)) (Ar (Amz (A4 i 0) (A4 r (List.length v:Int)) (A4 (Ab (r-(List.length v:Int))) i) (A4 k 0)) (Ar (Aqb (A4 i 0) (A4 r (List.length v:Int)) (A4 (Ab (r-(List.length v:Int))) i) (A4 k 0)) (C3 (Asx (A4 i 0) (A4 r (List.length v:Int)) (A4 (Ab (r-(List.length v:Int))) i) (A4 k 0) (A4 c k)) rfl (C3 (C4 (decide (0+(List.length l)≤Gf))) rfl rfl)))))))))))))))))))))))))
abbrev _root_.Go.Proofs.S1.Am.Apply.Kn:=A8 Tryz.prog 219 Am.Apply.spec
theorem Am.Apply.Ad (hk:Az Tryz.prog Am.Apply.Bb) (h:∀ (r c:Int) (l:List Int) (i k:Int) (v:List Int) (t:Int),Am.Apply.pre [.i r,.i c,.l l,.i i,.i k,.l v,.i t]=true→Bf Am.Apply.E Tryz.f219 [.agg [.int .i64 r,.int .i64 c,.ints .arg .u64 l],.int .i64 i,.int .i64 k,.ints .arg .u64 v,.int .u64 t] (Am.Apply.out [.i r,.i c,.l l,.i i,.i k,.l v,.i t])):Am.Apply.Kn :=
  Ak (A0 hk _ _ _) Tryz.func219 (by kernel_rfl) (by kernel_rfl) h
end EqHouse
open EqHouse
theorem Afw (x:Int):((A1 x) !=(0:Int))=!(decide (A1 x=0)):=by
  rw [Au0]; simp
theorem Ze (N:Nat) {x:List Int} (hx:Cw x=true):∀ (k i F:Nat),i+k=x.length→k<F→Am.Cx.L0 N F x (i:Int)=some (.bool (Jp (x.drop i))):=by
  obtain ⟨hl,hu⟩:=Kj hx
  intro k
  induction k with
  | zero =>
    intro i F hi hF
    obtain ⟨F,rfl⟩:∃ G,F=G+1:=⟨F-1,by omega⟩
    rw [Am.Cx.At,Au,Aup (by omega),Auo,Auy (by omega)]; rfl
  | succ k ih =>
    intro i F hi hF
    obtain ⟨F,rfl⟩:∃ G,F=G+1:=⟨F-1,by omega⟩
    rw [Am.Cx.At,Au,Aul (show (i:Int)<(x.length:Int) by omega),Auk,Aul (show (0:Int)≤(i:Int) by omega),Auq,Auk,Aum,hu i (by omega),Auk,Afw,H5 (by omega)]
    unfold Jp
    rw [List.all_cons]
    cases decide (A1 (x.getD i 0)=0) with
    | false=>rfl
    | true =>
      rw [Bool.not_true,Auo,Bool.true_and,An (by omega) (by omega)]
      exact ih (i+1) F (by omega) (by omega)
theorem Am.Cx.known:Am.Cx.Kn:=Am.Cx.Ad (.cons soft.Kind.known .nil) fun x hp=>by
  refine ⟨x.length+1,Am.Cx.out [.l x],[],?_,.bool⟩
  rw [Am.Cx.ev]
  exact Ze (x.length+1) hp x.length 0 (x.length+1) (by omega) (by omega)
theorem Ahm (N:Nat) {x:List Int} (hx:Cw x=true):∀ (k i F:Nat),i+k=x.length→k<F→Am.lead.L0 N F x (i:Int)=some (.int .u64 (P7 (x.drop i))):=by
  obtain ⟨hl,hu⟩:=Kj hx
  intro k
  induction k with
  | zero =>
    intro i F hi hF
    obtain ⟨F,rfl⟩:∃ G,F=G+1:=⟨F-1,by omega⟩
    rw [Am.lead.At,Au,Aup (by omega),Auo,Auy (by omega)]; rfl
  | succ k ih =>
    intro i F hi hF
    obtain ⟨F,rfl⟩:∃ G,F=G+1:=⟨F-1,by omega⟩
    rw [Am.lead.At,Au,Aul (show (i:Int)<(x.length:Int) by omega),Auk,Aul (show (0:Int)≤(i:Int) by omega),Auq,Auk,Aum,hu i (by omega),Auk,Afw,H5 (by omega),P7]
    by_cases h:A1 (x.getD i 0)=0
    · rw [Aul h,if_pos h,Bool.not_true,Auo,An (by omega) (by omega)]
      exact ih (i+1) F (by omega) (by omega)
    · rw [Aup h,if_neg h]; rfl
theorem Am.lead.known:Am.lead.Kn:=Am.lead.Ad (.cons soft.Kind.known .nil) fun x hp=>by
  refine ⟨x.length+1,Am.lead.out [.l x],[],?_,.int⟩
  rw [Am.lead.ev]
  exact Ahm (x.length+1) hp x.length 0 (x.length+1) (by omega) (by omega)
theorem Ade {x:List Int} {i:Nat} (h:i<x.length) (f:Int→Int):(x.take (i+1)).map f=(x.take i).map f++[f (x.getD i 0)]:=by
  rw [List.take_succ_eq_append_getElem h,List.map_append,Auu,Au1 h]; rfl
theorem Y1 (N:Nat) {x:List Int} {e:Int} (hx:Cw x=true) (hl:x.length≤1000) (he:-2300≤e∧e≤2300):∀ (k i F:Nat),i+k=x.length→k<F →
    Am.Cz.L0 N F x e (i:Int) ((x.take i).map fun b=>Cg b e)=some (.ints (.own 100005 tB) .u64 (Bk x e)):=by
  obtain ⟨_,hu⟩:=Kj hx
  intro k
  induction k with
  | zero =>
    intro i F hi hF
    obtain ⟨F,rfl⟩:∃ G,F=G+1:=⟨F-1,by omega⟩
    rw [Am.Cz.At,Au,Aup (by omega),Auo,List.take_of_length_le (by omega)]; rfl
  | succ k ih =>
    intro i F hi hF
    obtain ⟨F,rfl⟩:∃ G,F=G+1:=⟨F-1,by omega⟩
    rw [Am.Cz.At,Au,Aul (show (i:Int)<(x.length:Int) by omega),Auk,Aul (show (0:Int)≤(i:Int) by omega),Auq,Auk,Aum,
      show Ew (List.getD x i 0) e=true from Ag.2 ⟨hu i (by omega),Ap.2 he⟩,Auk,Aul (by rw [List.length_map,List.length_take]; unfold Gf; omega),Auk,An (by omega) (by omega)]
    have:=ih (i+1) F (by omega) (by omega)
    rw [Ade (by omega)] at this
    exact this
theorem Am.Cz.known:Am.Cz.Kn:=Am.Cz.Ad (.cons Af.Bx.known .nil) fun x k hp=>by
  obtain ⟨h1,h2⟩:=Ag.1 hp
  have h2:=Ap.1 h2
  refine ⟨x.length+1,.ints (.own 100005 tB) .u64 (Bk x k),[100005],?_,.drop _ _ _ _ (List.mem_singleton.2 rfl)⟩
  rw [Am.Cz.ev]
  exact Y1 (x.length+1) h1 h2.1 h2.2 x.length 0 (x.length+1) (by omega) (by omega)
theorem Am.E6.known:Am.E6.Kn:=Am.E6.Ad .nil fun i _=>⟨0,Am.E6.out [.i i],[],by rw [Am.E6.ev]; rfl,.int⟩
theorem Am.E5.known:Am.E5.Kn:=Am.E5.Ad (.cons Af.Div.known .nil) fun i y d hp=>by
  obtain ⟨h1,h2⟩:=Ag.1 (show ((Cr (0≤i∧i<List.length y)&&Ah y)&&Ai d)=true from hp)
  obtain ⟨h3,h4⟩:=Ag.1 h1
  have h3:=Ap.1 h3
  refine ⟨0,Am.E5.out [.i i,.l y,.i d],[],?_,.int⟩
  rw [Am.E5.ev,Aul h3.1,Aul h3.2,Ms h4,h2]; rfl
theorem Pe (n i:Nat) (f:Nat→Int) (h:i+1=n):I3 n f=Aqx::(List.range i).map fun j=>f (j+1):=by unfold I3; rw [show n-1=i by omega]
theorem Aff {n:Nat} (f:Nat→Int) (h:n≠0):(((decide ((0:Int)≤(n:Int)))&&(decide ((n:Int)≤(n:Int))))&&((decide ((0:Int)≤(n:Int)))&&(decide ((n:Int)≤(List.length (I3 n f):Int)))))=true ∧
    List.take (Int.toNat ((n:Int)-(0:Int))) (List.drop 0 (I3 n f))=I3 n f:=by
  have:=Rj h f
  refine ⟨?_,?_⟩
  · rw [Aul (by omega),Aul (by omega),Aul (by omega)]; rfl
  · rw [List.drop_zero,List.take_of_length_le (by omega)]
theorem Wz (N:Nat) {n:Nat} (h64:n≤64) (h0:n≠0):∀ (k i F:Nat),i+1+k=n→k<F →
    Am.row.Zero.L0 N F (n:Int) ((i+1:Nat):Int) (I3 (i+1) fun _=>0)=some (.ints .fresh .u64 (I3 n fun _=>0)):=by
  intro k
  induction k with
  | zero =>
    intro i F hi hF
    obtain ⟨F,rfl⟩:∃ G,F=G+1:=⟨F-1,by omega⟩
    obtain rfl:i+1=n:=by omega
    obtain ⟨e1,e2⟩:=Aff (fun _=>0) h0
    rw [Am.row.Zero.At,Au,Aup (by omega),Auo,e1,Auk,e2]
  | succ k ih =>
    intro i F hi hF
    obtain ⟨F,rfl⟩:∃ G,F=G+1:=⟨F-1,by omega⟩
    rw [Am.row.Zero.At,Au,Aul (by omega),Auk,Aul (by rw [Rj (by omega)]; unfold Gf; omega),Auk,An (by omega) (by omega)]
    have:=ih (i+1) F (by omega) (by omega)
    rw [Pe (i+1+1) (i+1) _ rfl,Ii] at this
    rw [Pe (i+1) i _ rfl]
    exact this
theorem Am.row.Zero.known:Am.row.Zero.Kn:=Am.row.Zero.Ad (.cons Am.E6.known .nil) fun n hp=>by
  have hp:=Ap.1 (show Cr (1≤n∧n≤64)=true from hp)
  obtain ⟨m,rfl⟩:∃ m:Nat,n=m:=⟨n.toNat,by omega⟩
  refine ⟨65,Am.row.Zero.out [.i m],[],?_,.J5⟩
  show _=some (DV.ints .fresh .u64 (I3 (Int.toNat (m:Int)) fun _=>0))
  rw [Am.row.Zero.ev,Aum]
  exact Wz 65 (by omega) (by omega) (m-1) 0 65 (by omega) (by omega)
theorem Y4 (N:Nat) {n:Nat} {y:List Int} {d:Int} (h64:n≤64) (h0:n≠0) (hy:n=y.length) (al:Ah y=true) (hd:Ai d=true):∀ (k i F:Nat),i+1+k=n→k<F →
    Am.row.Div.L0 N F (n:Int) y d ((i+1:Nat):Int) (I3 (i+1) fun j=>Eo (y.getD j 0) d)=some (.ints .fresh .u64 (I3 n fun j=>Eo (y.getD j 0) d)):=by
  intro k
  induction k with
  | zero =>
    intro i F hi hF
    obtain ⟨F,rfl⟩:∃ G,F=G+1:=⟨F-1,by omega⟩
    obtain rfl:i+1=n:=by omega
    obtain ⟨e1,e2⟩:=Aff (fun j=>Eo (y.getD j 0) d) h0
    rw [Am.row.Div.At,Au,Aup (by omega),Auo,e1,Auk,e2]
  | succ k ih =>
    intro i F hi hF
    obtain ⟨F,rfl⟩:∃ G,F=G+1:=⟨F-1,by omega⟩
    rw [Am.row.Div.At,Au,Aul (by omega),Auk,Ap.2 (show 0≤((i+1:Nat):Int)∧((i+1:Nat):Int)<(y.length:Int) by omega),al,hd,Auq,Auq,Auk,Aul (by rw [Rj (by omega)]; unfold Gf; omega),Auk,An (by omega) (by omega),Aum]
    have:=ih (i+1) F (by omega) (by omega)
    rw [Pe (i+1+1) (i+1) _ rfl,Ii] at this
    rw [Pe (i+1) i _ rfl]
    exact this
theorem Am.row.Div.known:Am.row.Div.Kn:=Am.row.Div.Ad (.cons Am.E5.known .nil) fun n y d hp=>by
  obtain ⟨h1,h2⟩:=Ag.1 (show ((Cr (1≤n∧n≤64∧n=List.length y)&&Ah y)&&Ai d)=true from hp)
  obtain ⟨h3,h4⟩:=Ag.1 h1
  have h3:=Ap.1 h3
  obtain ⟨m,rfl⟩:∃ m:Nat,n=m:=⟨n.toNat,by omega⟩
  refine ⟨65,Am.row.Div.out [.i m,.l y,.i d],[],?_,.J5⟩
  show _=some (DV.ints .fresh .u64 (I3 (Int.toNat (m:Int)) fun j=>Eo (List.getD y j 0) d))
  rw [Am.row.Div.ev,Aum]
  exact Y4 65 (by omega) (by omega) (by omega) h4 h2 (m-1) 0 65 (by omega) (by omega)
theorem Xk {x:List Int} {k:Int} {j:Nat} (h:j<x.length):(Bk x k).getD j 0=Cg (x.getD j 0) k:=by
  unfold Bk
  rw [Auu,List.getElem?_map,Au1 h,Auu,Au1 h]; rfl
theorem Agn (x:List Int) (k:Int):(Bk x k).length=x.length:=by unfold Bk; rw [List.length_map]
theorem Ago {x:List Int} (k:Int) (h:Ah x=true):Ah (Bk x k)=true:=Ps fun y hy=>by
  obtain ⟨b,hb,rfl⟩:=List.mem_map.1 hy
  exact Jm (Ap.1 h b hb)
theorem Zu:∀ {x:List Int},Ah x=true→Ai (P7 x)=true
  | [],_=>Jh
  | b::l,h=>by
    unfold P7
    split
    · exact Zu (Ps fun y hy=>Ap.1 h y (List.mem_cons_of_mem _ hy))
    · exact Ap.1 h b List.mem_cons_self
theorem Pr {x:List Int} (h:Cw x=true):Ah x=true:=Ap.2 (Ap.1 h).2
theorem Ic {drops:List Nat} {g:Ac1}:Wk drops .nil (.ints g .u64 []):=.nil g .u64
theorem Agt {n:Nat} {f g:Nat→Int} (h:∀ j,j<n→f j=g j):I3 n f=I3 n g:=by
  unfold I3
  congr 1
  exact List.map_congr_left fun j hj=>h _ (by have:=List.mem_range.1 hj; omega)
theorem Am.Jg.known:Am.Jg.Kn:=Am.Jg.Ad (.cons compare.Kd.known (.cons Am.lead.known (.cons Am.Cx.known (.cons (A8.alt Am.row.Zero.known Am.row.Div.known) (.cons Am.Cz.known (.cons soft.Finite.known (.cons soft.Fs.known (.cons soft.Sign.known (.cons Af.Cm.known (.cons Af.Div.known (.cons Af.Finite.known (.cons Af.Norm.known (.cons Af.Bx.known (.cons Af.Sub.known .nil)))))))))))))) fun x hp=>by
  have hx:Cw x=true:=hp
  have al:=Pr hx
  have he:=Alj (Bq x)
  show ∃ N dv drops,_=some dv∧Wk drops dv (DV.tup [.ints .fresh .u64 (Cf x).1,.int .u64 (Cf x).2.1,.int .u64 (Cf x).2.2.1,.int .i64 (Cf x).2.2.2])
  unfold Cf
  by_cases h1:x.length=0∨64<x.length
  · rw [if_pos h1]
    refine ⟨0,.tup [.nil,.int .u64 0,.int .u64 0,.int .i64 3],[],?_,Wk.Gm (.cons Ic (.cons .int (.cons .int (.cons .int .nil))))⟩
    have:(((List.length x:Int)==(0:Int))||(A4 (64:Int) (List.length x:Int)))=true:=by
      rw [Au,Bool.or_eq_true,beq_iff_eq,Aur]; omega
    rw [Am.Jg.ev,this,Auk]
  have c1:(((List.length x:Int)==(0:Int))||(A4 (64:Int) (List.length x:Int)))=false:=by
    rw [Au,Bool.or_eq_false_iff,beq_eq_false_iff_ne,Au3]; omega
  rw [if_neg h1]
  by_cases h2:Dw x=true
  · rw [if_pos h2]
    unfold Ans
    have ok1:Cw (x.drop 1)=true:=K5 (Ps fun y hy=>Ap.1 al y (List.mem_of_mem_drop hy)) (by rw [List.length_drop]; omega)
    have d1:decide ((1:Int)≤(x.length:Int))=true:=Aul (by omega)
    have d0:decide ((0:Int)<(x.length:Int))=true:=Aul (by omega)
    by_cases h3:Jp (x.drop 1)=true
    · rw [if_pos h3]
      refine ⟨0,.tup [.ints .fresh .u64 (I3 x.length fun _=>0),.int .u64 0,.int .u64 (x.getD 0 0),.int .i64 0],[],?_,Wk.Gm (.cons .J5 (.cons .int (.cons .int (.cons .int .nil))))⟩
      rw [Am.Jg.ev,c1,Auo,hx,Auk,h2,Bool.not_true,Auo,d1,Auk,ok1,Auk,h3,Auk,Ap.2 (show 1≤(x.length:Int)∧(x.length:Int)≤64 by omega),Auk,d0,Auk,Aum]
    · rw [if_neg h3]
      have h3:Jp (x.drop 1)=false:=by simpa using h3
      have ew:Ab (0-Bt (Bq x))=-Bt (Bq x):=by rw [An (by omega) (by omega)]; omega
      have ly:=Agn x (-Bt (Bq x))
      have ay:=Ago (-Bt (Bq x)) al
      have oky:Cw (Bk x (-Bt (Bq x)))=true:=K5 ay (by omega)
      have gy:=Xk (x:=x) (k:=-Bt (Bq x)) (j:=0) (by omega)
      have iy:=Ms ay 0
      have key:∀ mu:Int,muI x=mu→Ai mu=true→∀ b:Bool,Cv (Ho x)=b→∃ dv:DV,(bif (!b) then
              some (.tup [.nil,.int .u64 (0:Int),.int .u64 (0:Int),.int .i64 (2:Int)])
            else some (.tup [.ints .fresh .u64 (I3 (Int.toNat (List.length (Bk x (-Bt (Bq x))):Int)) (fun j=>Eo (List.getD (Bk x (-Bt (Bq x))) j 0) (Dk (List.getD (Bk x (-Bt (Bq x))) 0 0) mu))),.int .u64 (Eo (Dk mu (List.getD (Bk x (-Bt (Bq x))) 0 0)) mu),.int .u64 (Cg mu (Bt (Bq x))),.int .i64 (0:Int)]))=some dv ∧
          Wk [] dv (DV.tup [.ints .fresh .u64 (if Cv (Ho x)=true then (Abl x,Ad5 x,Ho x,(0:Int)) else ([],0,0,2)).1,.int .u64 (if Cv (Ho x)=true then (Abl x,Ad5 x,Ho x,(0:Int)) else ([],0,0,2)).2.1,.int .u64 (if Cv (Ho x)=true then (Abl x,Ad5 x,Ho x,(0:Int)) else ([],0,0,2)).2.2.1,.int .i64 (if Cv (Ho x)=true then (Abl x,Ad5 x,Ho x,(0:Int)) else ([],0,0,2)).2.2.2]):=by
        intro mu hmu _ b hb
        rw [hb]
        cases b with
        | false=>exact ⟨_,rfl,Wk.Gm (.cons Ic (.cons .int (.cons .int (.cons .int .nil))))⟩
        | true =>
          refine ⟨_,rfl,?_⟩
          rw [if_pos rfl]
          dsimp only
          have e1:I3 (Int.toNat (List.length (Bk x (-Bt (Bq x))):Int)) (fun j=>Eo (List.getD (Bk x (-Bt (Bq x))) j 0) (Dk (List.getD (Bk x (-Bt (Bq x))) 0 0) mu))=Abl x:=by
            unfold Abl
            rw [Aum,ly,gy,← hmu]
            exact Agt fun j hj=>by rw [Xk hj]; rfl
          have e2:Eo (Dk mu (List.getD (Bk x (-Bt (Bq x))) 0 0)) mu=Ad5 x:=by
            unfold Ad5
            rw [gy,hmu]; rfl
          have e3:Cg mu (Bt (Bq x))=Ho x:=by unfold Ho; rw [hmu]
          rw [e1,e2,e3]
          exact Wk.Gm (.cons .J5 (.cons .int (.cons .int (.cons .int .nil))))
      have dz:decide ((0:Int)<((Bk x (-Bt (Bq x))).length:Int))=true:=Aul (by omega)
      have cz':Cr (1≤((Bk x (-Bt (Bq x))).length:Int)∧((Bk x (-Bt (Bq x))).length:Int)≤64∧True)=true:=Ap.2 ⟨by omega,by omega,trivial⟩
      have p1:Cr (x.length≤1000∧-2300≤-Bt (Bq x)∧-Bt (Bq x)≤2300)=true:=Ap.2 (by omega)
      have p2:Cr ((Bk x (-Bt (Bq x))).length≤64)=true:=Ap.2 (by omega)
      have sp:∀ mu:Int,Ai mu=true→Ew mu (Bt (Bq x))=true:=fun mu h=>Ag.2 ⟨h,Ap.2 (by omega)⟩
      have ny:=Zh (Bk x (-Bt (Bq x)))
      cases hn:Dp (P7 x) with
      | true =>
        have hm:muI x=Ek (Bk x (-Bt (Bq x))):=by unfold muI; rw [if_pos hn]
        obtain ⟨dv,k1,k2⟩:=key _ hm ny (Cv (Ho x)) rfl
        refine ⟨0,dv,[],?_,k2⟩
        rw [← k1]
        have eb:Ho x=Cg (Ek (Bk x (-Bt (Bq x)))) (Bt (Bq x)):=by unfold Ho; rw [hm]
        rw [Am.Jg.ev,ew,eb]
        simp only [c1,Auo,hx,Auk,h2,Bool.not_true,d1,ok1,h3,Qy,p1,oky,p2,Auq,Zu al,hn,sp _ ny,Jm ny,dz,cz',ay,iy,ny,N7 iy ny,N7 ny iy]
      | false =>
        have hm:muI x=Dm (Ek (Bk x (-Bt (Bq x)))):=by unfold muI; rw [if_neg (by rw [hn]; decide)]
        have my:=Abo ny
        obtain ⟨dv,k1,k2⟩:=key _ hm my (Cv (Ho x)) rfl
        refine ⟨0,dv,[],?_,k2⟩
        rw [← k1]
        have eb:Ho x=Cg (Dm (Ek (Bk x (-Bt (Bq x))))) (Bt (Bq x)):=by unfold Ho; rw [hm]
        rw [Am.Jg.ev,ew,eb]
        simp only [c1,Auo,hx,Auk,h2,Bool.not_true,d1,ok1,h3,Qy,p1,oky,p2,Auq,Zu al,hn,Bool.not_false,sp _ my,Jm my,dz,cz',ay,iy,ny,my,N7 iy my,N7 my iy]
  · rw [if_neg h2]
    have h2:Dw x=false:=by simpa using h2
    refine ⟨0,.tup [.nil,.int .u64 0,.int .u64 0,.int .i64 4],[],?_,Wk.Gm (.cons Ic (.cons .int (.cons .int (.cons .int .nil))))⟩
    rw [Am.Jg.ev,c1,Auo,hx,Auk,h2,Bool.not_false,Auk]
open EqHouse
def apD (i k c j a b:Nat):Bool:=decide (k≤b∧i≤a∧(b<c∨(b=c∧a<i+j)))
def apS (R C:Nat) (l:List Int) (i k:Nat) (v:List Int) (t:Int) (c j:Nat):List Int :=
  Bl R C fun a b=>if apD i k c j a b=true∧a<i+v.length then O0 (C:Int) l (i:Int) (k:Int) v t (a:Int) (b:Int) else Ee (C:Int) l (a:Int) (b:Int)
section
variable {R C i k:Nat} {l v:List Int} {t:Int}
theorem Ao7 (c j:Nat):(apS R C l i k v t c j).length=R*C:=Bu _ _ _
theorem Al8 (h:l.length=R*C):apS R C l i k v t k 0=l:=by
  unfold apS
  conv=>rhs; rw [← Pp h]
  refine C9 fun a b ha hb=>?_
  rw [if_neg]
  rintro ⟨h,_⟩
  have:=of_decide_eq_true h
  omega
theorem Al9 (c:Nat):apS R C l i k v t c v.length=apS R C l i k v t (c+1) 0:=by
  unfold apS
  refine C9 fun a b ha hb=>?_
  have:(apD i k c v.length a b=true∧a<i+v.length)↔(apD i k (c+1) 0 a b=true∧a<i+v.length):=by
    unfold apD
    rw [Aur,Aur]
    omega
  by_cases h:apD i k c v.length a b=true∧a<i+v.length
  · rw [if_pos h,if_pos (this.1 h)]
  · rw [if_neg h,if_neg (fun hh=>h (this.2 hh))]
theorem Ao8:apS R C l i k v t C 0=F4 R C l (i:Int) (k:Int) v t:=by
  unfold apS F4
  refine C9 fun a b ha hb=>?_
  by_cases h:apD i k C 0 a b=true∧a<i+v.length
  · rw [if_pos h]
  · rw [if_neg h]
    unfold O0
    rw [if_neg]
    intro hh
    refine h ⟨?_,by omega⟩
    unfold apD
    rw [Aur]; omega
theorem Ao6 {c j:Nat} (hc:c<C) (hk:k≤c) (hj:j<v.length) {x:Int} (hx:x=O0 (C:Int) l (i:Int) (k:Int) v t ((i+j:Nat):Int) (c:Int)) :
    List.set (apS R C l i k v t c j) ((i+j)*C+c) x=apS R C l i k v t c (j+1):=by
  unfold apS
  rw [R5 hc]
  refine C9 fun a b ha hb=>?_
  by_cases h:a=i+j∧b=c
  · obtain ⟨rfl,rfl⟩:=h
    rw [if_pos ⟨rfl,rfl⟩,if_pos ⟨by unfold apD; rw [Aur]; omega,by omega⟩,hx]
  · rw [if_neg h]
    have:(apD i k c j a b=true∧a<i+v.length)↔(apD i k c (j+1) a b=true∧a<i+v.length):=by
      unfold apD
      rw [Aur,Aur]
      omega
    by_cases h2:apD i k c j a b=true∧a<i+v.length
    · rw [if_pos h2,if_pos (this.1 h2)]
    · rw [if_neg h2,if_neg (fun hh=>h2 (this.2 hh))]
theorem Al7 {c j:Nat} (hk:k≤c) (hj:j<v.length):O0 (C:Int) l (i:Int) (k:Int) v t ((i+j:Nat):Int) (c:Int) =
    Dk ((Dr (C:Int) l (c:Int) (i:Int) v.length).getD j 0) (Eg (Aad (C:Int) l (i:Int) v t (c:Int)) (v.getD j 0)):=by
  unfold O0
  rw [if_pos ⟨by omega,by omega,by omega⟩]
  have e1:(((i+j:Nat):Int)-(i:Int)).toNat=j:=by omega
  have e2:(Dr (C:Int) l (c:Int) (i:Int) v.length).getD j 0=Ee (C:Int) l ((i+j:Nat):Int) (c:Int):=by
    unfold Dr
    rw [Auu,List.getElem?_map,List.getElem?_range hj]
    show Ee (C:Int) l ((i:Int)+(j:Int)) (c:Int)=_
    rw [← Int.natCast_add]
  rw [e1,e2]
theorem Ajc {c b i:Int} {l:List Int} {m n:Nat} (h:m≤n):List.take m (Dr c l b i n)=Dr c l b i m:=by
  unfold Dr
  rw [← List.map_take,List.take_range,Nat.min_eq_left h]
theorem Aez (N M0:Nat) (r6:R≤6) (c6:C≤6) (al:Ah l=true) (av:Ah v=true) (hv:i+v.length≤R) {c:Nat} (hc:c<C) (hk:k≤c):∀ (cnt j F:Nat),j+cnt=v.length→cnt<F →
    Am.Apply.L1 N M0 F (R:Int) (C:Int) l (i:Int) v t (j:Int) (apS R C l i k v t c j) (c:Int) (Aad (C:Int) l (i:Int) v t (c:Int)) (Dr (C:Int) l (c:Int) (i:Int) v.length) (v.length:Int) =
    Am.Apply.L0 N M0 (R:Int) (C:Int) l (i:Int) v t ((c+1:Nat):Int) (apS R C l i k v t (c+1) 0):=by
  intro cnt
  induction cnt with
  | zero =>
    intro j F hj hF
    obtain ⟨F,rfl⟩:∃ G,F=G+1:=⟨F-1,by omega⟩
    obtain rfl:j=v.length:=by omega
    rw [Am.Apply.Ck,Au,Aup (by omega),Auo,An (by omega) (by omega),Al9]
    rfl
  | succ cnt ih =>
    intro j F hj hF
    obtain ⟨F,rfl⟩:∃ G,F=G+1:=⟨F-1,by omega⟩
    have hm:=Ku (a:=((i+j:Nat):Int)) (b:=(C:Int)) (by omega) (by omega) (by omega) (by omega)
    have hpl:=Hz (show i+j<R by omega) hc
    have e1:Ab ((i:Int)+(j:Int))=((i+j:Nat):Int):=by rw [An (by omega) (by omega)]; omega
    have e2:Ab (((i+j:Nat):Int)*(C:Int))=(((i+j)*C:Nat):Int):=by rw [An (by omega) (by omega)]; exact (Au5 _ _).symm
    have h36:=Nat.mul_le_mul r6 c6
    have e3:Ab ((((i+j)*C:Nat):Int)+(c:Int))=(((i+j)*C+c:Nat):Int):=by rw [An (by omega) (by omega)]; omega
    have hlen:=Ao7 (R:=R) (C:=C) (l:=l) (i:=i) (k:=k) (v:=v) (t:=t) c j
    have sl:=I2 (C:Int) (c:Int) (i:Int) v.length l
    rw [Am.Apply.Ck,Au,Aul (show (j:Int)<(v.length:Int) by omega),Auk,e1,e2,e3,sl,Aul (show (0:Int)≤(j:Int) by omega),Aul (show (j:Int)<(v.length:Int) by omega),Auq,Auk,Aum,Aum]
    have a1:=Ms av j
    have a2:=Ms (Sp (c:=(C:Int)) (b:=(c:Int)) (i:=(i:Int)) (n:=v.length) al) j
    have a3:Ai (Aad (C:Int) l (i:Int) v t (c:Int))=true:=L7 _ _
    rw [Auk,a3,a1,Auq,Auk,a2,L7,Auq,Auk,Aul (by omega),Aul (by omega),Auq,Auk,Aul (by omega),Auk,
      Ao6 hc hk (by omega) (Al7 hk (by omega)).symm,An (by omega) (by omega)]
    exact ih (j+1) F (by omega) (by omega)
theorem Ae0 (N:Nat) (r6:R≤6) (c6:C≤6) (hN:7<N) (hr:Bg (R:Int) (C:Int) l=true) (al:Ah l=true) (av:Ah v=true) (ht:Ai t=true) (hv:i+v.length≤R):∀ (cnt c F:Nat),c+cnt=C→k≤c→cnt<F →
    Am.Apply.L0 N F (R:Int) (C:Int) l (i:Int) v t (c:Int) (apS R C l i k v t c 0) =
    some (.tup [.agg [.int .i64 (R:Int),.int .i64 (C:Int),.ints (.own 114002 tB) .u64 (F4 R C l (i:Int) (k:Int) v t)],.int .i64 (0:Int)]):=by
  intro cnt
  induction cnt with
  | zero =>
    intro c F hc hk hF
    obtain ⟨F,rfl⟩:∃ G,F=G+1:=⟨F-1,by omega⟩
    obtain rfl:c=C:=by omega
    rw [Am.Apply.At,Au,Aup (by omega),Auo,Ao8]
  | succ cnt ih =>
    intro c F hc hk hF
    obtain ⟨F,rfl⟩:∃ G,F=G+1:=⟨F-1,by omega⟩
    have cp:Lc (R:Int) (C:Int) l (c:Int)=true:=Ag.2 ⟨hr,Ap.2 (by omega)⟩
    have e0:Int.toNat ((R:Int)-(i:Int))=R-i:=by omega
    have st:=Ajc (c:=(C:Int)) (b:=(c:Int)) (i:=(i:Int)) (l:=l) (m:=v.length) (n:=R-i) (by omega)
    have sl:=I2 (C:Int) (c:Int) (i:Int) v.length l
    have sl2:=I2 (C:Int) (c:Int) (i:Int) (R-i) l
    have sa:=Sp (c:=(C:Int)) (b:=(c:Int)) (i:=(i:Int)) (n:=v.length) al
    have ft:S8 v (Dr (C:Int) l (c:Int) (i:Int) v.length)=true:=Zy.2 ⟨by omega,by omega⟩
    rw [Am.Apply.At,Au,Aul (by omega),Auk,cp,Ap.2 (show 0≤(i:Int)∧(i:Int)≤(R:Int) by omega),Auq,Auk,e0,Aum,st,sl2,sl,
      Aul (show (0:Int)≤(v.length:Int) by omega),Aul (show (v.length:Int)≤(v.length:Int) by omega),Aul (show (v.length:Int)≤((R-i:Nat):Int) by omega),Auq,Auq,Auk,ft,av,sa,Auq,Auq,Auk,ht,Z5,Auq,Auk]
    have:=Aez (t:=t) N F r6 c6 al av hv (show c<C by omega) hk v.length 0 N (by omega) (by omega)
    exact this.trans (ih (c+1) F (by omega) (by omega) (by omega))
end
theorem Am.Apply.known:Am.Apply.Kn:=Am.Apply.Ad (.cons Aa.Check.known (.cons Aa.Dg.known (.cons Af.N1.known (.cons Af.Mul.known (.cons Af.Sub.known .nil))))) fun r c l i k v t hp=>by
  obtain ⟨h1,ht⟩:=Ag.1 (show (((Bg r c l&&Md r c i k v)&&(Ah l&&Ah v))&&Ai t)=true from hp)
  obtain ⟨h2,h3⟩:=Ag.1 h1
  obtain ⟨hr,hb⟩:=Ag.1 h2
  obtain ⟨al,av⟩:=Ag.1 h3
  have hb:=of_decide_eq_true hb
  have hc:Je r c l=0:=by unfold Je; rw [if_pos hr]
  have h36:=Pf hr
  obtain ⟨R,C,rfl,rfl,r6,c6,hl⟩:=Dj hr
  obtain ⟨i,rfl⟩:∃ j:Nat,i=j:=⟨i.toNat,by omega⟩
  obtain ⟨k,rfl⟩:∃ j:Nat,k=j:=⟨k.toNat,by omega⟩
  refine ⟨8,Am.Apply.out [.i (R:Int),.i (C:Int),.l l,.i (i:Int),.i (k:Int),.l v,.i t],[],?_,Wk.Gm (.cons (Wk.Ix (.cons .int (.cons .int (.cons (.keep _ _ _ _ List.not_mem_nil) .nil)))) (.cons .int .nil))⟩
  show _=some (DV.tup [.agg [.int .i64 (R:Int),.int .i64 (C:Int),.ints (.own 114002 tB) .u64 (F4 (Int.toNat (R:Int)) (Int.toNat (C:Int)) l (i:Int) (k:Int) v t)],.int .i64 0])
  have hlt:(((((A4 (i:Int) (0:Int))||(A4 (R:Int) (List.length v:Int)))||(A4 (Ab ((R:Int)-(List.length v:Int))) (i:Int)))||(A4 (k:Int) (0:Int)))||(A4 (C:Int) (k:Int)))=false:=by
    rw [Au,Au,Au,Au,Au,An (by omega) (by omega),Aup (by omega),Aup (by omega),Aup (by omega),Aup (by omega),Aup (by omega)]; rfl
  rw [Am.Apply.ev,hc,show ((0:Int) !=(0:Int))=false from rfl,Auo,hlt,Auo,Aul (show 0+l.length≤Gf by unfold Gf; omega),Auk,List.nil_append,Aum,Aum]
  have:=Ae0 (R:=R) (C:=C) (i:=i) (k:=k) (l:=l) (v:=v) (t:=t) 8 r6 c6 (by omega) hr al av ht (by omega) (C-k) k 8 (by omega) (by omega) (by omega)
  rw [Al8 hl] at this
  exact this
end Go.Proofs.S1
end
