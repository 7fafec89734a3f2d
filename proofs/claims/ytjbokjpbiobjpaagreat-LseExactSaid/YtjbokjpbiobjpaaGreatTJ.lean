/- A verified evaluator of the program's form and its use for this seat: S1PRootA, LdxL, S1EqLdx, S1PLdx, S1PLdxA, S1EqRef08, S1EqRef13, S1PRef08, S1EqOf, S1POf, S1PMatA, S1EqRef10, S1PRef10, S1PFill, S1EqHouse, S1PHouse, S1PApply. -/
import Derived.Test.YtjbokjpbiobjpaaGreatTI
import Derived.Test.YtjbokjpbiobjpaaGreatTE
import Derived.Test.YtjbokjpbiobjpaaGreatTF
import Derived.Test.YtjbokjpbiobjpaaGreatTG
set_option linter.unusedVariables false
set_option linter.unusedSimpArgs false
noncomputable section
namespace Go.Proofs.S1
open Go Go.Den Go.Rnd Go.Proofs
open EqRoot
theorem Wf {b:Nat} (h:Ar b≠0):Ei (Ar b:Int)=((Ar b).log2:Int)+1:=by
  unfold Ei
  rw [if_neg (by omega),Auv]
theorem Ag7 {w:Nat} {E:Int} {s:Bool} (hw:2^62≤w) (n:Nat) (h:Ra n=w) (hs:s=decide (w*w≠n)) :
    Fx false (w / 2) (E+2) (bif s then true else decide (w%2=1))=(B7 (F8 n) E,flagsOf (F8 n) E):=by
  have e1:F8 n / 2^2=w / 2:=by unfold F8; rw [h]; split<;>omega
  have e2:(bif s then true else decide (w%2=1))=decide (F8 n%2^2≠0):=by
    rw [hs]
    unfold F8
    rw [h]
    by_cases h0:w*w=n
    · rw [Auy (by omega),Aux,if_pos h0,decide_eq_decide]; omega
    · rw [Auu h0,Aut,if_neg h0]; symm; exact Auu (by omega)
  rw [← e1]
  have:=R6 false (V:=F8 n) (k:=2) (E:=E) (e:=E+2) rfl e2 (by rw [e1]; omega) (by left; rw [e1]; omega)
  rw [Ajw] at this
  exact this
theorem root.Sqrt.num {b:Nat} (hb:b<2^64) (h4:Ao b≠4) (h:¬ (Ao b=0∨b=Gp)) (hn:Cs b=false) {z:Nat} (hz:2^60≤Ar b*2^z) (hz2:Ar b*2^z<2^62) (he:(Aw b-(z:Int))%2=0) (z60:z≤62) :
    root.Sqrt.L0 2 2 (Aw b-(z:Int)) (R8 ((Ar b*2^z:Nat):Int)) (!(R9 ((Ar b*2^z:Nat):Int)))=some (.tup [.int .u64 (Hq (b:Int)),.int .u8 (Oj (b:Int))]):=by
  have hE:=Dc b
  have hM:=Eo b
  have h3:Ao b≠3:=fun h3=>by
    refine h (.inr ?_)
    have hpn:Cs b=false:=hn
    unfold Cs at hpn
    have hlt:b<2^63:=by simpa using hpn
    unfold Ao at h3
    have hp:=Iu b
    unfold Em at h3
    unfold Dt at h3
    unfold Gp
    split at h3
    · split at h3
      · omega
      · omega
    · split at h3
      · omega
      · split at h3<;>omega
  have hm:Ar b≠0:=fun h0=>h (.inl ((Jf h3 h4).1 h0))
  have eN:Ar b*2^z*2^64=Ar b*2^(z+64):=by rw [Nat.mul_assoc,← Nat.pow_add]
  have i1:2^62≤Ra (Ar b*2^z*2^64):=Zu (t:=62) (by omega)
  have i2:=(O2 (Ar b*2^z*2^64)).1
  have i3:Ra (Ar b*2^z*2^64)<2^63:=by
    refine Aa2 (Nat.lt_of_le_of_lt i2 ?_)
    show _<9223372036854775808*9223372036854775808
    omega
  have r1:R8 ((Ar b*2^z:Nat):Int)=(Ra (Ar b*2^z*2^64):Int):=by unfold R8; rw [Auv]
  have r2:(!(R9 ((Ar b*2^z:Nat):Int)))=decide (Ra (Ar b*2^z*2^64)*Ra (Ar b*2^z*2^64)≠Ar b*2^z*2^64):=by
    unfold R9; rw [Auv,← decide_not]
  obtain ⟨k1,k2⟩:=Aj4 hm
  have same:=Ahh (m:=Ar b) (k:=z+64) (l:=Kk b) (E:=(Aw b-(z:Int)) / 2-33) (F:=(Aw b-(Kk b:Int)) / 2-1) (by rw [← eN]; omega) k1 (by omega)
  rw [← eN] at same
  have near:=Ag7 (E:=(Aw b-(z:Int)) / 2-33) i1 _ rfl r2
  rw [same.1,same.2] at near
  have sq:N5 b=_:=Ajt h4 h hn
  rw [r1,r2]
  rw [r2] at near
  generalize Ra (Ar b*2^z*2^64)=w at *
  have w1:D1 (4611686018427387904:Int) (w:Int)=true:=by rw [Ej]; exact Auu (by omega)
  have w2:Dg .u64 (w:Int) (1:Int)=((w / 2:Nat):Int):=by rw [show (1:Int)=((1:Nat):Int) from rfl,Sm _ _ (by decide)]
  have w3:((Fs .u64 (w:Int) (1:Int))==(1:Int))=decide (w%2=1):=by
    rw [show Fs .u64 (w:Int) (1:Int)=((w%2^1:Nat):Int) from Hl 1 (by omega) (by decide),Au9,beq_iff_eq,Au0]
    omega
  have w4:D1 (4611686018427387904:Int) ((w / 2:Nat):Int)=false:=by rw [Ej]; exact Auy (by omega)
  have w5:Ab (Ab (Int.tdiv (Aw b-(z:Int)+2) 2)-32)=(Aw b-(z:Int)) / 2-33+2:=by
    have:Int.tdiv (Aw b-(z:Int)+2) 2=(Aw b-(z:Int)) / 2+1:=by
      rw [Int.tdiv_eq_ediv]
      split<;>omega
    rw [this,Al (x:=(Aw b-(z:Int)) / 2+1) (by omega) (by omega),Al (by omega) (by omega)]
    omega
  have w6:Ab (Aw b-(z:Int)+2)=Aw b-(z:Int)+2:=Al (by omega) (by omega)
  generalize hs:decide (w*w≠Ar b*2^z*2^64)=s at *
  have pre:D0 ((w / 2:Nat):Int) ((Aw b-(z:Int)) / 2-33+2) (bif s then true else decide (w%2=1))=true:=Aq.2 ⟨by omega,by omega,by omega,by omega,fun _=>.inl (by omega)⟩
  rw [show (2:Nat)=1+1 from rfl,root.Sqrt.Au,w1,Aut,w2,w3,w6,show (1:Nat)=0+1 from rfl,root.Sqrt.Au,w4,Aux,w5,pre,Aut]
  unfold Eh Eg Hq Oj
  rw [Auv,Auv,near,sq]
theorem root.Sqrt.known:root.Sqrt.Kn:=root.Sqrt.Ad (.cons Ci.Bo.known (.cons root.F3.known (.cons soft.Kind.known (.cons soft.C0.known (.cons soft.Fk.known (.cons soft.Sign.known .nil)))))) fun a hp=>by
  obtain ⟨b,rfl,hb⟩:=Bu (x:=a) hp
  refine ⟨2,root.Sqrt.out [.i b],[],?_,Wk.Gu (.cons .int (.cons .int .nil))⟩
  show _=some (DV.tup [.int .u64 (Hq (b:Int)),.int .u8 (Oj (b:Int))])
  have hk:A3 (b:Int)=(Ao b:Int):=rfl
  rw [root.Sqrt.ev,B5 hb,Aut,Aut,Aut,Aut,hk]
  by_cases h4:Ao b=4
  · rw [h4,show (((4:Nat):Int)==(4:Int))=true from rfl,Aut]
    unfold Hq Oj
    rw [Auv,Aa0 h4]; rfl
  have k4:(((Ao b:Nat):Int)==(4:Int))=false:=by rw [beq_eq_false_iff_ne]; omega
  rw [k4,Aux]
  by_cases h0:Ao b=0
  · rw [h0,show (((0:Nat):Int)==(0:Int))=true from rfl,Aut]
    unfold Hq Oj
    rw [Auv,S2 h4 (.inl h0)]; rfl
  have k0:(((Ao b:Nat):Int)==(0:Int))=false:=by rw [beq_eq_false_iff_ne]; omega
  rw [k0,Aux]
  by_cases hi:b=Gp
  · rw [show (((b:Nat):Int)==(9218868437227405312:Int))=true by rw [hi]; rfl,Aut]
    unfold Hq Oj
    rw [Auv,S2 h4 (.inr hi)]; rfl
  have ki:(((b:Nat):Int)==(9218868437227405312:Int))=false:=by
    rw [beq_eq_false_iff_ne]; intro hh; refine hi (show b=9218868437227405312 from ?_); omega
  rw [ki,Aux]
  have hh:¬ (Ao b=0∨b=Gp):=by rintro (h | h); exact h0 h; exact hi h
  have hneg:Dv (b:Int)=Cs b:=rfl
  rw [hneg]
  cases hn:Cs b with
  | true =>
    rw [Aut]
    unfold Hq Oj
    rw [Auv,Aaz h4 hh hn]; rfl
  | false =>
    rw [Aux]
    have hm:Ar b≠0:=fun hz=>by
      have h3:Ao b≠3:=fun h3=>by
        rcases Nm b with ⟨p,_,_⟩ | ⟨_,_,q⟩ | ⟨_,q,_⟩
        · unfold Ar at hz
          rw [if_neg (by omega)] at hz
          omega
        · omega
        · exact q h3
      exact hh (.inl ((Jf h3 h4).1 hz))
    have hM:=Eo b
    have hE:=Dc b
    have hl:(Ar b).log2≤52:=by have:=(Nat.log2_lt hm).2 (show Ar b<2^53 by omega); omega
    have e1:Bh (b:Int)=(Ar b:Int):=rfl
    have e2:Az (b:Int)=Aw b:=rfl
    have l1:∀ z:Nat,(Ar b).log2+z=60∨(Ar b).log2+z=61→2^60≤Ar b*2^z∧Ar b*2^z<2^62:=by
      intro z hz
      have hlz:=O0 (Ar b) z hm
      have hne:Ar b*2^z≠0:=Jj hm
      constructor
      · rw [← Nat.le_log2 hne]; omega
      · rw [← Nat.log2_lt hne]; omega
    have ez:Ab ((64-(((Ar b).log2:Int)+1))-(2:Int))=((61-(Ar b).log2:Nat):Int):=by rw [Al (by omega) (by omega)]; omega
    have ez':Ab (((61-(Ar b).log2:Nat):Int)-(1:Int))=((60-(Ar b).log2:Nat):Int):=by rw [Al (by omega) (by omega)]; omega
    rw [e1,e2,B5 (n:=Ar b) (by omega),Aut,Wf hm,ez,ez',Al (x:=Aw b-((61-(Ar b).log2:Nat):Int)) (by omega) (by omega),Al (x:=Aw b-((60-(Ar b).log2:Nat):Int)) (by omega) (by omega)]
    by_cases hp2:(Aw b-((61-(Ar b).log2:Nat):Int))%2=0
    · have t0:(Int.tmod (Aw b-((61-(Ar b).log2:Nat):Int)) (2:Int) !=(0:Int))=false:=by
        rw [bne_eq_false_iff_eq]; exact Int.tmod_eq_zero_of_dvd (Int.dvd_of_emod_eq_zero hp2)
      obtain ⟨m1,m2⟩:=l1 (61-(Ar b).log2) (by omega)
      rw [t0,Aux,Auu (by omega),Aut,E2 _ _ (by omega),Au6 (by omega),Aq.2 (by omega),Aut]
      exact root.Sqrt.num hb h4 hh hn m1 m2 hp2 (by omega)
    · have t0:(Int.tmod (Aw b-((61-(Ar b).log2:Nat):Int)) (2:Int) !=(0:Int))=true:=by
        rw [bne_iff_ne]; intro hz; exact hp2 (Int.emod_eq_zero_of_dvd (Int.dvd_of_tmod_eq_zero hz))
      obtain ⟨m1,m2⟩:=l1 (60-(Ar b).log2) (by omega)
      rw [t0,Aut,Auu (by omega),Aut,E2 _ _ (by omega),Au6 (by omega),Aq.2 (by omega),Aut]
      exact root.Sqrt.num hb h4 hh hn m1 m2 (by omega) (by omega)
theorem Af.Sqrt.known:Af.Sqrt.Kn:=Af.Sqrt.Ad (.cons root.Sqrt.known .nil) fun a hp=>by
  have hp:Ai a=true:=hp
  refine ⟨0,Af.Sqrt.out [.i a],[],?_,.int⟩
  rw [Af.Sqrt.ev,hp]; rfl
theorem compare.Kq.known:compare.Kq.Kn:=compare.Kq.Ad (.cons Ci.J8.known (.cons soft.Finite.known (.cons soft.Kind.known (.cons soft.Fk.known .nil)))) fun a hp=>by
  obtain ⟨b,rfl,hb⟩:=Bu (x:=a) hp
  refine ⟨0,compare.Kq.out [.i b],[],?_,.int⟩
  show _=some (DV.int .i64 (Bs (b:Int)))
  have hk:A3 (b:Int)=(Ao b:Int):=rfl
  have hf:Cy (b:Int)=Hk b:=rfl
  have hE:=Dc b
  have hM:=Eo b
  rw [compare.Kq.ev,B5 hb,Aut,Bool.or_true,Aut,hk,hf]
  unfold Bs
  rw [Auv]
  unfold Aev
  cases hfin:Hk b with
  | false=>rfl
  | true =>
    by_cases h0:Ao b=0
    · rw [h0]; rfl
    · have k0:(((Ao b:Nat):Int)==(0:Int))=false:=by rw [beq_eq_false_iff_ne]; omega
      have hm:Ar b≠0:=fun hz=>by
        obtain ⟨f4,f3⟩:=Hb hfin
        exact h0 ((Jf f3 f4).1 hz)
      have hl:(Ar b).log2≤52:=by have:=(Nat.log2_lt hm).2 (show Ar b<2^53 by omega); omega
      have e1:Bh (b:Int)=(Ar b:Int):=rfl
      have e2:Az (b:Int)=Aw b:=rfl
      rw [k0,if_pos ⟨rfl,h0⟩,Bool.not_true,Bool.false_or,Aux,Aut,e1,e2,B5 (n:=Ar b) (by omega),Aut,Wf hm,Al (x:=((Ar b).log2:Int)+1-1) (by omega) (by omega),Al (by omega) (by omega)]
      congr 2; omega
theorem Ajs {x:List Int} {i:Nat} (h:i<x.length) (k s:Int):Adn k s (x.drop i)=Adn k (Kp s (Ek (Ch (x.getD i 0) k) (Ch (x.getD i 0) k))) (x.drop (i+1)):=by
  rw [Ik h,Adn]
theorem Ahq (N:Nat) {x:List Int} (hx:Cx x=true) (hl:x.length≤1000):∀ (k i F:Nat) (s:Int),i+k=x.length→k<F→Ai s=true →
    Af.Norm.L0 N F x s (i:Int)=some (.tup [.int .u64 (Ch (Hq (Adn (-Bs (Bp x)) s (x.drop i))) (Bs (Bp x))),.int .i64 0]):=by
  obtain ⟨_,hu⟩:=Kw hx
  have he:=Al3 (Bp x)
  intro k
  induction k with
  | zero =>
    intro i F s hi hF hs
    obtain ⟨F,rfl⟩:∃ G,F=G+1:=⟨F-1,by omega⟩
    rw [Af.Norm.Au,At,Auy (by omega),Aux,hs,Aut,show E0 (Hq s) (Bs (Bp x))=true from Ae.2 ⟨Afo hs,Aq.2 (by omega)⟩,Aut,Au7 (by omega)]
    rfl
  | succ k ih =>
    intro i F s hi hF hs
    obtain ⟨F,rfl⟩:∃ G,F=G+1:=⟨F-1,by omega⟩
    rw [Af.Norm.Au,At,Auu (show (i:Int)<(x.length:Int) by omega),Aut,Auu (show (0:Int)≤(i:Int) by omega),Auz,Aut,Auv,Al (x:=0-Bs (Bp x)) (by omega) (by omega),show (0:Int)-Bs (Bp x)=-Bs (Bp x) by omega,
      show E0 (List.getD x i 0) (-Bs (Bp x))=true from Ae.2 ⟨hu i (by omega),Aq.2 (by omega)⟩,Aut,Jw (hu i (by omega)),Auz,Aut,hs,Mg,Auz,Aut,Ajs (by omega),Al (by omega) (by omega)]
    exact ih (i+1) F _ (by omega) (by omega) (Amt hs (Mg _ _))
theorem Af.Norm.known:Af.Norm.Kn:=Af.Norm.Ad (.cons compare.Kq.known (.cons soft.Finite.known (.cons Af.Add.known (.cons Af.Cn.known (.cons Af.Mul.known (.cons Af.Bx.known (.cons Af.Sqrt.known .nil))))))) fun x hp=>by
  obtain ⟨hx,hl⟩:=Ae.1 (show (Cx x&&Cu (List.length x≤64))=true from hp)
  have hl:=Aq.1 hl
  refine ⟨65,Af.Norm.out [.l x],[],?_,Wk.Gu (.cons .int (.cons .int .nil))⟩
  show _=some (DV.tup [.int .u64 (Er x),.int .i64 0])
  rw [Af.Norm.ev,At,Auy (by omega),Aux,hx,Aut,Q5,Bool.or_true,Aut]
  unfold Er
  by_cases h:Bp x=0∨Cy (Bp x)=false
  · have:((Bp x==(0:Int))||(!(Cy (Bp x))))=true:=by
      rcases h with h | h
      · rw [h]; rfl
      · rw [h,Bool.not_false,Bool.or_true]
    rw [this,Aut,if_pos h]
  · have:((Bp x==(0:Int))||(!(Cy (Bp x))))=false:=by
      rw [Bool.or_eq_false_iff,beq_eq_false_iff_ne,Bool.not_eq_false']
      refine ⟨fun h0=>h (.inl h0),?_⟩
      cases hf:Cy (Bp x) with
      | true=>rfl
      | false=>exact absurd (.inr hf) h
    rw [this,Aux,Aut,if_neg h]
    exact Ahq 65 hx (by omega) x.length 0 65 0 (by omega) (by omega) Jr
end Go.Proofs.S1
namespace Go.Rnd
open Go.Den
end Go.Rnd
namespace Go.Proofs.S1
open Go Go.Den Go.Rnd Go.Proofs
set_option maxRecDepth 100000
namespace EqLdx
end EqLdx
open EqLdx
open EqLdx
namespace EqRef08
end EqRef08
namespace EqRef13
def G8.Kq.Bb:List (Nat × Entry):=[(180,Ay.Vc.spec),(131,A5.Finite.spec),(62,A5.Kind.spec),(63,A5.Value.spec)]
def G8.Kq.E:Env:=Bc (Ba G8.Kq.Bb) (fun _=>false) (fun _=>none) (fun _=>none)
theorem G8.Kq.ev (N:Nat) (a:Int):Bw G8.Kq.E N Tryz.f132 (Am Tryz.f132) [.int .u64 a]=bif (Ai a) then bif ((!(Cy a))||(Oa a)) then bif ((!(Cy a))||((A3 a)==(0:Int))) then some (.int .i64 0) else bif (Ai a) then bif (Jh (Ax (mD (A7 a))) (Ag (mD (A7 a)))&&Tg (eD (A7 a) (Az a))) then some (.int .i64 (Ab ((Ag0 (wv (Ax (mD (A7 a))) (Ag (mD (A7 a)))) (eD (A7 a) (Az a)))-1))) else none else none else none else none :=
  Eq.trans (by kernel_rfl)
  (Es (Ap (Aaq (Cy a)) (Da (Ajl (Cy a) (Oa a)) (Ap (Sv (Cy a)) (Ap (Aar (Cy a)) (Da (Aqy (Cy a) ((A3 a)==(0:Int))) rfl rfl))) rfl)) rfl)
abbrev _root_.Go.Proofs.S1.G8.Kq.Kn:=A6 Tryz.prog 132 G8.Kq.spec
theorem G8.Kq.Ad (hk:A0 Tryz.prog G8.Kq.Bb) (h:∀ (a:Int),G8.Kq.pre [.i a]=true→Be G8.Kq.E Tryz.f132 [.int .u64 a] (G8.Kq.out [.i a])):G8.Kq.Kn :=
  Ak (A1 hk _ _ _) Tryz.func132 (by kernel_rfl) (by kernel_rfl) h
end EqRef13
open EqRef08 EqRef13
theorem An8 (b:Nat):W4 (Ax (mD (A7 (b:Int)))) (Ag (mD (A7 (b:Int))))=true∧Jh (Ax (mD (A7 (b:Int)))) (Ag (mD (A7 (b:Int))))=true∧Tg (eD (A7 (b:Int)) (Aw b))=true:=by
  obtain ⟨v1,v2,v3⟩:=Ac9 b
  have hl:C1 (mD (A7 (b:Int))).natAbs<3:=Nat.lt_of_le_of_lt (Hj (K9 _)) v1
  exact ⟨Ad5 (by omega),Jg (by omega),Aq.2 ⟨v2,v3⟩⟩
theorem G8.Kq.known:G8.Kq.Kn:=G8.Kq.Ad (.cons Ay.Vc.known (.cons A5.Finite.known (.cons A5.Kind.known (.cons A5.Value.known .nil)))) fun a hp=>by
  obtain ⟨b,rfl,hb⟩:=Bu (x:=a) hp
  refine ⟨0,.int .i64 (Bs (b:Int)),[],?_,.int⟩
  have kk:A3 (b:Int)=(Ao b:Int):=rfl
  have hf:Cy (b:Int)=Hk b:=rfl
  have pe:Az (b:Int)=Aw b:=rfl
  obtain ⟨_,o2,o3⟩:=An8 b
  have hE:=Dc b
  have hM:=Eo b
  rw [G8.Kq.ev,B5 hb,Aut,Ot,Bool.or_true,Aut,kk,hf,pe,o2,o3,Fz,Auz,Aut,Aut]
  unfold Bs
  rw [Auv]
  unfold Aev
  cases hfin:Hk b with
  | false=>rfl
  | true =>
    by_cases h0:Ao b=0
    · rw [h0]; rfl
    · have k0:(((Ao b:Nat):Int)==(0:Int))=false:=by rw [beq_eq_false_iff_ne]; omega
      obtain ⟨f4,f3⟩:=Hb hfin
      have hm:Ar b≠0:=fun hz=>h0 ((Jf f3 f4).1 hz)
      have hv:A7 (b:Int)≠0:=by
        intro h
        have:=Rc b
        rw [h] at this
        exact hm this.symm
      have hl:(Ar b).log2≤52:=by have:=(Nat.log2_lt hm).2 (show Ar b<2^53 by omega); omega
      have ht:Ag0 (mD (A7 (b:Int))) (eD (A7 (b:Int)) (Aw b))=((Ar b).log2:Int)+1+Aw b:=by
        unfold Ag0 Zs
        rw [if_neg (fun h=>hv (U1.1 h)),if_neg (fun h=>hv (U1.1 h))]
        unfold eD
        rw [if_neg hv]
        have hs:=Af7 (A7 (b:Int))
        have ha:Ar b=(mD (A7 (b:Int))).natAbs*2^Re (A7 (b:Int)).natAbs:=by
          have e:=congrArg Int.natAbs hs
          rw [Int.natAbs_mul,Int.natAbs_natCast] at e
          rw [← Rc b]
          exact e
        have hmd:(mD (A7 (b:Int))).natAbs≠0:=fun h=>hv (U1.1 (Int.natAbs_eq_zero.1 h))
        have hlog:=O0 (mD (A7 (b:Int))).natAbs (Re (A7 (b:Int)).natAbs) hmd
        rw [← ha] at hlog
        rw [hlog]
        omega
      rw [k0,if_pos ⟨rfl,h0⟩,ht,Al (by omega) (by omega)]
      show some (DV.int .i64 _)=_
      congr 2; omega
namespace EqOf
def Aa.of.Bq.hint:Nat→Option A8
  | 0=>some { keep:=[1,2,6,7,13,14],objs:=[(8,2,108002,.ints 37 .u64 [])],boxes:=[6,7] }
  | 2=>some { keep:=[1,2,6,7,8,13,14,17,18],objs:=[(8,2,108002,.ints 37 .u64 [])],boxes:=[6,7] }
  | _=>none
def Aa.of.Bq.Bb:List (Nat × Entry):=[(205,Aa.D3.spec)]
def Aa.of.Bq.E:Env:=Bc (Ba Aa.of.Bq.Bb) (fun _=>false) Aa.of.Bq.hint (fun _=>none)
def Aa.of.Bq.L0 (N M:Nat) (a b p14:Int) (p2_1:List Int):Option DV:=B3 Aa.of.Bq.E N Tryz.f187 (Am Tryz.f187) [1,1,0,1,0] [] M ⟨Gb 33 [(1,.int .i64 b),(2,.fn 205 [] []),(6,.ptr 6 0 0),(7,.ptr 7 0 0),(13,.int .i64 a),(14,.int .i64 p14)],[(6,false,.box [.int .i64 0,.int .i64 0,.nil]),(7,false,.box [.int .i64 a,.int .i64 b,.oref 108002]),(108002,false,.ints 37 .u64 p2_1)]⟩
def Aa.of.Bq.L1 (N M0 M:Nat) (a b:Int) (p8 p14_1 p18:Int) (p2:List Int):Option DV:=B3 Aa.of.Bq.E N Tryz.f187 (Am Tryz.f187) [1,1,0,1,0,0,1,1,0,0,1,1,0] [M0] M ⟨Gb 33 [(1,.int .i64 b),(2,.fn 205 [] []),(6,.ptr 6 0 0),(7,.ptr 7 0 0),(8,.int .i64 p8),(13,.int .i64 a),(14,.int .i64 p14_1),(17,.int .i64 b),(18,.int .i64 p18)],[(6,false,.box [.int .i64 0,.int .i64 0,.nil]),(7,false,.box [.int .i64 a,.int .i64 b,.oref 108002]),(108002,false,.ints 37 .u64 p2)]⟩
theorem Aa.of.Bq.Au (N M:Nat) (a b p14:Int) (p2_1:List Int):Aa.of.Bq.L0 N (M+1) a b p14 p2_1=bif (A2 p14 a) then Aa.of.Bq.L1 N M N a b p14 p14 0 p2_1 else some (.agg [.int .i64 a,.int .i64 b,.ints (.own 108002 37) .u64 p2_1]):=by kernel_rfl
theorem Aa.of.Bq.Cf (N M0 M:Nat) (a b:Int) (p8 p14_1 p18:Int) (p2:List Int):Aa.of.Bq.L1 N M0 (M+1) a b p8 p14_1 p18 p2=bif (A2 p18 b) then bif (decide ((List.length p2)+1≤Gd)) then Aa.of.Bq.L1 N M0 M a b p8 p14_1 (Ab (p18+1)) (p2++[(0:Int)]) else none else Aa.of.Bq.L0 N M0 a b (Ab (p14_1+1)) p2 :=
  Eq.trans (by kernel_rfl)
  (Es (Da (De (decide ((List.length p2)+1≤Gd))) rfl rfl) rfl)
theorem Aa.of.Bq.ev (N:Nat) (a b:Int):Bw Aa.of.Bq.E N Tryz.f187 (Am Tryz.f187) [.int .i64 a,.int .i64 b,.fn 205 [] []] =
  Aa.of.Bq.L0 N N a b 0 []:=by kernel_rfl
def Aa.of.Et.hint:Nat→Option A8
  | 0=>some { keep:=[1,2,6,7,13,14],objs:=[(8,2,108002,.ints 37 .u64 [])],boxes:=[6,7] }
  | 2=>some { keep:=[1,2,6,7,8,13,14,17,18],objs:=[(8,2,108002,.ints 37 .u64 [])],boxes:=[6,7] }
  | _=>none
def Aa.of.Et.Bb:List (Nat × Entry):=[(246,Aa.G4.spec)]
def Aa.of.Et.E:Env:=Bc (Ba Aa.of.Et.Bb) (fun _=>false) Aa.of.Et.hint (fun _=>none)
def Aa.of.Et.L0 (N M:Nat) (a b p14:Int) (p2_1:List Int):Option DV:=B3 Aa.of.Et.E N Tryz.f187 (Am Tryz.f187) [1,1,0,1,0] [] M ⟨Gb 33 [(1,.int .i64 b),(2,.fn 246 [] []),(6,.ptr 6 0 0),(7,.ptr 7 0 0),(13,.int .i64 a),(14,.int .i64 p14)],[(6,false,.box [.int .i64 0,.int .i64 0,.nil]),(7,false,.box [.int .i64 a,.int .i64 b,.oref 108002]),(108002,false,.ints 37 .u64 p2_1)]⟩
def Aa.of.Et.L1 (N M0 M:Nat) (a b:Int) (p8 p14_1 p18:Int) (p2:List Int):Option DV:=B3 Aa.of.Et.E N Tryz.f187 (Am Tryz.f187) [1,1,0,1,0,0,1,1,0,0,1,1,0] [M0] M ⟨Gb 33 [(1,.int .i64 b),(2,.fn 246 [] []),(6,.ptr 6 0 0),(7,.ptr 7 0 0),(8,.int .i64 p8),(13,.int .i64 a),(14,.int .i64 p14_1),(17,.int .i64 b),(18,.int .i64 p18)],[(6,false,.box [.int .i64 0,.int .i64 0,.nil]),(7,false,.box [.int .i64 a,.int .i64 b,.oref 108002]),(108002,false,.ints 37 .u64 p2)]⟩
theorem Aa.of.Et.Au (N M:Nat) (a b p14:Int) (p2_1:List Int):Aa.of.Et.L0 N (M+1) a b p14 p2_1=bif (A2 p14 a) then Aa.of.Et.L1 N M N a b p14 p14 0 p2_1 else some (.agg [.int .i64 a,.int .i64 b,.ints (.own 108002 37) .u64 p2_1]):=by kernel_rfl
theorem Aa.of.Et.Cf (N M0 M:Nat) (a b:Int) (p8 p14_1 p18:Int) (p2:List Int):Aa.of.Et.L1 N M0 (M+1) a b p8 p14_1 p18 p2=bif (A2 p18 b) then bif (decide ((List.length p2)+1≤Gd)) then Aa.of.Et.L1 N M0 M a b p8 p14_1 (Ab (p18+1)) (p2++[(Ca p8 p18)]) else none else Aa.of.Et.L0 N M0 a b (Ab (p14_1+1)) p2 :=
  Eq.trans (by kernel_rfl)
  (Es (Da (De (decide ((List.length p2)+1≤Gd))) rfl rfl) rfl)
theorem Aa.of.Et.ev (N:Nat) (a b:Int):Bw Aa.of.Et.E N Tryz.f187 (Am Tryz.f187) [.int .i64 a,.int .i64 b,.fn 246 [] []] =
  Aa.of.Et.L0 N N a b 0 []:=by kernel_rfl
abbrev _root_.Go.Proofs.S1.Aa.of.Et.Kn:=A6 Tryz.prog 187 Aa.of.Et.spec
theorem Aa.of.Et.Ad (hk:A0 Tryz.prog Aa.of.Et.Bb) (h:∀ (a b:Int),Aa.of.Et.pre [.i a,.i b]=true→Be Aa.of.Et.E Tryz.f187 [.int .i64 a,.int .i64 b,.fn 246 [] []] (Aa.of.Et.out [.i a,.i b])):Aa.of.Et.Kn :=
  Ak (A1 hk _ _ _) Tryz.func187 (by kernel_rfl) (by kernel_rfl) h
def Aa.of.Dn.hint:Nat→Option A8
  | 0=>some { keep:=[1,2,6,7,13,14],objs:=[(8,2,108002,.ints 37 .u64 [])],boxes:=[6,7] }
  | 2=>some { keep:=[1,2,6,7,8,13,14,17,18],objs:=[(8,2,108002,.ints 37 .u64 [])],boxes:=[6,7] }
  | _=>none
def Aa.of.Dn.Bb:List (Nat × Entry):=[(220,Aa.E8.spec)]
def Aa.of.Dn.E:Env:=Bc (Ba Aa.of.Dn.Bb) (fun _=>false) Aa.of.Dn.hint (fun _=>none)
def Aa.of.Dn.L0 (N M:Nat) (a b:Int) (r c:Int) (l:List Int) (p14:Int) (p2_1:List Int):Option DV:=B3 Aa.of.Dn.E N Tryz.f187 (Am Tryz.f187) [1,1,0,1,0] [] M ⟨Gb 33 [(1,.int .i64 b),(2,.fn 220 [] [.cellp [.int .i64 r,.int .i64 c,.ints .arg .u64 l]]),(6,.ptr 6 0 0),(7,.ptr 7 0 0),(13,.int .i64 a),(14,.int .i64 p14)],[(6,false,.box [.int .i64 0,.int .i64 0,.nil]),(7,false,.box [.int .i64 a,.int .i64 b,.oref 108002]),(108002,false,.ints 37 .u64 p2_1)]⟩
def Aa.of.Dn.L1 (N M0 M:Nat) (a b:Int) (r c:Int) (l:List Int) (p8 p14_1 p18:Int) (p2:List Int):Option DV:=B3 Aa.of.Dn.E N Tryz.f187 (Am Tryz.f187) [1,1,0,1,0,0,1,1,0,0,1,1,0] [M0] M ⟨Gb 33 [(1,.int .i64 b),(2,.fn 220 [] [.cellp [.int .i64 r,.int .i64 c,.ints .arg .u64 l]]),(6,.ptr 6 0 0),(7,.ptr 7 0 0),(8,.int .i64 p8),(13,.int .i64 a),(14,.int .i64 p14_1),(17,.int .i64 b),(18,.int .i64 p18)],[(6,false,.box [.int .i64 0,.int .i64 0,.nil]),(7,false,.box [.int .i64 a,.int .i64 b,.oref 108002]),(108002,false,.ints 37 .u64 p2)]⟩
theorem Aa.of.Dn.Au (N M:Nat) (a b:Int) (r c:Int) (l:List Int) (p14:Int) (p2_1:List Int):Aa.of.Dn.L0 N (M+1) a b r c l p14 p2_1=bif (A2 p14 a) then Aa.of.Dn.L1 N M N a b r c l p14 p14 0 p2_1 else some (.agg [.int .i64 a,.int .i64 b,.ints (.own 108002 37) .u64 p2_1]):=by kernel_rfl
theorem Aa.of.Dn.Cf (N M0 M:Nat) (a b:Int) (r c:Int) (l:List Int) (p8 p14_1 p18:Int) (p2:List Int):Aa.of.Dn.L1 N M0 (M+1) a b r c l p8 p14_1 p18 p2=bif (A2 p18 b) then bif (Dq r c l p18 p8) then bif (decide ((List.length p2)+1≤Gd)) then Aa.of.Dn.L1 N M0 M a b r c l p8 p14_1 (Ab (p18+1)) (p2++[(D4 c l p18 p8)]) else none else none else Aa.of.Dn.L0 N M0 a b r c l (Ab (p14_1+1)) p2 :=
  Eq.trans (by kernel_rfl)
  (Es (Da (De (Dq r c l p18 p8)) (Da (De (decide ((List.length p2)+1≤Gd))) rfl rfl) rfl) rfl)
theorem Aa.of.Dn.ev (N:Nat) (a b:Int) (r c:Int) (l:List Int):Bw Aa.of.Dn.E N Tryz.f187 (Am Tryz.f187) [.int .i64 a,.int .i64 b,.fn 220 [] [.cellp [.int .i64 r,.int .i64 c,.ints .arg .u64 l]]] =
  Aa.of.Dn.L0 N N a b r c l 0 []:=by kernel_rfl
abbrev _root_.Go.Proofs.S1.Aa.of.Dn.Kn:=A6 Tryz.prog 187 Aa.of.Dn.spec
theorem Aa.of.Dn.Ad (hk:A0 Tryz.prog Aa.of.Dn.Bb) (h:∀ (a b:Int) (r c:Int) (l:List Int),Aa.of.Dn.pre [.i a,.i b,.i r,.i c,.l l]=true→Be Aa.of.Dn.E Tryz.f187 [.int .i64 a,.int .i64 b,.fn 220 [] [.cellp [.int .i64 r,.int .i64 c,.ints .arg .u64 l]]] (Aa.of.Dn.out [.i a,.i b,.i r,.i c,.l l])):Aa.of.Dn.Kn :=
  Ak (A1 hk _ _ _) Tryz.func187 (by kernel_rfl) (by kernel_rfl) h
def Aa.of.Part.hint:Nat→Option A8
  | 0=>some { keep:=[1,2,6,7,13,14],objs:=[(8,2,108002,.ints 37 .u64 [])],boxes:=[6,7] }
  | 2=>some { keep:=[1,2,6,7,8,13,14,17,18],objs:=[(8,2,108002,.ints 37 .u64 [])],boxes:=[6,7] }
  | _=>none
def Aa.of.Part.Bb:List (Nat × Entry):=[(192,Aa.Fa.spec)]
def Aa.of.Part.E:Env:=Bc (Ba Aa.of.Part.Bb) (fun _=>false) Aa.of.Part.hint (fun _=>none)
def Aa.of.Part.L0 (N M:Nat) (a b:Int) (r c:Int) (l:List Int) (x y p14:Int) (p2_1:List Int):Option DV:=B3 Aa.of.Part.E N Tryz.f187 (Am Tryz.f187) [1,1,0,1,0] [] M ⟨Gb 33 [(1,.int .i64 b),(2,.fn 192 [] [.cellp [.int .i64 r,.int .i64 c,.ints .arg .u64 l],.cellp [.int .i64 x],.cellp [.int .i64 y]]),(6,.ptr 6 0 0),(7,.ptr 7 0 0),(13,.int .i64 a),(14,.int .i64 p14)],[(6,false,.box [.int .i64 0,.int .i64 0,.nil]),(7,false,.box [.int .i64 a,.int .i64 b,.oref 108002]),(108002,false,.ints 37 .u64 p2_1)]⟩
def Aa.of.Part.L1 (N M0 M:Nat) (a b:Int) (r c:Int) (l:List Int) (x y:Int) (p8 p14_1 p18:Int) (p2:List Int):Option DV:=B3 Aa.of.Part.E N Tryz.f187 (Am Tryz.f187) [1,1,0,1,0,0,1,1,0,0,1,1,0] [M0] M ⟨Gb 33 [(1,.int .i64 b),(2,.fn 192 [] [.cellp [.int .i64 r,.int .i64 c,.ints .arg .u64 l],.cellp [.int .i64 x],.cellp [.int .i64 y]]),(6,.ptr 6 0 0),(7,.ptr 7 0 0),(8,.int .i64 p8),(13,.int .i64 a),(14,.int .i64 p14_1),(17,.int .i64 b),(18,.int .i64 p18)],[(6,false,.box [.int .i64 0,.int .i64 0,.nil]),(7,false,.box [.int .i64 a,.int .i64 b,.oref 108002]),(108002,false,.ints 37 .u64 p2)]⟩
theorem Aa.of.Part.Au (N M:Nat) (a b:Int) (r c:Int) (l:List Int) (x y p14:Int) (p2_1:List Int):Aa.of.Part.L0 N (M+1) a b r c l x y p14 p2_1=bif (A2 p14 a) then Aa.of.Part.L1 N M N a b r c l x y p14 p14 0 p2_1 else some (.agg [.int .i64 a,.int .i64 b,.ints (.own 108002 37) .u64 p2_1]):=by kernel_rfl
theorem Aa.of.Part.Cf (N M0 M:Nat) (a b:Int) (r c:Int) (l:List Int) (x y:Int) (p8 p14_1 p18:Int) (p2:List Int):Aa.of.Part.L1 N M0 (M+1) a b r c l x y p8 p14_1 p18 p2=bif (A2 p18 b) then bif (Dq r c l (x+p8) (y+p18)&&S4 x y p8 p18) then bif (decide ((List.length p2)+1≤Gd)) then Aa.of.Part.L1 N M0 M a b r c l x y p8 p14_1 (Ab (p18+1)) (p2++[(D4 c l (x+p8) (y+p18))]) else none else none else Aa.of.Part.L0 N M0 a b r c l x y (Ab (p14_1+1)) p2 :=
  Eq.trans (by kernel_rfl)
  (Es (Da (De (Dq r c l (x+p8) (y+p18)&&S4 x y p8 p18)) (Da (De (decide ((List.length p2)+1≤Gd))) rfl rfl) rfl) rfl)
theorem Aa.of.Part.ev (N:Nat) (a b:Int) (r c:Int) (l:List Int) (x y:Int):Bw Aa.of.Part.E N Tryz.f187 (Am Tryz.f187) [.int .i64 a,.int .i64 b,.fn 192 [] [.cellp [.int .i64 r,.int .i64 c,.ints .arg .u64 l],.cellp [.int .i64 x],.cellp [.int .i64 y]]] =
  Aa.of.Part.L0 N N a b r c l x y 0 []:=by kernel_rfl
abbrev _root_.Go.Proofs.S1.Aa.of.Part.Kn:=A6 Tryz.prog 187 Aa.of.Part.spec
theorem Aa.of.Part.Ad (hk:A0 Tryz.prog Aa.of.Part.Bb) (h:∀ (a b:Int) (r c:Int) (l:List Int) (x y:Int),Aa.of.Part.pre [.i a,.i b,.i r,.i c,.l l,.i x,.i y]=true→Be Aa.of.Part.E Tryz.f187 [.int .i64 a,.int .i64 b,.fn 192 [] [.cellp [.int .i64 r,.int .i64 c,.ints .arg .u64 l],.cellp [.int .i64 x],.cellp [.int .i64 y]]] (Aa.of.Part.out [.i a,.i b,.i r,.i c,.l l,.i x,.i y])):Aa.of.Part.Kn :=
  Ak (A1 hk _ _ _) Tryz.func187 (by kernel_rfl) (by kernel_rfl) h
def Aa.of.Sub.hint:Nat→Option A8
  | 0=>some { keep:=[1,2,6,7,13,14],objs:=[(8,2,108002,.ints 37 .u64 [])],boxes:=[6,7] }
  | 2=>some { keep:=[1,2,6,7,8,13,14,17,18],objs:=[(8,2,108002,.ints 37 .u64 [])],boxes:=[6,7] }
  | _=>none
def Aa.of.Sub.Bb:List (Nat × Entry):=[(194,Aa.G0.spec)]
def Aa.of.Sub.E:Env:=Bc (Ba Aa.of.Sub.Bb) (fun _=>false) Aa.of.Sub.hint (fun _=>none)
def Aa.of.Sub.L0 (N M:Nat) (a b:Int) (r c:Int) (l:List Int) (p q:Int) (m:List Int) (p14:Int) (p2_1:List Int):Option DV:=B3 Aa.of.Sub.E N Tryz.f187 (Am Tryz.f187) [1,1,0,1,0] [] M ⟨Gb 33 [(1,.int .i64 b),(2,.fn 194 [] [.cellp [.int .i64 r,.int .i64 c,.ints .arg .u64 l],.cellp [.int .i64 p,.int .i64 q,.ints .arg .u64 m]]),(6,.ptr 6 0 0),(7,.ptr 7 0 0),(13,.int .i64 a),(14,.int .i64 p14)],[(6,false,.box [.int .i64 0,.int .i64 0,.nil]),(7,false,.box [.int .i64 a,.int .i64 b,.oref 108002]),(108002,false,.ints 37 .u64 p2_1)]⟩
def Aa.of.Sub.L1 (N M0 M:Nat) (a b:Int) (r c:Int) (l:List Int) (p q:Int) (m:List Int) (p8 p14_1 p18:Int) (p2:List Int):Option DV:=B3 Aa.of.Sub.E N Tryz.f187 (Am Tryz.f187) [1,1,0,1,0,0,1,1,0,0,1,1,0] [M0] M ⟨Gb 33 [(1,.int .i64 b),(2,.fn 194 [] [.cellp [.int .i64 r,.int .i64 c,.ints .arg .u64 l],.cellp [.int .i64 p,.int .i64 q,.ints .arg .u64 m]]),(6,.ptr 6 0 0),(7,.ptr 7 0 0),(8,.int .i64 p8),(13,.int .i64 a),(14,.int .i64 p14_1),(17,.int .i64 b),(18,.int .i64 p18)],[(6,false,.box [.int .i64 0,.int .i64 0,.nil]),(7,false,.box [.int .i64 a,.int .i64 b,.oref 108002]),(108002,false,.ints 37 .u64 p2)]⟩
theorem Aa.of.Sub.Au (N M:Nat) (a b:Int) (r c:Int) (l:List Int) (p q:Int) (m:List Int) (p14:Int) (p2_1:List Int):Aa.of.Sub.L0 N (M+1) a b r c l p q m p14 p2_1=bif (A2 p14 a) then Aa.of.Sub.L1 N M N a b r c l p q m p14 p14 0 p2_1 else some (.agg [.int .i64 a,.int .i64 b,.ints (.own 108002 37) .u64 p2_1]):=by kernel_rfl
theorem Aa.of.Sub.Cf (N M0 M:Nat) (a b:Int) (r c:Int) (l:List Int) (p q:Int) (m:List Int) (p8 p14_1 p18:Int) (p2:List Int):Aa.of.Sub.L1 N M0 (M+1) a b r c l p q m p8 p14_1 p18 p2=bif (A2 p18 b) then bif (((Dq r c l p8 p18&&Dq p q m p8 p18)&&Ah l)&&Ah m) then bif (decide ((List.length p2)+1≤Gd)) then Aa.of.Sub.L1 N M0 M a b r c l p q m p8 p14_1 (Ab (p18+1)) (p2++[(Dr (D4 c l p8 p18) (D4 q m p8 p18))]) else none else none else Aa.of.Sub.L0 N M0 a b r c l p q m (Ab (p14_1+1)) p2 :=
  Eq.trans (by kernel_rfl)
  (Es (Da (De (((Dq r c l p8 p18&&Dq p q m p8 p18)&&Ah l)&&Ah m)) (Da (De (decide ((List.length p2)+1≤Gd))) rfl rfl) rfl) rfl)
theorem Aa.of.Sub.ev (N:Nat) (a b:Int) (r c:Int) (l:List Int) (p q:Int) (m:List Int):Bw Aa.of.Sub.E N Tryz.f187 (Am Tryz.f187) [.int .i64 a,.int .i64 b,.fn 194 [] [.cellp [.int .i64 r,.int .i64 c,.ints .arg .u64 l],.cellp [.int .i64 p,.int .i64 q,.ints .arg .u64 m]]] =
  Aa.of.Sub.L0 N N a b r c l p q m 0 []:=by kernel_rfl
abbrev _root_.Go.Proofs.S1.Aa.of.Sub.Kn:=A6 Tryz.prog 187 Aa.of.Sub.spec
theorem Aa.of.Sub.Ad (hk:A0 Tryz.prog Aa.of.Sub.Bb) (h:∀ (a b:Int) (r c:Int) (l:List Int) (p q:Int) (m:List Int),Aa.of.Sub.pre [.i a,.i b,.i r,.i c,.l l,.i p,.i q,.l m]=true→Be Aa.of.Sub.E Tryz.f187 [.int .i64 a,.int .i64 b,.fn 194 [] [.cellp [.int .i64 r,.int .i64 c,.ints .arg .u64 l],.cellp [.int .i64 p,.int .i64 q,.ints .arg .u64 m]]] (Aa.of.Sub.out [.i a,.i b,.i r,.i c,.l l,.i p,.i q,.l m])):Aa.of.Sub.Kn :=
  Ak (A1 hk _ _ _) Tryz.func187 (by kernel_rfl) (by kernel_rfl) h
def Aa.of.Stack.hint:Nat→Option A8
  | 0=>some { keep:=[1,2,6,7,13,14],objs:=[(8,2,108002,.ints 37 .u64 [])],boxes:=[6,7] }
  | 2=>some { keep:=[1,2,6,7,8,13,14,17,18],objs:=[(8,2,108002,.ints 37 .u64 [])],boxes:=[6,7] }
  | _=>none
def Aa.of.Stack.Bb:List (Nat × Entry):=[(195,Aa.Ea.spec)]
def Aa.of.Stack.E:Env:=Bc (Ba Aa.of.Stack.Bb) (fun _=>false) Aa.of.Stack.hint (fun _=>none)
def Aa.of.Stack.L0 (N M:Nat) (a b:Int) (r c:Int) (l:List Int) (p q:Int) (m:List Int) (p14:Int) (p2_1:List Int):Option DV:=B3 Aa.of.Stack.E N Tryz.f187 (Am Tryz.f187) [1,1,0,1,0] [] M ⟨Gb 33 [(1,.int .i64 b),(2,.fn 195 [] [.cellp [.int .i64 r,.int .i64 c,.ints .arg .u64 l],.cellp [.int .i64 p,.int .i64 q,.ints .arg .u64 m]]),(6,.ptr 6 0 0),(7,.ptr 7 0 0),(13,.int .i64 a),(14,.int .i64 p14)],[(6,false,.box [.int .i64 0,.int .i64 0,.nil]),(7,false,.box [.int .i64 a,.int .i64 b,.oref 108002]),(108002,false,.ints 37 .u64 p2_1)]⟩
def Aa.of.Stack.L1 (N M0 M:Nat) (a b:Int) (r c:Int) (l:List Int) (p q:Int) (m:List Int) (p8 p14_1 p18:Int) (p2:List Int):Option DV:=B3 Aa.of.Stack.E N Tryz.f187 (Am Tryz.f187) [1,1,0,1,0,0,1,1,0,0,1,1,0] [M0] M ⟨Gb 33 [(1,.int .i64 b),(2,.fn 195 [] [.cellp [.int .i64 r,.int .i64 c,.ints .arg .u64 l],.cellp [.int .i64 p,.int .i64 q,.ints .arg .u64 m]]),(6,.ptr 6 0 0),(7,.ptr 7 0 0),(8,.int .i64 p8),(13,.int .i64 a),(14,.int .i64 p14_1),(17,.int .i64 b),(18,.int .i64 p18)],[(6,false,.box [.int .i64 0,.int .i64 0,.nil]),(7,false,.box [.int .i64 a,.int .i64 b,.oref 108002]),(108002,false,.ints 37 .u64 p2)]⟩
theorem Aa.of.Stack.Au (N M:Nat) (a b:Int) (r c:Int) (l:List Int) (p q:Int) (m:List Int) (p14:Int) (p2_1:List Int):Aa.of.Stack.L0 N (M+1) a b r c l p q m p14 p2_1=bif (A2 p14 a) then Aa.of.Stack.L1 N M N a b r c l p q m p14 p14 0 p2_1 else some (.agg [.int .i64 a,.int .i64 b,.ints (.own 108002 37) .u64 p2_1]):=by kernel_rfl
theorem Aa.of.Stack.Cf (N M0 M:Nat) (a b:Int) (r c:Int) (l:List Int) (p q:Int) (m:List Int) (p8 p14_1 p18:Int) (p2:List Int):Aa.of.Stack.L1 N M0 (M+1) a b r c l p q m p8 p14_1 p18 p2=bif (A2 p18 b) then bif (Lf r c l p q m p8 p18) then bif (decide ((List.length p2)+1≤Gd)) then Aa.of.Stack.L1 N M0 M a b r c l p q m p8 p14_1 (Ab (p18+1)) (p2++[(Hp r c l q m p8 p18)]) else none else none else Aa.of.Stack.L0 N M0 a b r c l p q m (Ab (p14_1+1)) p2 :=
  Eq.trans (by kernel_rfl)
  (Es (Da (De (Lf r c l p q m p8 p18)) (Da (De (decide ((List.length p2)+1≤Gd))) rfl rfl) rfl) rfl)
theorem Aa.of.Stack.ev (N:Nat) (a b:Int) (r c:Int) (l:List Int) (p q:Int) (m:List Int):Bw Aa.of.Stack.E N Tryz.f187 (Am Tryz.f187) [.int .i64 a,.int .i64 b,.fn 195 [] [.cellp [.int .i64 r,.int .i64 c,.ints .arg .u64 l],.cellp [.int .i64 p,.int .i64 q,.ints .arg .u64 m]]] =
  Aa.of.Stack.L0 N N a b r c l p q m 0 []:=by kernel_rfl
abbrev _root_.Go.Proofs.S1.Aa.of.Stack.Kn:=A6 Tryz.prog 187 Aa.of.Stack.spec
theorem Aa.of.Stack.Ad (hk:A0 Tryz.prog Aa.of.Stack.Bb) (h:∀ (a b:Int) (r c:Int) (l:List Int) (p q:Int) (m:List Int),Aa.of.Stack.pre [.i a,.i b,.i r,.i c,.l l,.i p,.i q,.l m]=true→Be Aa.of.Stack.E Tryz.f187 [.int .i64 a,.int .i64 b,.fn 195 [] [.cellp [.int .i64 r,.int .i64 c,.ints .arg .u64 l],.cellp [.int .i64 p,.int .i64 q,.ints .arg .u64 m]]] (Aa.of.Stack.out [.i a,.i b,.i r,.i c,.l l,.i p,.i q,.l m])):Aa.of.Stack.Kn :=
  Ak (A1 hk _ _ _) Tryz.func187 (by kernel_rfl) (by kernel_rfl) h
def Aa.of.Mul.hint:Nat→Option A8
  | 0=>some { keep:=[1,2,6,7,13,14],objs:=[(8,2,108002,.ints 37 .u64 [])],boxes:=[6,7] }
  | 2=>some { keep:=[1,2,6,7,8,13,14,17,18],objs:=[(8,2,108002,.ints 37 .u64 [])],boxes:=[6,7] }
  | _=>none
def Aa.of.Mul.Bb:List (Nat × Entry):=[(188,Aa.G1.spec)]
def Aa.of.Mul.E:Env:=Bc (Ba Aa.of.Mul.Bb) (fun _=>false) Aa.of.Mul.hint (fun _=>none)
def Aa.of.Mul.L0 (N M:Nat) (a b:Int) (r c:Int) (l:List Int) (p q:Int) (m:List Int) (p14:Int) (p2_1:List Int):Option DV:=B3 Aa.of.Mul.E N Tryz.f187 (Am Tryz.f187) [1,1,0,1,0] [] M ⟨Gb 33 [(1,.int .i64 b),(2,.fn 188 [] [.cellp [.int .i64 r,.int .i64 c,.ints .arg .u64 l],.cellp [.int .i64 p,.int .i64 q,.ints .arg .u64 m]]),(6,.ptr 6 0 0),(7,.ptr 7 0 0),(13,.int .i64 a),(14,.int .i64 p14)],[(6,false,.box [.int .i64 0,.int .i64 0,.nil]),(7,false,.box [.int .i64 a,.int .i64 b,.oref 108002]),(108002,false,.ints 37 .u64 p2_1)]⟩
def Aa.of.Mul.L1 (N M0 M:Nat) (a b:Int) (r c:Int) (l:List Int) (p q:Int) (m:List Int) (p8 p14_1 p18:Int) (p2:List Int):Option DV:=B3 Aa.of.Mul.E N Tryz.f187 (Am Tryz.f187) [1,1,0,1,0,0,1,1,0,0,1,1,0] [M0] M ⟨Gb 33 [(1,.int .i64 b),(2,.fn 188 [] [.cellp [.int .i64 r,.int .i64 c,.ints .arg .u64 l],.cellp [.int .i64 p,.int .i64 q,.ints .arg .u64 m]]),(6,.ptr 6 0 0),(7,.ptr 7 0 0),(8,.int .i64 p8),(13,.int .i64 a),(14,.int .i64 p14_1),(17,.int .i64 b),(18,.int .i64 p18)],[(6,false,.box [.int .i64 0,.int .i64 0,.nil]),(7,false,.box [.int .i64 a,.int .i64 b,.oref 108002]),(108002,false,.ints 37 .u64 p2)]⟩
theorem Aa.of.Mul.Au (N M:Nat) (a b:Int) (r c:Int) (l:List Int) (p q:Int) (m:List Int) (p14:Int) (p2_1:List Int):Aa.of.Mul.L0 N (M+1) a b r c l p q m p14 p2_1=bif (A2 p14 a) then Aa.of.Mul.L1 N M N a b r c l p q m p14 p14 0 p2_1 else some (.agg [.int .i64 a,.int .i64 b,.ints (.own 108002 37) .u64 p2_1]):=by kernel_rfl
theorem Aa.of.Mul.Cf (N M0 M:Nat) (a b:Int) (r c:Int) (l:List Int) (p q:Int) (m:List Int) (p8 p14_1 p18:Int) (p2:List Int):Aa.of.Mul.L1 N M0 (M+1) a b r c l p q m p8 p14_1 p18 p2=bif (A2 p18 b) then bif (Qs r c l p q m p8 p18) then bif (decide ((List.length p2)+1≤Gd)) then Aa.of.Mul.L1 N M0 M a b r c l p q m p8 p14_1 (Ab (p18+1)) (p2++[(Lw (It c l p8) (Mk p q m p18))]) else none else none else Aa.of.Mul.L0 N M0 a b r c l p q m (Ab (p14_1+1)) p2 :=
  Eq.trans (by kernel_rfl)
  (Es (Da (De (Qs r c l p q m p8 p18)) (Da (De (decide ((List.length p2)+1≤Gd))) rfl rfl) rfl) rfl)
theorem Aa.of.Mul.ev (N:Nat) (a b:Int) (r c:Int) (l:List Int) (p q:Int) (m:List Int):Bw Aa.of.Mul.E N Tryz.f187 (Am Tryz.f187) [.int .i64 a,.int .i64 b,.fn 188 [] [.cellp [.int .i64 r,.int .i64 c,.ints .arg .u64 l],.cellp [.int .i64 p,.int .i64 q,.ints .arg .u64 m]]] =
  Aa.of.Mul.L0 N N a b r c l p q m 0 []:=by kernel_rfl
abbrev _root_.Go.Proofs.S1.Aa.of.Mul.Kn:=A6 Tryz.prog 187 Aa.of.Mul.spec
theorem Aa.of.Mul.Ad (hk:A0 Tryz.prog Aa.of.Mul.Bb) (h:∀ (a b:Int) (r c:Int) (l:List Int) (p q:Int) (m:List Int),Aa.of.Mul.pre [.i a,.i b,.i r,.i c,.l l,.i p,.i q,.l m]=true→Be Aa.of.Mul.E Tryz.f187 [.int .i64 a,.int .i64 b,.fn 188 [] [.cellp [.int .i64 r,.int .i64 c,.ints .arg .u64 l],.cellp [.int .i64 p,.int .i64 q,.ints .arg .u64 m]]] (Aa.of.Mul.out [.i a,.i b,.i r,.i c,.l l,.i p,.i q,.l m])):Aa.of.Mul.Kn :=
  Ak (A1 hk _ _ _) Tryz.func187 (by kernel_rfl) (by kernel_rfl) h
def Aa.Et.Bb:List (Nat × Entry):=[(187,Aa.of.Et.spec),(204,Aa.size.spec)]
def Aa.Et.E:Env:=Bc (Ba Aa.Et.Bb) (fun _=>false) (fun _=>none) (fun _=>none)
theorem Aa.Et.ev (N:Nat) (n:Int):Bw Aa.Et.E N Tryz.f218 (Am Tryz.f218) [.int .i64 n]=bif (!(Bg n)) then some (.tup [.agg [.int .i64 0,.int .i64 0,.nil],.int .i64 3]) else bif ((Bg n&&Bg n)) then some (.tup [.agg [.int .i64 n,.int .i64 n,.ints .fresh .u64 (Bf (Int.toNat n) (Int.toNat n) (fun j1 j2=>Ca j1 j2))],.int .i64 0]) else none:=by kernel_rfl
abbrev _root_.Go.Proofs.S1.Aa.Et.Kn:=A6 Tryz.prog 218 Aa.Et.spec
theorem Aa.Et.Ad (hk:A0 Tryz.prog Aa.Et.Bb) (h:∀ (n:Int),Aa.Et.pre [.i n]=true→Be Aa.Et.E Tryz.f218 [.int .i64 n] (Aa.Et.out [.i n])):Aa.Et.Kn :=
  Ak (A1 hk _ _ _) Tryz.func218 (by kernel_rfl) (by kernel_rfl) h
def Aa.Dn.Bb:List (Nat × Entry):=[(160,Aa.Check.spec),(187,Aa.of.Dn.spec)]
def Aa.Dn.E:Env:=Bc (Ba Aa.Dn.Bb) (fun _=>false) (fun _=>none) (fun _=>none)
theorem Aa.Dn.ev (N:Nat) (r c:Int) (l:List Int):Bw Aa.Dn.E N Tryz.f167 (Am Tryz.f167) [.agg [.int .i64 r,.int .i64 c,.ints .arg .u64 l]]=bif ((Jp r c l) !=(0:Int)) then some (.tup [.agg [.int .i64 0,.int .i64 0,.nil],.int .i64 (Jp r c l)]) else bif ((Bg c&&Bg r)&&Av r c l&&decide (c=c∧r=r)) then some (.tup [.agg [.int .i64 c,.int .i64 r,.ints .fresh .u64 (Bf (Int.toNat c) (Int.toNat r) (fun j1 j2=>D4 c l j2 j1))],.int .i64 0]) else none:=by kernel_rfl
abbrev _root_.Go.Proofs.S1.Aa.Dn.Kn:=A6 Tryz.prog 167 Aa.Dn.spec
theorem Aa.Dn.Ad (hk:A0 Tryz.prog Aa.Dn.Bb) (h:∀ (r c:Int) (l:List Int),Aa.Dn.pre [.i r,.i c,.l l]=true→Be Aa.Dn.E Tryz.f167 [.agg [.int .i64 r,.int .i64 c,.ints .arg .u64 l]] (Aa.Dn.out [.i r,.i c,.l l])):Aa.Dn.Kn :=
  Ak (A1 hk _ _ _) Tryz.func167 (by kernel_rfl) (by kernel_rfl) h
def Aa.Part.Bb:List (Nat × Entry):=[(160,Aa.Check.spec),(187,Aa.of.Part.spec)]
def Aa.Part.E:Env:=Bc (Ba Aa.Part.Bb) (fun _=>false) (fun _=>none) (fun _=>none)
theorem Aa.Part.ev (N:Nat) (r c:Int) (l:List Int) (x y:Int) (a b:Int):Bw Aa.Part.E N Tryz.f124 (Am Tryz.f124) [.agg [.int .i64 r,.int .i64 c,.ints .arg .u64 l],.int .i64 x,.int .i64 y,.int .i64 a,.int .i64 b]=bif ((Jp r c l) !=(0:Int)) then some (.tup [.agg [.int .i64 0,.int .i64 0,.nil],.int .i64 (Jp r c l)]) else bif ((((((((A2 x 0)||(A2 y 0))||(A2 a 0))||(A2 b 0))||(A2 r x))||(A2 c y))||(A2 (Ab (r-x)) a))||(A2 (Ab (c-y)) b)) then some (.tup [.agg [.int .i64 0,.int .i64 0,.nil],.int .i64 3]) else bif ((Bg a&&Bg b)&&Av r c l&&Li r c x y a b) then some (.tup [.agg [.int .i64 a,.int .i64 b,.ints .fresh .u64 (Bf (Int.toNat a) (Int.toNat b) (fun j1 j2=>D4 c l (x+j1) (y+j2)))],.int .i64 0]) else none :=
  Eq.trans (by kernel_rfl)
  (Es rfl (Ap (Ul (A2 x 0)) (Ap (Q9 (A2 x 0)) (Ap (tt6 (A2 x 0)) (Ap (Aap (A2 x 0) (A2 y 0)) (Ap (Adf (A2 x 0) (A2 y 0)) (Ap (Anj (A2 x 0) (A2 y 0)) (Ap (Ank (A2 x 0) (A2 y 0) (A2 a 0)) (Ap (Adg (A2 x 0) (A2 y 0) (A2 a 0)) (Ap (Anl (A2 x 0) (A2 y 0) (A2 a 0)) (Ap (Aji (A2 x 0) (A2 y 0) (A2 a 0) (A2 b 0)) (Ap (Aji (A2 x 0) (A2 y 0) (A2 a 0) (A2 b 0)) (Ap (Ajj (A2 x 0) (A2 y 0) (A2 a 0) (A2 b 0)) (Ap (Atc (A2 x 0) (A2 y 0) (A2 a 0) (A2 b 0)) (Ap (Aqt (A2 x 0) (A2 y 0) (A2 a 0) (A2 b 0)) (Ap (Anm (A2 x 0) (A2 y 0) (A2 a 0) (A2 b 0) (A2 r x)) (Ap (Anm (A2 x 0) (A2 y 0) (A2 a 0) (A2 b 0) (A2 r x)) (Ap (tt55 (A2 x 0) (A2 y 0) (A2 a 0) (A2 b 0) (A2 r x)) (Ap (Atd (A2 x 0) (A2 y 0) (A2 a 0) (A2 b 0) (A2 r x)) (Ap (Ate (A2 x 0) (A2 y 0) (A2 a 0) (A2 b 0) (A2 r x)) (Ap (Agw (A2 x 0) (A2 y 0) (A2 a 0) (A2 b 0) (A2 r x) (A2 c y)) (Ap (Agw (A2 x 0) (A2 y 0) (A2 a 0) (A2 b 0) (A2 r x) (A2 c y)) (Ap (Aqu (A2 x 0) (A2 y 0) (A2 a 0) (A2 b 0) (A2 r x) (A2 c y)) (Ap (Agw (A2 x 0) (A2 y 0) (A2 a 0) (A2 b 0) (A2 r x) (A2 c y)) (Ap (Ann (A2 x 0) (A2 y 0) (A2 a 0) (A2 b 0) (A2 r x) (A2 c y)) (Ap (Ann (A2 x 0) (A2 y 0) (A2 a 0) (A2 b 0) (A2 r x) (A2 c y)) (Ap (Atf (A2 x 0) (A2 y 0) (A2 a 0) (A2 b 0) (A2 r x) (A2 c y)) (Ap (Aqv (A2 x 0) (A2 y 0) (A2 a 0) (A2 b 0) (A2 r x) (A2 c y) (A2 (Ab (r-x)) a)) (Ap (Aqv (A2 x 0) (A2 y 0) (A2 a 0) (A2 b 0) (A2 r x) (A2 c y) (A2 (Ab (r-x)) a)) (Ap (tt48 (A2 x 0) (A2 y 0) (A2 a 0) (A2 b 0) (A2 r x) (A2 c y) (A2 (Ab (r-x)) a)) (Ap (Aqv (A2 x 0) (A2 y 0) (A2 a 0) (A2 b 0) (A2 r x) (A2 c y) (A2 (Ab (r-x)) a)) (Ap (Atg (A2 x 0) (A2 y 0) (A2 a 0) (A2 b 0) (A2 r x) (A2 c y) (A2 (Ab (r-x)) a)) (Ap (Atg (A2 x 0) (A2 y 0) (A2 a 0) (A2 b 0) (A2 r x) (A2 c y) (A2 (Ab (r-x)) a)) (Ap (tt45 (A2 x 0) (A2 y 0) (A2 a 0) (A2 b 0) (A2 r x) (A2 c y) (A2 (Ab (r-x)) a)) (Da (tt44 (A2 x 0) (A2 y 0) (A2 a 0) (A2 b 0) (A2 r x) (A2 c y) (A2 (Ab (r-x)) a) (A2 (Ab (c-y)) b)) rfl rfl)))))))))))))))))))))))))))))))))))
abbrev _root_.Go.Proofs.S1.Aa.Part.Kn:=A6 Tryz.prog 124 Aa.Part.spec
theorem Aa.Part.Ad (hk:A0 Tryz.prog Aa.Part.Bb) (h:∀ (r c:Int) (l:List Int) (x y:Int) (a b:Int),Aa.Part.pre [.i r,.i c,.l l,.i x,.i y,.i a,.i b]=true→Be Aa.Part.E Tryz.f124 [.agg [.int .i64 r,.int .i64 c,.ints .arg .u64 l],.int .i64 x,.int .i64 y,.int .i64 a,.int .i64 b] (Aa.Part.out [.i r,.i c,.l l,.i x,.i y,.i a,.i b])):Aa.Part.Kn :=
  Ak (A1 hk _ _ _) Tryz.func124 (by kernel_rfl) (by kernel_rfl) h
def Aa.Sub.Bb:List (Nat × Entry):=[(187,Aa.of.Sub.spec),(186,Aa.two.spec)]
def Aa.Sub.E:Env:=Bc (Ba Aa.Sub.Bb) (fun _=>false) (fun _=>none) (fun _=>none)
theorem Aa.Sub.ev (N:Nat) (r c:Int) (l:List Int) (p q:Int) (m:List Int):Bw Aa.Sub.E N Tryz.f125 (Am Tryz.f125) [.agg [.int .i64 r,.int .i64 c,.ints .arg .u64 l],.agg [.int .i64 p,.int .i64 q,.ints .arg .u64 m]]=bif ((Su r c l p q m) !=(0:Int)) then some (.tup [.agg [.int .i64 0,.int .i64 0,.nil],.int .i64 (Su r c l p q m)]) else bif (!((r==p)&&(c==q))) then some (.tup [.agg [.int .i64 0,.int .i64 0,.nil],.int .i64 3]) else bif ((Bg r&&Bg c)&&((Av r c l&&Av p q m)&&(Ah l&&Ah m))&&decide (r=r∧c=c∧p=r∧q=c)) then some (.tup [.agg [.int .i64 r,.int .i64 c,.ints .fresh .u64 (Bf (Int.toNat r) (Int.toNat c) (fun j1 j2=>Dr (D4 c l j1 j2) (D4 q m j1 j2)))],.int .i64 0]) else none :=
  Eq.trans (by kernel_rfl)
  (Es rfl (Da (tt67 (r==p) (c==q)) rfl rfl))
abbrev _root_.Go.Proofs.S1.Aa.Sub.Kn:=A6 Tryz.prog 125 Aa.Sub.spec
theorem Aa.Sub.Ad (hk:A0 Tryz.prog Aa.Sub.Bb) (h:∀ (r c:Int) (l:List Int) (p q:Int) (m:List Int),Aa.Sub.pre [.i r,.i c,.l l,.i p,.i q,.l m]=true→Be Aa.Sub.E Tryz.f125 [.agg [.int .i64 r,.int .i64 c,.ints .arg .u64 l],.agg [.int .i64 p,.int .i64 q,.ints .arg .u64 m]] (Aa.Sub.out [.i r,.i c,.l l,.i p,.i q,.l m])):Aa.Sub.Kn :=
  Ak (A1 hk _ _ _) Tryz.func125 (by kernel_rfl) (by kernel_rfl) h
def Aa.Stack.Bb:List (Nat × Entry):=[(187,Aa.of.Stack.spec),(186,Aa.two.spec)]
def Aa.Stack.E:Env:=Bc (Ba Aa.Stack.Bb) (fun _=>false) (fun _=>none) (fun _=>none)
theorem Aa.Stack.ev (N:Nat) (r c:Int) (l:List Int) (p q:Int) (m:List Int):Bw Aa.Stack.E N Tryz.f126 (Am Tryz.f126) [.agg [.int .i64 r,.int .i64 c,.ints .arg .u64 l],.agg [.int .i64 p,.int .i64 q,.ints .arg .u64 m]]=bif ((Su r c l p q m) !=(0:Int)) then some (.tup [.agg [.int .i64 0,.int .i64 0,.nil],.int .i64 (Su r c l p q m)]) else bif ((c !=q)||(A2 6 (Ab (r+p)))) then some (.tup [.agg [.int .i64 0,.int .i64 0,.nil],.int .i64 3]) else bif ((Bg (Ab (r+p))&&Bg c)&&(Av r c l&&Av p q m)&&decide ((Ab (r+p))=r+p∧c=c∧q=c)) then some (.tup [.agg [.int .i64 (Ab (r+p)),.int .i64 c,.ints .fresh .u64 (Bf (Int.toNat (Ab (r+p))) (Int.toNat c) (fun j1 j2=>Hp r c l q m j1 j2))],.int .i64 0]) else none :=
  Eq.trans (by kernel_rfl)
  (Es rfl (Ap (Ul (c !=q)) (Ap (Q9 (c !=q)) (Ap (Ul (c !=q)) (Ap (Q9 (c !=q)) (Ap (tt8 (c !=q)) (Ap (Q9 (c !=q)) (Ap (tt6 (c !=q)) (Da (tt5 (c !=q) (A2 6 (Ab (r+p)))) rfl rfl)))))))))
abbrev _root_.Go.Proofs.S1.Aa.Stack.Kn:=A6 Tryz.prog 126 Aa.Stack.spec
theorem Aa.Stack.Ad (hk:A0 Tryz.prog Aa.Stack.Bb) (h:∀ (r c:Int) (l:List Int) (p q:Int) (m:List Int),Aa.Stack.pre [.i r,.i c,.l l,.i p,.i q,.l m]=true→Be Aa.Stack.E Tryz.f126 [.agg [.int .i64 r,.int .i64 c,.ints .arg .u64 l],.agg [.int .i64 p,.int .i64 q,.ints .arg .u64 m]] (Aa.Stack.out [.i r,.i c,.l l,.i p,.i q,.l m])):Aa.Stack.Kn :=
  Ak (A1 hk _ _ _) Tryz.func126 (by kernel_rfl) (by kernel_rfl) h
def Aa.Mul.Bb:List (Nat × Entry):=[(187,Aa.of.Mul.spec),(186,Aa.two.spec)]
def Aa.Mul.E:Env:=Bc (Ba Aa.Mul.Bb) (fun _=>false) (fun _=>none) (fun _=>none)
theorem Aa.Mul.ev (N:Nat) (r c:Int) (l:List Int) (p q:Int) (m:List Int):Bw Aa.Mul.E N Tryz.f123 (Am Tryz.f123) [.agg [.int .i64 r,.int .i64 c,.ints .arg .u64 l],.agg [.int .i64 p,.int .i64 q,.ints .arg .u64 m]]=bif ((Su r c l p q m) !=(0:Int)) then some (.tup [.agg [.int .i64 0,.int .i64 0,.nil],.int .i64 (Su r c l p q m)]) else bif (c !=p) then some (.tup [.agg [.int .i64 0,.int .i64 0,.nil],.int .i64 3]) else bif ((Bg r&&Bg q)&&((Av r c l&&Av p q m)&&(Ah l&&Ah m))&&decide (r=r∧q=q∧c=p)) then some (.tup [.agg [.int .i64 r,.int .i64 q,.ints .fresh .u64 (Bf (Int.toNat r) (Int.toNat q) (fun j1 j2=>Lw (It c l j1) (Mk p q m j2)))],.int .i64 0]) else none:=by kernel_rfl
abbrev _root_.Go.Proofs.S1.Aa.Mul.Kn:=A6 Tryz.prog 123 Aa.Mul.spec
theorem Aa.Mul.Ad (hk:A0 Tryz.prog Aa.Mul.Bb) (h:∀ (r c:Int) (l:List Int) (p q:Int) (m:List Int),Aa.Mul.pre [.i r,.i c,.l l,.i p,.i q,.l m]=true→Be Aa.Mul.E Tryz.f123 [.agg [.int .i64 r,.int .i64 c,.ints .arg .u64 l],.agg [.int .i64 p,.int .i64 q,.ints .arg .u64 m]] (Aa.Mul.out [.i r,.i c,.l l,.i p,.i q,.l m])):Aa.Mul.Kn :=
  Ak (A1 hk _ _ _) Tryz.func123 (by kernel_rfl) (by kernel_rfl) h
end EqOf
open EqOf
theorem of.Bq.inner (N:Nat)  {A B:Nat} (hA:A≤6) (hB:B≤6) {F:Nat→Nat→Int} (hF:∀ i j:Nat,F i j=(0:Int)) {i:Nat} (hi:i<A):∀ (k j M0 M:Nat),j+k=B→k<M →
    Aa.of.Bq.L1 N M0 M (A:Int) (B:Int) (i:Int) (i:Int) (j:Int) (Bf i B F++(List.range j).map (F i))=Aa.of.Bq.L0 N M0 (A:Int) (B:Int) ((i+1:Nat):Int) (Bf (i+1) B F):=by
  intro k
  induction k with
  | zero =>
    intro j M0 M hj hM
    obtain ⟨M,rfl⟩:∃ G,M=G+1:=⟨M-1,by omega⟩
    obtain rfl:j=B:=by omega
    rw [Aa.of.Bq.Cf,At,Auy (by omega),Aux,Al (by omega) (by omega),← Jn]
    rfl
  | succ k ih =>
    intro j M0 M hj hM
    obtain ⟨M,rfl⟩:∃ G,M=G+1:=⟨M-1,by omega⟩
    have d:decide ((Bf i B F++(List.range j).map (F i)).length+1≤Gd)=true:=by
      refine Auu ?_
      have:=Nat.mul_le_mul (show i≤6 by omega) hB
      rw [List.length_append,Bn,List.length_map,List.length_range]; unfold Gd; omega
    rw [Aa.of.Bq.Cf,At,Auu (by omega),Aut,d,Aut,Al (by omega) (by omega),← hF i j]
    have:=ih (j+1) M0 M (by omega) (by omega)
    rw [Hy,← List.append_assoc] at this
    exact this
theorem of.Bq.outer (N:Nat)  {A B:Nat} (hA:A≤6) (hB:B≤6) (hN:6<N) {F:Nat→Nat→Int} (hF:∀ i j:Nat,F i j=(0:Int)):∀ (k i M:Nat),i+k=A→k<M →
    Aa.of.Bq.L0 N M (A:Int) (B:Int) (i:Int) (Bf i B F)=some (.agg [.int .i64 (A:Int),.int .i64 (B:Int),.ints (.own 108002 tB) .u64 (Bf A B F)]):=by
  intro k
  induction k with
  | zero =>
    intro i M hi hM
    obtain ⟨M,rfl⟩:∃ G,M=G+1:=⟨M-1,by omega⟩
    obtain rfl:i=A:=by omega
    rw [Aa.of.Bq.Au,At,Auy (by omega),Aux]
  | succ k ih =>
    intro i M hi hM
    obtain ⟨M,rfl⟩:∃ G,M=G+1:=⟨M-1,by omega⟩
    have n:=of.Bq.inner N hA hB hF (show i<A by omega) B 0 M N (by omega) (by omega)
    rw [List.range_zero,List.map_nil,List.append_nil] at n
    rw [Aa.of.Bq.Au,At,Auu (by omega),Aut]
    exact n.trans (ih (i+1) M (by omega) (by omega))
theorem of.Et.inner (N:Nat)  {A B:Nat} (hA:A≤6) (hB:B≤6) {F:Nat→Nat→Int} (hF:∀ i j:Nat,F i j=Ca (i:Int) (j:Int)) {i:Nat} (hi:i<A):∀ (k j M0 M:Nat),j+k=B→k<M →
    Aa.of.Et.L1 N M0 M (A:Int) (B:Int) (i:Int) (i:Int) (j:Int) (Bf i B F++(List.range j).map (F i))=Aa.of.Et.L0 N M0 (A:Int) (B:Int) ((i+1:Nat):Int) (Bf (i+1) B F):=by
  intro k
  induction k with
  | zero =>
    intro j M0 M hj hM
    obtain ⟨M,rfl⟩:∃ G,M=G+1:=⟨M-1,by omega⟩
    obtain rfl:j=B:=by omega
    rw [Aa.of.Et.Cf,At,Auy (by omega),Aux,Al (by omega) (by omega),← Jn]
    rfl
  | succ k ih =>
    intro j M0 M hj hM
    obtain ⟨M,rfl⟩:∃ G,M=G+1:=⟨M-1,by omega⟩
    have d:decide ((Bf i B F++(List.range j).map (F i)).length+1≤Gd)=true:=by
      refine Auu ?_
      have:=Nat.mul_le_mul (show i≤6 by omega) hB
      rw [List.length_append,Bn,List.length_map,List.length_range]; unfold Gd; omega
    rw [Aa.of.Et.Cf,At,Auu (by omega),Aut,d,Aut,Al (by omega) (by omega),← hF i j]
    have:=ih (j+1) M0 M (by omega) (by omega)
    rw [Hy,← List.append_assoc] at this
    exact this
theorem of.Et.outer (N:Nat)  {A B:Nat} (hA:A≤6) (hB:B≤6) (hN:6<N) {F:Nat→Nat→Int} (hF:∀ i j:Nat,F i j=Ca (i:Int) (j:Int)):∀ (k i M:Nat),i+k=A→k<M →
    Aa.of.Et.L0 N M (A:Int) (B:Int) (i:Int) (Bf i B F)=some (.agg [.int .i64 (A:Int),.int .i64 (B:Int),.ints (.own 108002 tB) .u64 (Bf A B F)]):=by
  intro k
  induction k with
  | zero =>
    intro i M hi hM
    obtain ⟨M,rfl⟩:∃ G,M=G+1:=⟨M-1,by omega⟩
    obtain rfl:i=A:=by omega
    rw [Aa.of.Et.Au,At,Auy (by omega),Aux]
  | succ k ih =>
    intro i M hi hM
    obtain ⟨M,rfl⟩:∃ G,M=G+1:=⟨M-1,by omega⟩
    have n:=of.Et.inner N hA hB hF (show i<A by omega) B 0 M N (by omega) (by omega)
    rw [List.range_zero,List.map_nil,List.append_nil] at n
    rw [Aa.of.Et.Au,At,Auu (by omega),Aut]
    exact n.trans (ih (i+1) M (by omega) (by omega))
theorem Aa.of.Et.known:Aa.of.Et.Kn:=Aa.of.Et.Ad (.cons Aa.G4.known .nil) fun a b hp=>by
  have h1:(Bg a&&Bg b)=true:=hp
  obtain ⟨ha,hb⟩:=Ae.1 h1
  obtain ⟨A,rfl,hA⟩:=Eu ha
  obtain ⟨B,rfl,hB⟩:=Eu hb
  refine ⟨8,.agg [.int .i64 (A:Int),.int .i64 (B:Int),.ints (.own 108002 tB) .u64 (Bf A B fun (i j:Nat)=>Ca (i:Int) (j:Int))],[108002],?_,Wk.H0 (.cons .int (.cons .int (.cons (.drop _ _ _ _ (List.mem_singleton.2 rfl)) .nil)))⟩
  rw [Aa.of.Et.ev]
  have n:=of.Et.outer 8 hA hB (by omega) (F:=fun (i j:Nat)=>Ca (i:Int) (j:Int)) (fun _ _=>rfl) A 0 8 (by omega) (by omega)
  rw [Jm] at n
  exact n
theorem of.Dn.inner (N:Nat) (r c:Int) (l:List Int) {A B:Nat} (hA:A≤6) (hB:B≤6) {F:Nat→Nat→Int} (hF:∀ i j:Nat,F i j=D4 c l (j:Int) (i:Int)) {i:Nat} (hi:i<A) (hp:∀ j:Nat,j<B→Dq r c l (j:Int) (i:Int)=true):∀ (k j M0 M:Nat),j+k=B→k<M →
    Aa.of.Dn.L1 N M0 M (A:Int) (B:Int) r c l (i:Int) (i:Int) (j:Int) (Bf i B F++(List.range j).map (F i))=Aa.of.Dn.L0 N M0 (A:Int) (B:Int) r c l ((i+1:Nat):Int) (Bf (i+1) B F):=by
  intro k
  induction k with
  | zero =>
    intro j M0 M hj hM
    obtain ⟨M,rfl⟩:∃ G,M=G+1:=⟨M-1,by omega⟩
    obtain rfl:j=B:=by omega
    rw [Aa.of.Dn.Cf,At,Auy (by omega),Aux,Al (by omega) (by omega),← Jn]
    rfl
  | succ k ih =>
    intro j M0 M hj hM
    obtain ⟨M,rfl⟩:∃ G,M=G+1:=⟨M-1,by omega⟩
    have d:decide ((Bf i B F++(List.range j).map (F i)).length+1≤Gd)=true:=by
      refine Auu ?_
      have:=Nat.mul_le_mul (show i≤6 by omega) hB
      rw [List.length_append,Bn,List.length_map,List.length_range]; unfold Gd; omega
    rw [Aa.of.Dn.Cf,At,Auu (by omega),Aut,hp j (by omega),Aut,d,Aut,Al (by omega) (by omega),← hF i j]
    have:=ih (j+1) M0 M (by omega) (by omega)
    rw [Hy,← List.append_assoc] at this
    exact this
theorem of.Dn.outer (N:Nat) (r c:Int) (l:List Int) {A B:Nat} (hA:A≤6) (hB:B≤6) (hN:6<N) {F:Nat→Nat→Int} (hF:∀ i j:Nat,F i j=D4 c l (j:Int) (i:Int)) (hp:∀ i j:Nat,i<A→j<B→Dq r c l (j:Int) (i:Int)=true):∀ (k i M:Nat),i+k=A→k<M →
    Aa.of.Dn.L0 N M (A:Int) (B:Int) r c l (i:Int) (Bf i B F)=some (.agg [.int .i64 (A:Int),.int .i64 (B:Int),.ints (.own 108002 tB) .u64 (Bf A B F)]):=by
  intro k
  induction k with
  | zero =>
    intro i M hi hM
    obtain ⟨M,rfl⟩:∃ G,M=G+1:=⟨M-1,by omega⟩
    obtain rfl:i=A:=by omega
    rw [Aa.of.Dn.Au,At,Auy (by omega),Aux]
  | succ k ih =>
    intro i M hi hM
    obtain ⟨M,rfl⟩:∃ G,M=G+1:=⟨M-1,by omega⟩
    have n:=of.Dn.inner N r c l hA hB hF (show i<A by omega) (fun j hj=>hp i j (by omega) hj) B 0 M N (by omega) (by omega)
    rw [List.range_zero,List.map_nil,List.append_nil] at n
    rw [Aa.of.Dn.Au,At,Auu (by omega),Aut]
    exact n.trans (ih (i+1) M (by omega) (by omega))
theorem Aa.of.Dn.known:Aa.of.Dn.Kn:=Aa.of.Dn.Ad (.cons Aa.E8.known .nil) fun a b r c l hp=>by
  obtain ⟨h12,hy⟩:=Ae.1 (show (((Bg a&&Bg b)&&Av r c l)&&decide (a=c∧b=r))=true from hp)
  obtain ⟨h1,hx⟩:=Ae.1 h12
  have h2:=Ae.2 ⟨hx,hy⟩
  obtain ⟨ha,hb⟩:=Ae.1 h1
  obtain ⟨A,rfl,hA⟩:=Eu ha
  obtain ⟨B,rfl,hB⟩:=Eu hb
  obtain ⟨hr,he⟩:=Ae.1 h2
  obtain ⟨e1,e2⟩:=of_decide_eq_true he
  have hp:∀ i j:Nat,i<A→j<B→Dq r c l (j:Int) (i:Int)=true:=fun i j hi hj=>Im hr (by omega) (by omega) (by omega) (by omega) r
  refine ⟨8,.agg [.int .i64 (A:Int),.int .i64 (B:Int),.ints (.own 108002 tB) .u64 (Bf A B fun (i j:Nat)=>D4 c l (j:Int) (i:Int))],[108002],?_,Wk.H0 (.cons .int (.cons .int (.cons (.drop _ _ _ _ (List.mem_singleton.2 rfl)) .nil)))⟩
  rw [Aa.of.Dn.ev]
  have n:=of.Dn.outer 8 r c l hA hB (by omega) (F:=fun (i j:Nat)=>D4 c l (j:Int) (i:Int)) (fun _ _=>rfl) hp A 0 8 (by omega) (by omega)
  rw [Jm] at n
  exact n
theorem of.Part.inner (N:Nat) (r c:Int) (l:List Int) (x y:Int) {A B:Nat} (hA:A≤6) (hB:B≤6) {F:Nat→Nat→Int} (hF:∀ i j:Nat,F i j=D4 c l (x+(i:Int)) (y+(j:Int))) {i:Nat} (hi:i<A) (hp:∀ j:Nat,j<B→(Dq r c l (x+(i:Int)) (y+(j:Int))&&S4 x y (i:Int) (j:Int))=true):∀ (k j M0 M:Nat),j+k=B→k<M →
    Aa.of.Part.L1 N M0 M (A:Int) (B:Int) r c l x y (i:Int) (i:Int) (j:Int) (Bf i B F++(List.range j).map (F i))=Aa.of.Part.L0 N M0 (A:Int) (B:Int) r c l x y ((i+1:Nat):Int) (Bf (i+1) B F):=by
  intro k
  induction k with
  | zero =>
    intro j M0 M hj hM
    obtain ⟨M,rfl⟩:∃ G,M=G+1:=⟨M-1,by omega⟩
    obtain rfl:j=B:=by omega
    rw [Aa.of.Part.Cf,At,Auy (by omega),Aux,Al (by omega) (by omega),← Jn]
    rfl
  | succ k ih =>
    intro j M0 M hj hM
    obtain ⟨M,rfl⟩:∃ G,M=G+1:=⟨M-1,by omega⟩
    have d:decide ((Bf i B F++(List.range j).map (F i)).length+1≤Gd)=true:=by
      refine Auu ?_
      have:=Nat.mul_le_mul (show i≤6 by omega) hB
      rw [List.length_append,Bn,List.length_map,List.length_range]; unfold Gd; omega
    rw [Aa.of.Part.Cf,At,Auu (by omega),Aut,hp j (by omega),Aut,d,Aut,Al (by omega) (by omega),← hF i j]
    have:=ih (j+1) M0 M (by omega) (by omega)
    rw [Hy,← List.append_assoc] at this
    exact this
theorem of.Part.outer (N:Nat) (r c:Int) (l:List Int) (x y:Int) {A B:Nat} (hA:A≤6) (hB:B≤6) (hN:6<N) {F:Nat→Nat→Int} (hF:∀ i j:Nat,F i j=D4 c l (x+(i:Int)) (y+(j:Int))) (hp:∀ i j:Nat,i<A→j<B→(Dq r c l (x+(i:Int)) (y+(j:Int))&&S4 x y (i:Int) (j:Int))=true):∀ (k i M:Nat),i+k=A→k<M →
    Aa.of.Part.L0 N M (A:Int) (B:Int) r c l x y (i:Int) (Bf i B F)=some (.agg [.int .i64 (A:Int),.int .i64 (B:Int),.ints (.own 108002 tB) .u64 (Bf A B F)]):=by
  intro k
  induction k with
  | zero =>
    intro i M hi hM
    obtain ⟨M,rfl⟩:∃ G,M=G+1:=⟨M-1,by omega⟩
    obtain rfl:i=A:=by omega
    rw [Aa.of.Part.Au,At,Auy (by omega),Aux]
  | succ k ih =>
    intro i M hi hM
    obtain ⟨M,rfl⟩:∃ G,M=G+1:=⟨M-1,by omega⟩
    have n:=of.Part.inner N r c l x y hA hB hF (show i<A by omega) (fun j hj=>hp i j (by omega) hj) B 0 M N (by omega) (by omega)
    rw [List.range_zero,List.map_nil,List.append_nil] at n
    rw [Aa.of.Part.Au,At,Auu (by omega),Aut]
    exact n.trans (ih (i+1) M (by omega) (by omega))
theorem Aa.of.Part.known:Aa.of.Part.Kn:=Aa.of.Part.Ad (.cons Aa.Fa.known .nil) fun a b r c l x y hp=>by
  obtain ⟨h12,hy⟩:=Ae.1 (show (((Bg a&&Bg b)&&Av r c l)&&Li r c x y a b)=true from hp)
  obtain ⟨h1,hx⟩:=Ae.1 h12
  have h2:=Ae.2 ⟨hx,hy⟩
  obtain ⟨ha,hb⟩:=Ae.1 h1
  obtain ⟨A,rfl,hA⟩:=Eu ha
  obtain ⟨B,rfl,hB⟩:=Eu hb
  obtain ⟨hr,he⟩:=Ae.1 h2
  have he:=of_decide_eq_true he
  have hs:=Hf.1 hr
  have hp:∀ i j:Nat,i<A→j<B→(Dq r c l (x+(i:Int)) (y+(j:Int))&&S4 x y (i:Int) (j:Int))=true:=fun i j hi hj =>
    Ae.2 ⟨Im hr (by omega) (by omega) (by omega) (by omega) r,Aq.2 (by omega)⟩
  refine ⟨8,.agg [.int .i64 (A:Int),.int .i64 (B:Int),.ints (.own 108002 tB) .u64 (Bf A B fun (i j:Nat)=>D4 c l (x+(i:Int)) (y+(j:Int)))],[108002],?_,Wk.H0 (.cons .int (.cons .int (.cons (.drop _ _ _ _ (List.mem_singleton.2 rfl)) .nil)))⟩
  rw [Aa.of.Part.ev]
  have n:=of.Part.outer 8 r c l x y hA hB (by omega) (F:=fun (i j:Nat)=>D4 c l (x+(i:Int)) (y+(j:Int))) (fun _ _=>rfl) hp A 0 8 (by omega) (by omega)
  rw [Jm] at n
  exact n
theorem of.Stack.inner (N:Nat) (r c:Int) (l:List Int) (p q:Int) (m:List Int) {A B:Nat} (hA:A≤6) (hB:B≤6) {F:Nat→Nat→Int} (hF:∀ i j:Nat,F i j=Hp r c l q m (i:Int) (j:Int)) {i:Nat} (hi:i<A) (hp:∀ j:Nat,j<B→Lf r c l p q m (i:Int) (j:Int)=true):∀ (k j M0 M:Nat),j+k=B→k<M →
    Aa.of.Stack.L1 N M0 M (A:Int) (B:Int) r c l p q m (i:Int) (i:Int) (j:Int) (Bf i B F++(List.range j).map (F i))=Aa.of.Stack.L0 N M0 (A:Int) (B:Int) r c l p q m ((i+1:Nat):Int) (Bf (i+1) B F):=by
  intro k
  induction k with
  | zero =>
    intro j M0 M hj hM
    obtain ⟨M,rfl⟩:∃ G,M=G+1:=⟨M-1,by omega⟩
    obtain rfl:j=B:=by omega
    rw [Aa.of.Stack.Cf,At,Auy (by omega),Aux,Al (by omega) (by omega),← Jn]
    rfl
  | succ k ih =>
    intro j M0 M hj hM
    obtain ⟨M,rfl⟩:∃ G,M=G+1:=⟨M-1,by omega⟩
    have d:decide ((Bf i B F++(List.range j).map (F i)).length+1≤Gd)=true:=by
      refine Auu ?_
      have:=Nat.mul_le_mul (show i≤6 by omega) hB
      rw [List.length_append,Bn,List.length_map,List.length_range]; unfold Gd; omega
    rw [Aa.of.Stack.Cf,At,Auu (by omega),Aut,hp j (by omega),Aut,d,Aut,Al (by omega) (by omega),← hF i j]
    have:=ih (j+1) M0 M (by omega) (by omega)
    rw [Hy,← List.append_assoc] at this
    exact this
theorem of.Stack.outer (N:Nat) (r c:Int) (l:List Int) (p q:Int) (m:List Int) {A B:Nat} (hA:A≤6) (hB:B≤6) (hN:6<N) {F:Nat→Nat→Int} (hF:∀ i j:Nat,F i j=Hp r c l q m (i:Int) (j:Int)) (hp:∀ i j:Nat,i<A→j<B→Lf r c l p q m (i:Int) (j:Int)=true):∀ (k i M:Nat),i+k=A→k<M →
    Aa.of.Stack.L0 N M (A:Int) (B:Int) r c l p q m (i:Int) (Bf i B F)=some (.agg [.int .i64 (A:Int),.int .i64 (B:Int),.ints (.own 108002 tB) .u64 (Bf A B F)]):=by
  intro k
  induction k with
  | zero =>
    intro i M hi hM
    obtain ⟨M,rfl⟩:∃ G,M=G+1:=⟨M-1,by omega⟩
    obtain rfl:i=A:=by omega
    rw [Aa.of.Stack.Au,At,Auy (by omega),Aux]
  | succ k ih =>
    intro i M hi hM
    obtain ⟨M,rfl⟩:∃ G,M=G+1:=⟨M-1,by omega⟩
    have n:=of.Stack.inner N r c l p q m hA hB hF (show i<A by omega) (fun j hj=>hp i j (by omega) hj) B 0 M N (by omega) (by omega)
    rw [List.range_zero,List.map_nil,List.append_nil] at n
    rw [Aa.of.Stack.Au,At,Auu (by omega),Aut]
    exact n.trans (ih (i+1) M (by omega) (by omega))
theorem Aa.of.Stack.known:Aa.of.Stack.Kn:=Aa.of.Stack.Ad (.cons Aa.Ea.known .nil) fun a b r c l p q m hp=>by
  obtain ⟨h12,hy⟩:=Ae.1 (show (((Bg a&&Bg b)&&(Av r c l&&Av p q m))&&decide (a=r+p∧b=c∧q=c))=true from hp)
  obtain ⟨h1,hx⟩:=Ae.1 h12
  have h2:=Ae.2 ⟨hx,hy⟩
  obtain ⟨ha,hb⟩:=Ae.1 h1
  obtain ⟨A,rfl,hA⟩:=Eu ha
  obtain ⟨B,rfl,hB⟩:=Eu hb
  obtain ⟨h3,he⟩:=Ae.1 h2
  obtain ⟨hr,hm⟩:=Ae.1 h3
  obtain ⟨e1,e2,e3⟩:=of_decide_eq_true he
  have hs:=Hf.1 hr
  have hp:∀ i j:Nat,i<A→j<B→Lf r c l p q m (i:Int) (j:Int)=true:=fun i j hi hj=>by
    refine Aq.2 ⟨by omega,by omega,by omega,by omega,?_⟩
    by_cases h:(i:Int)<r
    · rw [if_pos h]; exact Im hr (by omega) (by omega) (by omega) (by omega) r
    · rw [if_neg h]; exact Im hm (by omega) (by omega) (by omega) (by omega) p
  refine ⟨8,.agg [.int .i64 (A:Int),.int .i64 (B:Int),.ints (.own 108002 tB) .u64 (Bf A B fun (i j:Nat)=>Hp r c l q m (i:Int) (j:Int))],[108002],?_,Wk.H0 (.cons .int (.cons .int (.cons (.drop _ _ _ _ (List.mem_singleton.2 rfl)) .nil)))⟩
  rw [Aa.of.Stack.ev]
  have n:=of.Stack.outer 8 r c l p q m hA hB (by omega) (F:=fun (i j:Nat)=>Hp r c l q m (i:Int) (j:Int)) (fun _ _=>rfl) hp A 0 8 (by omega) (by omega)
  rw [Jm] at n
  exact n
theorem of.Mul.inner (N:Nat) (r c:Int) (l:List Int) (p q:Int) (m:List Int) {A B:Nat} (hA:A≤6) (hB:B≤6) {F:Nat→Nat→Int} (hF:∀ i j:Nat,F i j=Lw (It c l (i:Int)) (Mk p q m (j:Int))) {i:Nat} (hi:i<A) (hp:∀ j:Nat,j<B→Qs r c l p q m (i:Int) (j:Int)=true):∀ (k j M0 M:Nat),j+k=B→k<M →
    Aa.of.Mul.L1 N M0 M (A:Int) (B:Int) r c l p q m (i:Int) (i:Int) (j:Int) (Bf i B F++(List.range j).map (F i))=Aa.of.Mul.L0 N M0 (A:Int) (B:Int) r c l p q m ((i+1:Nat):Int) (Bf (i+1) B F):=by
  intro k
  induction k with
  | zero =>
    intro j M0 M hj hM
    obtain ⟨M,rfl⟩:∃ G,M=G+1:=⟨M-1,by omega⟩
    obtain rfl:j=B:=by omega
    rw [Aa.of.Mul.Cf,At,Auy (by omega),Aux,Al (by omega) (by omega),← Jn]
    rfl
  | succ k ih =>
    intro j M0 M hj hM
    obtain ⟨M,rfl⟩:∃ G,M=G+1:=⟨M-1,by omega⟩
    have d:decide ((Bf i B F++(List.range j).map (F i)).length+1≤Gd)=true:=by
      refine Auu ?_
      have:=Nat.mul_le_mul (show i≤6 by omega) hB
      rw [List.length_append,Bn,List.length_map,List.length_range]; unfold Gd; omega
    rw [Aa.of.Mul.Cf,At,Auu (by omega),Aut,hp j (by omega),Aut,d,Aut,Al (by omega) (by omega),← hF i j]
    have:=ih (j+1) M0 M (by omega) (by omega)
    rw [Hy,← List.append_assoc] at this
    exact this
theorem of.Mul.outer (N:Nat) (r c:Int) (l:List Int) (p q:Int) (m:List Int) {A B:Nat} (hA:A≤6) (hB:B≤6) (hN:6<N) {F:Nat→Nat→Int} (hF:∀ i j:Nat,F i j=Lw (It c l (i:Int)) (Mk p q m (j:Int))) (hp:∀ i j:Nat,i<A→j<B→Qs r c l p q m (i:Int) (j:Int)=true):∀ (k i M:Nat),i+k=A→k<M →
    Aa.of.Mul.L0 N M (A:Int) (B:Int) r c l p q m (i:Int) (Bf i B F)=some (.agg [.int .i64 (A:Int),.int .i64 (B:Int),.ints (.own 108002 tB) .u64 (Bf A B F)]):=by
  intro k
  induction k with
  | zero =>
    intro i M hi hM
    obtain ⟨M,rfl⟩:∃ G,M=G+1:=⟨M-1,by omega⟩
    obtain rfl:i=A:=by omega
    rw [Aa.of.Mul.Au,At,Auy (by omega),Aux]
  | succ k ih =>
    intro i M hi hM
    obtain ⟨M,rfl⟩:∃ G,M=G+1:=⟨M-1,by omega⟩
    have n:=of.Mul.inner N r c l p q m hA hB hF (show i<A by omega) (fun j hj=>hp i j (by omega) hj) B 0 M N (by omega) (by omega)
    rw [List.range_zero,List.map_nil,List.append_nil] at n
    rw [Aa.of.Mul.Au,At,Auu (by omega),Aut]
    exact n.trans (ih (i+1) M (by omega) (by omega))
theorem Aa.of.Mul.known:Aa.of.Mul.Kn:=Aa.of.Mul.Ad (.cons Aa.G1.known .nil) fun a b r c l p q m hp=>by
  obtain ⟨h12,hy⟩:=Ae.1 (show (((Bg a&&Bg b)&&((Av r c l&&Av p q m)&&(Ah l&&Ah m)))&&decide (a=r∧b=q∧c=p))=true from hp)
  obtain ⟨h1,hx⟩:=Ae.1 h12
  have h2:=Ae.2 ⟨hx,hy⟩
  obtain ⟨ha,hb⟩:=Ae.1 h1
  obtain ⟨A,rfl,hA⟩:=Eu ha
  obtain ⟨B,rfl,hB⟩:=Eu hb
  obtain ⟨h3,he⟩:=Ae.1 h2
  obtain ⟨h4,h5⟩:=Ae.1 h3
  obtain ⟨hr,hm⟩:=Ae.1 h4
  obtain ⟨e1,e2,e3⟩:=of_decide_eq_true he
  have hp:∀ i j:Nat,i<A→j<B→Qs r c l p q m (i:Int) (j:Int)=true:=fun i j hi hj =>
    Ae.2 ⟨Ae.2 ⟨Ae.2 ⟨hr,Aq.2 (by omega)⟩,Ae.2 ⟨hm,Aq.2 (by omega)⟩⟩,Ae.2 ⟨h5,Aq.2 e3⟩⟩
  refine ⟨8,.agg [.int .i64 (A:Int),.int .i64 (B:Int),.ints (.own 108002 tB) .u64 (Bf A B fun (i j:Nat)=>Lw (It c l (i:Int)) (Mk p q m (j:Int)))],[108002],?_,Wk.H0 (.cons .int (.cons .int (.cons (.drop _ _ _ _ (List.mem_singleton.2 rfl)) .nil)))⟩
  rw [Aa.of.Mul.ev]
  have n:=of.Mul.outer 8 r c l p q m hA hB (by omega) (F:=fun (i j:Nat)=>Lw (It c l (i:Int)) (Mk p q m (j:Int))) (fun _ _=>rfl) hp A 0 8 (by omega) (by omega)
  rw [Jm] at n
  exact n
open EqOf
def Qq (x:MX):DV:=.tup [.agg [.int .i64 x.1,.int .i64 x.2.1,.ints .fresh .u64 x.2.2.1],.int .i64 x.2.2.2]
def Ad6 (e:Int):DV:=.tup [.agg [.int .i64 0,.int .i64 0,.nil],.int .i64 e]
theorem Mc {drops:List Nat} {x:MX}:Wk drops (Qq x) (Qq x) :=
  Wk.Gu (.cons (Wk.H0 (.cons .int (.cons .int (.cons .No .nil)))) (.cons .int .nil))
theorem Hs {drops:List Nat} {e:Int}:Wk drops (Ad6 e) (Qq (I7 e)) :=
  Wk.Gu (.cons (Wk.H0 (.cons .int (.cons .int (.cons (.nil _ _) .nil)))) (.cons .int .nil))
theorem Aa.Et.known:Aa.Et.Kn:=Aa.Et.Ad (.cons Aa.of.Et.known (.cons Aa.size.known .nil)) fun n _=>by
  show ∃ N dv drops,_=some dv∧Wk drops dv (Qq (Lm n))
  unfold Lm
  by_cases h:Bg n=true
  · rw [if_pos h]
    exact ⟨0,_,[],by rw [Aa.Et.ev,h]; rfl,Mc⟩
  · have e:Bg n=false:=by simpa using h
    rw [if_neg h]
    exact ⟨0,_,[],by rw [Aa.Et.ev,e]; rfl,Hs⟩
theorem Fg {r c:Int} {l:List Int} (h:Av r c l=true):Bg r=true∧Bg c=true:=by
  obtain ⟨h1,h2,_⟩:=Hf.1 h
  exact ⟨G6.2 h1,G6.2 h2⟩
theorem Aa.Dn.known:Aa.Dn.Kn:=Aa.Dn.Ad (.cons Aa.Check.known (.cons Aa.of.Dn.known .nil)) fun r c l _=>by
  show ∃ N dv drops,_=some dv∧Wk drops dv (Qq (Ck r c l))
  unfold Ck
  by_cases h:Av r c l=true
  · obtain ⟨h1,h2⟩:=Fg h
    rw [if_pos h]
    exact ⟨0,_,[],by rw [Aa.Dn.ev,Q2,h,h1,h2,Auu ⟨rfl,rfl⟩]; rfl,Mc⟩
  · have e:Av r c l=false:=by simpa using h
    have ec:Jp r c l=1:=by unfold Jp; rw [e]; rfl
    rw [if_neg h]
    exact ⟨0,_,[],by rw [Aa.Dn.ev,Q2,e,ec]; rfl,Hs⟩
theorem Xy {r c x y a b:Int} (hr:0≤r∧r≤6) (hc:0≤c∧c≤6) :
    ((((((((A2 x (0:Int))||(A2 y (0:Int)))||(A2 a (0:Int)))||(A2 b (0:Int)))||(A2 r x))||(A2 c y))||(A2 (Ab (r-x)) a))||(A2 (Ab (c-y)) b))=!(Li r c x y a b):=by
  unfold Li
  simp only [At]
  by_cases h:0≤x∧0≤y∧x≤r∧y≤c
  · rw [Al (x:=r-x) (by omega) (by omega),Al (x:=c-y) (by omega) (by omega),Au9]
    simp only [Bool.or_eq_true,Au0,Bool.not_eq_true',Avc]
    omega
  · have e:decide (0≤x∧0≤y∧0≤a∧0≤b∧x≤r∧y≤c∧a≤r-x∧b≤c-y)=false:=Auy (by omega)
    rw [e,Au9]
    simp only [Bool.or_eq_true,Au0,Bool.not_false,iff_true]
    omega
theorem Ad0 {r c x y a b:Int} {l:List Int} (h:Av r c l=true) (hp:Li r c x y a b=true):Bg a=true∧Bg b=true:=by
  obtain ⟨h1,h2,_⟩:=Hf.1 h
  have:=of_decide_eq_true hp
  exact ⟨G6.2 (by omega),G6.2 (by omega)⟩
theorem Aa.Part.known:Aa.Part.Kn:=Aa.Part.Ad (.cons Aa.Check.known (.cons Aa.of.Part.known .nil)) fun r c l x y a b _=>by
  show ∃ N dv drops,_=some dv∧Wk drops dv (Qq (Ey r c l x y a b))
  unfold Ey
  by_cases h:Av r c l=true
  · obtain ⟨h1,h2,_⟩:=Hf.1 h
    by_cases hp:Li r c x y a b=true
    · obtain ⟨s1,s2⟩:=Ad0 h hp
      rw [if_pos h,if_pos hp]
      exact ⟨0,_,[],by rw [Aa.Part.ev,Q2,Xy h1 h2,h,hp,s1,s2]; rfl,Mc⟩
    · have e:Li r c x y a b=false:=by simpa using hp
      rw [if_pos h,if_neg hp]
      exact ⟨0,_,[],by rw [Aa.Part.ev,Q2,Xy h1 h2,h,e]; rfl,Hs⟩
  · have e:Av r c l=false:=by simpa using h
    have ec:Jp r c l=1:=by unfold Jp; rw [e]; rfl
    rw [if_neg h]
    exact ⟨0,_,[],by rw [Aa.Part.ev,Q2,e,ec]; rfl,Hs⟩
theorem Nb (r c:Int) (l:List Int) (p q:Int) (m:List Int):((Su r c l p q m) !=(0:Int))=!(Av r c l&&Av p q m):=by
  unfold Su
  cases Av r c l&&Av p q m<;>rfl
theorem Ade {r c:Int} {l:List Int} {p q:Int} {m:List Int} (h:(Av r c l&&Av p q m)=false):Su r c l p q m=1:=by
  unfold Su; rw [h]; rfl
theorem Aa.Mul.known:Aa.Mul.Kn:=Aa.Mul.Ad (.cons Aa.of.Mul.known (.cons Aa.two.known .nil)) fun r c l p q m hp=>by
  show ∃ N dv drops,_=some dv∧Wk drops dv (Qq (En r c l p q m))
  unfold En
  have hp:(Ah l&&Ah m)=true:=hp
  by_cases h:(Av r c l&&Av p q m)=true
  · obtain ⟨h1,h2⟩:=Ae.1 h
    by_cases hc:c=p
    · have e:(c !=p)=false:=by rw [hc]; simp
      rw [if_pos h,if_pos hc]
      exact ⟨0,_,[],by rw [Aa.Mul.ev,Nb,h,e,(Fg h1).1,(Fg h2).2,hp,Auu ⟨rfl,rfl,hc⟩]; rfl,Mc⟩
    · have e:(c !=p)=true:=by simpa using hc
      rw [if_pos h,if_neg hc]
      exact ⟨0,_,[],by rw [Aa.Mul.ev,Nb,h,e]; rfl,Hs⟩
  · have e:(Av r c l&&Av p q m)=false:=by simpa using h
    rw [if_neg h]
    exact ⟨0,_,[],by rw [Aa.Mul.ev,Nb,e,Ade e]; rfl,Hs⟩
theorem Aa.Stack.known:Aa.Stack.Kn:=Aa.Stack.Ad (.cons Aa.of.Stack.known (.cons Aa.two.known .nil)) fun r c l p q m _=>by
  show ∃ N dv drops,_=some dv∧Wk drops dv (Qq (B6 r c l p q m))
  unfold B6
  by_cases h:(Av r c l&&Av p q m)=true
  · obtain ⟨h1,h2⟩:=Ae.1 h
    obtain ⟨r1,c1,_⟩:=Hf.1 h1
    obtain ⟨p1,q1,_⟩:=Hf.1 h2
    have ew:Ab (r+p)=r+p:=Al (by omega) (by omega)
    by_cases hc:c=q∧r+p≤6
    · have e:((c !=q)||(A2 (6:Int) (r+p)))=false:=by rw [At,hc.1]; simp; omega
      rw [if_pos h,if_pos hc]
      exact ⟨0,_,[],by rw [Aa.Stack.ev,ew,Nb,h,e,(Fg h1).2,G6.2 (show 0≤r+p∧r+p≤6 by omega),Auu ⟨rfl,rfl,hc.1.symm⟩]; rfl,Mc⟩
    · have e:((c !=q)||(A2 (6:Int) (r+p)))=true:=by rw [At]; simp; omega
      rw [if_pos h,if_neg hc]
      exact ⟨0,_,[],by rw [Aa.Stack.ev,ew,Nb,h,e]; rfl,Hs⟩
  · have e:(Av r c l&&Av p q m)=false:=by simpa using h
    rw [if_neg h]
    exact ⟨0,_,[],by rw [Aa.Stack.ev,Nb,e,Ade e]; rfl,Hs⟩
namespace EqRef10
def Bl.Gh.Bb:List (Nat × Entry):=[]
def Bl.Gh.E:Env:=Bc (Ba Bl.Gh.Bb) (fun _=>false) (fun _=>none) (fun _=>none)
theorem Bl.Gh.ev (N:Nat) (r c:Int) (l:List Int):Bw Bl.Gh.E N Tryz.f91 (Am Tryz.f91) [.agg [.int .i64 r,.int .i64 c,.ints .arg .u64 l]]=some (.bool (bif (bif (bif (bif (D1 0 r) then (D1 r 6) else false) then (D1 0 c) else false) then (D1 c 6) else false) then ((List.length l:Int)==(Ab (r*c))) else false)) :=
  Eq.trans (by kernel_rfl)
  (Ap (N4 (D1 0 r)) (Ap (Ki (D1 0 r)) (Ap (Ki (D1 0 r)) (Ap (Sr (D1 0 r)) (Ap (As8 (D1 0 r) (D1 r 6)) (Ap (Ajh (D1 0 r) (D1 r 6)) (Ap (Ajh (D1 0 r) (D1 r 6)) (Ap (As9 (D1 0 r) (D1 r 6)) (Ap (tt74 (D1 0 r) (D1 r 6) (D1 0 c)) (Ap (Ata (D1 0 r) (D1 r 6) (D1 0 c)) (Ap (Ata (D1 0 r) (D1 r 6) (D1 0 c)) (Ap (tt72 (D1 0 r) (D1 r 6) (D1 0 c)) (Ap (Aqs (D1 0 r) (D1 r 6) (D1 0 c) (D1 c 6)) (Ap (Ani (D1 0 r) (D1 r 6) (D1 0 c) (D1 c 6)) (Ap (Ani (D1 0 r) (D1 r 6) (D1 0 c) (D1 c 6)) (Ap (Aqs (D1 0 r) (D1 r 6) (D1 0 c) (D1 c 6)) (Ap (Ani (D1 0 r) (D1 r 6) (D1 0 c) (D1 c 6)) (Ap (Aqs (D1 0 r) (D1 r 6) (D1 0 c) (D1 c 6)) (Ap (Ani (D1 0 r) (D1 r 6) (D1 0 c) (D1 c 6)) (Ap (Atb (D1 0 r) (D1 r 6) (D1 0 c) (D1 c 6)) (Ap (Atb (D1 0 r) (D1 r 6) (D1 0 c) (D1 c 6)) (Ap (tt68 (D1 0 r) (D1 r 6) (D1 0 c) (D1 c 6)) rfl))))))))))))))))))))))
abbrev _root_.Go.Proofs.S1.Bl.Gh.Kn:=A6 Tryz.prog 91 Bl.Gh.spec
theorem Bl.Gh.Ad (hk:A0 Tryz.prog Bl.Gh.Bb) (h:∀ (r c:Int) (l:List Int),Bl.Gh.pre [.i r,.i c,.l l]=true→Be Bl.Gh.E Tryz.f91 [.agg [.int .i64 r,.int .i64 c,.ints .arg .u64 l]] (Bl.Gh.out [.i r,.i c,.l l])):Bl.Gh.Kn :=
  Ak (A1 hk _ _ _) Tryz.func91 (by kernel_rfl) (by kernel_rfl) h
def Bl.Bq.Bb:List (Nat × Entry):=[]
def Bl.Bq.E:Env:=Bc (Ba Bl.Bq.Bb) (fun _=>false) (fun _=>none) (fun _=>none)
theorem Bl.Bq.ev (N:Nat) (a b:Int):Bw Bl.Bq.E N Tryz.f35 (Am Tryz.f35) [.int .i64 a,.int .i64 b]=bif (((decide ((0:Int)≤(Ab (a*b))))&&(decide ((Ab (a*b))≤(Ab (a*b)))))&&(decide ((Ab (a*b))≤Gd))) then some (.agg [.int .i64 a,.int .i64 b,.ints (.own 10 37) .u64 (List.replicate (Int.toNat (Ab (a*b))) 0)]) else none:=by kernel_rfl
abbrev _root_.Go.Proofs.S1.Bl.Bq.Kn:=A6 Tryz.prog 35 Bl.Bq.spec
theorem Bl.Bq.Ad (hk:A0 Tryz.prog Bl.Bq.Bb) (h:∀ (a b:Int),Bl.Bq.pre [.i a,.i b]=true→Be Bl.Bq.E Tryz.f35 [.int .i64 a,.int .i64 b] (Bl.Bq.out [.i a,.i b])):Bl.Bq.Kn :=
  Ak (A1 hk _ _ _) Tryz.func35 (by kernel_rfl) (by kernel_rfl) h
def Bl.Lt.Bb:List (Nat × Entry):=[]
def Bl.Lt.E:Env:=Bc (Ba Bl.Lt.Bb) (fun _=>false) (fun _=>none) (fun _=>none)
theorem Bl.Lt.ev (N:Nat) (r c:Int) (l:List Int) (i k b:Int):Bw Bl.Lt.E N Tryz.f83 (Am Tryz.f83) [.agg [.int .i64 r,.int .i64 c,.ints .arg .u64 l],.int .i64 i,.int .i64 k,.int .u64 b]=bif (decide (0+(List.length l)≤Gd)) then bif ((decide (0≤(Ab ((Ab (i*c))+k))))&&(decide ((Ab ((Ab (i*c))+k))<(List.length ([]++l):Int)))) then bif (decide ((Int.toNat (Ab ((Ab (i*c))+k)))<(List.length ([]++l)))) then some (.agg [.int .i64 r,.int .i64 c,.ints (.own 13 37) .u64 (List.set ([]++l) (Int.toNat (Ab ((Ab (i*c))+k))) b)]) else none else none else none:=by kernel_rfl
abbrev _root_.Go.Proofs.S1.Bl.Lt.Kn:=A6 Tryz.prog 83 Bl.Lt.spec
theorem Bl.Lt.Ad (hk:A0 Tryz.prog Bl.Lt.Bb) (h:∀ (r c:Int) (l:List Int) (i k b:Int),Bl.Lt.pre [.i r,.i c,.l l,.i i,.i k,.i b]=true→Be Bl.Lt.E Tryz.f83 [.agg [.int .i64 r,.int .i64 c,.ints .arg .u64 l],.int .i64 i,.int .i64 k,.int .u64 b] (Bl.Lt.out [.i r,.i c,.l l,.i i,.i k,.i b])):Bl.Lt.Kn :=
  Ak (A1 hk _ _ _) Tryz.func83 (by kernel_rfl) (by kernel_rfl) h
def Bl.Et.hint:Nat→Option A8
  | 0=>some { keep:=[0,2,3,4],objs:=[],boxes:=[2,3] }
  | _=>none
def Bl.Et.Bb:List (Nat × Entry):=[(83,Bl.Lt.spec),(35,Bl.Bq.spec)]
def Bl.Et.E:Env:=Bc (Ba Bl.Et.Bb) (fun _=>false) Bl.Et.hint (fun _=>none)
def Bl.Et.L0 (N M:Nat) (n p4:Int) (p3:List Int):Option DV:=B3 Bl.Et.E N Tryz.f33 (Am Tryz.f33) [1,1,0,1,0] [] M ⟨Gb 18 [(0,.int .i64 n),(2,.ptr 2 0 0),(3,.ptr 3 0 0),(4,.int .i64 p4)],[(2,false,.box [.int .i64 0,.int .i64 0,.nil]),(3,false,.box [.int .i64 n,.int .i64 n,.ints .fresh .u64 p3])]⟩
theorem Bl.Et.Au (N M:Nat) (n p4:Int) (p3:List Int):Bl.Et.L0 N (M+1) n p4 p3=bif (A2 p4 n) then bif (Dq n n p3 p4 p4) then Bl.Et.L0 N M n (Ab (p4+1)) (List.set p3 (Int.toNat (p4*n+p4)) 4607182418800017408) else none else some (.agg [.int .i64 n,.int .i64 n,.ints .fresh .u64 p3]):=by kernel_rfl
theorem Bl.Et.ev (N:Nat) (n:Int):Bw Bl.Et.E N Tryz.f33 (Am Tryz.f33) [.int .i64 n]=bif (Bg n&&Bg n) then Bl.Et.L0 N N n 0 (Bf (Int.toNat n) (Int.toNat n) (fun _ _=>0)) else none:=by kernel_rfl
abbrev _root_.Go.Proofs.S1.Bl.Et.Kn:=A6 Tryz.prog 33 Bl.Et.spec
theorem Bl.Et.Ad (hk:A0 Tryz.prog Bl.Et.Bb) (h:∀ (n:Int),Bl.Et.pre [.i n]=true→Be Bl.Et.E Tryz.f33 [.int .i64 n] (Bl.Et.out [.i n])):Bl.Et.Kn :=
  Ak (A1 hk _ _ _) Tryz.func33 (by kernel_rfl) (by kernel_rfl) h
end EqRef10
open EqRef10
theorem Bl.Gh.known:Bl.Gh.Kn:=Bl.Gh.Ad .nil fun r c l _=>by
  refine ⟨0,Bl.Gh.out [.i r,.i c,.l l],[],?_,.bool⟩
  have e:(bif (bif (bif (bif (D1 (0:Int) r) then (D1 r (6:Int)) else false) then (D1 (0:Int) c) else false) then (D1 c (6:Int)) else false) then ((List.length l:Int)==(Ab (r*c))) else false)=Av r c l:=by
    have:=Acw r c l
    have h:(bif (bif (bif (bif (D1 (0:Int) r) then (D1 r (6:Int)) else false) then (D1 (0:Int) c) else false) then (D1 c (6:Int)) else false) then ((List.length l:Int)==(Ab (r*c))) else false)=!(((!(Bg r))||(!(Bg c)))||((List.length l:Int) !=(Ab (r*c)))):=by
      unfold Bg bne
      rw [Ej,Ej,Ej,Ej]
      cases decide (0≤r)<;>cases decide (r≤6)<;>cases decide (0≤c)<;>cases decide (c≤6)<;>cases ((List.length l:Int)==(Ab (r*c)))<;>rfl
    rw [h,this,Bool.not_not]
  rw [Bl.Gh.ev,e]; rfl
theorem Vh {drops:List Nat} {i:Nat} {e:TypeId} {a b:Int} {l:List Int} (h:i∈drops):Wk drops (.agg [.int .i64 a,.int .i64 b,.ints (.own i e) .u64 l]) (.agg [.int .i64 a,.int .i64 b,.ints .fresh .u64 l]) :=
  Wk.H0 (.cons .int (.cons .int (.cons (.drop _ _ _ _ h) .nil)))
theorem Ai3 {drops:List Nat} {a b:Int} {l:List Int}:Wk drops (.agg [.int .i64 a,.int .i64 b,.ints .fresh .u64 l]) (.agg [.int .i64 a,.int .i64 b,.ints .fresh .u64 l]) :=
  Wk.H0 (.cons .int (.cons .int (.cons .No .nil)))
theorem Bl.Bq.known:Bl.Bq.Kn:=Bl.Bq.Ad .nil fun a b hp=>by
  obtain ⟨ha,hb⟩:=Ae.1 (show (Bg a&&Bg b)=true from hp)
  obtain ⟨A,rfl,hA⟩:=Eu ha
  obtain ⟨B,rfl,hB⟩:=Eu hb
  have hm:=K7 (a:=(A:Int)) (b:=(B:Int)) (by omega) (by omega) (by omega) (by omega)
  have e:((A:Int)*(B:Int)).toNat=A*B:=by rw [← Ave,Auv]
  refine ⟨0,.agg [.int .i64 (A:Int),.int .i64 (B:Int),.ints (.own 10 tB) .u64 (Bf A B fun _ _=>0)],[10],?_,Vh (List.mem_singleton.2 rfl)⟩
  rw [Bl.Bq.ev,Al (by omega) (by omega),Auu hm.1,Auu (Int.le_refl _),Auu (show (A:Int)*(B:Int)≤(Gd:Int) by unfold Gd; omega),e,Aeq]
  rfl
theorem Bl.Lt.known:Bl.Lt.Kn:=Bl.Lt.Ad .nil fun r c l i k b hp=>by
  obtain ⟨_,_,_,_,_,_,_,h8⟩:=Aq.1 (show Dq r c l i k=true from hp)
  obtain ⟨e,g1,g2⟩:=Gy (R:=r) (show Dq r c l i k=true from hp)
  refine ⟨0,.agg [.int .i64 r,.int .i64 c,.ints (.own 13 tB) .u64 (List.set l (i*c+k).toNat b)],[13],?_,Vh (List.mem_singleton.2 rfl)⟩
  rw [Bl.Lt.ev,e,List.nil_append,Auu (show 0+l.length≤Gd by unfold Gd; omega),Auu g1,Auu g2,Auu (show (i*c+k).toNat<l.length by omega)]
  rfl
theorem Wu {r c i k:Nat} (hk:k<c) {d d':Nat→Nat→Bool} {f:Nat→Nat→Int} {x:Int} (hx:x=f i k)
    (h:∀ a b,a<r→b<c→(d' a b=true↔d a b=true∨(a=i∧b=k))) :
    List.set (Bf r c fun a b=>if d a b=true then f a b else 0) (Int.toNat ((i:Int)*(c:Int)+(k:Int))) x=Bf r c fun a b=>if d' a b=true then f a b else 0:=by
  have e:((i:Int)*(c:Int)+(k:Int)).toNat=i*c+k:=by rw [← Ave,← Int.natCast_add,Auv]
  rw [e,Sf hk]
  refine C2 fun a b ha hb=>?_
  have h:=h a b ha hb
  by_cases hab:a=i∧b=k
  · rw [if_pos hab,if_pos (h.2 (.inr hab)),hx,hab.1,hab.2]
  · rw [if_neg hab]
    by_cases hd:d a b=true
    · rw [if_pos hd,if_pos (h.2 (.inl hd))]
    · rw [if_neg hd,if_neg (fun k=>(h.1 k).elim hd hab)]
open EqRef10
def fill (r c:Nat) (f:Nat→Nat→Int) (d:Nat→Nat→Bool):List Int:=Bf r c fun a b=>if d a b=true then f a b else 0
theorem Acm (r c:Nat) (f:Nat→Nat→Int) (d:Nat→Nat→Bool):(fill r c f d).length=r*c:=Bn _ _ _
theorem Alv {r c i k:Nat} (hk:k<c) {d d':Nat→Nat→Bool} {f:Nat→Nat→Int} {x:Int} (hx:x=f i k) (h:∀ a b,a<r→b<c→(d' a b=true↔d a b=true∨(a=i∧b=k))) :
    List.set (fill r c f d) (Int.toNat ((i:Int)*(c:Int)+(k:Int))) x=fill r c f d':=Wu hk hx h
theorem Aij {r c:Nat} {f:Nat→Nat→Int} {d:Nat→Nat→Bool} (h:∀ a b,a<r→b<c→¬ d a b=true):fill r c f d=Bf r c fun _ _=>0 :=
  C2 fun a b ha hb=>by rw [if_neg (h a b ha hb)]
theorem Ao3 (N:Nat) {n:Nat} (h6:n≤6):∀ (k i M:Nat),i+k=n→k<M →
    Bl.Et.L0 N M (n:Int) (i:Int) (fill n n (fun (a b:Nat)=>Ca (a:Int) (b:Int)) fun a b=>decide (a=b∧a<i))=some (.agg [.int .i64 (n:Int),.int .i64 (n:Int),.ints .fresh .u64 (Bf n n fun (a b:Nat)=>Ca (a:Int) (b:Int))]):=by
  intro k
  induction k with
  | zero =>
    intro i M hi hM
    obtain ⟨M,rfl⟩:∃ G,M=G+1:=⟨M-1,by omega⟩
    have e:fill n n (fun (a b:Nat)=>Ca (a:Int) (b:Int)) (fun a b=>decide (a=b∧a<i))=Bf n n fun (a b:Nat)=>Ca (a:Int) (b:Int):=by
      refine C2 fun a b ha hb=>?_
      by_cases h:a=b
      · rw [if_pos (Auu ⟨h,by omega⟩)]
      · rw [if_neg (fun k=>h (of_decide_eq_true k).1)]
        unfold Ca
        rw [if_neg (by omega)]
    rw [Bl.Et.Au,At,Auy (by omega),Aux,e]
  | succ k ih =>
    intro i M hi hM
    obtain ⟨M,rfl⟩:∃ G,M=G+1:=⟨M-1,by omega⟩
    have c9:Dq (n:Int) (n:Int) (fill n n (fun (a b:Nat)=>Ca (a:Int) (b:Int)) fun a b=>decide (a=b∧a<i)) (i:Int) (i:Int)=true:=Ft h6 h6 (Acm _ _ _ _) (by omega) (by omega)
    have one:(4607182418800017408:Int)=(fun (a b:Nat)=>Ca (a:Int) (b:Int)) i i:=(if_pos rfl).symm
    rw [Bl.Et.Au,At,Auu (by omega),Aut,c9,Aut,Al (by omega) (by omega),Alv (d':=fun a b=>decide (a=b∧a<i+1)) (by omega) one (fun a b ha hb=>by simp only [Au0]; omega)]
    exact ih (i+1) M (by omega) (by omega)
theorem Bl.Et.known:Bl.Et.Kn:=Bl.Et.Ad (.cons Bl.Lt.known (.cons Bl.Bq.known .nil)) fun n hp=>by
  have hp:Bg n=true:=hp
  obtain ⟨n,rfl,h6⟩:=Eu hp
  refine ⟨8,.agg [.int .i64 (n:Int),.int .i64 (n:Int),.ints .fresh .u64 (Bf n n fun (a b:Nat)=>Ca (a:Int) (b:Int))],[],?_,Ai3⟩
  have e:=Ao3 8 h6 n 0 8 (by omega) (by omega)
  rw [Aij (fun a b ha hb=>by simp only [Au0]; omega)] at e
  rw [Bl.Et.ev,hp,Auz,Aut,Auv]
  exact e
namespace EqHouse
def An.Cz.hint:Nat→Option A8
  | 0=>some { keep:=[5,6,7],objs:=[],boxes:=[] }
  | _=>none
def An.Cz.Bb:List (Nat × Entry):=[(155,soft.Kind.spec)]
def An.Cz.E:Env:=Bc (Ba An.Cz.Bb) (fun _=>false) An.Cz.hint (fun _=>none)
def An.Cz.L0 (N M:Nat) (x:List Int) (p7:Int):Option DV:=B3 An.Cz.E N Tryz.f252 (Am Tryz.f252) [1,0,1,0] [] M ⟨Gb 15 [(5,.ints .arg .u64 x),(6,.int .i64 (List.length x:Int)),(7,.int .i64 p7)],[]⟩
theorem An.Cz.Au (N M:Nat) (x:List Int) (p7:Int):An.Cz.L0 N (M+1) x p7=bif (A2 p7 (List.length x:Int)) then bif ((decide (0≤p7))&&(decide (p7<(List.length x:Int)))) then bif (Ai (List.getD x (Int.toNat p7) 0)) then bif ((A3 (List.getD x (Int.toNat p7) 0)) !=(0:Int)) then some (.bool false) else An.Cz.L0 N M x (Ab (p7+1)) else none else none else some (.bool true):=by kernel_rfl
theorem An.Cz.ev (N:Nat) (x:List Int):Bw An.Cz.E N Tryz.f252 (Am Tryz.f252) [.ints .arg .u64 x] =
  An.Cz.L0 N N x 0:=by kernel_rfl
abbrev _root_.Go.Proofs.S1.An.Cz.Kn:=A6 Tryz.prog 252 An.Cz.spec
theorem An.Cz.Ad (hk:A0 Tryz.prog An.Cz.Bb) (h:∀ (x:List Int),An.Cz.pre [.l x]=true→Be An.Cz.E Tryz.f252 [.ints .arg .u64 x] (An.Cz.out [.l x])):An.Cz.Kn :=
  Ak (A1 hk _ _ _) Tryz.func252 (by kernel_rfl) (by kernel_rfl) h
def An.lead.hint:Nat→Option A8
  | 0=>some { keep:=[5,6,7],objs:=[],boxes:=[] }
  | _=>none
def An.lead.Bb:List (Nat × Entry):=[(155,soft.Kind.spec)]
def An.lead.E:Env:=Bc (Ba An.lead.Bb) (fun _=>false) An.lead.hint (fun _=>none)
def An.lead.L0 (N M:Nat) (x:List Int) (p7:Int):Option DV:=B3 An.lead.E N Tryz.f258 (Am Tryz.f258) [1,0,1,0] [] M ⟨Gb 16 [(5,.ints .arg .u64 x),(6,.int .i64 (List.length x:Int)),(7,.int .i64 p7)],[]⟩
theorem An.lead.Au (N M:Nat) (x:List Int) (p7:Int):An.lead.L0 N (M+1) x p7=bif (A2 p7 (List.length x:Int)) then bif ((decide (0≤p7))&&(decide (p7<(List.length x:Int)))) then bif (Ai (List.getD x (Int.toNat p7) 0)) then bif ((A3 (List.getD x (Int.toNat p7) 0)) !=(0:Int)) then some (.int .u64 (List.getD x (Int.toNat p7) 0)) else An.lead.L0 N M x (Ab (p7+1)) else none else none else some (.int .u64 0):=by kernel_rfl
theorem An.lead.ev (N:Nat) (x:List Int):Bw An.lead.E N Tryz.f258 (Am Tryz.f258) [.ints .arg .u64 x] =
  An.lead.L0 N N x 0:=by kernel_rfl
abbrev _root_.Go.Proofs.S1.An.lead.Kn:=A6 Tryz.prog 258 An.lead.spec
theorem An.lead.Ad (hk:A0 Tryz.prog An.lead.Bb) (h:∀ (x:List Int),An.lead.pre [.l x]=true→Be An.lead.E Tryz.f258 [.ints .arg .u64 x] (An.lead.out [.l x])):An.lead.Kn :=
  Ak (A1 hk _ _ _) Tryz.func258 (by kernel_rfl) (by kernel_rfl) h
def An.C3.hint:Nat→Option A8
  | 0=>some { keep:=[1,5,8,9,10],objs:=[(0,5,100005,.ints 37 .u64 [])],boxes:=[] }
  | _=>none
def An.C3.Bb:List (Nat × Entry):=[(88,Af.Bx.spec)]
def An.C3.E:Env:=Bc (Ba An.C3.Bb) (fun _=>false) An.C3.hint (fun _=>none)
def An.C3.L0 (N M:Nat) (x:List Int) (k p10:Int) (p5:List Int):Option DV:=B3 An.C3.E N Tryz.f256 (Am Tryz.f256) [1,1,0,1,0] [] M ⟨Gb 22 [(1,.int .i64 k),(5,.oref 100005),(8,.ints .arg .u64 x),(9,.int .i64 (List.length x:Int)),(10,.int .i64 p10)],[(100005,false,.ints 37 .u64 p5)]⟩
theorem An.C3.Au (N M:Nat) (x:List Int) (k p10:Int) (p5:List Int):An.C3.L0 N (M+1) x k p10 p5=bif (A2 p10 (List.length x:Int)) then bif ((decide (0≤p10))&&(decide (p10<(List.length x:Int)))) then bif (E0 (List.getD x (Int.toNat p10) 0) k) then bif (decide ((List.length p5)+1≤Gd)) then An.C3.L0 N M x k (Ab (p10+1)) (p5++[(Ch (List.getD x (Int.toNat p10) 0) k)]) else none else none else none else some (.ints (.own 100005 37) .u64 p5):=by kernel_rfl
theorem An.C3.ev (N:Nat) (x:List Int) (k:Int):Bw An.C3.E N Tryz.f256 (Am Tryz.f256) [.ints .arg .u64 x,.int .i64 k] =
  An.C3.L0 N N x k 0 []:=by kernel_rfl
abbrev _root_.Go.Proofs.S1.An.C3.Kn:=A6 Tryz.prog 256 An.C3.spec
theorem An.C3.Ad (hk:A0 Tryz.prog An.C3.Bb) (h:∀ (x:List Int) (k:Int),An.C3.pre [.l x,.i k]=true→Be An.C3.E Tryz.f256 [.ints .arg .u64 x,.int .i64 k] (An.C3.out [.l x,.i k])):An.C3.Kn :=
  Ak (A1 hk _ _ _) Tryz.func256 (by kernel_rfl) (by kernel_rfl) h
def An.Fc.Bb:List (Nat × Entry):=[]
def An.Fc.E:Env:=Bc (Ba An.Fc.Bb) (fun _=>false) (fun _=>none) (fun _=>none)
theorem An.Fc.ev (N:Nat) (i:Int):Bw An.Fc.E N Tryz.f254 (Am Tryz.f254) [.int .i64 i]=some (.int .u64 0):=by kernel_rfl
abbrev _root_.Go.Proofs.S1.An.Fc.Kn:=A6 Tryz.prog 254 An.Fc.spec
theorem An.Fc.Ad (hk:A0 Tryz.prog An.Fc.Bb) (h:∀ (i:Int),An.Fc.pre [.i i]=true→Be An.Fc.E Tryz.f254 [.int .i64 i] (An.Fc.out [.i i])):An.Fc.Kn :=
  Ak (A1 hk _ _ _) Tryz.func254 (by kernel_rfl) (by kernel_rfl) h
def An.Fb.Bb:List (Nat × Entry):=[(158,Af.Div.spec)]
def An.Fb.E:Env:=Bc (Ba An.Fb.Bb) (fun _=>false) (fun _=>none) (fun _=>none)
theorem An.Fb.ev (N:Nat) (i:Int) (y:List Int) (d:Int):Bw An.Fb.E N Tryz.f259 (Am Tryz.f259) [.int .i64 i,.cellp [.ints .arg .u64 y],.cellp [.int .u64 d]]=bif ((decide (0≤i))&&(decide (i<(List.length y:Int)))) then bif (Ai (List.getD y (Int.toNat i) 0)&&Ai d) then some (.int .u64 (Ev (List.getD y (Int.toNat i) 0) d)) else none else none :=
  Eq.trans (by kernel_rfl)
  (Da (Mq (decide (0≤i)) (decide (i<(List.length y:Int)))) (Da (De (Ai (List.getD y (Int.toNat i) 0)&&Ai d)) rfl rfl) rfl)
abbrev _root_.Go.Proofs.S1.An.Fb.Kn:=A6 Tryz.prog 259 An.Fb.spec
theorem An.Fb.Ad (hk:A0 Tryz.prog An.Fb.Bb) (h:∀ (i:Int) (y:List Int) (d:Int),An.Fb.pre [.i i,.l y,.i d]=true→Be An.Fb.E Tryz.f259 [.int .i64 i,.cellp [.ints .arg .u64 y],.cellp [.int .u64 d]] (An.Fb.out [.i i,.l y,.i d])):An.Fb.Kn :=
  Ak (A1 hk _ _ _) Tryz.func259 (by kernel_rfl) (by kernel_rfl) h
def An.row.Zero.hint:Nat→Option A8
  | 0=>some { keep:=[0,1,5,6],objs:=[(0,5,100005,.ints 37 .u64 [])],boxes:=[] }
  | _=>none
def An.row.Zero.Bb:List (Nat × Entry):=[(254,An.Fc.spec)]
def An.row.Zero.E:Env:=Bc (Ba An.row.Zero.Bb) (fun _=>false) An.row.Zero.hint (fun _=>none)
def An.row.Zero.L0 (N M:Nat) (n p6:Int) (p5:List Int):Option DV:=B3 An.row.Zero.E N Tryz.f253 (Am Tryz.f253) [1,1,0,1,0] [] M ⟨Gb 23 [(0,.int .i64 n),(1,.fn 254 [] []),(5,.oref 100005),(6,.int .i64 p6)],[(100005,false,.ints 37 .u64 p5)]⟩
theorem An.row.Zero.Au (N M:Nat) (n p6:Int) (p5:List Int):An.row.Zero.L0 N (M+1) n p6 p5=bif (A2 p6 n) then bif (decide ((List.length p5)+1≤Gd)) then An.row.Zero.L0 N M n (Ab (p6+1)) (p5++[(0:Int)]) else none else bif (((decide ((0:Int)≤n))&&(decide (n≤n)))&&((decide ((0:Int)≤n))&&(decide (n≤(List.length p5:Int))))) then some (.ints .fresh .u64 (List.take (Int.toNat (n-0)) (List.drop 0 p5))) else none :=
  Eq.trans (by kernel_rfl)
  (Es rfl (Da (Aqp (decide ((0:Int)≤n)) (decide (n≤n)) (decide (n≤(List.length p5:Int)))) rfl rfl))
theorem An.row.Zero.ev (N:Nat) (n:Int):Bw An.row.Zero.E N Tryz.f253 (Am Tryz.f253) [.int .i64 n,.fn 254 [] []] =
  An.row.Zero.L0 N N n 1 [(4607182418800017408:Int)]:=by kernel_rfl
abbrev _root_.Go.Proofs.S1.An.row.Zero.Kn:=A6 Tryz.prog 253 An.row.Zero.spec
theorem An.row.Zero.Ad (hk:A0 Tryz.prog An.row.Zero.Bb) (h:∀ (n:Int),An.row.Zero.pre [.i n]=true→Be An.row.Zero.E Tryz.f253 [.int .i64 n,.fn 254 [] []] (An.row.Zero.out [.i n])):An.row.Zero.Kn :=
  Ak (A1 hk _ _ _) Tryz.func253 (by kernel_rfl) (by kernel_rfl) h
def An.row.Div.hint:Nat→Option A8
  | 0=>some { keep:=[0,1,5,6],objs:=[(0,5,100005,.ints 37 .u64 [])],boxes:=[] }
  | _=>none
def An.row.Div.Bb:List (Nat × Entry):=[(259,An.Fb.spec)]
def An.row.Div.E:Env:=Bc (Ba An.row.Div.Bb) (fun _=>false) An.row.Div.hint (fun _=>none)
def An.row.Div.L0 (N M:Nat) (n:Int) (y:List Int) (d p6:Int) (p5:List Int):Option DV:=B3 An.row.Div.E N Tryz.f253 (Am Tryz.f253) [1,1,0,1,0] [] M ⟨Gb 23 [(0,.int .i64 n),(1,.fn 259 [] [.cellp [.ints .arg .u64 y],.cellp [.int .u64 d]]),(5,.oref 100005),(6,.int .i64 p6)],[(100005,false,.ints 37 .u64 p5)]⟩
theorem An.row.Div.Au (N M:Nat) (n:Int) (y:List Int) (d p6:Int) (p5:List Int):An.row.Div.L0 N (M+1) n y d p6 p5=bif (A2 p6 n) then bif ((Cu (0≤p6∧p6<List.length y)&&Ah y)&&Ai d) then bif (decide ((List.length p5)+1≤Gd)) then An.row.Div.L0 N M n y d (Ab (p6+1)) (p5++[(Ev (List.getD y (Int.toNat p6) 0) d)]) else none else none else bif (((decide ((0:Int)≤n))&&(decide (n≤n)))&&((decide ((0:Int)≤n))&&(decide (n≤(List.length p5:Int))))) then some (.ints .fresh .u64 (List.take (Int.toNat (n-0)) (List.drop 0 p5))) else none :=
  Eq.trans (by kernel_rfl)
  (Es rfl (Da (Aqp (decide ((0:Int)≤n)) (decide (n≤n)) (decide (n≤(List.length p5:Int)))) rfl rfl))
theorem An.row.Div.ev (N:Nat) (n:Int) (y:List Int) (d:Int):Bw An.row.Div.E N Tryz.f253 (Am Tryz.f253) [.int .i64 n,.fn 259 [] [.cellp [.ints .arg .u64 y],.cellp [.int .u64 d]]] =
  An.row.Div.L0 N N n y d 1 [(4607182418800017408:Int)]:=by kernel_rfl
abbrev _root_.Go.Proofs.S1.An.row.Div.Kn:=A6 Tryz.prog 253 An.row.Div.spec
theorem An.row.Div.Ad (hk:A0 Tryz.prog An.row.Div.Bb) (h:∀ (n:Int) (y:List Int) (d:Int),An.row.Div.pre [.i n,.l y,.i d]=true→Be An.row.Div.E Tryz.f253 [.int .i64 n,.fn 259 [] [.cellp [.ints .arg .u64 y],.cellp [.int .u64 d]]] (An.row.Div.out [.i n,.l y,.i d])):An.row.Div.Kn :=
  Ak (A1 hk _ _ _) Tryz.func253 (by kernel_rfl) (by kernel_rfl) h
def An.Jq.Bb:List (Nat × Entry):=[(255,compare.Kq.spec),(258,An.lead.spec),(252,An.Cz.spec),(253,(Ar6 [.i .i64,.fn 254 []] An.row.Zero.spec An.row.Div.spec)),(256,An.C3.spec),(148,soft.Finite.spec),(233,soft.Fy.spec),(213,soft.Sign.spec),(89,Af.Cn.spec),(158,Af.Div.spec),(150,Af.Finite.spec),(257,Af.Norm.spec),(88,Af.Bx.spec),(156,Af.Sub.spec)]
def An.Jq.E:Env:=Bc (Ba An.Jq.Bb) (fun _=>false) (fun _=>none) (fun _=>none)
theorem An.Jq.ev (N:Nat) (x:List Int):Bw An.Jq.E N Tryz.f245 (Am Tryz.f245) [.ints .arg .u64 x]=bif (((List.length x:Int)==(0:Int))||(A2 64 (List.length x:Int))) then some (.tup [.nil,.int .u64 0,.int .u64 0,.int .i64 3]) else bif (Cx x) then bif (!(Dz x)) then some (.tup [.nil,.int .u64 0,.int .u64 0,.int .i64 4]) else bif (decide ((1:Int)≤(List.length x:Int))) then bif (Cx (List.drop 1 x)) then bif (Jz (List.drop 1 x)) then bif (Cu (1≤(List.length x:Int)∧(List.length x:Int)≤64)) then bif (decide ((0:Int)<(List.length x:Int))) then some (.tup [.ints .fresh .u64 (Jc (Int.toNat (List.length x:Int)) (fun _=>0)),.int .u64 0,.int .u64 (List.getD x 0 0),.int .i64 0]) else none else none else bif (Cx x) then bif (Ai (Bp x)) then bif (Cx x&&Cu (List.length x≤1000∧-2300≤(Ab (0-(Bs (Bp x))))∧(Ab (0-(Bs (Bp x))))≤2300)) then bif (Cx (Bj x (Ab (0-(Bs (Bp x)))))&&Cu (List.length (Bj x (Ab (0-(Bs (Bp x)))))≤64)) then bif (Cx x) then bif (Ai (Qd x)) then bif (!(Dv (Qd x))) then bif (Ai (Er (Bj x (Ab (0-(Bs (Bp x))))))) then bif (E0 (Ds (Er (Bj x (Ab (0-(Bs (Bp x))))))) (Bs (Bp x))) then bif (Ai (Ch (Ds (Er (Bj x (Ab (0-(Bs (Bp x))))))) (Bs (Bp x)))) then bif (!(Cy (Ch (Ds (Er (Bj x (Ab (0-(Bs (Bp x))))))) (Bs (Bp x))))) then some (.tup [.nil,.int .u64 0,.int .u64 0,.int .i64 2]) else bif (decide ((0:Int)<(List.length (Bj x (Ab (0-(Bs (Bp x))))):Int))) then bif (Ai (List.getD (Bj x (Ab (0-(Bs (Bp x))))) 0 0)&&Ai (Ds (Er (Bj x (Ab (0-(Bs (Bp x)))))))) then bif ((Cu (1≤(List.length (Bj x (Ab (0-(Bs (Bp x))))):Int)∧(List.length (Bj x (Ab (0-(Bs (Bp x))))):Int)≤64∧(List.length (Bj x (Ab (0-(Bs (Bp x))))):Int)=List.length (Bj x (Ab (0-(Bs (Bp x))))))&&Ah (Bj x (Ab (0-(Bs (Bp x))))))&&Ai (Dr (List.getD (Bj x (Ab (0-(Bs (Bp x))))) 0 0) (Ds (Er (Bj x (Ab (0-(Bs (Bp x))))))))) then bif (decide ((0:Int)<(List.length (Bj x (Ab (0-(Bs (Bp x))))):Int))) then bif (Ai (Ds (Er (Bj x (Ab (0-(Bs (Bp x)))))))&&Ai (List.getD (Bj x (Ab (0-(Bs (Bp x))))) 0 0)) then bif (Ai (Dr (Ds (Er (Bj x (Ab (0-(Bs (Bp x))))))) (List.getD (Bj x (Ab (0-(Bs (Bp x))))) 0 0))&&Ai (Ds (Er (Bj x (Ab (0-(Bs (Bp x)))))))) then some (.tup [.ints .fresh .u64 (Jc (Int.toNat (List.length (Bj x (Ab (0-(Bs (Bp x))))):Int)) (fun j=>Ev (List.getD (Bj x (Ab (0-(Bs (Bp x))))) j 0) (Dr (List.getD (Bj x (Ab (0-(Bs (Bp x))))) 0 0) (Ds (Er (Bj x (Ab (0-(Bs (Bp x)))))))))),.int .u64 (Ev (Dr (Ds (Er (Bj x (Ab (0-(Bs (Bp x))))))) (List.getD (Bj x (Ab (0-(Bs (Bp x))))) 0 0)) (Ds (Er (Bj x (Ab (0-(Bs (Bp x)))))))),.int .u64 (Ch (Ds (Er (Bj x (Ab (0-(Bs (Bp x))))))) (Bs (Bp x))),.int .i64 0]) else none else none else none else none else none else none else none else none else none else bif (E0 (Er (Bj x (Ab (0-(Bs (Bp x)))))) (Bs (Bp x))) then bif (Ai (Ch (Er (Bj x (Ab (0-(Bs (Bp x)))))) (Bs (Bp x)))) then bif (!(Cy (Ch (Er (Bj x (Ab (0-(Bs (Bp x)))))) (Bs (Bp x))))) then some (.tup [.nil,.int .u64 0,.int .u64 0,.int .i64 2]) else bif (decide ((0:Int)<(List.length (Bj x (Ab (0-(Bs (Bp x))))):Int))) then bif (Ai (List.getD (Bj x (Ab (0-(Bs (Bp x))))) 0 0)&&Ai (Er (Bj x (Ab (0-(Bs (Bp x))))))) then bif ((Cu (1≤(List.length (Bj x (Ab (0-(Bs (Bp x))))):Int)∧(List.length (Bj x (Ab (0-(Bs (Bp x))))):Int)≤64∧(List.length (Bj x (Ab (0-(Bs (Bp x))))):Int)=List.length (Bj x (Ab (0-(Bs (Bp x))))))&&Ah (Bj x (Ab (0-(Bs (Bp x))))))&&Ai (Dr (List.getD (Bj x (Ab (0-(Bs (Bp x))))) 0 0) (Er (Bj x (Ab (0-(Bs (Bp x)))))))) then bif (decide ((0:Int)<(List.length (Bj x (Ab (0-(Bs (Bp x))))):Int))) then bif (Ai (Er (Bj x (Ab (0-(Bs (Bp x))))))&&Ai (List.getD (Bj x (Ab (0-(Bs (Bp x))))) 0 0)) then bif (Ai (Dr (Er (Bj x (Ab (0-(Bs (Bp x)))))) (List.getD (Bj x (Ab (0-(Bs (Bp x))))) 0 0))&&Ai (Er (Bj x (Ab (0-(Bs (Bp x))))))) then some (.tup [.ints .fresh .u64 (Jc (Int.toNat (List.length (Bj x (Ab (0-(Bs (Bp x))))):Int)) (fun j=>Ev (List.getD (Bj x (Ab (0-(Bs (Bp x))))) j 0) (Dr (List.getD (Bj x (Ab (0-(Bs (Bp x))))) 0 0) (Er (Bj x (Ab (0-(Bs (Bp x))))))))),.int .u64 (Ev (Dr (Er (Bj x (Ab (0-(Bs (Bp x)))))) (List.getD (Bj x (Ab (0-(Bs (Bp x))))) 0 0)) (Er (Bj x (Ab (0-(Bs (Bp x))))))),.int .u64 (Ch (Er (Bj x (Ab (0-(Bs (Bp x)))))) (Bs (Bp x))),.int .i64 0]) else none else none else none else none else none else none else none else none else none else none else none else none else none else none else none else none else none :=
  Eq.trans (by kernel_rfl)
  (Ap (Ul ((List.length x:Int)==(0:Int))) (Ap (Q9 ((List.length x:Int)==(0:Int))) (Ap (Q9 ((List.length x:Int)==(0:Int))) (Ap (tt6 ((List.length x:Int)==(0:Int))) (Da (tt5 ((List.length x:Int)==(0:Int)) (A2 64 (List.length x:Int))) rfl (Es (Es rfl (Da (tt91 (decide ((1:Int)≤(List.length x:Int)))) (Es (Es (Da (De (Cu (1≤(List.length x:Int)∧(List.length x:Int)≤64))) (Da (De (decide ((0:Int)<(List.length x:Int)))) rfl rfl) rfl) rfl) rfl) rfl)) rfl))))))
abbrev _root_.Go.Proofs.S1.An.Jq.Kn:=A6 Tryz.prog 245 An.Jq.spec
theorem An.Jq.Ad (hk:A0 Tryz.prog An.Jq.Bb) (h:∀ (x:List Int),An.Jq.pre [.l x]=true→Be An.Jq.E Tryz.f245 [.ints .arg .u64 x] (An.Jq.out [.l x])):An.Jq.Kn :=
  Ak (A1 hk _ _ _) Tryz.func245 (by kernel_rfl) (by kernel_rfl) h
def An.Apply.hint:Nat→Option A8
  | 0=>some { keep:=[1,3,4,5,10,13,14],objs:=[(14,2,114002,.ints 37 .u64 [])],boxes:=[5,10,13] }
  | 2=>some { keep:=[1,3,4,5,10,13,14,18,90,91,92],objs:=[(14,2,114002,.ints 37 .u64 [])],boxes:=[5,10,13] }
  | _=>none
def An.Apply.Bb:List (Nat × Entry):=[(160,Aa.Check.spec),(191,Aa.Dk.spec),(189,Af.Od.spec),(157,Af.Mul.spec),(156,Af.Sub.spec)]
def An.Apply.E:Env:=Bc (Ba An.Apply.Bb) (fun _=>false) An.Apply.hint (fun _=>none)
def An.Apply.L0 (N M:Nat) (r c:Int) (l:List Int) (i:Int) (v:List Int) (t p14:Int) (p2_1:List Int):Option DV:=B3 An.Apply.E N Tryz.f219 (Am Tryz.f219) [1,1,1,1,0,1,0] [] M ⟨Gb 118 [(1,.int .i64 i),(3,.ints .arg .u64 v),(4,.int .u64 t),(5,.ptr 5 0 0),(10,.ptr 10 0 0),(13,.ptr 13 0 0),(14,.int .i64 p14)],[(5,false,.box [.int .i64 r,.int .i64 c,.ints .arg .u64 l]),(10,false,.box [.int .i64 0,.int .i64 0,.nil]),(13,false,.box [.int .i64 r,.int .i64 c,.oref 114002]),(114002,false,.ints 37 .u64 p2_1)]⟩
def An.Apply.L1 (N M0 M:Nat) (r c:Int) (l:List Int) (i:Int) (v:List Int) (t p92:Int) (p2:List Int) (p14_1 p18:Int) (p90:List Int) (p91:Int):Option DV:=B3 An.Apply.E N Tryz.f219 (Am Tryz.f219) [1,1,1,1,0,1,0,0,1,0,0,1,1,1,1,0] [M0] M ⟨Gb 118 [(1,.int .i64 i),(3,.ints .arg .u64 v),(4,.int .u64 t),(5,.ptr 5 0 0),(10,.ptr 10 0 0),(13,.ptr 13 0 0),(14,.int .i64 p14_1),(18,.int .u64 p18),(90,.ints .fresh .u64 p90),(91,.int .i64 p91),(92,.int .i64 p92)],[(5,false,.box [.int .i64 r,.int .i64 c,.ints .arg .u64 l]),(10,false,.box [.int .i64 0,.int .i64 0,.nil]),(13,false,.box [.int .i64 r,.int .i64 c,.oref 114002]),(114002,false,.ints 37 .u64 p2)]⟩
theorem An.Apply.Au (N M:Nat) (r c:Int) (l:List Int) (i:Int) (v:List Int) (t p14:Int) (p2_1:List Int):An.Apply.L0 N (M+1) r c l i v t p14 p2_1=bif (A2 p14 c) then bif (Lp r c l p14&&Cu (0≤i∧i≤r)) then bif (((decide ((0:Int)≤(List.length v:Int)))&&(decide ((List.length v:Int)≤(List.length v:Int))))&&((decide ((0:Int)≤(List.length v:Int)))&&(decide ((List.length v:Int)≤(List.length (Dy c l p14 i (Int.toNat (r-i))):Int))))) then bif ((To v (List.take (Int.toNat (List.length v:Int)) (Dy c l p14 i (Int.toNat (r-i))))&&Ah v)&&Ah (List.take (Int.toNat (List.length v:Int)) (Dy c l p14 i (Int.toNat (r-i))))) then bif (Ai t&&Ai (Lw v (List.take (Int.toNat (List.length v:Int)) (Dy c l p14 i (Int.toNat (r-i)))))) then An.Apply.L1 N M N r c l i v t 0 p2_1 p14 (Ek t (Lw v (List.take (Int.toNat (List.length v:Int)) (Dy c l p14 i (Int.toNat (r-i)))))) (List.take (Int.toNat (List.length v:Int)) (Dy c l p14 i (Int.toNat (r-i)))) (List.length (List.take (Int.toNat (List.length v:Int)) (Dy c l p14 i (Int.toNat (r-i)))):Int) else none else none else none else none else some (.tup [.agg [.int .i64 r,.int .i64 c,.ints (.own 114002 37) .u64 p2_1],.int .i64 0]) :=
  Eq.trans (by kernel_rfl)
  (Es (Es (Da (Aqp (decide ((0:Int)≤(List.length v:Int))) (decide ((List.length v:Int)≤(List.length v:Int))) (decide ((List.length v:Int)≤(List.length (Dy c l p14 i (Int.toNat (r-i))):Int)))) rfl rfl) rfl) rfl)
theorem An.Apply.Cf (N M0 M:Nat) (r c:Int) (l:List Int) (i:Int) (v:List Int) (t p92:Int) (p2:List Int) (p14_1 p18:Int) (p90:List Int) (p91:Int):An.Apply.L1 N M0 (M+1) r c l i v t p92 p2 p14_1 p18 p90 p91=bif (A2 p92 p91) then bif ((decide (0≤p92))&&(decide (p92<(List.length p90:Int)))) then bif ((decide (0≤p92))&&(decide (p92<(List.length v:Int)))) then bif (Ai p18&&Ai (List.getD v (Int.toNat p92) 0)) then bif (Ai (List.getD p90 (Int.toNat p92) 0)&&Ai (Ek p18 (List.getD v (Int.toNat p92) 0))) then bif ((decide (0≤(Ab ((Ab ((Ab (i+p92))*c))+p14_1))))&&(decide ((Ab ((Ab ((Ab (i+p92))*c))+p14_1))<(List.length p2:Int)))) then bif (decide ((Int.toNat (Ab ((Ab ((Ab (i+p92))*c))+p14_1)))<(List.length p2))) then An.Apply.L1 N M0 M r c l i v t (Ab (p92+1)) (List.set p2 (Int.toNat (Ab ((Ab ((Ab (i+p92))*c))+p14_1))) (Dr (List.getD p90 (Int.toNat p92) 0) (Ek p18 (List.getD v (Int.toNat p92) 0)))) p14_1 p18 p90 p91 else none else none else none else none else none else none else An.Apply.L0 N M0 r c l i v t (Ab (p14_1+1)) p2 :=
  Eq.trans (by kernel_rfl)
  (Es (Es (Da (Mq (decide (0≤p92)) (decide (p92<(List.length v:Int)))) (Da (De (Ai p18&&Ai (List.getD v (Int.toNat p92) 0))) (Da (De (Ai (List.getD p90 (Int.toNat p92) 0)&&Ai (Ek p18 (List.getD v (Int.toNat p92) 0)))) (Da (Mq (decide (0≤(Ab ((Ab ((Ab (i+p92))*c))+p14_1)))) (decide ((Ab ((Ab ((Ab (i+p92))*c))+p14_1))<(List.length p2:Int)))) (Da (De (decide ((Int.toNat (Ab ((Ab ((Ab (i+p92))*c))+p14_1)))<(List.length p2)))) rfl rfl) rfl) rfl) rfl) rfl) rfl) rfl)
theorem An.Apply.ev (N:Nat) (r c:Int) (l:List Int) (i k:Int) (v:List Int) (t:Int):Bw An.Apply.E N Tryz.f219 (Am Tryz.f219) [.agg [.int .i64 r,.int .i64 c,.ints .arg .u64 l],.int .i64 i,.int .i64 k,.ints .arg .u64 v,.int .u64 t]=bif ((Jp r c l) !=(0:Int)) then some (.tup [.agg [.int .i64 0,.int .i64 0,.nil],.int .i64 (Jp r c l)]) else bif (((((A2 i 0)||(A2 r (List.length v:Int)))||(A2 (Ab (r-(List.length v:Int))) i))||(A2 k 0))||(A2 c k)) then some (.tup [.agg [.int .i64 0,.int .i64 0,.nil],.int .i64 3]) else bif (decide (0+(List.length l)≤Gd)) then An.Apply.L0 N N r c l i v t k ([]++l) else none :=
  Eq.trans (by kernel_rfl)
  (Es rfl (Ap (Ul (A2 i 0)) (Ap (Q9 (A2 i 0)) (Ap (Ul (A2 i 0)) (Ap (Q9 (A2 i 0)) (Ap (tt8 (A2 i 0)) (Ap (tt6 (A2 i 0)) (Ap (Aap (A2 i 0) (A2 r (List.length v:Int))) (Ap (Aap (A2 i 0) (A2 r (List.length v:Int))) (Ap (Adf (A2 i 0) (A2 r (List.length v:Int))) (Ap (Aap (A2 i 0) (A2 r (List.length v:Int))) (Ap (Adf (A2 i 0) (A2 r (List.length v:Int))) (Ap (Ang (A2 i 0) (A2 r (List.length v:Int))) (Ap (Ang (A2 i 0) (A2 r (List.length v:Int))) (Ap (Anj (A2 i 0) (A2 r (List.length v:Int))) (Ap (Ank (A2 i 0) (A2 r (List.length v:Int)) (A2 (Ab (r-(List.length v:Int))) i)) (Ap (Adg (A2 i 0) (A2 r (List.length v:Int)) (A2 (Ab (r-(List.length v:Int))) i)) (Ap (Anl (A2 i 0) (A2 r (List.length v:Int)) (A2 (Ab (r-(List.length v:Int))) i)) (Ap (Aji (A2 i 0) (A2 r (List.length v:Int)) (A2 (Ab (r-(List.length v:Int))) i) (A2 k 0)) (Ap (Aji (A2 i 0) (A2 r (List.length v:Int)) (A2 (Ab (r-(List.length v:Int))) i) (A2 k 0)) (Ap (Ajj (A2 i 0) (A2 r (List.length v:Int)) (A2 (Ab (r-(List.length v:Int))) i) (A2 k 0)) (Ap (Atc (A2 i 0) (A2 r (List.length v:Int)) (A2 (Ab (r-(List.length v:Int))) i) (A2 k 0)) (Ap (Aqt (A2 i 0) (A2 r (List.length v:Int)) (A2 (Ab (r-(List.length v:Int))) i) (A2 k 0)) (Da (tt92 (A2 i 0) (A2 r (List.length v:Int)) (A2 (Ab (r-(List.length v:Int))) i) (A2 k 0) (A2 c k)) rfl (Da (De (decide (0+(List.length l)≤Gd))) rfl rfl)))))))))))))))))))))))))
abbrev _root_.Go.Proofs.S1.An.Apply.Kn:=A6 Tryz.prog 219 An.Apply.spec
theorem An.Apply.Ad (hk:A0 Tryz.prog An.Apply.Bb) (h:∀ (r c:Int) (l:List Int) (i k:Int) (v:List Int) (t:Int),An.Apply.pre [.i r,.i c,.l l,.i i,.i k,.l v,.i t]=true→Be An.Apply.E Tryz.f219 [.agg [.int .i64 r,.int .i64 c,.ints .arg .u64 l],.int .i64 i,.int .i64 k,.ints .arg .u64 v,.int .u64 t] (An.Apply.out [.i r,.i c,.l l,.i i,.i k,.l v,.i t])):An.Apply.Kn :=
  Ak (A1 hk _ _ _) Tryz.func219 (by kernel_rfl) (by kernel_rfl) h
end EqHouse
open EqHouse
theorem Agb (x:Int):((A3 x) !=(0:Int))=!(decide (A3 x=0)):=by
  rw [Au9]; simp
theorem Zg (N:Nat) {x:List Int} (hx:Cx x=true):∀ (k i F:Nat),i+k=x.length→k<F→An.Cz.L0 N F x (i:Int)=some (.bool (Jz (x.drop i))):=by
  obtain ⟨hl,hu⟩:=Kw hx
  intro k
  induction k with
  | zero =>
    intro i F hi hF
    obtain ⟨F,rfl⟩:∃ G,F=G+1:=⟨F-1,by omega⟩
    rw [An.Cz.Au,At,Auy (by omega),Aux,Au7 (by omega)]; rfl
  | succ k ih =>
    intro i F hi hF
    obtain ⟨F,rfl⟩:∃ G,F=G+1:=⟨F-1,by omega⟩
    rw [An.Cz.Au,At,Auu (show (i:Int)<(x.length:Int) by omega),Aut,Auu (show (0:Int)≤(i:Int) by omega),Auz,Aut,Auv,hu i (by omega),Aut,Agb,Ik (by omega)]
    unfold Jz
    rw [List.all_cons]
    cases decide (A3 (x.getD i 0)=0) with
    | false=>rfl
    | true =>
      rw [Bool.not_true,Aux,Bool.true_and,Al (by omega) (by omega)]
      exact ih (i+1) F (by omega) (by omega)
theorem An.Cz.known:An.Cz.Kn:=An.Cz.Ad (.cons soft.Kind.known .nil) fun x hp=>by
  refine ⟨x.length+1,An.Cz.out [.l x],[],?_,.bool⟩
  rw [An.Cz.ev]
  exact Zg (x.length+1) hp x.length 0 (x.length+1) (by omega) (by omega)
theorem Aia (N:Nat) {x:List Int} (hx:Cx x=true):∀ (k i F:Nat),i+k=x.length→k<F→An.lead.L0 N F x (i:Int)=some (.int .u64 (Qd (x.drop i))):=by
  obtain ⟨hl,hu⟩:=Kw hx
  intro k
  induction k with
  | zero =>
    intro i F hi hF
    obtain ⟨F,rfl⟩:∃ G,F=G+1:=⟨F-1,by omega⟩
    rw [An.lead.Au,At,Auy (by omega),Aux,Au7 (by omega)]; rfl
  | succ k ih =>
    intro i F hi hF
    obtain ⟨F,rfl⟩:∃ G,F=G+1:=⟨F-1,by omega⟩
    rw [An.lead.Au,At,Auu (show (i:Int)<(x.length:Int) by omega),Aut,Auu (show (0:Int)≤(i:Int) by omega),Auz,Aut,Auv,hu i (by omega),Aut,Agb,Ik (by omega),Qd]
    by_cases h:A3 (x.getD i 0)=0
    · rw [Auu h,if_pos h,Bool.not_true,Aux,Al (by omega) (by omega)]
      exact ih (i+1) F (by omega) (by omega)
    · rw [Auy h,if_neg h]; rfl
theorem An.lead.known:An.lead.Kn:=An.lead.Ad (.cons soft.Kind.known .nil) fun x hp=>by
  refine ⟨x.length+1,An.lead.out [.l x],[],?_,.int⟩
  rw [An.lead.ev]
  exact Aia (x.length+1) hp x.length 0 (x.length+1) (by omega) (by omega)
theorem Adh {x:List Int} {i:Nat} (h:i<x.length) (f:Int→Int):(x.take (i+1)).map f=(x.take i).map f++[f (x.getD i 0)]:=by
  rw [List.take_succ_eq_append_getElem h,List.map_append,Au3,Ava h]; rfl
theorem Y7 (N:Nat) {x:List Int} {e:Int} (hx:Cx x=true) (hl:x.length≤1000) (he:-2300≤e∧e≤2300):∀ (k i F:Nat),i+k=x.length→k<F →
    An.C3.L0 N F x e (i:Int) ((x.take i).map fun b=>Ch b e)=some (.ints (.own 100005 tB) .u64 (Bj x e)):=by
  obtain ⟨_,hu⟩:=Kw hx
  intro k
  induction k with
  | zero =>
    intro i F hi hF
    obtain ⟨F,rfl⟩:∃ G,F=G+1:=⟨F-1,by omega⟩
    rw [An.C3.Au,At,Auy (by omega),Aux,List.take_of_length_le (by omega)]; rfl
  | succ k ih =>
    intro i F hi hF
    obtain ⟨F,rfl⟩:∃ G,F=G+1:=⟨F-1,by omega⟩
    rw [An.C3.Au,At,Auu (show (i:Int)<(x.length:Int) by omega),Aut,Auu (show (0:Int)≤(i:Int) by omega),Auz,Aut,Auv,
      show E0 (List.getD x i 0) e=true from Ae.2 ⟨hu i (by omega),Aq.2 he⟩,Aut,Auu (by rw [List.length_map,List.length_take]; unfold Gd; omega),Aut,Al (by omega) (by omega)]
    have:=ih (i+1) F (by omega) (by omega)
    rw [Adh (by omega)] at this
    exact this
theorem An.C3.known:An.C3.Kn:=An.C3.Ad (.cons Af.Bx.known .nil) fun x k hp=>by
  obtain ⟨h1,h2⟩:=Ae.1 hp
  have h2:=Aq.1 h2
  refine ⟨x.length+1,.ints (.own 100005 tB) .u64 (Bj x k),[100005],?_,.drop _ _ _ _ (List.mem_singleton.2 rfl)⟩
  rw [An.C3.ev]
  exact Y7 (x.length+1) h1 h2.1 h2.2 x.length 0 (x.length+1) (by omega) (by omega)
theorem An.Fc.known:An.Fc.Kn:=An.Fc.Ad .nil fun i _=>⟨0,An.Fc.out [.i i],[],by rw [An.Fc.ev]; rfl,.int⟩
theorem An.Fb.known:An.Fb.Kn:=An.Fb.Ad (.cons Af.Div.known .nil) fun i y d hp=>by
  obtain ⟨h1,h2⟩:=Ae.1 (show ((Cu (0≤i∧i<List.length y)&&Ah y)&&Ai d)=true from hp)
  obtain ⟨h3,h4⟩:=Ae.1 h1
  have h3:=Aq.1 h3
  refine ⟨0,An.Fb.out [.i i,.l y,.i d],[],?_,.int⟩
  rw [An.Fb.ev,Auu h3.1,Auu h3.2,M8 h4,h2]; rfl
theorem Pp (n i:Nat) (f:Nat→Int) (h:i+1=n):Jc n f=Ard::(List.range i).map fun j=>f (j+1):=by unfold Jc; rw [show n-1=i by omega]
theorem Aft {n:Nat} (f:Nat→Int) (h:n≠0):(((decide ((0:Int)≤(n:Int)))&&(decide ((n:Int)≤(n:Int))))&&((decide ((0:Int)≤(n:Int)))&&(decide ((n:Int)≤(List.length (Jc n f):Int)))))=true ∧
    List.take (Int.toNat ((n:Int)-(0:Int))) (List.drop 0 (Jc n f))=Jc n f:=by
  have:=Rr h f
  refine ⟨?_,?_⟩
  · rw [Auu (by omega),Auu (by omega),Auu (by omega)]; rfl
  · rw [List.drop_zero,List.take_of_length_le (by omega)]
theorem W5 (N:Nat) {n:Nat} (h64:n≤64) (h0:n≠0):∀ (k i F:Nat),i+1+k=n→k<F →
    An.row.Zero.L0 N F (n:Int) ((i+1:Nat):Int) (Jc (i+1) fun _=>0)=some (.ints .fresh .u64 (Jc n fun _=>0)):=by
  intro k
  induction k with
  | zero =>
    intro i F hi hF
    obtain ⟨F,rfl⟩:∃ G,F=G+1:=⟨F-1,by omega⟩
    obtain rfl:i+1=n:=by omega
    obtain ⟨e1,e2⟩:=Aft (fun _=>0) h0
    rw [An.row.Zero.Au,At,Auy (by omega),Aux,e1,Aut,e2]
  | succ k ih =>
    intro i F hi hF
    obtain ⟨F,rfl⟩:∃ G,F=G+1:=⟨F-1,by omega⟩
    rw [An.row.Zero.Au,At,Auu (by omega),Aut,Auu (by rw [Rr (by omega)]; unfold Gd; omega),Aut,Al (by omega) (by omega)]
    have:=ih (i+1) F (by omega) (by omega)
    rw [Pp (i+1+1) (i+1) _ rfl,Hy] at this
    rw [Pp (i+1) i _ rfl]
    exact this
theorem An.row.Zero.known:An.row.Zero.Kn:=An.row.Zero.Ad (.cons An.Fc.known .nil) fun n hp=>by
  have hp:=Aq.1 (show Cu (1≤n∧n≤64)=true from hp)
  obtain ⟨m,rfl⟩:∃ m:Nat,n=m:=⟨n.toNat,by omega⟩
  refine ⟨65,An.row.Zero.out [.i m],[],?_,.No⟩
  show _=some (DV.ints .fresh .u64 (Jc (Int.toNat (m:Int)) fun _=>0))
  rw [An.row.Zero.ev,Auv]
  exact W5 65 (by omega) (by omega) (m-1) 0 65 (by omega) (by omega)
theorem Za (N:Nat) {n:Nat} {y:List Int} {d:Int} (h64:n≤64) (h0:n≠0) (hy:n=y.length) (al:Ah y=true) (hd:Ai d=true):∀ (k i F:Nat),i+1+k=n→k<F →
    An.row.Div.L0 N F (n:Int) y d ((i+1:Nat):Int) (Jc (i+1) fun j=>Ev (y.getD j 0) d)=some (.ints .fresh .u64 (Jc n fun j=>Ev (y.getD j 0) d)):=by
  intro k
  induction k with
  | zero =>
    intro i F hi hF
    obtain ⟨F,rfl⟩:∃ G,F=G+1:=⟨F-1,by omega⟩
    obtain rfl:i+1=n:=by omega
    obtain ⟨e1,e2⟩:=Aft (fun j=>Ev (y.getD j 0) d) h0
    rw [An.row.Div.Au,At,Auy (by omega),Aux,e1,Aut,e2]
  | succ k ih =>
    intro i F hi hF
    obtain ⟨F,rfl⟩:∃ G,F=G+1:=⟨F-1,by omega⟩
    rw [An.row.Div.Au,At,Auu (by omega),Aut,Aq.2 (show 0≤((i+1:Nat):Int)∧((i+1:Nat):Int)<(y.length:Int) by omega),al,hd,Auz,Auz,Aut,Auu (by rw [Rr (by omega)]; unfold Gd; omega),Aut,Al (by omega) (by omega),Auv]
    have:=ih (i+1) F (by omega) (by omega)
    rw [Pp (i+1+1) (i+1) _ rfl,Hy] at this
    rw [Pp (i+1) i _ rfl]
    exact this
theorem An.row.Div.known:An.row.Div.Kn:=An.row.Div.Ad (.cons An.Fb.known .nil) fun n y d hp=>by
  obtain ⟨h1,h2⟩:=Ae.1 (show ((Cu (1≤n∧n≤64∧n=List.length y)&&Ah y)&&Ai d)=true from hp)
  obtain ⟨h3,h4⟩:=Ae.1 h1
  have h3:=Aq.1 h3
  obtain ⟨m,rfl⟩:∃ m:Nat,n=m:=⟨n.toNat,by omega⟩
  refine ⟨65,An.row.Div.out [.i m,.l y,.i d],[],?_,.No⟩
  show _=some (DV.ints .fresh .u64 (Jc (Int.toNat (m:Int)) fun j=>Ev (List.getD y j 0) d))
  rw [An.row.Div.ev,Auv]
  exact Za 65 (by omega) (by omega) (by omega) h4 h2 (m-1) 0 65 (by omega) (by omega)
theorem Xs {x:List Int} {k:Int} {j:Nat} (h:j<x.length):(Bj x k).getD j 0=Ch (x.getD j 0) k:=by
  unfold Bj
  rw [Au3,List.getElem?_map,Ava h,Au3,Ava h]; rfl
theorem Aha (x:List Int) (k:Int):(Bj x k).length=x.length:=by unfold Bj; rw [List.length_map]
theorem Ahb {x:List Int} (k:Int) (h:Ah x=true):Ah (Bj x k)=true:=P2 fun y hy=>by
  obtain ⟨b,hb,rfl⟩:=List.mem_map.1 hy
  exact Jw (Aq.1 h b hb)
theorem Zt:∀ {x:List Int},Ah x=true→Ai (Qd x)=true
  | [],_=>Jr
  | b::l,h=>by
    unfold Qd
    split
    · exact Zt (P2 fun y hy=>Aq.1 h y (List.mem_cons_of_mem _ hy))
    · exact Aq.1 h b List.mem_cons_self
theorem P1 {x:List Int} (h:Cx x=true):Ah x=true:=Aq.2 (Aq.1 h).2
theorem Pg {drops:List Nat} {g:Ac3}:Wk drops .nil (.ints g .u64 []):=.nil g .u64
theorem Ahg {n:Nat} {f g:Nat→Int} (h:∀ j,j<n→f j=g j):Jc n f=Jc n g:=by
  unfold Jc
  congr 1
  exact List.map_congr_left fun j hj=>h _ (by have:=List.mem_range.1 hj; omega)
theorem An.Jq.known:An.Jq.Kn:=An.Jq.Ad (.cons compare.Kq.known (.cons An.lead.known (.cons An.Cz.known (.cons (A6.alt An.row.Zero.known An.row.Div.known) (.cons An.C3.known (.cons soft.Finite.known (.cons soft.Fy.known (.cons soft.Sign.known (.cons Af.Cn.known (.cons Af.Div.known (.cons Af.Finite.known (.cons Af.Norm.known (.cons Af.Bx.known (.cons Af.Sub.known .nil)))))))))))))) fun x hp=>by
  have hx:Cx x=true:=hp
  have al:=P1 hx
  have he:=Al3 (Bp x)
  show ∃ N dv drops,_=some dv∧Wk drops dv (DV.tup [.ints .fresh .u64 (Cg x).1,.int .u64 (Cg x).2.1,.int .u64 (Cg x).2.2.1,.int .i64 (Cg x).2.2.2])
  unfold Cg
  by_cases h1:x.length=0∨64<x.length
  · rw [if_pos h1]
    refine ⟨0,.tup [.nil,.int .u64 0,.int .u64 0,.int .i64 3],[],?_,Wk.Gu (.cons Pg (.cons .int (.cons .int (.cons .int .nil))))⟩
    have:(((List.length x:Int)==(0:Int))||(A2 (64:Int) (List.length x:Int)))=true:=by
      rw [At,Bool.or_eq_true,beq_iff_eq,Au0]; omega
    rw [An.Jq.ev,this,Aut]
  have c1:(((List.length x:Int)==(0:Int))||(A2 (64:Int) (List.length x:Int)))=false:=by
    rw [At,Bool.or_eq_false_iff,beq_eq_false_iff_ne,Avc]; omega
  rw [if_neg h1]
  by_cases h2:Dz x=true
  · rw [if_pos h2]
    unfold Aoc
    have ok1:Cx (x.drop 1)=true:=Kd (P2 fun y hy=>Aq.1 al y (List.mem_of_mem_drop hy)) (by rw [List.length_drop]; omega)
    have d1:decide ((1:Int)≤(x.length:Int))=true:=Auu (by omega)
    have d0:decide ((0:Int)<(x.length:Int))=true:=Auu (by omega)
    by_cases h3:Jz (x.drop 1)=true
    · rw [if_pos h3]
      refine ⟨0,.tup [.ints .fresh .u64 (Jc x.length fun _=>0),.int .u64 0,.int .u64 (x.getD 0 0),.int .i64 0],[],?_,Wk.Gu (.cons .No (.cons .int (.cons .int (.cons .int .nil))))⟩
      rw [An.Jq.ev,c1,Aux,hx,Aut,h2,Bool.not_true,Aux,d1,Aut,ok1,Aut,h3,Aut,Aq.2 (show 1≤(x.length:Int)∧(x.length:Int)≤64 by omega),Aut,d0,Aut,Auv]
    · rw [if_neg h3]
      have h3:Jz (x.drop 1)=false:=by simpa using h3
      have ew:Ab (0-Bs (Bp x))=-Bs (Bp x):=by rw [Al (by omega) (by omega)]; omega
      have ly:=Aha x (-Bs (Bp x))
      have ay:=Ahb (-Bs (Bp x)) al
      have oky:Cx (Bj x (-Bs (Bp x)))=true:=Kd ay (by omega)
      have gy:=Xs (x:=x) (k:=-Bs (Bp x)) (j:=0) (by omega)
      have iy:=M8 ay 0
      have key:∀ mu:Int,muI x=mu→Ai mu=true→∀ b:Bool,Cy (Hz x)=b→∃ dv:DV,(bif (!b) then
              some (.tup [.nil,.int .u64 (0:Int),.int .u64 (0:Int),.int .i64 (2:Int)])
            else some (.tup [.ints .fresh .u64 (Jc (Int.toNat (List.length (Bj x (-Bs (Bp x))):Int)) (fun j=>Ev (List.getD (Bj x (-Bs (Bp x))) j 0) (Dr (List.getD (Bj x (-Bs (Bp x))) 0 0) mu))),.int .u64 (Ev (Dr mu (List.getD (Bj x (-Bs (Bp x))) 0 0)) mu),.int .u64 (Ch mu (Bs (Bp x))),.int .i64 (0:Int)]))=some dv ∧
          Wk [] dv (DV.tup [.ints .fresh .u64 (if Cy (Hz x)=true then (Abk x,Aea x,Hz x,(0:Int)) else ([],0,0,2)).1,.int .u64 (if Cy (Hz x)=true then (Abk x,Aea x,Hz x,(0:Int)) else ([],0,0,2)).2.1,.int .u64 (if Cy (Hz x)=true then (Abk x,Aea x,Hz x,(0:Int)) else ([],0,0,2)).2.2.1,.int .i64 (if Cy (Hz x)=true then (Abk x,Aea x,Hz x,(0:Int)) else ([],0,0,2)).2.2.2]):=by
        intro mu hmu _ b hb
        rw [hb]
        cases b with
        | false=>exact ⟨_,rfl,Wk.Gu (.cons Pg (.cons .int (.cons .int (.cons .int .nil))))⟩
        | true =>
          refine ⟨_,rfl,?_⟩
          rw [if_pos rfl]
          dsimp only
          have e1:Jc (Int.toNat (List.length (Bj x (-Bs (Bp x))):Int)) (fun j=>Ev (List.getD (Bj x (-Bs (Bp x))) j 0) (Dr (List.getD (Bj x (-Bs (Bp x))) 0 0) mu))=Abk x:=by
            unfold Abk
            rw [Auv,ly,gy,← hmu]
            exact Ahg fun j hj=>by rw [Xs hj]; rfl
          have e2:Ev (Dr mu (List.getD (Bj x (-Bs (Bp x))) 0 0)) mu=Aea x:=by
            unfold Aea
            rw [gy,hmu]; rfl
          have e3:Ch mu (Bs (Bp x))=Hz x:=by unfold Hz; rw [hmu]
          rw [e1,e2,e3]
          exact Wk.Gu (.cons .No (.cons .int (.cons .int (.cons .int .nil))))
      have dz:decide ((0:Int)<((Bj x (-Bs (Bp x))).length:Int))=true:=Auu (by omega)
      have cz':Cu (1≤((Bj x (-Bs (Bp x))).length:Int)∧((Bj x (-Bs (Bp x))).length:Int)≤64∧True)=true:=Aq.2 ⟨by omega,by omega,trivial⟩
      have p1:Cu (x.length≤1000∧-2300≤-Bs (Bp x)∧-Bs (Bp x)≤2300)=true:=Aq.2 (by omega)
      have p2:Cu ((Bj x (-Bs (Bp x))).length≤64)=true:=Aq.2 (by omega)
      have sp:∀ mu:Int,Ai mu=true→E0 mu (Bs (Bp x))=true:=fun mu h=>Ae.2 ⟨h,Aq.2 (by omega)⟩
      have ny:=Zj (Bj x (-Bs (Bp x)))
      cases hn:Dv (Qd x) with
      | true =>
        have hm:muI x=Er (Bj x (-Bs (Bp x))):=by unfold muI; rw [if_pos hn]
        obtain ⟨dv,k1,k2⟩:=key _ hm ny (Cy (Hz x)) rfl
        refine ⟨0,dv,[],?_,k2⟩
        rw [← k1]
        have eb:Hz x=Ch (Er (Bj x (-Bs (Bp x)))) (Bs (Bp x)):=by unfold Hz; rw [hm]
        rw [An.Jq.ev,ew,eb]
        simp only [c1,Aux,hx,Aut,h2,Bool.not_true,d1,ok1,h3,Q5,p1,oky,p2,Auz,Zt al,hn,sp _ ny,Jw ny,dz,cz',ay,iy,ny,Nd iy ny,Nd ny iy]
      | false =>
        have hm:muI x=Ds (Er (Bj x (-Bs (Bp x)))):=by unfold muI; rw [if_neg (by rw [hn]; decide)]
        have my:=Abo ny
        obtain ⟨dv,k1,k2⟩:=key _ hm my (Cy (Hz x)) rfl
        refine ⟨0,dv,[],?_,k2⟩
        rw [← k1]
        have eb:Hz x=Ch (Ds (Er (Bj x (-Bs (Bp x))))) (Bs (Bp x)):=by unfold Hz; rw [hm]
        rw [An.Jq.ev,ew,eb]
        simp only [c1,Aux,hx,Aut,h2,Bool.not_true,d1,ok1,h3,Q5,p1,oky,p2,Auz,Zt al,hn,Bool.not_false,sp _ my,Jw my,dz,cz',ay,iy,ny,my,Nd iy my,Nd my iy]
  · rw [if_neg h2]
    have h2:Dz x=false:=by simpa using h2
    refine ⟨0,.tup [.nil,.int .u64 0,.int .u64 0,.int .i64 4],[],?_,Wk.Gu (.cons Pg (.cons .int (.cons .int (.cons .int .nil))))⟩
    rw [An.Jq.ev,c1,Aux,hx,Aut,h2,Bool.not_false,Aut]
open EqHouse
def apD (i k c j a b:Nat):Bool:=decide (k≤b∧i≤a∧(b<c∨(b=c∧a<i+j)))
def apS (R C:Nat) (l:List Int) (i k:Nat) (v:List Int) (t:Int) (c j:Nat):List Int :=
  Bf R C fun a b=>if apD i k c j a b=true∧a<i+v.length then O8 (C:Int) l (i:Int) (k:Int) v t (a:Int) (b:Int) else D4 (C:Int) l (a:Int) (b:Int)
section
variable {R C i k:Nat} {l v:List Int} {t:Int}
theorem Apo (c j:Nat):(apS R C l i k v t c j).length=R*C:=Bn _ _ _
theorem Amq (h:l.length=R*C):apS R C l i k v t k 0=l:=by
  unfold apS
  conv=>rhs; rw [← La h]
  refine C2 fun a b ha hb=>?_
  rw [if_neg]
  rintro ⟨h,_⟩
  have:=of_decide_eq_true h
  omega
theorem Amr (c:Nat):apS R C l i k v t c v.length=apS R C l i k v t (c+1) 0:=by
  unfold apS
  refine C2 fun a b ha hb=>?_
  have:(apD i k c v.length a b=true∧a<i+v.length)↔(apD i k (c+1) 0 a b=true∧a<i+v.length):=by
    unfold apD
    rw [Au0,Au0]
    omega
  by_cases h:apD i k c v.length a b=true∧a<i+v.length
  · rw [if_pos h,if_pos (this.1 h)]
  · rw [if_neg h,if_neg (fun hh=>h (this.2 hh))]
theorem Apq:apS R C l i k v t C 0=Ga R C l (i:Int) (k:Int) v t:=by
  unfold apS Ga
  refine C2 fun a b ha hb=>?_
  by_cases h:apD i k C 0 a b=true∧a<i+v.length
  · rw [if_pos h]
  · rw [if_neg h]
    unfold O8
    rw [if_neg]
    intro hh
    refine h ⟨?_,by omega⟩
    unfold apD
    rw [Au0]; omega
theorem Apn {c j:Nat} (hc:c<C) (hk:k≤c) (hj:j<v.length) {x:Int} (hx:x=O8 (C:Int) l (i:Int) (k:Int) v t ((i+j:Nat):Int) (c:Int)) :
    List.set (apS R C l i k v t c j) ((i+j)*C+c) x=apS R C l i k v t c (j+1):=by
  unfold apS
  rw [Sf hc]
  refine C2 fun a b ha hb=>?_
  by_cases h:a=i+j∧b=c
  · obtain ⟨rfl,rfl⟩:=h
    rw [if_pos ⟨rfl,rfl⟩,if_pos ⟨by unfold apD; rw [Au0]; omega,by omega⟩,hx]
  · rw [if_neg h]
    have:(apD i k c j a b=true∧a<i+v.length)↔(apD i k c (j+1) a b=true∧a<i+v.length):=by
      unfold apD
      rw [Au0,Au0]
      omega
    by_cases h2:apD i k c j a b=true∧a<i+v.length
    · rw [if_pos h2,if_pos (this.1 h2)]
    · rw [if_neg h2,if_neg (fun hh=>h2 (this.2 hh))]
theorem Amp {c j:Nat} (hk:k≤c) (hj:j<v.length):O8 (C:Int) l (i:Int) (k:Int) v t ((i+j:Nat):Int) (c:Int) =
    Dr ((Dy (C:Int) l (c:Int) (i:Int) v.length).getD j 0) (Ek (Aaa (C:Int) l (i:Int) v t (c:Int)) (v.getD j 0)):=by
  unfold O8
  rw [if_pos ⟨by omega,by omega,by omega⟩]
  have e1:(((i+j:Nat):Int)-(i:Int)).toNat=j:=by omega
  have e2:(Dy (C:Int) l (c:Int) (i:Int) v.length).getD j 0=D4 (C:Int) l ((i+j:Nat):Int) (c:Int):=by
    unfold Dy
    rw [Au3,List.getElem?_map,List.getElem?_range hj]
    show D4 (C:Int) l ((i:Int)+(j:Int)) (c:Int)=_
    rw [← Int.natCast_add]
  rw [e1,e2]
theorem Aj0 {c b i:Int} {l:List Int} {m n:Nat} (h:m≤n):List.take m (Dy c l b i n)=Dy c l b i m:=by
  unfold Dy
  rw [← List.map_take,List.take_range,Nat.min_eq_left h]
theorem Afa (N M0:Nat) (r6:R≤6) (c6:C≤6) (al:Ah l=true) (av:Ah v=true) (hv:i+v.length≤R) {c:Nat} (hc:c<C) (hk:k≤c):∀ (cnt j F:Nat),j+cnt=v.length→cnt<F →
    An.Apply.L1 N M0 F (R:Int) (C:Int) l (i:Int) v t (j:Int) (apS R C l i k v t c j) (c:Int) (Aaa (C:Int) l (i:Int) v t (c:Int)) (Dy (C:Int) l (c:Int) (i:Int) v.length) (v.length:Int) =
    An.Apply.L0 N M0 (R:Int) (C:Int) l (i:Int) v t ((c+1:Nat):Int) (apS R C l i k v t (c+1) 0):=by
  intro cnt
  induction cnt with
  | zero =>
    intro j F hj hF
    obtain ⟨F,rfl⟩:∃ G,F=G+1:=⟨F-1,by omega⟩
    obtain rfl:j=v.length:=by omega
    rw [An.Apply.Cf,At,Auy (by omega),Aux,Al (by omega) (by omega),Amr]
    rfl
  | succ cnt ih =>
    intro j F hj hF
    obtain ⟨F,rfl⟩:∃ G,F=G+1:=⟨F-1,by omega⟩
    have hm:=K7 (a:=((i+j:Nat):Int)) (b:=(C:Int)) (by omega) (by omega) (by omega) (by omega)
    have hpl:=Hg (show i+j<R by omega) hc
    have e1:Ab ((i:Int)+(j:Int))=((i+j:Nat):Int):=by rw [Al (by omega) (by omega)]; omega
    have e2:Ab (((i+j:Nat):Int)*(C:Int))=(((i+j)*C:Nat):Int):=by rw [Al (by omega) (by omega)]; exact (Ave _ _).symm
    have h36:=Nat.mul_le_mul r6 c6
    have e3:Ab ((((i+j)*C:Nat):Int)+(c:Int))=(((i+j)*C+c:Nat):Int):=by rw [Al (by omega) (by omega)]; omega
    have hlen:=Apo (R:=R) (C:=C) (l:=l) (i:=i) (k:=k) (v:=v) (t:=t) c j
    have sl:=Jb (C:Int) (c:Int) (i:Int) v.length l
    rw [An.Apply.Cf,At,Auu (show (j:Int)<(v.length:Int) by omega),Aut,e1,e2,e3,sl,Auu (show (0:Int)≤(j:Int) by omega),Auu (show (j:Int)<(v.length:Int) by omega),Auz,Aut,Auv,Auv]
    have a1:=M8 av j
    have a2:=M8 (S5 (c:=(C:Int)) (b:=(c:Int)) (i:=(i:Int)) (n:=v.length) al) j
    have a3:Ai (Aaa (C:Int) l (i:Int) v t (c:Int))=true:=Mg _ _
    rw [Aut,a3,a1,Auz,Aut,a2,Mg,Auz,Aut,Auu (by omega),Auu (by omega),Auz,Aut,Auu (by omega),Aut,
      Apn hc hk (by omega) (Amp hk (by omega)).symm,Al (by omega) (by omega)]
    exact ih (j+1) F (by omega) (by omega)
theorem Afb (N:Nat) (r6:R≤6) (c6:C≤6) (hN:7<N) (hr:Av (R:Int) (C:Int) l=true) (al:Ah l=true) (av:Ah v=true) (ht:Ai t=true) (hv:i+v.length≤R):∀ (cnt c F:Nat),c+cnt=C→k≤c→cnt<F →
    An.Apply.L0 N F (R:Int) (C:Int) l (i:Int) v t (c:Int) (apS R C l i k v t c 0) =
    some (.tup [.agg [.int .i64 (R:Int),.int .i64 (C:Int),.ints (.own 114002 tB) .u64 (Ga R C l (i:Int) (k:Int) v t)],.int .i64 (0:Int)]):=by
  intro cnt
  induction cnt with
  | zero =>
    intro c F hc hk hF
    obtain ⟨F,rfl⟩:∃ G,F=G+1:=⟨F-1,by omega⟩
    obtain rfl:c=C:=by omega
    rw [An.Apply.Au,At,Auy (by omega),Aux,Apq]
  | succ cnt ih =>
    intro c F hc hk hF
    obtain ⟨F,rfl⟩:∃ G,F=G+1:=⟨F-1,by omega⟩
    have cp:Lp (R:Int) (C:Int) l (c:Int)=true:=Ae.2 ⟨hr,Aq.2 (by omega)⟩
    have e0:Int.toNat ((R:Int)-(i:Int))=R-i:=by omega
    have st:=Aj0 (c:=(C:Int)) (b:=(c:Int)) (i:=(i:Int)) (l:=l) (m:=v.length) (n:=R-i) (by omega)
    have sl:=Jb (C:Int) (c:Int) (i:Int) v.length l
    have sl2:=Jb (C:Int) (c:Int) (i:Int) (R-i) l
    have sa:=S5 (c:=(C:Int)) (b:=(c:Int)) (i:=(i:Int)) (n:=v.length) al
    have ft:To v (Dy (C:Int) l (c:Int) (i:Int) v.length)=true:=Zx.2 ⟨by omega,by omega⟩
    rw [An.Apply.Au,At,Auu (by omega),Aut,cp,Aq.2 (show 0≤(i:Int)∧(i:Int)≤(R:Int) by omega),Auz,Aut,e0,Auv,st,sl2,sl,
      Auu (show (0:Int)≤(v.length:Int) by omega),Auu (show (v.length:Int)≤(v.length:Int) by omega),Auu (show (v.length:Int)≤((R-i:Nat):Int) by omega),Auz,Auz,Aut,ft,av,sa,Auz,Auz,Aut,ht,U8,Auz,Aut]
    have:=Afa (t:=t) N F r6 c6 al av hv (show c<C by omega) hk v.length 0 N (by omega) (by omega)
    exact this.trans (ih (c+1) F (by omega) (by omega) (by omega))
end
theorem An.Apply.known:An.Apply.Kn:=An.Apply.Ad (.cons Aa.Check.known (.cons Aa.Dk.known (.cons Af.Od.known (.cons Af.Mul.known (.cons Af.Sub.known .nil))))) fun r c l i k v t hp=>by
  obtain ⟨h1,ht⟩:=Ae.1 (show (((Av r c l&&Mm r c i k v)&&(Ah l&&Ah v))&&Ai t)=true from hp)
  obtain ⟨h2,h3⟩:=Ae.1 h1
  obtain ⟨hr,hb⟩:=Ae.1 h2
  obtain ⟨al,av⟩:=Ae.1 h3
  have hb:=of_decide_eq_true hb
  have hc:Jp r c l=0:=by unfold Jp; rw [if_pos hr]
  have h36:=Ms hr
  obtain ⟨R,C,rfl,rfl,r6,c6,hl⟩:=Dd hr
  obtain ⟨i,rfl⟩:∃ j:Nat,i=j:=⟨i.toNat,by omega⟩
  obtain ⟨k,rfl⟩:∃ j:Nat,k=j:=⟨k.toNat,by omega⟩
  refine ⟨8,An.Apply.out [.i (R:Int),.i (C:Int),.l l,.i (i:Int),.i (k:Int),.l v,.i t],[],?_,Wk.Gu (.cons (Wk.H0 (.cons .int (.cons .int (.cons (.keep _ _ _ _ List.not_mem_nil) .nil)))) (.cons .int .nil))⟩
  show _=some (DV.tup [.agg [.int .i64 (R:Int),.int .i64 (C:Int),.ints (.own 114002 tB) .u64 (Ga (Int.toNat (R:Int)) (Int.toNat (C:Int)) l (i:Int) (k:Int) v t)],.int .i64 0])
  have hlt:(((((A2 (i:Int) (0:Int))||(A2 (R:Int) (List.length v:Int)))||(A2 (Ab ((R:Int)-(List.length v:Int))) (i:Int)))||(A2 (k:Int) (0:Int)))||(A2 (C:Int) (k:Int)))=false:=by
    rw [At,At,At,At,At,Al (by omega) (by omega),Auy (by omega),Auy (by omega),Auy (by omega),Auy (by omega),Auy (by omega)]; rfl
  rw [An.Apply.ev,hc,show ((0:Int) !=(0:Int))=false from rfl,Aux,hlt,Aux,Auu (show 0+l.length≤Gd by unfold Gd; omega),Aut,List.nil_append,Auv,Auv]
  have:=Afb (R:=R) (C:=C) (i:=i) (k:=k) (l:=l) (v:=v) (t:=t) 8 r6 c6 (by omega) hr al av ht (by omega) (C-k) k 8 (by omega) (by omega) (by omega)
  rw [Amq hl] at this
  exact this
end Go.Proofs.S1
end
