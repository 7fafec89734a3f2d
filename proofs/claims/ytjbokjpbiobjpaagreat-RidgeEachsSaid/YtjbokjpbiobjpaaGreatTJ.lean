/- A verified evaluator of the program's form and its use for this seat: S1PRoot, S1PRootA, LdxL, S1EqLdx, S1PLdx, S1PLdxA, S1EqRef08, S1EqRef13, S1PRef08, S1EqOf. -/
import Derived.Test.YtjbokjpbiobjpaaGreatTI
import Derived.Test.YtjbokjpbiobjpaaGreatTE
import Derived.Test.YtjbokjpbiobjpaaGreatTF
import Derived.Test.YtjbokjpbiobjpaaGreatTG
set_option linter.unusedVariables false
set_option linter.unusedSimpArgs false
noncomputable section
namespace Go.Proofs.S1
open Go Go.Den Go.Rnd Go.Proofs
open EqRoot
theorem Q5 (n s:Nat) (h:s≤64):Dj .u64 (n:Int) (s:Int)=((n / 2^s:Nat):Int):=Hw .u64 n s h
theorem sh2 {n t:Nat} (ht:t<4):Ia .u64 (B4 .u64 (n:Int) (2:Int)) (t:Int)=((n%2^62*4+t:Nat):Int):=by
  rw [show (2:Int)=((2:Nat):Int) from rfl,Fh n 2 (by decide),show n*2^2%2^64=(n%2^62)*2^2 by omega]
  exact Nc ht (by omega)
theorem sh1 {n:Nat} (h:n<2^63):B4 .u64 (n:Int) (1:Int)=((2*n:Nat):Int):=by
  rw [show (1:Int)=((1:Nat):Int) from rfl,Fh n 1 (by decide)]
  congr 1; omega
theorem Aye {n:Nat} (h:n<2^63):Ia .u64 (B4 .u64 (n:Int) (1:Int)) (1:Int)=((2*n+1:Nat):Int):=by
  rw [show (1:Int)=((1:Nat):Int) from rfl,Fh n 1 (by decide),show n*2^1%2^64=n*2^1 by omega,Nat.mul_comm 2 n]
  exact Nc (k:=1) (by decide) (by omega)
theorem Amn {m i:Nat} (hi:i<32):Ev .u64 (Dj .u64 (m:Int) (Ab ((62:Int)-(Ab ((2:Int)*(i:Int)))))) (3:Int)=((m / 2^(62-2*i)%2^64%4:Nat):Int)∨2^64≤m:=by
  by_cases hm:m<2^64
  · left
    rw [Al (x:=(2:Int)*(i:Int)) (by omega) (by omega),Al (x:=(62:Int)-2*(i:Int)) (by omega) (by omega),show (62:Int)-2*(i:Int)=((62-2*i:Nat):Int) by omega,Q5 _ _ (by omega)]
    have hd:m / 2^(62-2*i)<2^64:=Nat.lt_of_le_of_lt (Nat.div_le_self _ _) hm
    rw [show (3:Int)=((2^2-1:Nat):Int) from rfl,I6 2 hd (by decide)]
    congr 1
    omega
  · right; omega
def R9 (m i:Nat):Nat:=m*2^64 / 2^(128-2*i)
theorem Anf {m i:Nat} (hi:i<32):R9 m (i+1)=4*R9 m i+m / 2^(62-2*i)%4:=by
  unfold R9
  have e1:128-2*i=64+(64-2*i):=by omega
  have e2:128-2*(i+1)=64+(62-2*i):=by omega
  rw [e1,e2,Nat.pow_add,Nat.pow_add,Nat.mul_comm (2^64),Nat.mul_comm (2^64),Nat.mul_div_mul_right _ _ (by decide),Nat.mul_div_mul_right _ _ (by decide),show 64-2*i=(62-2*i)+2 by omega,Nat.pow_add,← Nat.div_div_eq_div_mul]
  omega
theorem Akp {m i:Nat} (hi:32≤i) (h:i<64):R9 m (i+1)=4*R9 m i:=by
  unfold R9
  have e1:(2:Nat)^64=2^(2*i-64)*2^(128-2*i):=by rw [← Nat.pow_add]; congr 1; omega
  have e2:(2:Nat)^64=2^(2*i-64)*4*2^(128-2*(i+1)):=by
    rw [show (4:Nat)=2^2 from rfl,← Nat.pow_add,← Nat.pow_add]; congr 1; omega
  have a1:m*2^64 / 2^(128-2*i)=m*2^(2*i-64):=by rw [e1,← Nat.mul_assoc,Nat.mul_div_cancel _ (Cp _)]
  have a2:m*2^64 / 2^(128-2*(i+1))=m*(2^(2*i-64)*4):=by rw [e2,← Nat.mul_assoc,Nat.mul_div_cancel _ (Cp _)]
  rw [a1,a2,← Nat.mul_assoc,Nat.mul_comm 4]
theorem Aqg {A B tl th:Nat} (hA:A<2^64) (htl:tl<2^64) (hB:B<2^64) (hth:th<4) :
    (Gz (A:Int) (tl:Int) (0:Int)=0∨Gz (A:Int) (tl:Int) (0:Int)=1) ∧
    (th*2^64+tl≤B*2^64+A→(Gz (B:Int) (th:Int) (Gz (A:Int) (tl:Int) (0:Int))==(0:Int))=true ∧
      ∃ h l:Nat,Nn (B:Int) (th:Int) (Gz (A:Int) (tl:Int) (0:Int))=(h:Int)∧Nn (A:Int) (tl:Int) (0:Int)=(l:Int)∧l<2^64∧h*2^64+l=B*2^64+A-(th*2^64+tl)) ∧
    (B*2^64+A<th*2^64+tl→(Gz (B:Int) (th:Int) (Gz (A:Int) (tl:Int) (0:Int))==(0:Int))=false):=by
  have e1:Gz (A:Int) (tl:Int) (0:Int)=((if A<tl then 1 else 0:Nat):Int):=by
    unfold Gz
    rw [Ayu,Ayu]
    rfl
  by_cases h:A<tl
  · rw [if_pos h] at e1
    rw [e1]
    have e2:Gz (B:Int) (th:Int) ((1:Nat):Int)=((if B<th+1 then 1 else 0:Nat):Int):=by
      unfold Gz
      rw [Ayu,Ayu]
      rfl
    refine ⟨.inr rfl,fun hle=>?_,fun hlt=>?_⟩
    · rw [if_neg (by omega)] at e2
      rw [e2]
      refine ⟨rfl,B-th-1,A+2^64-tl,?_,?_,by omega,by omega⟩
      · unfold Nn
        rw [Ayu,Ayu,Ayu]
        congr 1; omega
      · unfold Nn
        rw [Ayu,Ayu]
        show ((_:Nat):Int)=_
        congr 1
        show (A+18446744073709551616-tl-0)%18446744073709551616=_
        omega
    · rw [if_pos (by omega)] at e2
      rw [e2]; rfl
  · rw [if_neg h] at e1
    rw [e1]
    have e2:Gz (B:Int) (th:Int) ((0:Nat):Int)=((if B<th then 1 else 0:Nat):Int):=by
      unfold Gz
      rw [Ayu,Ayu]
      rfl
    refine ⟨.inl rfl,fun hle=>?_,fun hlt=>?_⟩
    · rw [if_neg (by omega)] at e2
      rw [e2]
      refine ⟨rfl,B-th,A-tl,?_,?_,by omega,by omega⟩
      · unfold Nn
        rw [Ayu,Ayu,Ayu]
        congr 1; omega
      · unfold Nn
        rw [Ayu,Ayu]
        show ((_:Nat):Int)=_
        congr 1
        show (A+18446744073709551616-tl-0)%18446744073709551616=_
        omega
    · rw [if_pos (by omega)] at e2
      rw [e2]; rfl
theorem glue (n t:Nat):n / 2^62*2^64+(n%2^62*4+t)=4*n+t:=by omega
theorem Alb (N:Nat) {m:Nat} (hm:m<2^63):∀ (k i F rt rest:Nat),i+k=64→k<F→R9 m i=rt*rt+rest→rest≤2*rt→rt<2^i→∀ hi lo:Nat,hi*2^64+lo=rest→lo<2^64 →
    root.Gx.L0 N F (m:Int) (rt:Int) (hi:Int) (lo:Int) (i:Int)=some (.tup [.int .u64 (Uq m),.bool (Ur m)]):=by
  intro k
  induction k with
  | zero =>
    intro i F rt rest hi hF hP hr hb h l e hl
    obtain ⟨F,rfl⟩:∃ G,F=G+1:=⟨F-1,by omega⟩
    obtain rfl:i=64:=by omega
    have hP':m*2^64=rt*rt+rest:=by
      rw [← hP]; unfold R9
      rw [show 128-2*64=0 from rfl,Nat.pow_zero,Nat.div_one]
    have hroot:=Aql hP' hr
    rw [root.Gx.Ar,As,Ayx (by omega),Ayw]
    have e1:Uq (m:Int)=(rt:Int):=by unfold Uq; rw [Ayu,← hroot]
    have e2:Ur (m:Int)=(bif ((h:Int)==(0:Int)) then ((l:Int)==(0:Int)) else false):=by
      unfold Ur
      rw [Ayu,← hroot,hP']
      by_cases h0:h=0
      · subst h0
        rw [show (((0:Nat):Int)==(0:Int))=true from rfl,Ays,Ay8,Ayz,beq_iff_eq]
        omega
      · rw [show ((h:Int)==(0:Int))=false by rw [beq_eq_false_iff_ne]; omega,Ayw,Ayx]
        omega
    rw [e1,e2]
  | succ k ih =>
    intro i F rt rest hi hF hP hr hb h l e hl
    obtain ⟨F,rfl⟩:∃ G,F=G+1:=⟨F-1,by omega⟩
    have hp:2^i≤2^63:=Ay7 (by decide) (by omega)
    have hi63:2^(i+1)=2*2^i:=by rw [Nat.pow_succ,Nat.mul_comm]
    have f1:2*rt+1<2^(i+1):=by rw [hi63]; omega
    have f2:2*rt<2^(i+1):=by omega
    have hh:h=0:=by omega
    subst hh
    have hrest:rest=l:=by omega
    subst hrest
    obtain ⟨two,t4,hP',hcode⟩:∃ two:Nat,two<4∧R9 m (i+1)=4*R9 m i+two ∧
        root.Gx.L0 N (F+1) (m:Int) (rt:Int) ((0:Nat):Int) (rest:Int) (i:Int) =
        (bif (decide ((Gz (Ia .u64 (B4 .u64 (rest:Int) (2:Int)) (two:Int)) (Ia .u64 (B4 .u64 (rt:Int) (2:Int)) (1:Int)) (0:Int))≤1)) then
          bif ((Gz (Ia .u64 (B4 .u64 ((0:Nat):Int) (2:Int)) (Dj .u64 (rest:Int) (62:Int))) (Dj .u64 (rt:Int) (62:Int)) (Gz (Ia .u64 (B4 .u64 (rest:Int) (2:Int)) (two:Int)) (Ia .u64 (B4 .u64 (rt:Int) (2:Int)) (1:Int)) (0:Int)))==(0:Int)) then
            root.Gx.L0 N F (m:Int) (Ia .u64 (B4 .u64 (rt:Int) (1:Int)) (1:Int)) (Nn (Ia .u64 (B4 .u64 ((0:Nat):Int) (2:Int)) (Dj .u64 (rest:Int) (62:Int))) (Dj .u64 (rt:Int) (62:Int)) (Gz (Ia .u64 (B4 .u64 (rest:Int) (2:Int)) (two:Int)) (Ia .u64 (B4 .u64 (rt:Int) (2:Int)) (1:Int)) (0:Int))) (Nn (Ia .u64 (B4 .u64 (rest:Int) (2:Int)) (two:Int)) (Ia .u64 (B4 .u64 (rt:Int) (2:Int)) (1:Int)) (0:Int)) (Ab ((i:Int)+(1:Int)))
          else root.Gx.L0 N F (m:Int) (B4 .u64 (rt:Int) (1:Int)) (Ia .u64 (B4 .u64 ((0:Nat):Int) (2:Int)) (Dj .u64 (rest:Int) (62:Int))) (Ia .u64 (B4 .u64 (rest:Int) (2:Int)) (two:Int)) (Ab ((i:Int)+(1:Int)))
        else none):=by
      by_cases h32:i<32
      · refine ⟨m / 2^(62-2*i)%4,Nat.mod_lt _ (by decide),Anf h32,?_⟩
        have ht:=(Amn (m:=m) h32).resolve_right (by omega)
        have hq:m / 2^(62-2*i)%2^64%4=m / 2^(62-2*i)%4:=by omega
        rw [hq] at ht
        rw [root.Gx.Ar,As,Ayt (show (i:Int)<64 by omega),Ays,As,Ayt (show (i:Int)<32 by omega),Ays,ht,Al (x:=(2:Int)*(i:Int)) (by omega) (by omega),Al (x:=(62:Int)-2*(i:Int)) (by omega) (by omega),Ayt (show (0:Int)≤62-2*(i:Int) by omega),Ays]
      · refine ⟨0,by decide,by rw [Akp (by omega) (by omega),Nat.add_zero],?_⟩
        rw [root.Gx.Ar,As,Ayt (show (i:Int)<64 by omega),Ays,As,Ayx (show ¬ (i:Int)<32 by omega),Ayw]
        rfl
    obtain ⟨s1,s2⟩:=Ah1 hP hr t4
    have eA:=sh2 (n:=rest) t4
    have eT:=sh2 (n:=rt) (t:=1) (by decide)
    have eB:Ia .u64 (B4 .u64 ((0:Nat):Int) (2:Int)) (Dj .u64 (rest:Int) (62:Int))=((rest / 2^62:Nat):Int):=by
      rw [show (62:Int)=((62:Nat):Int) from rfl,Q5 _ _ (by decide),sh2 (n:=0) (t:=rest / 2^62) (by omega)]
      congr 1; omega
    have eH:Dj .u64 (rt:Int) (62:Int)=((rt / 2^62:Nat):Int):=by rw [show (62:Int)=((62:Nat):Int) from rfl,Q5 _ _ (by decide)]
    have eT':Ia .u64 (B4 .u64 (rt:Int) (2:Int)) (1:Int)=((rt%2^62*4+1:Nat):Int):=eT
    obtain ⟨b1,b2,b3⟩:=Aqg (A:=rest%2^62*4+two) (B:=rest / 2^62) (tl:=rt%2^62*4+1) (th:=rt / 2^62) (by omega) (by omega) (by omega) (by omega)
    rw [hcode,eA,eT',eB,eH,Ayt (by rcases b1 with b | b<;>rw [b]<;>decide),Ays,Al (by omega) (by omega)]
    by_cases hc:4*rt+1≤4*rest+two
    · obtain ⟨c1,hh,ll,c2,c3,c4,c5⟩:=b2 (by rw [glue,glue]; exact hc)
      obtain ⟨d1,d2⟩:=s1 hc
      rw [c1,Ays,c2,c3,Aye (by omega)]
      refine ih (i+1) F (2*rt+1) (4*rest+two-(4*rt+1)) (by omega) (by omega) (hP'.trans d1) d2 f1 hh ll ?_ c4
      rw [c5,glue,glue]
    · rw [b3 (by rw [glue,glue]; omega),Ayw,sh1 (by omega)]
      obtain ⟨d1,d2⟩:=s2 (by omega)
      refine ih (i+1) F (2*rt) (4*rest+two) (by omega) (by omega) (hP'.trans d1) d2 f2 _ _ (glue _ _) ?_
      clear hcode
      omega
theorem root.Gx.known:root.Gx.Kn:=root.Gx.Ac .nil fun m hp=>by
  have hp:=Aq.1 hp
  obtain ⟨n,rfl⟩:∃ n:Nat,m=n:=⟨m.toNat,by omega⟩
  refine ⟨65,root.Gx.out [.i n],[],?_,Wk.Gp (.cons .int (.cons .bool .nil))⟩
  rw [root.Gx.ev]
  have h0:R9 n 0=0*0+0:=by
    unfold R9
    rw [Nat.div_eq_of_lt]
    show n*18446744073709551616<340282366920938463463374607431768211456
    omega
  exact Alb 65 (by omega) 64 0 65 0 0 rfl (by omega) h0 (Nat.le_refl 0) Nat.one_pos 0 0 rfl (Nat.pow_pos (by decide))
open EqRoot
theorem Y4 {b:Nat} (h:Aw b≠0):E4 (Aw b:Int)=((Aw b).log2:Int)+1:=by
  unfold E4
  rw [if_neg (by omega),Ayu]
theorem Aj5 {w:Nat} {E:Int} {s:Bool} (hw:2^62≤w) (n:Nat) (h:S8 n=w) (hs:s=decide (w*w≠n)) :
    Gi false (w / 2) (E+2) (bif s then true else decide (w%2=1))=(Co (Gk n) E,flagsOf (Gk n) E):=by
  have e1:Gk n / 2^2=w / 2:=by unfold Gk; rw [h]; split<;>omega
  have e2:(bif s then true else decide (w%2=1))=decide (Gk n%2^2≠0):=by
    rw [hs]
    unfold Gk
    rw [h]
    by_cases h0:w*w=n
    · rw [Ayx (by omega),Ayw,if_pos h0,decide_eq_decide]; omega
    · rw [Ayt h0,Ays,if_neg h0]; symm; exact Ayt (by omega)
  rw [← e1]
  have:=Uj false (V:=Gk n) (k:=2) (E:=E) (e:=E+2) rfl e2 (by rw [e1]; omega) (by left; rw [e1]; omega)
  rw [Tw] at this
  exact this
theorem root.Sqrt.num {b:Nat} (hb:b<2^64) (h4:Am b≠4) (h:¬ (Am b=0∨b=Eb)) (hn:Bt b=false) {z:Nat} (hz:2^60≤Aw b*2^z) (hz2:Aw b*2^z<2^62) (he:(A2 b-(z:Int))%2=0) (z60:z≤62) :
    root.Sqrt.L0 2 2 (A2 b-(z:Int)) (Uq ((Aw b*2^z:Nat):Int)) (!(Ur ((Aw b*2^z:Nat):Int)))=some (.tup [.int .u64 (Fu (b:Int)),.int .u8 (Qg (b:Int))]):=by
  have hE:=En b
  have hM:=Fb b
  have h3:Am b≠3:=fun h3=>by
    refine h (.inr ?_)
    have hpn:Bt b=false:=hn
    unfold Bt at hpn
    have hlt:b<2^63:=by simpa using hpn
    unfold Am at h3
    have hp:=Ji b
    unfold Dz at h3
    unfold Da at h3
    unfold Eb
    split at h3
    · split at h3
      · omega
      · omega
    · split at h3
      · omega
      · split at h3<;>omega
  have hm:Aw b≠0:=fun h0=>h (.inl ((Hh h3 h4).1 h0))
  have eN:Aw b*2^z*2^64=Aw b*2^(z+64):=by rw [Nat.mul_assoc,← Nat.pow_add]
  have i1:2^62≤S8 (Aw b*2^z*2^64):=Ac6 (t:=62) (by omega)
  have i2:=(Qu (Aw b*2^z*2^64)).1
  have i3:S8 (Aw b*2^z*2^64)<2^63:=by
    refine Aei (Nat.lt_of_le_of_lt i2 ?_)
    show _<9223372036854775808*9223372036854775808
    omega
  have r1:Uq ((Aw b*2^z:Nat):Int)=(S8 (Aw b*2^z*2^64):Int):=by unfold Uq; rw [Ayu]
  have r2:(!(Ur ((Aw b*2^z:Nat):Int)))=decide (S8 (Aw b*2^z*2^64)*S8 (Aw b*2^z*2^64)≠Aw b*2^z*2^64):=by
    unfold Ur; rw [Ayu,← decide_not]
  obtain ⟨k1,k2⟩:=Aer hm
  have same:=Aa1 (m:=Aw b) (k:=z+64) (l:=L4 b) (E:=(A2 b-(z:Int)) / 2-33) (F:=(A2 b-(L4 b:Int)) / 2-1) (by rw [← eN]; omega) k1 (by omega)
  rw [← eN] at same
  have near:=Aj5 (E:=(A2 b-(z:Int)) / 2-33) i1 _ rfl r2
  rw [same.1,same.2] at near
  have sq:Oh b=_:=Aeh h4 h hn
  rw [r1,r2]
  rw [r2] at near
  generalize S8 (Aw b*2^z*2^64)=w at *
  have w1:D6 (4611686018427387904:Int) (w:Int)=true:=by rw [Ef]; exact Ayt (by omega)
  have w2:Dj .u64 (w:Int) (1:Int)=((w / 2:Nat):Int):=by rw [show (1:Int)=((1:Nat):Int) from rfl,Q5 _ _ (by decide)]
  have w3:((Ev .u64 (w:Int) (1:Int))==(1:Int))=decide (w%2=1):=by
    rw [show Ev .u64 (w:Int) (1:Int)=((w%2^1:Nat):Int) from I6 1 (by omega) (by decide),Ay8,beq_iff_eq,Ayz]
    omega
  have w4:D6 (4611686018427387904:Int) ((w / 2:Nat):Int)=false:=by rw [Ef]; exact Ayx (by omega)
  have w5:Ab (Ab (Int.tdiv (A2 b-(z:Int)+2) 2)-32)=(A2 b-(z:Int)) / 2-33+2:=by
    have:Int.tdiv (A2 b-(z:Int)+2) 2=(A2 b-(z:Int)) / 2+1:=by
      rw [Int.tdiv_eq_ediv]
      split<;>omega
    rw [this,Al (x:=(A2 b-(z:Int)) / 2+1) (by omega) (by omega),Al (by omega) (by omega)]
    omega
  have w6:Ab (A2 b-(z:Int)+2)=A2 b-(z:Int)+2:=Al (by omega) (by omega)
  generalize hs:decide (w*w≠Aw b*2^z*2^64)=s at *
  have pre:Eg ((w / 2:Nat):Int) ((A2 b-(z:Int)) / 2-33+2) (bif s then true else decide (w%2=1))=true:=Aq.2 ⟨by omega,by omega,by omega,by omega,fun _=>.inl (by omega)⟩
  rw [show (2:Nat)=1+1 from rfl,root.Sqrt.Ar,w1,Ays,w2,w3,w6,show (1:Nat)=0+1 from rfl,root.Sqrt.Ar,w4,Ayw,w5,pre,Ays]
  unfold E3 E2 Fu Qg
  rw [Ayu,Ayu,near,sq]
theorem root.Sqrt.known:root.Sqrt.Kn:=root.Sqrt.Ac (.cons C5.B5.known (.cons root.Gx.known (.cons soft.Kind.known (.cons soft.Di.known (.cons soft.F9.known (.cons soft.Sign.known .nil)))))) fun a hp=>by
  obtain ⟨b,rfl,hb⟩:=Bm (x:=a) hp
  refine ⟨2,root.Sqrt.out [.i b],[],?_,Wk.Gp (.cons .int (.cons .int .nil))⟩
  show _=some (DV.tup [.int .u64 (Fu (b:Int)),.int .u8 (Qg (b:Int))])
  have hk:Bd (b:Int)=(Am b:Int):=rfl
  rw [root.Sqrt.ev,Cb hb,Ays,Ays,Ays,Ays,hk]
  by_cases h4:Am b=4
  · rw [h4,show (((4:Nat):Int)==(4:Int))=true from rfl,Ays]
    unfold Fu Qg
    rw [Ayu,X0 h4]; rfl
  have k4:(((Am b:Nat):Int)==(4:Int))=false:=by rw [beq_eq_false_iff_ne]; omega
  rw [k4,Ayw]
  by_cases h0:Am b=0
  · rw [h0,show (((0:Nat):Int)==(0:Int))=true from rfl,Ays]
    unfold Fu Qg
    rw [Ayu,Og h4 (.inl h0)]; rfl
  have k0:(((Am b:Nat):Int)==(0:Int))=false:=by rw [beq_eq_false_iff_ne]; omega
  rw [k0,Ayw]
  by_cases hi:b=Eb
  · rw [show (((b:Nat):Int)==(9218868437227405312:Int))=true by rw [hi]; rfl,Ays]
    unfold Fu Qg
    rw [Ayu,Og h4 (.inr hi)]; rfl
  have ki:(((b:Nat):Int)==(9218868437227405312:Int))=false:=by
    rw [beq_eq_false_iff_ne]; intro hh; refine hi (show b=9218868437227405312 from ?_); omega
  rw [ki,Ayw]
  have hh:¬ (Am b=0∨b=Eb):=by rintro (h | h); exact h0 h; exact hi h
  have hneg:Dt (b:Int)=Bt b:=rfl
  rw [hneg]
  cases hn:Bt b with
  | true =>
    rw [Ays]
    unfold Fu Qg
    rw [Ayu,Tv h4 hh hn]; rfl
  | false =>
    rw [Ayw]
    have hm:Aw b≠0:=fun hz=>by
      have h3:Am b≠3:=fun h3=>by
        rcases Hn b with ⟨p,_,_⟩ | ⟨_,_,q⟩ | ⟨_,q,_⟩
        · unfold Aw at hz
          rw [if_neg (by omega)] at hz
          omega
        · omega
        · exact q h3
      exact hh (.inl ((Hh h3 h4).1 hz))
    have hM:=Fb b
    have hE:=En b
    have hl:(Aw b).log2≤52:=by have:=(Nat.log2_lt hm).2 (show Aw b<2^53 by omega); omega
    have e1:Bv (b:Int)=(Aw b:Int):=rfl
    have e2:Bh (b:Int)=A2 b:=rfl
    have l1:∀ z:Nat,(Aw b).log2+z=60∨(Aw b).log2+z=61→2^60≤Aw b*2^z∧Aw b*2^z<2^62:=by
      intro z hz
      have hlz:=Lk (Aw b) z hm
      have hne:Aw b*2^z≠0:=Is hm
      constructor
      · rw [← Nat.le_log2 hne]; omega
      · rw [← Nat.log2_lt hne]; omega
    have ez:Ab ((64-(((Aw b).log2:Int)+1))-(2:Int))=((61-(Aw b).log2:Nat):Int):=by rw [Al (by omega) (by omega)]; omega
    have ez':Ab (((61-(Aw b).log2:Nat):Int)-(1:Int))=((60-(Aw b).log2:Nat):Int):=by rw [Al (by omega) (by omega)]; omega
    rw [e1,e2,Cb (n:=Aw b) (by omega),Ays,Y4 hm,ez,ez',Al (x:=A2 b-((61-(Aw b).log2:Nat):Int)) (by omega) (by omega),Al (x:=A2 b-((60-(Aw b).log2:Nat):Int)) (by omega) (by omega)]
    by_cases hp2:(A2 b-((61-(Aw b).log2:Nat):Int))%2=0
    · have t0:(Int.tmod (A2 b-((61-(Aw b).log2:Nat):Int)) (2:Int) !=(0:Int))=false:=by
        rw [bne_eq_false_iff_eq]; exact Int.tmod_eq_zero_of_dvd (Int.dvd_of_emod_eq_zero hp2)
      obtain ⟨m1,m2⟩:=l1 (61-(Aw b).log2) (by omega)
      rw [t0,Ayw,Ayt (by omega),Ays,Fh _ _ (by omega),Ay5 (by omega),Aq.2 (by omega),Ays]
      exact root.Sqrt.num hb h4 hh hn m1 m2 hp2 (by omega)
    · have t0:(Int.tmod (A2 b-((61-(Aw b).log2:Nat):Int)) (2:Int) !=(0:Int))=true:=by
        rw [bne_iff_ne]; intro hz; exact hp2 (Int.emod_eq_zero_of_dvd (Int.dvd_of_tmod_eq_zero hz))
      obtain ⟨m1,m2⟩:=l1 (60-(Aw b).log2) (by omega)
      rw [t0,Ays,Ayt (by omega),Ays,Fh _ _ (by omega),Ay5 (by omega),Aq.2 (by omega),Ays]
      exact root.Sqrt.num hb h4 hh hn m1 m2 (by omega) (by omega)
theorem Ae.Sqrt.known:Ae.Sqrt.Kn:=Ae.Sqrt.Ac (.cons root.Sqrt.known .nil) fun a hp=>by
  have hp:Af a=true:=hp
  refine ⟨0,Ae.Sqrt.out [.i a],[],?_,.int⟩
  rw [Ae.Sqrt.ev,hp]; rfl
theorem compare.Lu.known:compare.Lu.Kn:=compare.Lu.Ac (.cons C5.Lq.known (.cons soft.Finite.known (.cons soft.Kind.known (.cons soft.F9.known .nil)))) fun a hp=>by
  obtain ⟨b,rfl,hb⟩:=Bm (x:=a) hp
  refine ⟨0,compare.Lu.out [.i b],[],?_,.int⟩
  show _=some (DV.int .i64 (Br (b:Int)))
  have hk:Bd (b:Int)=(Am b:Int):=rfl
  have hf:Cv (b:Int)=Kb b:=rfl
  have hE:=En b
  have hM:=Fb b
  rw [compare.Lu.ev,Cb hb,Ays,Bool.or_true,Ays,hk,hf]
  unfold Br
  rw [Ayu]
  unfold Alp
  cases hfin:Kb b with
  | false=>rfl
  | true =>
    by_cases h0:Am b=0
    · rw [h0]; rfl
    · have k0:(((Am b:Nat):Int)==(0:Int))=false:=by rw [beq_eq_false_iff_ne]; omega
      have hm:Aw b≠0:=fun hz=>by
        obtain ⟨f4,f3⟩:=Qy hfin
        exact h0 ((Hh f3 f4).1 hz)
      have hl:(Aw b).log2≤52:=by have:=(Nat.log2_lt hm).2 (show Aw b<2^53 by omega); omega
      have e1:Bv (b:Int)=(Aw b:Int):=rfl
      have e2:Bh (b:Int)=A2 b:=rfl
      rw [k0,if_pos ⟨rfl,h0⟩,Bool.not_true,Bool.false_or,Ayw,Ays,e1,e2,Cb (n:=Aw b) (by omega),Ays,Y4 hm,Al (x:=((Aw b).log2:Int)+1-1) (by omega) (by omega),Al (by omega) (by omega)]
      congr 2; omega
theorem Aee {x:List Int} {i:Nat} (h:i<x.length) (k s:Int):Aef k s (x.drop i)=Aef k (Jx s (D3 (By (x.getD i 0) k) (By (x.getD i 0) k))) (x.drop (i+1)):=by
  rw [G5 h,Aef]
theorem Akv (N:Nat) {x:List Int} (hx:Cl x=true) (hl:x.length≤1000):∀ (k i F:Nat) (s:Int),i+k=x.length→k<F→Af s=true →
    Ae.Norm.L0 N F x s (i:Int)=some (.tup [.int .u64 (By (Fu (Aef (-Br (Be x)) s (x.drop i))) (Br (Be x))),.int .i64 0]):=by
  obtain ⟨_,hu⟩:=H6 hx
  have he:=Zo (Be x)
  intro k
  induction k with
  | zero =>
    intro i F s hi hF hs
    obtain ⟨F,rfl⟩:∃ G,F=G+1:=⟨F-1,by omega⟩
    rw [Ae.Norm.Ar,As,Ayx (by omega),Ayw,hs,Ays,show Dh (Fu s) (Br (Be x))=true from Ad.2 ⟨Acf hs,Aq.2 (by omega)⟩,Ays,Ay6 (by omega)]
    rfl
  | succ k ih =>
    intro i F s hi hF hs
    obtain ⟨F,rfl⟩:∃ G,F=G+1:=⟨F-1,by omega⟩
    rw [Ae.Norm.Ar,As,Ayt (show (i:Int)<(x.length:Int) by omega),Ays,Ayt (show (0:Int)≤(i:Int) by omega),Ayy,Ays,Ayu,Al (x:=0-Br (Be x)) (by omega) (by omega),show (0:Int)-Br (Be x)=-Br (Be x) by omega,
      show Dh (List.getD x i 0) (-Br (Be x))=true from Ad.2 ⟨hu i (by omega),Aq.2 (by omega)⟩,Ays,Hu (hu i (by omega)),Ayy,Ays,hs,Jn,Ayy,Ays,Aee (by omega),Al (by omega) (by omega)]
    exact ih (i+1) F _ (by omega) (by omega) (Aid hs (Jn _ _))
theorem Ae.Norm.known:Ae.Norm.Kn:=Ae.Norm.Ac (.cons compare.Lu.known (.cons soft.Finite.known (.cons Ae.Add.known (.cons Ae.Bo.known (.cons Ae.Mul.known (.cons Ae.Bs.known (.cons Ae.Sqrt.known .nil))))))) fun x hp=>by
  obtain ⟨hx,hl⟩:=Ad.1 (show (Cl x&&Cz (List.length x≤64))=true from hp)
  have hl:=Aq.1 hl
  refine ⟨65,Ae.Norm.out [.l x],[],?_,Wk.Gp (.cons .int (.cons .int .nil))⟩
  show _=some (DV.tup [.int .u64 (Dk x),.int .i64 0])
  rw [Ae.Norm.ev,As,Ayx (by omega),Ayw,hx,Ays,Oa,Bool.or_true,Ays]
  unfold Dk
  by_cases h:Be x=0∨Cv (Be x)=false
  · have:((Be x==(0:Int))||(!(Cv (Be x))))=true:=by
      rcases h with h | h
      · rw [h]; rfl
      · rw [h,Bool.not_false,Bool.or_true]
    rw [this,Ays,if_pos h]
  · have:((Be x==(0:Int))||(!(Cv (Be x))))=false:=by
      rw [Bool.or_eq_false_iff,beq_eq_false_iff_ne,Bool.not_eq_false']
      refine ⟨fun h0=>h (.inl h0),?_⟩
      cases hf:Cv (Be x) with
      | true=>rfl
      | false=>exact absurd (.inr hf) h
    rw [this,Ayw,Ays,if_neg h]
    exact Akv 65 hx (by omega) x.length 0 65 0 (by omega) (by omega) H4
end Go.Proofs.S1
namespace Go.Rnd
open Go.Den
theorem p52:Aw 4841369599423283200=2^52∧A2 4841369599423283200=0∧Am 4841369599423283200=2∧Bt 4841369599423283200=false:=by decide +kernel
theorem p53:Aw 4368491638549381120=2^52∧A2 4368491638549381120=-105∧Am 4368491638549381120=2∧Bt 4368491638549381120=false:=by decide +kernel
theorem Aeo {L:Int} {q:Nat} (b1:2^52≤q) (b2:q<2^53) (he:-1074≤L) (hi:L+1074≤2045):min ((L+1074).toNat*2^52+q) 9218868437227405312=(L+1075).toNat*2^52+(q-2^52):=by
  obtain ⟨t,rfl⟩:∃ t:Nat,L=t-1074:=⟨(L+1074).toNat,by omega⟩
  have e1:((t:Int)-1074+1074).toNat=t:=by omega
  have e2:((t:Int)-1074+1075).toNat=t+1:=by omega
  rw [e1,e2]
  omega
theorem Am1 {m:Nat} (h0:m≠0) (h:m.log2≤52) {e:Int} (he:-1074≤e+m.log2-52) (hi:e+m.log2-52+1074≤2045) :
    Co m e=(e+m.log2-52+1075).toNat*2^52+(m*2^(52-m.log2)-2^52)∧2^52≤m*2^(52-m.log2)∧m*2^(52-m.log2)<2^53:=by
  have hl:=Lk m (52-m.log2) h0
  have hne:m*2^(52-m.log2)≠0:=Is h0
  have b1:2^52≤m*2^(52-m.log2):=by rw [← Nat.le_log2 hne,hl]; omega
  have b2:m*2^(52-m.log2)<2^53:=by rw [← Nat.log2_lt hne,hl]; omega
  have hs:=(Ee m (52-m.log2) e).1
  have ee:e-((52-m.log2:Nat):Int)=e+m.log2-52:=by omega
  rw [ee] at hs
  exact ⟨hs.symm.trans ((Mp b1 b2 (by omega)).trans (Aeo b1 b2 he hi)),b1,b2⟩
theorem Ano {x:Nat} (hx:x<2^64) (h3:Am x≠3) (h4:Am x≠4) (h0:Am x≠0) :
    ∃ P f d:Nat,1≤P∧P≤2046∧f<2^52∧Mc x=Bl (Bt x) (P*2^52+f)∧f+2^52=Aw x*2^d∧(P:Int)-1075=A2 x-I4 x-d:=by
  have hf:=J9 x
  have hp:=Ji x
  have hm:Aw x≠0:=fun h=>h0 ((Hh h3 h4).1 h)
  have hw:=Mo hx
  have hab:G9 x=Dz x*2^52+Da x:=by unfold G9 Dz Da; omega
  have hp2:Dz x≠2047:=fun h=>by
    rcases Hn x with ⟨_,_,k⟩ | ⟨_,_,k⟩ | ⟨k,_,_⟩
    · exact h3 k
    · exact h4 k
    · omega
  unfold Mc I4
  by_cases hs:G9 x<4503599627370496
  · have hz:Dz x=0:=by omega
    have eM:Aw x=Da x:=by unfold Aw; rw [if_pos hz]
    have eE:A2 x=-1074:=by unfold A2; rw [if_pos hz]
    have hl:(Aw x).log2≤51:=by have:=(Nat.log2_lt hm).2 (show Aw x<2^52 by omega); omega
    rw [if_pos hs,if_pos hs]
    have hmul:=mul_pow h3 h4 (by rw [p52.2.2.1]; decide) (by rw [p52.2.2.1]; decide) p52.1 p52.2.2.2
    rw [hmul,p52.2.1,eE]
    obtain ⟨r1,r2,r3⟩:=Am1 (e:=-1074+0+52) hm (by omega) (by omega) (by omega)
    refine ⟨(Aw x).log2+1,Aw x*2^(52-(Aw x).log2)-2^52,52-(Aw x).log2,by omega,by omega,by omega,?_,by omega,by omega⟩
    have ht:(-1074+0+52+((Aw x).log2:Int)-52+1075).toNat=(Aw x).log2+1:=by omega
    rw [ht] at r1
    exact congrArg (Bl (Bt x)) r1
  · rw [if_neg hs,if_neg hs]
    have hz:Dz x≠0:=by
      intro h
      rw [h] at hab
      omega
    have eM:Aw x=Da x+2^52:=by unfold Aw; rw [if_neg hz]
    have eE:A2 x=(Dz x:Int)-1075:=by unfold A2; rw [if_neg hz]
    refine ⟨Dz x,Da x,0,by omega,by omega,hf,?_,by rw [eM,Nat.pow_zero,Nat.mul_one],by omega⟩
    rw [← hab]
    exact hw.symm
theorem Rd {s:Bool} {P f:Nat} (h1:1≤P) (h2:P≤2046) (hf:f<2^52) :
    Dz (Bl s (P*2^52+f))=P∧Da (Bl s (P*2^52+f))=f∧Bt (Bl s (P*2^52+f))=s∧Bl s (P*2^52+f)<2^64∧Am (Bl s (P*2^52+f))=2 ∧
    Aw (Bl s (P*2^52+f))=f+2^52∧A2 (Bl s (P*2^52+f))=(P:Int)-1075:=by
  have e1:Dz (Bl s (P*2^52+f))=P:=by
    unfold Dz Bl
    cases s
    · rw [if_neg (by decide)]; omega
    · rw [if_pos rfl]; omega
  have e2:Da (Bl s (P*2^52+f))=f:=by
    unfold Da Bl
    cases s
    · rw [if_neg (by decide)]; omega
    · rw [if_pos rfl]; omega
  have e3:Bt (Bl s (P*2^52+f))=s:=sign_neg s (by omega)
  have e4:Bl s (P*2^52+f)<2^64:=by
    unfold Bl
    cases s
    · rw [if_neg (by decide)]; omega
    · rw [if_pos rfl]; omega
  refine ⟨e1,e2,e3,e4,?_,?_,?_⟩
  · unfold Am; rw [e1,if_neg (by omega),if_pos (by omega)]
  · unfold Aw; rw [e1,e2,if_neg (by omega)]
  · unfold A2; rw [e1,if_neg (by omega)]
theorem Am0 {L:Int} {q f:Nat} (hf:f<2^52) (h1:-1074≤L) (h2:L+1074≤2045) (hq:(L+1075).toNat=q):Co (f+2^52) L=q*2^52+f:=by
  have em:=Aeo (L:=L) (q:=f+2^52) (by omega) (by omega) h1 h2
  rw [hq,Nat.add_sub_cancel] at em
  exact (Mp (by omega) (by omega) h1).trans em
theorem Ayi {V:Nat} {E:Int} (h0:V≠0) (h:1024≤E+V.log2):Co V E=Eb:=by
  have hl:Cn V E=E+V.log2-52:=by unfold Cn; omega
  have hk:=Ac5 h0 hl
  have hle:=K5 V E
  unfold Co at hle ⊢
  rw [if_neg h0] at hle ⊢
  rw [hl,H7] at hle ⊢
  generalize kept V E=q at *
  obtain ⟨t,ht⟩:∃ t:Nat,E+(V.log2:Int)-52=t:=⟨(E+(V.log2:Int)-52).toNat,by omega⟩
  rw [ht]
  have:((t:Int)+1074).toNat=t+1074:=by omega
  rw [this]
  omega
theorem Yi {y m:Nat} (h:Dx y=m) (hm:Am m≠4):y=m:=by
  unfold Dx at h
  by_cases h4:Am y=4
  · rw [if_pos h4] at h
    exact absurd (by rw [← h]; decide) hm
  · rw [if_neg h4] at h; exact h
theorem Qr (s:Bool) (V:Nat) (E:Int):Am (Bl s (Co V E))≠4:=by
  rw [Vx s (K5 V E)]
  split
  · decide
  · split
    · decide
    · split<;>decide
theorem Amz {x P f d:Nat} {k:Int} (hm:Aw x≠0) (he:f+2^52=Aw x*2^d) (hP:(P:Int)-1075=A2 x-I4 x-d) :
    Co (Aw x) (A2 x+k)=Co (f+2^52) ((P:Int)-1075+I4 x+k):=by
  have:=(Ee (Aw x) d (A2 x+k)).1
  rw [← he] at this
  rw [← this]
  congr 1
  omega
end Go.Rnd
namespace Go.Proofs.S1
open Go Go.Den Go.Rnd Go.Proofs
set_option maxRecDepth 100000
namespace EqLdx
def math.Hr.A6:List (Nat × Entry):=[]
def math.Hr.E:Env:=A9 (A5 math.Hr.A6) (fun _=>false) (fun _=>none) (fun _=>none)
theorem math.Hr.ev (N x:Nat):Bq math.Hr.E N Tryz.f251 (An Tryz.f251) [.fl x]=some (.fl (x%9223372036854775808)):=by kernel_rfl
abbrev _root_.Go.Proofs.S1.math.Hr.Kn:=A3 Tryz.prog 251 math.Hr.spec
theorem math.Hr.Ac (hk:Ax Tryz.prog math.Hr.A6) (h:∀ (x:Nat),math.Hr.pre [.f x]=true→A8 math.Hr.E Tryz.f251 [.fl x] (math.Hr.out [.f x])):math.Hr.Kn :=
  Ak (Az hk _ _ _) Tryz.func251 (by kernel_rfl) (by kernel_rfl) h
def math.Ig.A6:List (Nat × Entry):=[]
def math.Ig.E:Env:=A9 (A5 math.Ig.A6) (fun _=>false) (fun _=>none) (fun _=>none)
theorem math.Ig.ev (N x:Nat):Bq math.Ig.E N Tryz.f241 (An Tryz.f241) [.fl x]=some (.bool (Ieee.double.order x x !=some .eq)):=by kernel_rfl
abbrev _root_.Go.Proofs.S1.math.Ig.Kn:=A3 Tryz.prog 241 math.Ig.spec
theorem math.Ig.Ac (hk:Ax Tryz.prog math.Ig.A6) (h:∀ (x:Nat),math.Ig.pre [.f x]=true→A8 math.Ig.E Tryz.f241 [.fl x] (math.Ig.out [.f x])):math.Ig.Kn :=
  Ak (Az hk _ _ _) Tryz.func241 (by kernel_rfl) (by kernel_rfl) h
def math.Ih.A6:List (Nat × Entry):=[(251,math.Hr.spec)]
def math.Ih.E:Env:=A9 (A5 math.Ih.A6) (fun _=>false) (fun _=>none) (fun _=>none)
theorem math.Ih.ev (N x:Nat) (s:Int):Bq math.Ih.E N Tryz.f240 (An Tryz.f240) [.fl x,.int .i64 s]=bif (s==(0:Int)) then some (.bool (Ieee.double.order (G9 x) 9218868437227405311==some .gt)) else bif (A4 s 0) then none else some (.bool (Ieee.double.order x 9218868437227405311==some .gt)):=by kernel_rfl
abbrev _root_.Go.Proofs.S1.math.Ih.Kn:=A3 Tryz.prog 240 math.Ih.spec
theorem math.Ih.Ac (hk:Ax Tryz.prog math.Ih.A6) (h:∀ (x:Nat) (s:Int),math.Ih.pre [.f x,.i s]=true→A8 math.Ih.E Tryz.f240 [.fl x,.int .i64 s] (math.Ih.out [.f x,.i s])):math.Ih.Kn :=
  Ak (Az hk _ _ _) Tryz.func240 (by kernel_rfl) (by kernel_rfl) h
def math.normalize.A6:List (Nat × Entry):=[(251,math.Hr.spec)]
def math.normalize.E:Env:=A9 (A5 math.normalize.A6) (fun _=>false) (fun _=>none) (fun _=>none)
theorem math.normalize.ev (N x:Nat):Bq math.normalize.E N Tryz.f242 (An Tryz.f242) [.fl x]=bif (Ieee.double.order (G9 x) 4503599627370496==some .lt) then some (.tup [.fl ((Ieee.double.mul x 4841369599423283200).getD nanBits),.int .i64 (-52:Int)]) else some (.tup [.fl x,.int .i64 0]):=by kernel_rfl
abbrev _root_.Go.Proofs.S1.math.normalize.Kn:=A3 Tryz.prog 242 math.normalize.spec
theorem math.normalize.Ac (hk:Ax Tryz.prog math.normalize.A6) (h:∀ (x:Nat),math.normalize.pre [.f x]=true→A8 math.normalize.E Tryz.f242 [.fl x] (math.normalize.out [.f x])):math.normalize.Kn :=
  Ak (Az hk _ _ _) Tryz.func242 (by kernel_rfl) (by kernel_rfl) h
def math.D5.A6:List (Nat × Entry):=[]
def math.D5.E:Env:=Tc (A5 math.D5.A6) (fun _=>false) (fun _=>none) (fun _=>none) (Ab1 [])
theorem math.D5.ev (N x y:Nat):Bq math.D5.E N Tryz.f243 (An Tryz.f243) [.fl x,.fl y]=bif (!(Fl x)) then bif (!(Fl y)) then bif (decide (0≤(Ia .u64 (Gr .u64 (x:Int) 9223372036854775808) (Ev .u64 (y:Int) 9223372036854775808)))) then some (.fl (Int.toNat (Ia .u64 (Gr .u64 (x:Int) 9223372036854775808) (Ev .u64 (y:Int) 9223372036854775808)))) else none else none else none:=by kernel_rfl
abbrev _root_.Go.Proofs.S1.math.D5.Kn:=A3 Tryz.prog 243 math.D5.spec
theorem math.D5.Ac (hk:Ax Tryz.prog math.D5.A6) (h:∀ (x y:Nat),math.D5.pre [.f x,.f y]=true→A8 math.D5.E Tryz.f243 [.fl x,.fl y] (math.D5.out [.f x,.f y])):math.D5.Kn :=
  Ak (U4 hk _ _ _ _) Tryz.func243 (by kernel_rfl) (by kernel_rfl) h
def math.Xn.A6:List (Nat × Entry):=[]
def math.Xn.E:Env:=A9 (A5 math.Xn.A6) (fun _=>false) (fun _=>none) (fun _=>none)
theorem math.Xn.ev (N:Nat) (s:Int):Bq math.Xn.E N Tryz.f244 (An Tryz.f244) [.int .i64 s]=bif (D6 0 s) then some (.fl 9218868437227405312) else some (.fl 18442240474082181120):=by kernel_rfl
abbrev _root_.Go.Proofs.S1.math.Xn.Kn:=A3 Tryz.prog 244 math.Xn.spec
theorem math.Xn.Ac (hk:Ax Tryz.prog math.Xn.A6) (h:∀ (s:Int),math.Xn.pre [.i s]=true→A8 math.Xn.E Tryz.f244 [.int .i64 s] (math.Xn.out [.i s])):math.Xn.Kn :=
  Ak (Az hk _ _ _) Tryz.func244 (by kernel_rfl) (by kernel_rfl) h
def math.He.A6:List (Nat × Entry):=[(243,math.D5.spec),(244,math.Xn.spec),(240,math.Ih.spec),(241,math.Ig.spec),(242,math.normalize.spec)]
def math.He.E:Env:=Tc (A5 math.He.A6) (fun _=>false) (fun _=>none) (fun _=>none) (Ab1 [])
theorem math.He.ev (N x:Nat) (k:Int):Bq math.He.E N Tryz.f216 (An Tryz.f216) [.fl x,.int .i64 k]=bif (Ieee.double.order x 0==some .eq) then some (.fl x) else bif (Tl x&&decide ((0:Int)=0)) then bif ((decide (Am x=3))||(Tl x)) then bif ((decide (Am x=3))||(decide (Am x=4))) then some (.fl x) else bif (Afx x) then bif (!(Fl (Mc x))) then bif (A4 (Ab ((Ab (k+(I4 x)))+(Ab ((Ev .i64 (Ab (Dj .u64 ((Mc x):Int) 52)) 2047)-1023)))) (-1075:Int)) then bif (Afx (Mc x)&&decide ((0:Int)=0)) then some (.fl (Bl (Bt (Mc x)) 0)) else none else bif (A4 1023 (Ab ((Ab (k+(I4 x)))+(Ab ((Ev .i64 (Ab (Dj .u64 ((Mc x):Int) 52)) 2047)-1023))))) then bif (Ieee.double.order (Mc x) 0==some .lt) then some (.fl (Bl (decide ((-1:Int)<0)) Eb)) else some (.fl (Bl (decide ((1:Int)<0)) Eb)) else bif (A4 (Ab ((Ab (k+(I4 x)))+(Ab ((Ev .i64 (Ab (Dj .u64 ((Mc x):Int) 52)) 2047)-1023)))) (-1022:Int)) then bif (decide (0≤(Ia .u64 (Gr .u64 ((Mc x):Int) 9218868437227405312) (B4 .u64 (Bk (Ab ((Ab ((Ab ((Ab (k+(I4 x)))+(Ab ((Ev .i64 (Ab (Dj .u64 ((Mc x):Int) 52)) 2047)-1023))))+53))+1023))) 52)))) then some (.fl ((Ieee.double.mul 4368491638549381120 (Int.toNat (Ia .u64 (Gr .u64 ((Mc x):Int) 9218868437227405312) (B4 .u64 (Bk (Ab ((Ab ((Ab ((Ab (k+(I4 x)))+(Ab ((Ev .i64 (Ab (Dj .u64 ((Mc x):Int) 52)) 2047)-1023))))+53))+1023))) 52)))).getD nanBits)) else none else bif (decide (0≤(Ia .u64 (Gr .u64 ((Mc x):Int) 9218868437227405312) (B4 .u64 (Bk (Ab ((Ab ((Ab (k+(I4 x)))+(Ab ((Ev .i64 (Ab (Dj .u64 ((Mc x):Int) 52)) 2047)-1023))))+1023))) 52)))) then some (.fl ((Ieee.double.mul 4607182418800017408 (Int.toNat (Ia .u64 (Gr .u64 ((Mc x):Int) 9218868437227405312) (B4 .u64 (Bk (Ab ((Ab ((Ab (k+(I4 x)))+(Ab ((Ev .i64 (Ab (Dj .u64 ((Mc x):Int) 52)) 2047)-1023))))+1023))) 52)))).getD nanBits)) else none else none else none else none else none :=
  Eq.trans (by kernel_rfl)
  (Eh rfl (Eh (Av (Se (decide (Am x=3))) (C0 (Ap6 (decide (Am x=3)) (Tl x)) (Av (W4 (decide (Am x=3))) (C0 (tt5 (decide (Am x=3)) (decide (Am x=4))) rfl rfl)) rfl)) rfl))
abbrev _root_.Go.Proofs.S1.math.He.Kn:=A3 Tryz.prog 216 math.He.spec
theorem math.He.Ac (hk:Ax Tryz.prog math.He.A6) (h:∀ (x:Nat) (k:Int),math.He.pre [.f x,.i k]=true→A8 math.He.E Tryz.f216 [.fl x,.int .i64 k] (math.He.out [.f x,.i k])):math.He.Kn :=
  Ak (U4 hk _ _ _ _) Tryz.func216 (by kernel_rfl) (by kernel_rfl) h
def math.Iz.A6:List (Nat × Entry):=[(216,math.He.spec)]
def math.Iz.E:Env:=A9 (A5 math.Iz.A6) (fun _=>false) (fun _=>none) (fun _=>none)
theorem math.Iz.ev (N x:Nat) (k:Int):Bq math.Iz.E N Tryz.f165 (An Tryz.f165) [.fl x,.int .i64 k]=bif (Tl x&&Cz (-2300≤k∧k≤2300)) then some (.fl (It x k)) else none:=by kernel_rfl
abbrev _root_.Go.Proofs.S1.math.Iz.Kn:=A3 Tryz.prog 165 math.Iz.spec
theorem math.Iz.Ac (hk:Ax Tryz.prog math.Iz.A6) (h:∀ (x:Nat) (k:Int),math.Iz.pre [.f x,.i k]=true→A8 math.Iz.E Tryz.f165 [.fl x,.int .i64 k] (math.Iz.out [.f x,.i k])):math.Iz.Kn :=
  Ak (Az hk _ _ _) Tryz.func165 (by kernel_rfl) (by kernel_rfl) h
def Ag.Bs.A6:List (Nat × Entry):=[(165,math.Iz.spec),(102,Ag.B.spec),(159,Ag.F.spec)]
def Ag.Bs.E:Env:=A9 (A5 Ag.Bs.A6) (fun _=>false) (fun _=>none) (fun _=>none)
theorem Ag.Bs.ev (N:Nat) (a k:Int):Bq Ag.Bs.E N Tryz.f96 (An Tryz.f96) [.int .u64 a,.int .i64 k]=bif (Af a) then bif (Tl (Int.toNat a)&&Cz (-2300≤k∧k≤2300)) then some (.int .u64 (Fw (It (Int.toNat a) k))) else none else none:=by kernel_rfl
abbrev _root_.Go.Proofs.S1.Ag.Bs.Kn:=A3 Tryz.prog 96 Ag.Bs.spec
theorem Ag.Bs.Ac (hk:Ax Tryz.prog Ag.Bs.A6) (h:∀ (a k:Int),Ag.Bs.pre [.i a,.i k]=true→A8 Ag.Bs.E Tryz.f96 [.int .u64 a,.int .i64 k] (Ag.Bs.out [.i a,.i k])):Ag.Bs.Kn :=
  Ak (Az hk _ _ _) Tryz.func96 (by kernel_rfl) (by kernel_rfl) h
end EqLdx
open EqLdx
theorem Za (n:Nat):Fl n=decide (Am n=4):=Yq n
theorem Adq (x:Nat):G9 x<2^64:=Nat.lt_trans (R3 x) (by decide)
theorem Qs (x:Nat):Am (G9 x)=Am x:=by
  have e1:Dz (G9 x)=Dz x:=by unfold Dz G9; omega
  have e2:Da (G9 x)=Da x:=by unfold Da G9; omega
  unfold Am
  rw [e1,e2]
theorem Q3 (x y:Int):(compare x y=.lt↔x<y)∧(compare x y=.gt↔y<x)∧(compare x y=.eq↔x=y):=by
  rcases Int.lt_trichotomy x y with h | h | h
  · rw [Ah3 h]; refine ⟨by simp [h],?_,?_⟩<;>simp<;>omega
  · subst h
    have:compare x x=.eq:=by simp [compare,compareOfLessAndEq]
    rw [this]; simp
  · rw [Ah4 h]; refine ⟨?_,by simp [h],?_⟩<;>simp<;>omega
theorem math.Hr.known:math.Hr.Kn:=math.Hr.Ac .nil fun x _=>⟨0,math.Hr.out [.f x],[],by rw [math.Hr.ev]; rfl,.fl⟩
theorem math.Ig.known:math.Ig.Kn:=math.Ig.Ac .nil fun x hp=>by
  have hx:=Aq.1 (show Tl x=true from hp)
  refine ⟨0,math.Ig.out [.f x],[],?_,.bool⟩
  show _=some (DV.bool (decide (Am x=4)))
  rw [math.Ig.ev]
  by_cases h:Am x=4
  · rw [Vr hx hx (.inl h),Ayt h]; rfl
  · rw [Oq hx hx h h,Ayx h,(Q3 _ _).2.2.2 rfl]; rfl
theorem Ar0 {x:Nat} (hx:x<2^64) (h4:Am x≠4):(Ieee.double.order (G9 x) 9218868437227405311==some .gt)=decide (Am x=3):=by
  have k1:Am 9218868437227405311≠4:=by decide +kernel
  have k2:H0 9218868437227405311=9218868437227405311:=by decide +kernel
  have ka:H0 (G9 x)=((G9 x:Nat):Int):=by
    have:=Oz false (r:=G9 x) (R3 x)
    exact this
  rw [Oq (Adq x) (by decide) (by rw [Qs]; exact h4) k1,k2,ka]
  have hl:=Atx h4
  rw [Ay8,beq_iff_eq,Ayv,(Q3 _ _).2.1,Ayz]
  constructor
  · intro h
    refine Decidable.byContradiction fun h3=>?_
    have:=Ux h3 h4
    rw [H7] at this
    unfold G9 at h
    omega
  · intro h3
    have:=Uw h3
    rw [H7] at this
    unfold G9
    omega
theorem math.Ih.known:math.Ih.Kn:=math.Ih.Ac (.cons math.Hr.known .nil) fun x s hp=>by
  obtain ⟨h1,h2⟩:=Ad.1 (show (Tl x&&decide (s=0))=true from hp)
  have hx:=Aq.1 h1
  obtain rfl:=of_decide_eq_true h2
  refine ⟨0,math.Ih.out [.f x,.i 0],[],?_,.bool⟩
  show _=some (DV.bool (decide (Am x=3)))
  rw [math.Ih.ev,show ((0:Int)==(0:Int))=true from rfl,Ays]
  by_cases h4:Am x=4
  · rw [Vr (Adq x) (by decide) (.inl (by rw [Qs]; exact h4)),Ayx (by omega)]; rfl
  · rw [Ar0 hx h4]
theorem math.normalize.known:math.normalize.Kn:=math.normalize.Ac (.cons math.Hr.known .nil) fun x hp=>by
  obtain ⟨hx,h3,h4⟩:=Aq.1 (show Afx x=true from hp)
  refine ⟨0,math.normalize.out [.f x],[],?_,Wk.Gp (.cons .fl (.cons .int .nil))⟩
  show _=some (DV.tup [.fl (Mc x),.int .i64 (I4 x)])
  have k1:Am 4503599627370496≠4:=by decide +kernel
  have k2:H0 4503599627370496=4503599627370496:=by decide +kernel
  have ka:H0 (G9 x)=((G9 x:Nat):Int):=Oz false (r:=G9 x) (R3 x)
  have hc:(Ieee.double.order (G9 x) 4503599627370496==some .lt)=decide (G9 x<4503599627370496):=by
    rw [Oq (Adq x) (by decide) (by rw [Qs]; exact h4) k1,k2,ka,Ay8,beq_iff_eq,Ayv,(Q3 _ _).1,Ayz]
    omega
  rw [math.normalize.ev,hc]
  unfold Mc I4
  by_cases h:G9 x<4503599627370496
  · rw [Ayt h,Ays,if_pos h,if_pos h]
    have hm:=mul_pow h3 h4 (by rw [p52.2.2.1]; decide) (by rw [p52.2.2.1]; decide) p52.1 p52.2.2.2
    have:=Yi (Ul hx (b:=4841369599423283200) (by decide) Gq) (by rw [hm]; exact Qr _ _ _)
    rw [this]
  · rw [Ayx h,Ayw,if_neg h,if_neg h]
theorem Aq2 {n:Nat} (h:n<2^64):n &&& 9227875636482146303=n / 2^63*2^63+n%2^52:=by
  have hf:n%2^52<2^63:=by omega
  apply Nat.eq_of_testBit_eq
  intro j
  rw [Nat.testBit_and,show (9227875636482146303:Nat)=2^63*1+(2^52-1) from rfl,Nat.mul_comm (n / 2^63),Nat.testBit_two_pow_mul_add _ (by decide:2^52-1<2^63),Nat.testBit_two_pow_mul_add _ hf]
  by_cases hj:j<63
  · rw [if_pos hj,if_pos hj,Nat.testBit_mod_two_pow,Nat.testBit_two_pow_sub_one,Bool.and_comm]
  · rw [if_neg hj,if_neg hj,Nat.testBit_div_two_pow,Nat.sub_add_cancel (by omega)]
    by_cases h63:j=63
    · subst h63
      show (n.testBit 63&&true)=_
      rw [Bool.and_true]
    · have e1:Nat.testBit 1 (j-63)=false:=by rw [show (1:Nat)=2^0 from rfl,Nat.testBit_two_pow]; exact Ayx (by omega)
      have e2:n.testBit j=false:=Nat.testBit_lt_two_pow (Nat.lt_of_lt_of_le h (Ay7 (by decide) (by omega)))
      rw [e1,e2]; rfl
theorem Age {n:Nat} (h:n<2^64):Gr .u64 (n:Int) (9218868437227405312:Int)=((n / 2^63*2^63+n%2^52:Nat):Int):=by
  have e:(BitVec.ofInt 64 (n:Int) &&& ~~~(BitVec.ofInt 64 9218868437227405312)).toNat=n / 2^63*2^63+n%2^52:=by
    have e1 : ~~~(BitVec.ofInt 64 9218868437227405312)=BitVec.ofNat 64 9227875636482146303:=by decide
    rw [e1,BitVec.toNat_and,BitVec.toNat_ofNat,BitVec.toNat_ofInt]
    have e2:(((n:Int)%((2^64:Nat):Int)).toNat)=n:=by omega
    rw [e2]
    exact Aq2 h
  have e':(BitVec.ofInt IntKind.u64.bits (n:Int) &&& ~~~(BitVec.ofInt IntKind.u64.bits 9218868437227405312)).toNat=n / 2^63*2^63+n%2^52:=e
  unfold Gr
  rw [e']
  exact Ts (by omega)
theorem or3 {A X Y Z W V f:Nat} (h1:A=f ||| X) (h2:X ||| Y=Z) (h3:f ||| Z=W) (h4:W=V):A ||| Y=V:=by rw [h1,Nat.or_assoc,h2,h3,h4]
theorem Ayg (s p f:Nat):(s*2^11+p)*2^52+f=s*2^63+p*2^52+f:=by
  rw [Nat.add_mul,Nat.mul_assoc,← Nat.pow_add]
theorem Atl {s f p:Nat} (hs:s<2) (hf:f<2^52) (hp:p<2048):(s*2^63+f) ||| (p*2^52)=s*2^63+p*2^52+f:=by
  have e1:s*2^63+f=f ||| s*2^11*2^52:=by rw [M5 hf]; omega
  have e2:s*2^11*2^52 ||| p*2^52=(s*2^11+p)*2^52:=by
    have:=M5 (a:=s) (b:=p) (k:=11) hp
    rw [← Nat.shiftLeft_eq,← Nat.shiftLeft_eq p,← Nat.shiftLeft_or_distrib,Nat.or_comm,this,Nat.shiftLeft_eq]
  exact or3 e1 e2 (M5 hf) (Ayg s p f)
theorem Aiy {s:Bool} {P f:Nat} (h2:P≤2046) (hf:f<2^52) {q:Nat} (hq:q<2048) :
    Ia .u64 (Gr .u64 ((Bl s (P*2^52+f):Nat):Int) (9218868437227405312:Int)) (B4 .u64 (Bk (q:Int)) (52:Int))=((Bl s (q*2^52+f):Nat):Int):=by
  have h64:Bl s (P*2^52+f)<2^64:=by
    unfold Bl
    cases s
    · rw [if_neg (by decide)]; omega
    · rw [if_pos rfl]; omega
  have ef:Bl s (P*2^52+f)%2^52=f:=by
    unfold Bl
    cases s
    · rw [if_neg (by decide)]; omega
    · rw [if_pos rfl]; omega
  have es:Bl s (P*2^52+f) / 2^63=if s then 1 else 0:=by
    unfold Bl
    cases s
    · rw [if_neg (by decide),if_neg (by decide)]; omega
    · rw [if_pos rfl,if_pos rfl]; omega
  rw [Age h64,ef,es,Dn (by omega) (by omega),show (52:Int)=((52:Nat):Int) from rfl,Fh q 52 (by decide),Ay5 (by omega),U8 (by split<;>omega) (by omega),Atl (by split<;>decide) hf hq]
  refine congrArg (fun n:Nat=>(n:Int)) ?_
  unfold Bl
  cases s
  · rw [if_neg (by decide),if_neg (by decide)]; omega
  · rw [if_pos rfl,if_pos rfl]; omega
theorem Aoz {s:Bool} {P f:Nat} (h1:1≤P) (h2:P≤2046) (hf:f<2^52):Ev .i64 (Ab (Dj .u64 ((Bl s (P*2^52+f):Nat):Int) (52:Int))) (2047:Int)=(P:Int):=by
  obtain ⟨e1,_,_,h64,_⟩:=Rd (s:=s) h1 h2 hf
  rw [show (52:Int)=((52:Nat):Int) from rfl,Q5 _ _ (by decide),Al (by omega) (by omega)]
  have hb:Ev .i64 ((Bl s (P*2^52+f) / 2^52:Nat):Int) (2047:Int)=Ab ((Bl s (P*2^52+f) / 2^52%2048:Nat):Int):=by
    unfold Ev
    have e:(BitVec.ofInt 64 ((Bl s (P*2^52+f) / 2^52:Nat):Int) &&& BitVec.ofInt 64 2047).toNat=Bl s (P*2^52+f) / 2^52%2048:=by
      rw [BitVec.toNat_and,I3,show (BitVec.ofInt 64 2047).toNat=2^11-1 from rfl,Nat.and_two_pow_sub_one_eq_mod]
      omega
    have e':(BitVec.ofInt IntKind.i64.bits ((Bl s (P*2^52+f) / 2^52:Nat):Int) &&& BitVec.ofInt IntKind.i64.bits 2047).toNat=Bl s (P*2^52+f) / 2^52%2048:=e
    rw [e']
    rfl
  unfold Dz at e1
  rw [hb,e1,Al (by omega) (by omega)]
theorem math.D5.known:math.D5.Kn:=math.D5.Ac .nil fun x y hp=>by
  obtain ⟨h1,h2⟩:=Ad.1 (show (Afx y&&decide (x=0))=true from hp)
  obtain ⟨hy,h3,h4⟩:=Aq.1 (show Cz _=true from h1)
  obtain rfl:=of_decide_eq_true h2
  refine ⟨0,math.D5.out [.f 0,.f y],[],?_,.fl⟩
  show _=some (DV.fl (Bl (Bt y) 0))
  have n0:Fl 0=false:=by decide +kernel
  have ny:Fl y=false:=by rw [Za]; exact Ayx h4
  have e1:Gr .u64 ((0:Nat):Int) (9223372036854775808:Int)=((0:Nat):Int):=Z0 (by decide)
  have e2:Ev .u64 (y:Int) (9223372036854775808:Int)=((Bl (Bt y) 0:Nat):Int):=by
    rw [show (9223372036854775808:Int)=((9223372036854775808:Nat):Int) from rfl,Aga hy (by decide)]
    congr 1
    apply Nat.eq_of_testBit_eq
    intro j
    rw [Nat.testBit_and,show (9223372036854775808:Nat)=2^63 from rfl,Nat.testBit_two_pow]
    unfold Bl Bt
    by_cases hn:2^63≤y
    · rw [Ayt hn,if_pos rfl,Nat.add_zero,Nat.testBit_two_pow]
      by_cases hj:63=j
      · subst hj
        have:y.testBit 63=true:=by
          rw [Nat.testBit_eq_decide_div_mod_eq,Ayz]; omega
        rw [this]; rfl
      · rw [Ayx hj,Bool.and_false]
    · rw [Ayx hn,if_neg (by decide),Nat.zero_testBit]
      by_cases hj:63=j
      · subst hj
        rw [Nat.testBit_lt_two_pow (by omega)]; rfl
      · rw [Ayx hj,Bool.and_false]
  have e3:Ia .u64 ((0:Nat):Int) ((Bl (Bt y) 0:Nat):Int)=((Bl (Bt y) 0:Nat):Int):=by
    rw [U8 (by decide) (by unfold Bl; split<;>decide),Nat.zero_or]
  rw [math.D5.ev,n0,ny,e1,e2,e3,Ayt (by omega)]
  rfl
theorem math.Xn.known:math.Xn.Kn:=math.Xn.Ac .nil fun s _=>by
  refine ⟨0,math.Xn.out [.i s],[],?_,.fl⟩
  show _=some (DV.fl (Bl (decide (s<0)) Eb))
  rw [math.Xn.ev,Ef]
  by_cases h:s<0
  · rw [Ayx (by omega),Ayt h]; rfl
  · rw [Ayt (by omega),Ayx h]; rfl
open EqLdx
theorem Pm {x:Nat} (hx:x<2^64):(Ieee.double.order x 0==some .eq)=decide (Am x=0):=by
  by_cases h4:Am x=4
  · rw [Vr hx (by decide) (.inl h4),Ayx (by omega)]; rfl
  · have k0:Am 0≠4:=by decide +kernel
    have z:H0 0=0:=by decide +kernel
    have hk:H0 x=0↔x%2^63=0:=by
      have:=Oz (Bt x) (r:=x%2^63) (Nat.mod_lt _ (by decide))
      rw [Mo hx] at this
      rw [this]
      unfold H5
      cases Bt x
      · rw [if_neg (by decide)]; omega
      · rw [if_pos rfl]; omega
    have h0:Am x=0↔x%2^63=0:=by
      have hp:x%2^63=Dz x*2^52+Da x:=by unfold Dz Da; omega
      rw [hp]
      have:=Ji x
      unfold Am
      split
      · split<;>omega
      · split
        · omega
        · split<;>omega
    rw [Oq hx (by decide) h4 k0,z,Ay8,beq_iff_eq,Ayv,(Q3 _ _).2.2,Ayz,hk,h0]
theorem Aks {x:Nat} (hx:x<2^64) (h4:Am x≠4) (h0:Am x≠0):(Ieee.double.order x 0==some .lt)=Bt x:=by
  have k0:Am 0≠4:=by decide +kernel
  have z:H0 0=0:=by decide +kernel
  have hp:x%2^63=Dz x*2^52+Da x:=by unfold Dz Da; omega
  have hne:x%2^63≠0:=by
    intro h
    refine h0 ?_
    unfold Am
    rw [if_neg (by omega),if_neg (by omega),if_neg (by omega)]
  have:=Oz (Bt x) (r:=x%2^63) (Nat.mod_lt _ (by decide))
  rw [Mo hx] at this
  rw [Oq hx (by decide) h4 k0,z,Ay8,beq_iff_eq,Ayv,(Q3 _ _).1,this]
  unfold H5
  cases Bt x
  · rw [if_neg (by decide)]
    constructor
    · intro h; omega
    · intro h; cases h
  · rw [if_pos rfl]
    constructor
    · intro _; rfl
    · intro _; omega
theorem Aku (x:Nat):I4 x=-52∨I4 x=0:=by unfold I4; split<;>simp
theorem Aq7 {f:Nat} (hf:f<2^52):(f+2^52).log2=52:=Us (a:=52) (by omega) (by omega)
theorem math.He.known:math.He.Kn:=math.He.Ac (.cons math.D5.known (.cons math.Xn.known (.cons math.Ih.known (.cons math.Ig.known (.cons math.normalize.known .nil))))) fun x k hp=>by
  obtain ⟨h1,h2⟩:=Ad.1 (show (Tl x&&Cz (-2300≤k∧k≤2300))=true from hp)
  have hx:=Aq.1 (show Cz (x<2^64)=true from h1)
  have hk:=Aq.1 h2
  refine ⟨0,.fl (It x k),[],?_,.fl⟩
  by_cases h0:Am x=0
  · have:It x k=x:=by unfold It Gl; rw [if_neg (by omega),if_neg (by omega),if_pos (.inr h0)]
    rw [math.He.ev,Pm hx,Ayt h0,Ays,this]
  by_cases h3:Am x=3
  · have:It x k=x:=by unfold It Gl; rw [if_neg (by omega),if_neg (by omega),if_pos (.inl h3)]
    rw [math.He.ev,Pm hx,Ayx h0,Ayw,h1,Ayt (rfl:(0:Int)=0),Ayy,Ays,Bool.or_true,Ays,Ayt h3,Bool.true_or,Ays,this]
  by_cases h4:Am x=4
  · have:It x k=x:=by unfold It; rw [if_pos h4]
    rw [math.He.ev,Pm hx,Ayx h0,Ayw,h1,Ayt (rfl:(0:Int)=0),Ayy,Ays,Bool.or_true,Ays,Ayt h4,Bool.or_true,Ays,this]
  obtain ⟨P,f,d,p1,p2,hf,hw,hM,hP⟩:=Ano hx h3 h4 h0
  obtain ⟨w1,w2,w3,w4,w5,w6,w7⟩:=Rd (s:=Bt x) p1 p2 hf
  have hm:Aw x≠0:=fun h=>h0 ((Hh h3 h4).1 h)
  have hr:=Aku x
  have hl:=Aq7 hf
  have hld:It x k=Bl (Bt x) (Co (f+2^52) ((P:Int)-1075+I4 x+k)):=by
    have:=Amz (k:=k) hm hM hP
    unfold It Gl
    rw [if_neg h4,if_neg h4,if_neg (by omega),this]
  have hp:Tl x=true:=Aq.2 hx
  have hfp:Afx x=true:=Aq.2 ⟨hx,h3,h4⟩
  have hnn:Fl (Mc x)=false:=by rw [Za,hw,w5]; rfl
  have hfw:Afx (Mc x)=true:=by rw [hw]; exact Aq.2 ⟨w4,by omega,by omega⟩
  have ee:Ab (Ab (k+I4 x)+Ab (Ev .i64 (Ab (Dj .u64 ((Mc x:Nat):Int) (52:Int))) (2047:Int)-(1023:Int)))=k+I4 x+(P:Int)-1023:=by
    rw [hw,Aoz p1 p2 hf,Al (x:=k+I4 x) (by omega) (by omega),Al (x:=(P:Int)-1023) (by omega) (by omega),Al (by omega) (by omega)]
    omega
  have hrun:=math.He.ev 0 x k
  rw [Pm hx,Ayx h0,Ayw,hp,Ayt (rfl:(0:Int)=0),Ayy,Ays,Bool.or_true,Ays,Ayx h3,Ayx h4,Bool.or_self,Ayw,hfp,Ays,hnn,Bool.not_false,Ays,ee,hfw,Ayy,Ays] at hrun
  refine hrun.trans ?_
  rw [hld]
  rw [As,As,As]
  by_cases c1:k+I4 x+(P:Int)-1023 < -1075
  · rw [Ayt c1,Ays,hw,w3,(Go.Rnd.Aj2 (V:=f+2^52) (by omega) (by rw [hl]; omega)).1]
  · rw [Ayx c1,Ayw]
    by_cases c2:1023<k+I4 x+(P:Int)-1023
    · have hng:(Ieee.double.order (Mc x) 0==some .lt)=Bt x:=by
        rw [hw,Aks w4 (by omega) (by omega),w3]
      rw [Ayt c2,Ays,hng,Ayi (by omega) (by rw [hl]; omega)]
      cases Bt x<;>rfl
    · rw [Ayx c2,Ayw]
      by_cases c3:k+I4 x+(P:Int)-1023 < -1022
      · obtain ⟨q,hq⟩:∃ q:Nat,k+I4 x+(P:Int)-1023+53+1023=q:=⟨(k+I4 x+(P:Int)-1023+53+1023).toNat,by omega⟩
        have e1:Ab (Ab (k+I4 x+(P:Int)-1023+53)+1023)=(q:Int):=by
          rw [Al (x:=k+I4 x+(P:Int)-1023+53) (by omega) (by omega),Al (by omega) (by omega)]; exact hq
        have e2:=Aiy (s:=Bt x) (P:=P) (f:=f) p2 hf (q:=q) (by omega)
        obtain ⟨v1,v2,v3,v4,v5,v6,v7⟩:=Rd (s:=Bt x) (P:=q) (f:=f) (by omega) (by omega) hf
        have hmul:=mul_pow (a:=Bl (Bt x) (q*2^52+f)) (p:=4368491638549381120) (by omega) (by omega) (by rw [p53.2.2.1]; decide) (by rw [p53.2.2.1]; decide) p53.1 p53.2.2.2
        have hmi:=Ul (a:=4368491638549381120) (b:=Bl (Bt x) (q*2^52+f)) (by decide) v4 Gq
        rw [Aba] at hmi
        have:=Yi hmi (by rw [hmul]; exact Qr _ _ _)
        have e3:(q:Int)-1075+-105+52=(P:Int)-1075+I4 x+k:=by omega
        have e4:(Nj (Bl (Bt x) (q*2^52+f)) 4368491638549381120).1=Bl (Bt x) (Co (f+2^52) ((P:Int)-1075+I4 x+k)):=by
          rw [hmul,v3,v6,v7,p53.2.1,e3]
        rw [e4] at this
        rw [Ayt c3,Ays,e1,hw,e2,Ayt (by omega),Ays,Ayu,this]
      · obtain ⟨q,hq⟩:∃ q:Nat,k+I4 x+(P:Int)-1023+1023=q:=⟨(k+I4 x+(P:Int)-1023+1023).toNat,by omega⟩
        have e1:Ab (k+I4 x+(P:Int)-1023+1023)=(q:Int):=by rw [Al (by omega) (by omega)]; exact hq
        have e2:=Aiy (s:=Bt x) (P:=P) (f:=f) p2 hf (q:=q) (by omega)
        obtain ⟨v1,v2,v3,v4,v5,v6,v7⟩:=Rd (s:=Bt x) (P:=q) (f:=f) (by omega) (by omega) hf
        have hone:Nj 4607182418800017408 (Bl (Bt x) (q*2^52+f))=(Bl (Bt x) (q*2^52+f),0):=by
          rw [Aba]; exact mul_one v4 (by omega) (by omega)
        have hmi:=Ul (a:=4607182418800017408) (b:=Bl (Bt x) (q*2^52+f)) (by decide) v4 Gq
        have:=Yi hmi (by rw [hone]; show Am (Bl (Bt x) (q*2^52+f))≠4; omega)
        have er:=Am0 (L:=(P:Int)-1075+I4 x+k) (q:=q) hf (by omega) (by omega) (by omega)
        rw [Ayx c3,Ayw,e1,hw,e2,Ayt (by omega),Ays,Ayu,this,hone,er]
theorem math.Iz.known:math.Iz.Kn:=math.Iz.Ac (.cons math.He.known .nil) fun x k hp=>by
  have hp:(Tl x&&Cz (-2300≤k∧k≤2300))=true:=hp
  exact ⟨0,.fl (It x k),[],by rw [math.Iz.ev,hp,Ays],.fl⟩
theorem Af7 {x:Nat} (k:Int):Dx (It x k)=(Gl x k).1:=by
  unfold It
  by_cases h4:Am x=4
  · rw [if_pos h4]
    unfold Dx Gl
    rw [if_pos h4,if_pos h4]
  · rw [if_neg h4]
    unfold Dx
    rw [if_neg]
    unfold Gl
    rw [if_neg h4]
    by_cases h3:Am x=3∨Am x=0
    · rw [if_pos h3]; exact h4
    · rw [if_neg h3]; exact Qr _ _ _
theorem Ag.Bs.known:Ag.Bs.Kn:=Ag.Bs.Ac (.cons math.Iz.known (.cons Ag.B.known (.cons Ag.F.known .nil))) fun a k hp=>by
  obtain ⟨h1,h2⟩:=Ad.1 (show Dh a k=true from hp)
  obtain ⟨x,rfl,hx⟩:=Bm h1
  refine ⟨0,.int .u64 (By (x:Int) k),[],?_,.int⟩
  have hp:Tl x=true:=Aq.2 hx
  have:Fw (It x k)=By (x:Int) k:=by
    unfold Fw By
    rw [Ayu,Af7]
  rw [Ag.Bs.ev,h1,Ays,Ayu,hp,h2,Ayy,Ays,this]
namespace EqRef08
def Bp.ends.A6:List (Nat × Entry):=[(131,A1.Finite.spec),(142,A1.Neg.spec)]
def Bp.ends.E:Env:=A9 (A5 Bp.ends.A6) (fun _=>false) (fun _=>none) (fun _=>none)
theorem Bp.ends.ev (N:Nat) (b:Int):Bq Bp.ends.E N Tryz.f164 (An Tryz.f164) [.int .u64 b]=bif (Af b) then bif (Cv b) then some (.int .i64 0) else bif (Af b) then bif (Dt b) then some (.int .i64 (-1:Int)) else some (.int .i64 1) else none else none:=by kernel_rfl
abbrev _root_.Go.Proofs.S1.Bp.ends.Kn:=A3 Tryz.prog 164 Bp.ends.spec
theorem Bp.ends.Ac (hk:Ax Tryz.prog Bp.ends.A6) (h:∀ (b:Int),Bp.ends.pre [.i b]=true→A8 Bp.ends.E Tryz.f164 [.int .u64 b] (Bp.ends.out [.i b])):Bp.ends.Kn :=
  Ak (Az hk _ _ _) Tryz.func164 (by kernel_rfl) (by kernel_rfl) h
def Bp.Order.A6:List (Nat × Entry):=[(116,Ay.Compare.spec),(62,A1.Kind.spec),(63,A1.Value.spec),(164,Bp.ends.spec)]
def Bp.Order.E:Env:=A9 (A5 Bp.Order.A6) (fun _=>false) (fun _=>none) (fun _=>none)
theorem Bp.Order.ev (N:Nat) (a b:Int):Bq Bp.Order.E N Tryz.f95 (An Tryz.f95) [.int .u64 a,.int .u64 b]=bif (Kv a) then bif (((Bd a)==(4:Int))||(Kv b)) then bif (((Bd a)==(4:Int))||((Bd b)==(4:Int))) then some (.tup [.int .i64 0,.bool false]) else bif (Af a) then bif (Af b) then bif (((Qz a) !=(0:Int))||((Qz b) !=(0:Int))) then some (.tup [.int .i64 (max (-1:Int) (min 1 (Ab ((Qz a)-(Qz b))))),.bool true]) else bif (Af a) then bif (Af b) then bif (((Xd (Bj (mD (Fa a))) (Ap (mD (Fa a)))&&Xd (Bj (mD (Fa b))) (Ap (mD (Fa b))))&&Wx (eD (Fa a) (Bh a)))&&Wx (eD (Fa b) (Bh b))) then some (.tup [.int .i64 (W0 (wv (Bj (mD (Fa a))) (Ap (mD (Fa a)))) (eD (Fa a) (Bh a)) (wv (Bj (mD (Fa b))) (Ap (mD (Fa b)))) (eD (Fa b) (Bh b))),.bool true]) else none else none else none else none else none else none else none :=
  Eq.trans (by kernel_rfl)
  (Eh (Av (Se ((Bd a)==(4:Int))) (C0 (Ap6 ((Bd a)==(4:Int)) (Kv b)) (Av (Qa ((Bd a)==(4:Int))) (Av (W4 ((Bd a)==(4:Int))) (C0 (tt5 ((Bd a)==(4:Int)) ((Bd b)==(4:Int))) rfl (Eh (Eh (Av (Se ((Qz a) !=(0:Int))) (Av (Qa ((Qz a) !=(0:Int))) (Av (W4 ((Qz a) !=(0:Int))) (C0 (tt5 ((Qz a) !=(0:Int)) ((Qz b) !=(0:Int))) rfl rfl)))) rfl) rfl)))) rfl)) rfl)
abbrev _root_.Go.Proofs.S1.Bp.Order.Kn:=A3 Tryz.prog 95 Bp.Order.spec
theorem Bp.Order.Ac (hk:Ax Tryz.prog Bp.Order.A6) (h:∀ (a b:Int),Bp.Order.pre [.i a,.i b]=true→A8 Bp.Order.E Tryz.f95 [.int .u64 a,.int .u64 b] (Bp.Order.out [.i a,.i b])):Bp.Order.Kn :=
  Ak (Az hk _ _ _) Tryz.func95 (by kernel_rfl) (by kernel_rfl) h
def Bp.Hr.A6:List (Nat × Entry):=[(163,A1.Dp.spec),(142,A1.Neg.spec)]
def Bp.Hr.E:Env:=A9 (A5 Bp.Hr.A6) (fun _=>false) (fun _=>none) (fun _=>none)
theorem Bp.Hr.ev (N:Nat) (a:Int):Bq Bp.Hr.E N Tryz.f94 (An Tryz.f94) [.int .u64 a]=bif (Af a) then bif (Dt a) then bif (Af a) then some (.int .u64 (Db a)) else none else some (.int .u64 a) else none:=by kernel_rfl
abbrev _root_.Go.Proofs.S1.Bp.Hr.Kn:=A3 Tryz.prog 94 Bp.Hr.spec
theorem Bp.Hr.Ac (hk:Ax Tryz.prog Bp.Hr.A6) (h:∀ (a:Int),Bp.Hr.pre [.i a]=true→A8 Bp.Hr.E Tryz.f94 [.int .u64 a] (Bp.Hr.out [.i a])):Bp.Hr.Kn :=
  Ak (Az hk _ _ _) Tryz.func94 (by kernel_rfl) (by kernel_rfl) h
def Bp.Max.A6:List (Nat × Entry):=[(95,Bp.Order.spec)]
def Bp.Max.E:Env:=A9 (A5 Bp.Max.A6) (fun _=>false) (fun _=>none) (fun _=>none)
theorem Bp.Max.ev (N:Nat) (a b:Int):Bq Bp.Max.E N Tryz.f93 (An Tryz.f93) [.int .u64 a,.int .u64 b]=bif (Af a&&Af b) then bif (!(Aa8 a b)) then some (.int .u64 9221120237041090560) else bif (A4 (Sy a b) 0) then some (.int .u64 b) else some (.int .u64 a) else none:=by kernel_rfl
abbrev _root_.Go.Proofs.S1.Bp.Max.Kn:=A3 Tryz.prog 93 Bp.Max.spec
theorem Bp.Max.Ac (hk:Ax Tryz.prog Bp.Max.A6) (h:∀ (a b:Int),Bp.Max.pre [.i a,.i b]=true→A8 Bp.Max.E Tryz.f93 [.int .u64 a,.int .u64 b] (Bp.Max.out [.i a,.i b])):Bp.Max.Kn :=
  Ak (Az hk _ _ _) Tryz.func93 (by kernel_rfl) (by kernel_rfl) h
end EqRef08
namespace EqRef13
def Bp.Lu.A6:List (Nat × Entry):=[(180,Ay.Wu.spec),(131,A1.Finite.spec),(62,A1.Kind.spec),(63,A1.Value.spec)]
def Bp.Lu.E:Env:=A9 (A5 Bp.Lu.A6) (fun _=>false) (fun _=>none) (fun _=>none)
theorem Bp.Lu.ev (N:Nat) (a:Int):Bq Bp.Lu.E N Tryz.f132 (An Tryz.f132) [.int .u64 a]=bif (Af a) then bif ((!(Cv a))||(Kv a)) then bif ((!(Cv a))||((Bd a)==(0:Int))) then some (.int .i64 0) else bif (Af a) then bif (Jm (Bj (mD (Fa a))) (Ap (mD (Fa a)))&&Wx (eD (Fa a) (Bh a))) then some (.int .i64 (Ab ((Il (wv (Bj (mD (Fa a))) (Ap (mD (Fa a)))) (eD (Fa a) (Bh a)))-1))) else none else none else none else none :=
  Eq.trans (by kernel_rfl)
  (Eh (Av (Ab8 (Cv a)) (C0 (Amo (Cv a) (Kv a)) (Av (R8 (Cv a)) (Av (Ab9 (Cv a)) (C0 (As5 (Cv a) ((Bd a)==(0:Int))) rfl rfl))) rfl)) rfl)
abbrev _root_.Go.Proofs.S1.Bp.Lu.Kn:=A3 Tryz.prog 132 Bp.Lu.spec
theorem Bp.Lu.Ac (hk:Ax Tryz.prog Bp.Lu.A6) (h:∀ (a:Int),Bp.Lu.pre [.i a]=true→A8 Bp.Lu.E Tryz.f132 [.int .u64 a] (Bp.Lu.out [.i a])):Bp.Lu.Kn :=
  Ak (Az hk _ _ _) Tryz.func132 (by kernel_rfl) (by kernel_rfl) h
def Ag.Bo.hint:Nat→Option Ba
  | 0=>some { keep:=[0,3,4],objs:=[],boxes:=[] }
  | _=>none
def Ag.Bo.A6:List (Nat × Entry):=[(94,Bp.Hr.spec),(93,Bp.Max.spec)]
def Ag.Bo.E:Env:=A9 (A5 Ag.Bo.A6) (fun _=>false) Ag.Bo.hint (fun _=>none)
def Ag.Bo.L0 (N M:Nat) (x:List Int) (p3 p4:Int):Option DV:=B0 Ag.Bo.E N Tryz.f228 (An Tryz.f228) [1,1,0,1,0] [] M ⟨Gj 19 [(0,.ints .arg .u64 x),(3,.int .u64 p3),(4,.int .i64 p4)],[]⟩
theorem Ag.Bo.Ar (N M:Nat) (x:List Int) (p3 p4:Int):Ag.Bo.L0 N (M+1) x p3 p4=bif (A4 p4 (List.length x:Int)) then bif ((decide (0≤p4))&&(decide (p4<(List.length x:Int)))) then bif (Af (List.getD x (Int.toNat p4) 0)) then bif (Af p3&&Af (Je (List.getD x (Int.toNat p4) 0))) then Ag.Bo.L0 N M x (Ow p3 (Je (List.getD x (Int.toNat p4) 0))) (Ab (p4+1)) else none else none else none else some (.int .u64 p3):=by kernel_rfl
theorem Ag.Bo.ev (N:Nat) (x:List Int):Bq Ag.Bo.E N Tryz.f228 (An Tryz.f228) [.ints .arg .u64 x] =
  Ag.Bo.L0 N N x 0 0:=by kernel_rfl
abbrev _root_.Go.Proofs.S1.Ag.Bo.Kn:=A3 Tryz.prog 228 Ag.Bo.spec
theorem Ag.Bo.Ac (hk:Ax Tryz.prog Ag.Bo.A6) (h:∀ (x:List Int),Ag.Bo.pre [.l x]=true→A8 Ag.Bo.E Tryz.f228 [.ints .arg .u64 x] (Ag.Bo.out [.l x])):Ag.Bo.Kn :=
  Ak (Az hk _ _ _) Tryz.func228 (by kernel_rfl) (by kernel_rfl) h
def math.Sqrt.A6:List (Nat × Entry):=[]
def math.Sqrt.E:Env:=A9 (A5 math.Sqrt.A6) (fun _=>false) (fun _=>none) (fun _=>none)
theorem math.Sqrt.ev (N x:Nat):Bq math.Sqrt.E N Tryz.f260 (An Tryz.f260) [.fl x]=some (.fl ((Ieee.double.sqrt x).getD nanBits)):=by kernel_rfl
abbrev _root_.Go.Proofs.S1.math.Sqrt.Kn:=A3 Tryz.prog 260 math.Sqrt.spec
theorem math.Sqrt.Ac (hk:Ax Tryz.prog math.Sqrt.A6) (h:∀ (x:Nat),math.Sqrt.pre [.f x]=true→A8 math.Sqrt.E Tryz.f260 [.fl x] (math.Sqrt.out [.f x])):math.Sqrt.Kn :=
  Ak (Az hk _ _ _) Tryz.func260 (by kernel_rfl) (by kernel_rfl) h
def Ag.Sqrt.A6:List (Nat × Entry):=[(260,math.Sqrt.spec),(102,Ag.B.spec),(159,Ag.F.spec)]
def Ag.Sqrt.E:Env:=A9 (A5 Ag.Sqrt.A6) (fun _=>false) (fun _=>none) (fun _=>none)
theorem Ag.Sqrt.ev (N:Nat) (a:Int):Bq Ag.Sqrt.E N Tryz.f247 (An Tryz.f247) [.int .u64 a]=bif (Af a) then some (.int .u64 (Fw (((Ieee.double.sqrt (Int.toNat a)).getD nanBits)))) else none:=by kernel_rfl
abbrev _root_.Go.Proofs.S1.Ag.Sqrt.Kn:=A3 Tryz.prog 247 Ag.Sqrt.spec
theorem Ag.Sqrt.Ac (hk:Ax Tryz.prog Ag.Sqrt.A6) (h:∀ (a:Int),Ag.Sqrt.pre [.i a]=true→A8 Ag.Sqrt.E Tryz.f247 [.int .u64 a] (Ag.Sqrt.out [.i a])):Ag.Sqrt.Kn :=
  Ak (Az hk _ _ _) Tryz.func247 (by kernel_rfl) (by kernel_rfl) h
def Ag.Norm.hint:Nat→Option Ba
  | 0=>some { keep:=[0,4,5,6],objs:=[],boxes:=[] }
  | _=>none
def Ag.Norm.A6:List (Nat × Entry):=[(131,A1.Finite.spec),(132,Bp.Lu.spec),(181,Ag.Add.spec),(228,Ag.Bo.spec),(82,Ag.Mul.spec),(96,Ag.Bs.spec),(247,Ag.Sqrt.spec)]
def Ag.Norm.E:Env:=A9 (A5 Ag.Norm.A6) (fun _=>false) Ag.Norm.hint (fun _=>none)
def Ag.Norm.L0 (N M:Nat) (x:List Int) (p5 p6:Int):Option DV:=B0 Ag.Norm.E N Tryz.f229 (An Tryz.f229) [1,1,1,1,1,0,1,0] [] M ⟨Gj 42 [(0,.ints .arg .u64 x),(4,.int .i64 (Br (Be x))),(5,.int .u64 p5),(6,.int .i64 p6)],[]⟩
theorem Ag.Norm.Ar (N M:Nat) (x:List Int) (p5 p6:Int):Ag.Norm.L0 N (M+1) x p5 p6=bif (A4 p6 (List.length x:Int)) then bif ((decide (0≤p6))&&(decide (p6<(List.length x:Int)))) then bif (Dh (List.getD x (Int.toNat p6) 0) (Ab ((0:Int)-(Br (Be x))))) then bif (Af (By (List.getD x (Int.toNat p6) 0) (Ab ((0:Int)-(Br (Be x)))))&&Af (By (List.getD x (Int.toNat p6) 0) (Ab ((0:Int)-(Br (Be x)))))) then bif (Af p5&&Af (D3 (By (List.getD x (Int.toNat p6) 0) (Ab ((0:Int)-(Br (Be x))))) (By (List.getD x (Int.toNat p6) 0) (Ab ((0:Int)-(Br (Be x))))))) then Ag.Norm.L0 N M x (Jx p5 (D3 (By (List.getD x (Int.toNat p6) 0) (Ab ((0:Int)-(Br (Be x))))) (By (List.getD x (Int.toNat p6) 0) (Ab ((0:Int)-(Br (Be x))))))) (Ab (p6+1)) else none else none else none else none else bif (Af p5) then bif (Dh (Fu p5) (Br (Be x))) then some (.int .u64 (By (Fu p5) (Br (Be x)))) else none else none:=by kernel_rfl
theorem Ag.Norm.ev (N:Nat) (x:List Int):Bq Ag.Norm.E N Tryz.f229 (An Tryz.f229) [.ints .arg .u64 x]=bif (Cl x) then bif (((Be x)==(0:Int))||(Af (Be x))) then bif (((Be x)==(0:Int))||(!(Cv (Be x)))) then some (.int .u64 (Be x)) else bif (Af (Be x)) then Ag.Norm.L0 N N x 0 (0:Int) else none else none else none :=
  Eq.trans (by kernel_rfl)
  (Eh (Av (Se ((Be x)==(0:Int))) (C0 (Ap6 ((Be x)==(0:Int)) (Af (Be x))) (Av (Qa ((Be x)==(0:Int))) (Av (W4 ((Be x)==(0:Int))) (C0 (Au6 ((Be x)==(0:Int)) (Cv (Be x))) rfl rfl))) rfl)) rfl)
abbrev _root_.Go.Proofs.S1.Ag.Norm.Kn:=A3 Tryz.prog 229 Ag.Norm.spec
theorem Ag.Norm.Ac (hk:Ax Tryz.prog Ag.Norm.A6) (h:∀ (x:List Int),Ag.Norm.pre [.l x]=true→A8 Ag.Norm.E Tryz.f229 [.ints .arg .u64 x] (Ag.Norm.out [.l x])):Ag.Norm.Kn :=
  Ak (Az hk _ _ _) Tryz.func229 (by kernel_rfl) (by kernel_rfl) h
def Bb.Bz.hint:Nat→Option Ba
  | 0=>some { keep:=[0,3],objs:=[],boxes:=[] }
  | _=>none
def Bb.Bz.A6:List (Nat × Entry):=[(62,A1.Kind.spec)]
def Bb.Bz.E:Env:=A9 (A5 Bb.Bz.A6) (fun _=>false) Bb.Bz.hint (fun _=>none)
def Bb.Bz.L0 (N M:Nat) (x:List Int) (p3:Int):Option DV:=B0 Bb.Bz.E N Tryz.f227 (An Tryz.f227) [1,0,1,0] [] M ⟨Gj 16 [(0,.ints .arg .u64 x),(3,.int .i64 p3)],[]⟩
theorem Bb.Bz.Ar (N M:Nat) (x:List Int) (p3:Int):Bb.Bz.L0 N (M+1) x p3=bif (A4 p3 (List.length x:Int)) then bif ((decide (0≤p3))&&(decide (p3<(List.length x:Int)))) then bif (Kv (List.getD x (Int.toNat p3) 0)) then bif ((Bd (List.getD x (Int.toNat p3) 0)) !=(0:Int)) then some (.bool false) else Bb.Bz.L0 N M x (Ab (p3+1)) else none else none else some (.bool true):=by kernel_rfl
theorem Bb.Bz.ev (N:Nat) (x:List Int):Bq Bb.Bz.E N Tryz.f227 (An Tryz.f227) [.ints .arg .u64 x] =
  Bb.Bz.L0 N N x 1:=by kernel_rfl
abbrev _root_.Go.Proofs.S1.Bb.Bz.Kn:=A3 Tryz.prog 227 Bb.Bz.spec
theorem Bb.Bz.Ac (hk:Ax Tryz.prog Bb.Bz.A6) (h:∀ (x:List Int),Bb.Bz.pre [.l x]=true→A8 Bb.Bz.E Tryz.f227 [.ints .arg .u64 x] (Bb.Bz.out [.l x])):Bb.Bz.Kn :=
  Ak (Az hk _ _ _) Tryz.func227 (by kernel_rfl) (by kernel_rfl) h
def Bb.lead.hint:Nat→Option Ba
  | 0=>some { keep:=[0,3],objs:=[],boxes:=[] }
  | _=>none
def Bb.lead.A6:List (Nat × Entry):=[(62,A1.Kind.spec)]
def Bb.lead.E:Env:=A9 (A5 Bb.lead.A6) (fun _=>false) Bb.lead.hint (fun _=>none)
def Bb.lead.L0 (N M:Nat) (x:List Int) (p3:Int):Option DV:=B0 Bb.lead.E N Tryz.f230 (An Tryz.f230) [1,0,1,0] [] M ⟨Gj 17 [(0,.ints .arg .u64 x),(3,.int .i64 p3)],[]⟩
theorem Bb.lead.Ar (N M:Nat) (x:List Int) (p3:Int):Bb.lead.L0 N (M+1) x p3=bif (A4 p3 (List.length x:Int)) then bif ((decide (0≤p3))&&(decide (p3<(List.length x:Int)))) then bif (Kv (List.getD x (Int.toNat p3) 0)) then bif ((Bd (List.getD x (Int.toNat p3) 0)) !=(0:Int)) then some (.int .i64 p3) else Bb.lead.L0 N M x (Ab (p3+1)) else none else none else some (.int .i64 0):=by kernel_rfl
theorem Bb.lead.ev (N:Nat) (x:List Int):Bq Bb.lead.E N Tryz.f230 (An Tryz.f230) [.ints .arg .u64 x] =
  Bb.lead.L0 N N x 0:=by kernel_rfl
abbrev _root_.Go.Proofs.S1.Bb.lead.Kn:=A3 Tryz.prog 230 Bb.lead.spec
theorem Bb.lead.Ac (hk:Ax Tryz.prog Bb.lead.A6) (h:∀ (x:List Int),Bb.lead.pre [.l x]=true→A8 Bb.lead.E Tryz.f230 [.ints .arg .u64 x] (Bb.lead.out [.l x])):Bb.lead.Kn :=
  Ak (Az hk _ _ _) Tryz.func230 (by kernel_rfl) (by kernel_rfl) h
def Bb.Dq.hint:Nat→Option Ba
  | 0=>some { keep:=[0,2,4,5],objs:=[(0,4,100004,.ints 37 .u64 [])],boxes:=[2] }
  | 2=>some { keep:=[0,2,4,6,7,8],objs:=[(0,4,100004,.ints 37 .u64 []),(0,7,100007,.ints 37 .u64 [])],boxes:=[2] }
  | 4=>some { keep:=[2,4,7,9,10,11,12],objs:=[(0,4,100004,.ints 37 .u64 []),(0,7,100007,.ints 37 .u64 [])],boxes:=[2] }
  | _=>none
def Bb.Dq.A6:List (Nat × Entry):=[(131,A1.Finite.spec),(163,A1.Dp.spec),(142,A1.Neg.spec),(132,Bp.Lu.spec),(228,Ag.Bo.spec),(84,Ag.Div.spec),(229,Ag.Norm.spec),(96,Ag.Bs.spec),(81,Ag.Sub.spec),(230,Bb.lead.spec),(227,Bb.Bz.spec)]
def Bb.Dq.E:Env:=A9 (A5 Bb.Dq.A6) (fun _=>false) Bb.Dq.hint (fun _=>none)
def Bb.Dq.L0 (N M:Nat) (x:List Int) (p5:Int) (p4:List Int):Option DV:=B0 Bb.Dq.E N Tryz.f196 (An Tryz.f196) [1,1,0,1,0,0,1,0] [] M ⟨Gj 98 [(0,.ints .arg .u64 x),(2,.ptr 2 0 0),(4,.oref 100004),(5,.int .i64 p5)],[(2,false,.box [.nil,.int .u64 0,.int .u64 0]),(100004,false,.ints 37 .u64 p4)]⟩
def Bb.Dq.L1 (N M:Nat) (x:List Int) (p8:Int) (p7:List Int):Option DV:=B0 Bb.Dq.E N Tryz.f196 (An Tryz.f196) [1,1,1,1,1,0,1,0] [] M ⟨Gj 98 [(0,.ints .arg .u64 x),(2,.ptr 2 0 0),(4,.oref 100004),(6,.int .i64 (Br (Be x))),(7,.oref 100007),(8,.int .i64 p8)],[(2,false,.box [.nil,.int .u64 0,.int .u64 0]),(100004,false,.ints 37 .u64 [(4607182418800017408:Int)]),(100007,false,.ints 37 .u64 p7)]⟩
def Bb.Dq.L2 (N M:Nat) (p7:List Int) (p9 p10:Int) (p11 p12:Int) (p4_1:List Int):Option DV:=B0 Bb.Dq.E N Tryz.f196 (An Tryz.f196) [1,1,1,1,1,1,1,1,1,1,1,0,1,0] [] M ⟨Gj 98 [(2,.ptr 2 0 0),(4,.oref 100004),(7,.oref 100007),(9,.int .u64 p9),(10,.int .u64 p10),(11,.int .u64 p11),(12,.int .i64 p12)],[(2,false,.box [.nil,.int .u64 0,.int .u64 0]),(100004,false,.ints 37 .u64 p4_1),(100007,false,.ints 37 .u64 p7)]⟩
theorem Bb.Dq.Ar (N M:Nat) (x:List Int) (p5:Int) (p4:List Int):Bb.Dq.L0 N (M+1) x p5 p4=bif (A4 p5 (List.length x:Int)) then bif (decide ((List.length p4)+1≤Gt)) then Bb.Dq.L0 N M x (Ab (p5+1)) (p4++[(0:Int)]) else none else bif (decide ((0:Int)<(List.length x:Int))) then some (.tup [.agg [.ints (.own 100004 37) .u64 p4,.int .u64 0,.int .u64 (List.getD x 0 0)],.bool true]) else none:=by kernel_rfl
theorem Bb.Dq.B9 (N M:Nat) (x:List Int) (p8:Int) (p7:List Int):Bb.Dq.L1 N (M+1) x p8 p7=bif (A4 p8 (List.length x:Int)) then bif ((decide (0≤p8))&&(decide (p8<(List.length x:Int)))) then bif (Dh (List.getD x (Int.toNat p8) 0) (Ab ((0:Int)-(Br (Be x))))) then bif (decide ((List.length p7)+1≤Gt)) then Bb.Dq.L1 N M x (Ab (p8+1)) (p7++[(By (List.getD x (Int.toNat p8) 0) (Ab ((0:Int)-(Br (Be x)))))]) else none else none else none else bif (Cl p7) then bif (Cl x) then bif ((decide (0≤(P5 x 0)))&&(decide ((P5 x 0)<(List.length x:Int)))) then bif (Af (List.getD x (Int.toNat (P5 x 0)) 0)) then bif (!(Dt (List.getD x (Int.toNat (P5 x 0)) 0))) then bif (Af (Dk p7)) then bif (Dh (Db (Dk p7)) (Br (Be x))) then bif (Af (By (Db (Dk p7)) (Br (Be x)))) then bif (!(Cv (By (Db (Dk p7)) (Br (Be x))))) then some (.tup [.agg [.nil,.int .u64 0,.int .u64 0],.bool false]) else bif (decide ((0:Int)<(List.length p7:Int))) then bif (decide (0<(List.length p7))) then bif (Af (List.getD p7 0 0)&&Af (Db (Dk p7))) then Bb.Dq.L2 N N p7 (Db (Dk p7)) (By (Db (Dk p7)) (Br (Be x))) (Ew (List.getD p7 0 0) (Db (Dk p7))) 1 [(4607182418800017408:Int)] else none else none else none else none else none else none else bif (Dh (Dk p7) (Br (Be x))) then bif (Af (By (Dk p7) (Br (Be x)))) then bif (!(Cv (By (Dk p7) (Br (Be x))))) then some (.tup [.agg [.nil,.int .u64 0,.int .u64 0],.bool false]) else bif (decide ((0:Int)<(List.length p7:Int))) then bif (decide (0<(List.length p7))) then bif (Af (List.getD p7 0 0)&&Af (Dk p7)) then Bb.Dq.L2 N N p7 (Dk p7) (By (Dk p7) (Br (Be x))) (Ew (List.getD p7 0 0) (Dk p7)) 1 [(4607182418800017408:Int)] else none else none else none else none else none else none else none else none else none:=by kernel_rfl
theorem Bb.Dq.Hq (N M:Nat) (p7:List Int) (p9 p10:Int) (p11 p12:Int) (p4_1:List Int):Bb.Dq.L2 N (M+1) p7 p9 p10 p11 p12 p4_1=bif (A4 p12 (List.length p7:Int)) then bif ((decide (0≤p12))&&(decide (p12<(List.length p7:Int)))) then bif (decide ((Int.toNat p12)<(List.length p7))) then bif (Af (List.getD p7 (Int.toNat p12) 0)&&Af p11) then bif (decide ((List.length p4_1)+1≤Gt)) then Bb.Dq.L2 N M p7 p9 p10 p11 (Ab (p12+1)) (p4_1++[(Fc (List.getD p7 (Int.toNat p12) 0) p11)]) else none else none else none else none else bif (decide ((0:Int)<(List.length p7:Int))) then bif (decide (0<(List.length p7))) then bif (Af p9&&Af (List.getD p7 0 0)) then bif (Af (Ew p9 (List.getD p7 0 0))&&Af p9) then some (.tup [.agg [.ints (.own 100004 37) .u64 p4_1,.int .u64 (Fc (Ew p9 (List.getD p7 0 0)) p9),.int .u64 p10],.bool true]) else none else none else none else none:=by kernel_rfl
theorem Bb.Dq.ev (N:Nat) (x:List Int):Bq Bb.Dq.E N Tryz.f196 (An Tryz.f196) [.ints .arg .u64 x]=bif (Cl x) then bif (Ed (List.drop 1 x)) then Bb.Dq.L0 N N x 1 [(4607182418800017408:Int)] else bif (Cl x) then bif (Af (Be x)) then Bb.Dq.L1 N N x 0 [] else none else none else none:=by kernel_rfl
abbrev _root_.Go.Proofs.S1.Bb.Dq.Kn:=A3 Tryz.prog 196 Bb.Dq.spec
theorem Bb.Dq.Ac (hk:Ax Tryz.prog Bb.Dq.A6) (h:∀ (x:List Int),Bb.Dq.pre [.l x]=true→A8 Bb.Dq.E Tryz.f196 [.ints .arg .u64 x] (Bb.Dq.out [.l x])):Bb.Dq.Kn :=
  Ak (Az hk _ _ _) Tryz.func196 (by kernel_rfl) (by kernel_rfl) h
def Bb.Apply.hint:Nat→Option Ba
  | 0=>some { keep:=[1,3,4,5,10,11,12],objs:=[],boxes:=[5,10,11] }
  | 2=>some { keep:=[1,3,4,5,10,11,12,13,14,15],objs:=[],boxes:=[5,10,11] }
  | _=>none
def Bb.Apply.A6:List (Nat × Entry):=[(118,Ag.H3.spec),(82,Ag.Mul.spec),(81,Ag.Sub.spec),(108,Aj.P7.spec),(83,Aj.Ga.arg.spec)]
def Bb.Apply.E:Env:=A9 (A5 Bb.Apply.A6) (fun _=>false) Bb.Apply.hint (fun _=>none)
def Bb.Apply.L0 (N M:Nat) (r c:Int) (l:List Int) (i:Int) (v:List Int) (t p12:Int) (p11_1:List Int):Option DV:=B0 Bb.Apply.E N Tryz.f198 (An Tryz.f198) [1,1,0,1,0] [] M ⟨Gj 60 [(1,.int .i64 i),(3,.ints .arg .u64 v),(4,.int .u64 t),(5,.ptr 5 0 0),(10,.ptr 10 0 0),(11,.ptr 11 0 0),(12,.int .i64 p12)],[(5,false,.box [.int .i64 r,.int .i64 c,.ints .arg .u64 l]),(10,false,.box [.int .i64 0,.int .i64 0,.nil]),(11,false,.box [.int .i64 r,.int .i64 c,.ints .arg .u64 p11_1])]⟩
def Bb.Apply.L1 (N M0 M:Nat) (r c:Int) (l:List Int) (i:Int) (v:List Int) (t p15:Int) (p11:List Int) (p12_1:Int) (p13:List Int) (p14:Int):Option DV:=B0 Bb.Apply.E N Tryz.f198 (An Tryz.f198) [1,1,0,1,0,0,1,0,0,1,1,1,0] [M0] M ⟨Gj 60 [(1,.int .i64 i),(3,.ints .arg .u64 v),(4,.int .u64 t),(5,.ptr 5 0 0),(10,.ptr 10 0 0),(11,.ptr 11 0 0),(12,.int .i64 p12_1),(13,.ints .fresh .u64 p13),(14,.int .u64 p14),(15,.int .i64 p15)],[(5,false,.box [.int .i64 r,.int .i64 c,.ints .arg .u64 l]),(10,false,.box [.int .i64 0,.int .i64 0,.nil]),(11,false,.box [.int .i64 r,.int .i64 c,.ints .arg .u64 p11])]⟩
theorem Bb.Apply.Ar (N M:Nat) (r c:Int) (l:List Int) (i:Int) (v:List Int) (t p12:Int) (p11_1:List Int):Bb.Apply.L0 N (M+1) r c l i v t p12 p11_1=bif (A4 p12 c) then bif (G6 r c l p12&&Cz (0≤i∧i≤r)) then bif ((decide ((0:Int)≤(List.length v:Int)))&&(decide ((List.length v:Int)≤(List.length (Cu c l p12 i (Int.toNat (r-i))):Int)))) then bif ((O3 v (List.take (Int.toNat (List.length v:Int)) (Cu c l p12 i (Int.toNat (r-i))))&&Ah v)&&Ah (List.take (Int.toNat (List.length v:Int)) (Cu c l p12 i (Int.toNat (r-i))))) then bif (Af t&&Af (Jg v (List.take (Int.toNat (List.length v:Int)) (Cu c l p12 i (Int.toNat (r-i)))))) then Bb.Apply.L1 N M N r c l i v t 0 p11_1 p12 (Cu c l p12 i (Int.toNat (r-i))) (D3 t (Jg v (List.take (Int.toNat (List.length v:Int)) (Cu c l p12 i (Int.toNat (r-i)))))) else none else none else none else none else some (.agg [.int .i64 r,.int .i64 c,.ints .arg .u64 p11_1]) :=
  Eq.trans (by kernel_rfl)
  (Eh (Eh (C0 (Ko (decide ((0:Int)≤(List.length v:Int))) (decide ((List.length v:Int)≤(List.length (Cu c l p12 i (Int.toNat (r-i))):Int)))) rfl rfl) rfl) rfl)
theorem Bb.Apply.B9 (N M0 M:Nat) (r c:Int) (l:List Int) (i:Int) (v:List Int) (t p15:Int) (p11:List Int) (p12_1:Int) (p13:List Int) (p14:Int):Bb.Apply.L1 N M0 (M+1) r c l i v t p15 p11 p12_1 p13 p14=bif (A4 p15 (List.length v:Int)) then bif ((decide (0≤p15))&&(decide (p15<(List.length p13:Int)))) then bif ((decide (0≤p15))&&(decide (p15<(List.length v:Int)))) then bif (Af p14&&Af (List.getD v (Int.toNat p15) 0)) then bif (Af (List.getD p13 (Int.toNat p15) 0)&&Af (D3 p14 (List.getD v (Int.toNat p15) 0))) then bif (C2 r c p11 (Ab (i+p15)) p12_1) then Bb.Apply.L1 N M0 M r c l i v t (Ab (p15+1)) (List.set p11 (Int.toNat ((Ab (i+p15))*c+p12_1)) (Ew (List.getD p13 (Int.toNat p15) 0) (D3 p14 (List.getD v (Int.toNat p15) 0)))) p12_1 p13 p14 else none else none else none else none else none else Bb.Apply.L0 N M0 r c l i v t (Ab (p12_1+1)) p11 :=
  Eq.trans (by kernel_rfl)
  (Eh (C0 (Ko (decide (0≤p15)) (decide (p15<(List.length p13:Int)))) (C0 (Ko (decide (0≤p15)) (decide (p15<(List.length v:Int)))) (C0 (Cx (Af p14&&Af (List.getD v (Int.toNat p15) 0))) (C0 (Cx (Af (List.getD p13 (Int.toNat p15) 0)&&Af (D3 p14 (List.getD v (Int.toNat p15) 0)))) (C0 (Cx (C2 r c p11 (Ab (i+p15)) p12_1)) rfl rfl) rfl) rfl) rfl) rfl) rfl)
theorem Bb.Apply.ev (N:Nat) (r c:Int) (l:List Int) (i k:Int) (v:List Int) (t:Int):Bq Bb.Apply.E N Tryz.f198 (An Tryz.f198) [.agg [.int .i64 r,.int .i64 c,.ints .arg .u64 l],.int .i64 i,.int .i64 k,.ints .arg .u64 v,.int .u64 t] =
  Bb.Apply.L0 N N r c l i v t k l:=by kernel_rfl
abbrev _root_.Go.Proofs.S1.Bb.Apply.Kn:=A3 Tryz.prog 198 Bb.Apply.spec
theorem Bb.Apply.Ac (hk:Ax Tryz.prog Bb.Apply.A6) (h:∀ (r c:Int) (l:List Int) (i k:Int) (v:List Int) (t:Int),Bb.Apply.pre [.i r,.i c,.l l,.i i,.i k,.l v,.i t]=true→A8 Bb.Apply.E Tryz.f198 [.agg [.int .i64 r,.int .i64 c,.ints .arg .u64 l],.int .i64 i,.int .i64 k,.ints .arg .u64 v,.int .u64 t] (Bb.Apply.out [.i r,.i c,.l l,.i i,.i k,.l v,.i t])):Bb.Apply.Kn :=
  Ak (Az hk _ _ _) Tryz.func198 (by kernel_rfl) (by kernel_rfl) h
def B6.Dm.hint:Nat→Option Ba
  | 0=>some { keep:=[1,3,6,7],objs:=[],boxes:=[3,6] }
  | _=>none
def B6.Dm.A6:List (Nat × Entry):=[(83,Aj.Ga.arg.spec)]
def B6.Dm.E:Env:=A9 (A5 B6.Dm.A6) (fun _=>false) B6.Dm.hint (fun _=>none)
def B6.Dm.L0 (N M:Nat) (r c:Int) (j p7:Int) (p3:List Int):Option DV:=B0 B6.Dm.E N Tryz.f197 (An Tryz.f197) [1,1,0,1,0] [] M ⟨Gj 26 [(1,.int .i64 j),(3,.ptr 3 0 0),(6,.ptr 6 0 0),(7,.int .i64 p7)],[(3,false,.box [.int .i64 r,.int .i64 c,.ints .arg .u64 p3]),(6,false,.box [.int .i64 0,.int .i64 0,.nil])]⟩
theorem B6.Dm.Ar (N M:Nat) (r c:Int) (j p7:Int) (p3:List Int):B6.Dm.L0 N (M+1) r c j p7 p3=bif (A4 p7 r) then bif (C2 r c p3 p7 j) then B6.Dm.L0 N M r c j (Ab (p7+1)) (List.set p3 (Int.toNat (p7*c+j)) 0) else none else some (.agg [.int .i64 r,.int .i64 c,.ints .arg .u64 p3]):=by kernel_rfl
theorem B6.Dm.ev (N:Nat) (r c:Int) (l:List Int) (j b:Int):Bq B6.Dm.E N Tryz.f197 (An Tryz.f197) [.agg [.int .i64 r,.int .i64 c,.ints .arg .u64 l],.int .i64 j,.int .u64 b]=bif (C2 r c l j j) then B6.Dm.L0 N N r c j (Ab (j+1)) (List.set l (Int.toNat (j*c+j)) b) else none:=by kernel_rfl
abbrev _root_.Go.Proofs.S1.B6.Dm.Kn:=A3 Tryz.prog 197 B6.Dm.spec
theorem B6.Dm.Ac (hk:Ax Tryz.prog B6.Dm.A6) (h:∀ (r c:Int) (l:List Int) (j b:Int),B6.Dm.pre [.i r,.i c,.l l,.i j,.i b]=true→A8 B6.Dm.E Tryz.f197 [.agg [.int .i64 r,.int .i64 c,.ints .arg .u64 l],.int .i64 j,.int .u64 b] (B6.Dm.out [.i r,.i c,.l l,.i j,.i b])):B6.Dm.Kn :=
  Ak (Az hk _ _ _) Tryz.func197 (by kernel_rfl) (by kernel_rfl) h
end EqRef13
open EqRef08 EqRef13
theorem Bp.ends.known:Bp.ends.Kn:=Bp.ends.Ac (.cons A1.Finite.known (.cons A1.Neg.known .nil)) fun b hp=>by
  have hp:Af b=true:=hp
  refine ⟨0,.int .i64 (Qz b),[],?_,.int⟩
  rw [Bp.ends.ev,hp,Ays,Ays]
  unfold Qz
  cases Cv b with
  | true=>rfl
  | false =>
    rw [Ayw,if_neg (by decide)]
    cases Dt b<;>rfl
theorem Bp.Hr.known:Bp.Hr.Kn:=Bp.Hr.Ac (.cons A1.Dp.known (.cons A1.Neg.known .nil)) fun a hp=>by
  obtain ⟨n,rfl,hn⟩:=Bm (x:=a) hp
  refine ⟨0,.int .u64 (Je (n:Int)),[],?_,.int⟩
  rw [Bp.Hr.ev,Cb hn,Ays,Ays]
  unfold Je Dt Db G9 Hi Bt
  rw [Ayu]
  by_cases h:2^63≤n
  · rw [Ayt h,Ays,if_pos h,show n%2^63=n-2^63 by omega]
  · rw [Ayx h,Ayw,show n%2^63=n by omega]
theorem Acv (b:Nat):Xd (Bj (mD (Fa (b:Int)))) (Ap (mD (Fa (b:Int))))=true∧Jm (Bj (mD (Fa (b:Int)))) (Ap (mD (Fa (b:Int))))=true∧Wx (eD (Fa (b:Int)) (A2 b))=true:=by
  obtain ⟨v1,v2,v3⟩:=Ass b
  have hl:Ds (mD (Fa (b:Int))).natAbs<3:=Nat.lt_of_le_of_lt (Mr (Abd _)) v1
  exact ⟨Anl (by omega),Jl (by omega),Aq.2 ⟨v2,v3⟩⟩
theorem Art {a b:Nat} (ha:Am a≠4) (hb:Am b≠4):W0 (mD (Fa (a:Int))) (eD (Fa (a:Int)) (A2 a)) (mD (Fa (b:Int))) (eD (Fa (b:Int)) (A2 b))=if H0 a<H0 b then -1 else if H0 b<H0 a then 1 else 0:=by
  have pa:=En a
  have pb:=En b
  have ga:mD (Fa (a:Int))≠0→(-1074:Int)≤eD (Fa (a:Int)) (A2 a):=fun h=>Asp pa.1 (fun h0=>h (Pp.2 h0))
  have gb:mD (Fa (b:Int))≠0→(-1074:Int)≤eD (Fa (b:Int)) (A2 b):=fun h=>Asp pb.1 (fun h0=>h (Pp.2 h0))
  rw [Aru ga gb,Aih pa.1,Aih pb.1,← Amc,← Amc]
  have h1:=Ab5 (f:=-1074) ha hb pa.1 pb.1
  have h2:=Ab5 (f:=-1074) hb ha pb.1 pa.1
  unfold Wz
  by_cases c1:J2 a (-1074)<J2 b (-1074)
  · rw [if_pos c1,if_pos (h1.1 c1)]
  · rw [if_neg c1,if_neg (fun h=>c1 (h1.2 h))]
    by_cases c2:J2 b (-1074)<J2 a (-1074)
    · rw [if_pos c2,if_pos (h2.1 c2)]
    · rw [if_neg c2,if_neg (fun h=>c2 (h2.2 h))]
theorem Aog {b:Nat} (hb:b<2^64):H0 b=H5 (Bt b) (b%2^63):=by
  have:=Oz (Bt b) (r:=b%2^63) (Nat.mod_lt _ (by decide))
  rw [Mo hb] at this
  exact this
theorem Ajg {b:Nat} (hb:b<2^64) (h4:Am b≠4):(Kb b=true→Qz (b:Int)=0∧-(Eb:Int)<H0 b∧H0 b<Eb)∧(Kb b=false→Am b=3∧((Qz (b:Int)=1∧H0 b=Eb)∨(Qz (b:Int)=-1∧H0 b=-(Eb:Int)))):=by
  have hk:=Aog hb
  constructor
  · intro hf
    obtain ⟨_,f3⟩:=Qy hf
    have hl:=Ux f3 h4
    refine ⟨by unfold Qz Cv; rw [Ayu,hf,if_pos rfl],?_⟩
    rw [hk]
    unfold H5
    cases Bt b
    · rw [if_neg (by decide)]; omega
    · rw [if_pos rfl]; omega
  · intro hf
    have h3:Am b=3:=by
      unfold Kb at hf
      have:=of_decide_eq_false hf
      rcases Hn b with ⟨_,_,k⟩ | ⟨_,_,k⟩ | ⟨k,_,_⟩
      · exact k
      · exact absurd k h4
      · omega
    have hi:=Uw h3
    refine ⟨h3,?_⟩
    rw [hk,hi]
    unfold Qz Cv Dt H5
    rw [Ayu,hf,if_neg (by decide)]
    cases Bt b
    · left; exact ⟨rfl,rfl⟩
    · right; exact ⟨rfl,rfl⟩
theorem Bp.Order.known:Bp.Order.Kn:=Bp.Order.Ac (.cons Ay.Compare.known (.cons A1.Kind.known (.cons A1.Value.known (.cons Bp.ends.known .nil)))) fun a b hp=>by
  obtain ⟨ha,hb⟩:=Ad.1 (show (Af a&&Af b)=true from hp)
  obtain ⟨a,rfl,hn⟩:=Bm ha
  obtain ⟨b,rfl,hm⟩:=Bm hb
  refine ⟨0,.tup [.int .i64 (Sy (a:Int) (b:Int)),.bool (Aa8 (a:Int) (b:Int))],[],?_,Wk.Gp (.cons .int (.cons .bool .nil))⟩
  have kk:∀ n:Nat,Bd (n:Int)=(Am n:Int):=fun _=>rfl
  have pe:∀ n:Nat,Bh (n:Int)=A2 n:=fun _=>rfl
  rw [Bp.Order.ev,Ir,Ir,ha,hb,Ays,Bool.or_true,Ays,Ays,Ays,Ays,Ays,kk,kk,pe,pe,Ht,Ht]
  unfold Sy Aa8 Ae4 Aac
  rw [Ayu,Ayu]
  by_cases n4:Am a=4∨Am b=4
  · have:(((Am a:Nat):Int)==4||((Am b:Nat):Int)==4)=true:=by
      rw [Bool.or_eq_true,beq_iff_eq,beq_iff_eq]; omega
    rw [this,Ays,if_pos n4,Ayt n4]; rfl
  · have:(((Am a:Nat):Int)==4||((Am b:Nat):Int)==4)=false:=by
      rw [Bool.or_eq_false_iff,beq_eq_false_iff_ne,beq_eq_false_iff_ne]; omega
    rw [this,Ayw,if_neg n4,Ayx n4,Bool.not_false]
    have a4:Am a≠4:=fun h=>n4 (.inl h)
    have b4:Am b≠4:=fun h=>n4 (.inr h)
    obtain ⟨a1,a2⟩:=Ajg hn a4
    obtain ⟨b1,b2⟩:=Ajg hm b4
    have hinf:(0:Int)<(Eb:Int):=by decide
    cases hfa:Kb a with
    | true =>
      obtain ⟨ea,ka1,ka2⟩:=a1 hfa
      cases hfb:Kb b with
      | true =>
        obtain ⟨eb,kb1,kb2⟩:=b1 hfb
        obtain ⟨o1,_,o3⟩:=Acv a
        obtain ⟨p1,_,p3⟩:=Acv b
        have hc:=Art a4 b4
        rw [ea,eb,show (((0:Int) !=(0:Int))||((0:Int) !=(0:Int)))=false from rfl,Ayw,o1,o3,p1,p3,hc]
        rfl
      | false =>
        obtain ⟨_,hb2⟩:=b2 hfb
        rcases hb2 with ⟨eb,kb⟩ | ⟨eb,kb⟩
        · rw [ea,eb,kb,if_pos ka2]; rfl
        · rw [ea,eb,kb,if_neg (by omega),if_pos ka1]; rfl
    | false =>
      obtain ⟨_,ha2⟩:=a2 hfa
      cases hfb:Kb b with
      | true =>
        obtain ⟨eb,kb1,kb2⟩:=b1 hfb
        rcases ha2 with ⟨ea,ka⟩ | ⟨ea,ka⟩
        · rw [ea,eb,ka,if_neg (by omega),if_pos kb2]; rfl
        · rw [ea,eb,ka,if_pos kb1]; rfl
      | false =>
        obtain ⟨_,hb2⟩:=b2 hfb
        rcases ha2 with ⟨ea,ka⟩ | ⟨ea,ka⟩<;>rcases hb2 with ⟨eb,kb⟩ | ⟨eb,kb⟩
        · rw [ea,eb,ka,kb,if_neg (by omega),if_neg (by omega)]; rfl
        · rw [ea,eb,ka,kb,if_neg (by omega),if_pos (by omega)]; rfl
        · rw [ea,eb,ka,kb,if_pos (by omega)]; rfl
        · rw [ea,eb,ka,kb,if_neg (by omega),if_neg (by omega)]; rfl
theorem Bp.Max.known:Bp.Max.Kn:=Bp.Max.Ac (.cons Bp.Order.known .nil) fun a b hp=>by
  have hp:(Af a&&Af b)=true:=hp
  refine ⟨0,.int .u64 (Ow a b),[],?_,.int⟩
  rw [Bp.Max.ev,hp,Ays,As]
  unfold Ow Ahm Aa8 Sy
  cases Aac a.toNat b.toNat with
  | false=>rfl
  | true =>
    rw [Bool.not_true,Ayw,if_pos rfl]
    obtain ⟨h1,h2⟩:=Ad.1 hp
    obtain ⟨x,rfl,_⟩:=Bm h1
    obtain ⟨y,rfl,_⟩:=Bm h2
    rw [Ayu,Ayu]
    by_cases h:Ae4 x y<0
    · rw [Ayt h,Ays,if_pos h]
    · rw [Ayx h,Ayw,if_neg h]
theorem Bp.Lu.known:Bp.Lu.Kn:=Bp.Lu.Ac (.cons Ay.Wu.known (.cons A1.Finite.known (.cons A1.Kind.known (.cons A1.Value.known .nil)))) fun a hp=>by
  obtain ⟨b,rfl,hb⟩:=Bm (x:=a) hp
  refine ⟨0,.int .i64 (Br (b:Int)),[],?_,.int⟩
  have kk:Bd (b:Int)=(Am b:Int):=rfl
  have hf:Cv (b:Int)=Kb b:=rfl
  have pe:Bh (b:Int)=A2 b:=rfl
  obtain ⟨_,o2,o3⟩:=Acv b
  have hE:=En b
  have hM:=Fb b
  rw [Bp.Lu.ev,Cb hb,Ays,Ir,Bool.or_true,Ays,kk,hf,pe,o2,o3,Ht,Ayy,Ays,Ays]
  unfold Br
  rw [Ayu]
  unfold Alp
  cases hfin:Kb b with
  | false=>rfl
  | true =>
    by_cases h0:Am b=0
    · rw [h0]; rfl
    · have k0:(((Am b:Nat):Int)==(0:Int))=false:=by rw [beq_eq_false_iff_ne]; omega
      obtain ⟨f4,f3⟩:=Qy hfin
      have hm:Aw b≠0:=fun hz=>h0 ((Hh f3 f4).1 hz)
      have hv:Fa (b:Int)≠0:=by
        intro h
        have:=Ab6 b
        rw [h] at this
        exact hm this.symm
      have hl:(Aw b).log2≤52:=by have:=(Nat.log2_lt hm).2 (show Aw b<2^53 by omega); omega
      have ht:Il (mD (Fa (b:Int))) (eD (Fa (b:Int)) (A2 b))=((Aw b).log2:Int)+1+A2 b:=by
        unfold Il Y3
        rw [if_neg (fun h=>hv (Pp.1 h)),if_neg (fun h=>hv (Pp.1 h))]
        unfold eD
        rw [if_neg hv]
        have hs:=Xg (Fa (b:Int))
        have ha:Aw b=(mD (Fa (b:Int))).natAbs*2^R7 (Fa (b:Int)).natAbs:=by
          have e:=congrArg Int.natAbs hs
          rw [Int.natAbs_mul,Int.natAbs_natCast] at e
          rw [← Ab6 b]
          exact e
        have hmd:(mD (Fa (b:Int))).natAbs≠0:=fun h=>hv (Pp.1 (Int.natAbs_eq_zero.1 h))
        have hlog:=Lk (mD (Fa (b:Int))).natAbs (R7 (Fa (b:Int)).natAbs) hmd
        rw [← ha] at hlog
        rw [hlog]
        omega
      rw [k0,if_pos ⟨rfl,h0⟩,ht,Al (by omega) (by omega)]
      show some (DV.int .i64 _)=_
      congr 2; omega
theorem Ajc {b:Nat} (h:b<2^63):H0 b=(b:Int):=Oz false h
theorem Aq3 {m x:Nat} (hm:m<2^63) (m4:Am m≠4) (hx:x<2^63) (x4:Am x≠4):Ahm m x=max m x:=by
  have o:Aac m x=true:=by unfold Aac; rw [Ayx (by omega)]; rfl
  have ho:Ae4 m x=if (m:Int)<(x:Int) then -1 else if (x:Int)<(m:Int) then 1 else 0:=by
    unfold Ae4
    rw [if_neg (by omega),Ajc hm,Ajc hx]
  unfold Ahm
  rw [o,if_pos rfl,ho]
  by_cases h:m<x
  · rw [if_pos (show (m:Int)<(x:Int) by omega),if_pos (by decide),Nat.max_eq_right (by omega)]
  · rw [if_neg (show ¬ (m:Int)<(x:Int) by omega)]
    by_cases h2:x<m
    · rw [if_pos (show (x:Int)<(m:Int) by omega),if_neg (by decide),Nat.max_eq_left (by omega)]
    · rw [if_neg (show ¬ (x:Int)<(m:Int) by omega),if_neg (by decide),Nat.max_eq_left (by omega)]
theorem Ai7 {m x:Nat} (h:Am m=4∨Am x=4):Ahm m x=P8:=by
  have o:Aac m x=false:=by unfold Aac; rw [Ayt h]; rfl
  unfold Ahm
  rw [o,if_neg (by decide)]
theorem Ak5:Am P8=4:=by decide
theorem Afr:∀ l:List Int,l.foldl (fun m x=>Ow m (Je x)) ((P8:Nat):Int)=((P8:Nat):Int)
  | []=>rfl
  | x::l=>by
    rw [List.foldl_cons]
    have:Ow ((P8:Nat):Int) (Je x)=((P8:Nat):Int):=by unfold Ow; rw [Ayu,Ai7 (.inl Ak5)]
    rw [this]
    exact Afr l
theorem Zg:∀ (l:List Int) (m:Nat),m<2^63→Am m≠4→l.foldl (fun m x=>Ow m (Je x)) (m:Int)=((Zy l m:Nat):Int)
  | [],m,_,_=>rfl
  | x::l,m,hm,m4=>by
    rw [List.foldl_cons]
    unfold Zy
    have e1:(Je x).toNat=G9 x.toNat:=by unfold Je; rw [Ayu]
    by_cases h:Am x.toNat=4
    · rw [if_pos h]
      have:Ow (m:Int) (Je x)=((P8:Nat):Int):=by
        unfold Ow
        rw [e1,Ai7 (.inr (by rw [Qs]; exact h))]
      rw [this]
      exact Afr l
    · rw [if_neg h]
      have hx:=R3 x.toNat
      have x4:Am (G9 x.toNat)≠4:=by rw [Qs]; exact h
      have:Ow (m:Int) (Je x)=((max m (G9 x.toNat):Nat):Int):=by
        unfold Ow
        rw [Ayu,e1,Aq3 hm m4 hx x4]
      rw [this]
      refine Zg l _ (by omega) ?_
      rcases Nat.le_total m (G9 x.toNat) with h2 | h2
      · rw [Nat.max_eq_right h2]; exact x4
      · rw [Nat.max_eq_left h2]; exact m4
theorem An0 {a b:Int} (ha:Af a=true) (hb:Af b=true):Af (Ow a b)=true:=by
  obtain ⟨x,rfl,hx⟩:=Bm ha
  obtain ⟨y,rfl,hy⟩:=Bm hb
  unfold Ow Ahm
  rw [Ayu,Ayu]
  split
  · split
    · exact hb
    · exact ha
  · exact Cb (by decide)
theorem Acs (N:Nat) {x:List Int} (hx:Cl x=true):∀ (k i F:Nat) (m:Int),i+k=x.length→k<F→Af m=true→Ag.Bo.L0 N F x m (i:Int)=some (.int .u64 ((x.drop i).foldl (fun m x=>Ow m (Je x)) m)):=by
  obtain ⟨hl,hu⟩:=H6 hx
  intro k
  induction k with
  | zero =>
    intro i F m hi hF hm
    obtain ⟨F,rfl⟩:∃ G,F=G+1:=⟨F-1,by omega⟩
    rw [Ag.Bo.Ar,As,Ayx (by omega),Ayw,Ay6 (by omega)]; rfl
  | succ k ih =>
    intro i F m hi hF hm
    obtain ⟨F,rfl⟩:∃ G,F=G+1:=⟨F-1,by omega⟩
    rw [Ag.Bo.Ar,As,Ayt (show (i:Int)<(x.length:Int) by omega),Ays,Ayt (show (0:Int)≤(i:Int) by omega),Ayy,Ays,Ayu,hu i (by omega),Ays,hm,S7,Ayy,Ays,G5 (by omega),List.foldl_cons,Al (by omega) (by omega)]
    exact ih (i+1) F _ (by omega) (by omega) (An0 hm (S7 _))
theorem Ag.Bo.known:Ag.Bo.Kn:=Ag.Bo.Ac (.cons Bp.Hr.known (.cons Bp.Max.known .nil)) fun x hp=>by
  refine ⟨x.length+1,.int .u64 (Be x),[],?_,.int⟩
  rw [Ag.Bo.ev]
  have h:=Acs (x.length+1) hp x.length 0 (x.length+1) 0 (by omega) (by omega) H4
  rw [List.drop_zero] at h
  have h2:=Zg x 0 (by decide) (by decide +kernel)
  exact h.trans (congrArg (fun n:Int=>some (DV.int .u64 n)) h2)
theorem math.Sqrt.known:math.Sqrt.Kn:=math.Sqrt.Ac .nil fun x _=>⟨0,.fl ((Ieee.double.sqrt x).getD nanBits),[],by rw [math.Sqrt.ev],.fl⟩
theorem Ag.Sqrt.known:Ag.Sqrt.Kn:=Ag.Sqrt.Ac (.cons math.Sqrt.known (.cons Ag.B.known (.cons Ag.F.known .nil))) fun a hp=>by
  obtain ⟨x,rfl,hx⟩:=Bm (x:=a) hp
  refine ⟨0,.int .u64 (Fu (x:Int)),[],?_,.int⟩
  have:Fw ((Ieee.double.sqrt (Int.toNat (x:Int))).getD nanBits)=Fu (x:Int):=by
    unfold Fw Fu
    rw [Ayu,Aki hx Gq]
  rw [Ag.Sqrt.ev,Cb hx,Ays,this]
theorem Z8 (N:Nat) {x:List Int} (hx:Cl x=true):∀ (k i F:Nat) (s:Int),i+k=x.length→k<F→Af s=true →
    Ag.Norm.L0 N F x s (i:Int)=some (.int .u64 (By (Fu (Aef (-Br (Be x)) s (x.drop i))) (Br (Be x)))):=by
  obtain ⟨hl,hu⟩:=H6 hx
  have he:=Zo (Be x)
  intro k
  induction k with
  | zero =>
    intro i F s hi hF hs
    obtain ⟨F,rfl⟩:∃ G,F=G+1:=⟨F-1,by omega⟩
    rw [Ag.Norm.Ar,As,Ayx (by omega),Ayw,hs,Ays,show Dh (Fu s) (Br (Be x))=true from Ad.2 ⟨Acf hs,Aq.2 (by omega)⟩,Ays,Ay6 (by omega)]
    rfl
  | succ k ih =>
    intro i F s hi hF hs
    obtain ⟨F,rfl⟩:∃ G,F=G+1:=⟨F-1,by omega⟩
    rw [Ag.Norm.Ar,As,Ayt (show (i:Int)<(x.length:Int) by omega),Ays,Ayt (show (0:Int)≤(i:Int) by omega),Ayy,Ays,Ayu,Al (x:=(0:Int)-Br (Be x)) (by omega) (by omega),show (0:Int)-Br (Be x)=-Br (Be x) by omega,
      show Dh (List.getD x i 0) (-Br (Be x))=true from Ad.2 ⟨hu i (by omega),Aq.2 (by omega)⟩,Ays,Hu (hu i (by omega)),Ayy,Ays,hs,Jn,Ayy,Ays,Aee (by omega),Al (by omega) (by omega)]
    exact ih (i+1) F _ (by omega) (by omega) (Aid hs (Jn _ _))
theorem Ag.Norm.known:Ag.Norm.Kn:=Ag.Norm.Ac (.cons A1.Finite.known (.cons Bp.Lu.known (.cons Ag.Add.known (.cons Ag.Bo.known (.cons Ag.Mul.known (.cons Ag.Bs.known (.cons Ag.Sqrt.known .nil))))))) fun x hp=>by
  have hx:Cl x=true:=hp
  refine ⟨x.length+1,.int .u64 (Dk x),[],?_,.int⟩
  rw [Ag.Norm.ev,hx,Ays,Oa,Bool.or_true,Ays]
  unfold Dk
  by_cases h:Be x=0∨Cv (Be x)=false
  · have:((Be x==(0:Int))||(!(Cv (Be x))))=true:=by
      rcases h with h | h
      · rw [h]; rfl
      · rw [h,Bool.not_false,Bool.or_true]
    rw [this,Ays,if_pos h]
  · have:((Be x==(0:Int))||(!(Cv (Be x))))=false:=by
      rw [Bool.or_eq_false_iff,beq_eq_false_iff_ne,Bool.not_eq_false']
      refine ⟨fun h0=>h (.inl h0),?_⟩
      cases hf:Cv (Be x) with
      | true=>rfl
      | false=>exact absurd (.inr hf) h
    rw [this,Ayw,Ays,if_neg h]
    exact Z8 (x.length+1) hx x.length 0 (x.length+1) 0 (by omega) (by omega) H4
namespace EqOf
def Aa.of.Bf.hint:Nat→Option Ba
  | 0=>some { keep:=[1,2,6,7,13,14],objs:=[(8,2,108002,.ints 37 .u64 [])],boxes:=[6,7] }
  | 2=>some { keep:=[1,2,6,7,8,13,14,17,18],objs:=[(8,2,108002,.ints 37 .u64 [])],boxes:=[6,7] }
  | _=>none
def Aa.of.Bf.A6:List (Nat × Entry):=[(205,Aa.Ei.spec)]
def Aa.of.Bf.E:Env:=A9 (A5 Aa.of.Bf.A6) (fun _=>false) Aa.of.Bf.hint (fun _=>none)
def Aa.of.Bf.L0 (N M:Nat) (a b p14:Int) (p2_1:List Int):Option DV:=B0 Aa.of.Bf.E N Tryz.f187 (An Tryz.f187) [1,1,0,1,0] [] M ⟨Gj 33 [(1,.int .i64 b),(2,.fn 205 [] []),(6,.ptr 6 0 0),(7,.ptr 7 0 0),(13,.int .i64 a),(14,.int .i64 p14)],[(6,false,.box [.int .i64 0,.int .i64 0,.nil]),(7,false,.box [.int .i64 a,.int .i64 b,.oref 108002]),(108002,false,.ints 37 .u64 p2_1)]⟩
def Aa.of.Bf.L1 (N M0 M:Nat) (a b:Int) (p8 p14_1 p18:Int) (p2:List Int):Option DV:=B0 Aa.of.Bf.E N Tryz.f187 (An Tryz.f187) [1,1,0,1,0,0,1,1,0,0,1,1,0] [M0] M ⟨Gj 33 [(1,.int .i64 b),(2,.fn 205 [] []),(6,.ptr 6 0 0),(7,.ptr 7 0 0),(8,.int .i64 p8),(13,.int .i64 a),(14,.int .i64 p14_1),(17,.int .i64 b),(18,.int .i64 p18)],[(6,false,.box [.int .i64 0,.int .i64 0,.nil]),(7,false,.box [.int .i64 a,.int .i64 b,.oref 108002]),(108002,false,.ints 37 .u64 p2)]⟩
theorem Aa.of.Bf.Ar (N M:Nat) (a b p14:Int) (p2_1:List Int):Aa.of.Bf.L0 N (M+1) a b p14 p2_1=bif (A4 p14 a) then Aa.of.Bf.L1 N M N a b p14 p14 0 p2_1 else some (.agg [.int .i64 a,.int .i64 b,.ints (.own 108002 37) .u64 p2_1]):=by kernel_rfl
theorem Aa.of.Bf.B9 (N M0 M:Nat) (a b:Int) (p8 p14_1 p18:Int) (p2:List Int):Aa.of.Bf.L1 N M0 (M+1) a b p8 p14_1 p18 p2=bif (A4 p18 b) then bif (decide ((List.length p2)+1≤Gt)) then Aa.of.Bf.L1 N M0 M a b p8 p14_1 (Ab (p18+1)) (p2++[(0:Int)]) else none else Aa.of.Bf.L0 N M0 a b (Ab (p14_1+1)) p2 :=
  Eq.trans (by kernel_rfl)
  (Eh (C0 (Cx (decide ((List.length p2)+1≤Gt))) rfl rfl) rfl)
theorem Aa.of.Bf.ev (N:Nat) (a b:Int):Bq Aa.of.Bf.E N Tryz.f187 (An Tryz.f187) [.int .i64 a,.int .i64 b,.fn 205 [] []] =
  Aa.of.Bf.L0 N N a b 0 []:=by kernel_rfl
abbrev _root_.Go.Proofs.S1.Aa.of.Bf.Kn:=A3 Tryz.prog 187 Aa.of.Bf.spec
theorem Aa.of.Bf.Ac (hk:Ax Tryz.prog Aa.of.Bf.A6) (h:∀ (a b:Int),Aa.of.Bf.pre [.i a,.i b]=true→A8 Aa.of.Bf.E Tryz.f187 [.int .i64 a,.int .i64 b,.fn 205 [] []] (Aa.of.Bf.out [.i a,.i b])):Aa.of.Bf.Kn :=
  Ak (Az hk _ _ _) Tryz.func187 (by kernel_rfl) (by kernel_rfl) h
def Aa.of.Ey.hint:Nat→Option Ba
  | 0=>some { keep:=[1,2,6,7,13,14],objs:=[(8,2,108002,.ints 37 .u64 [])],boxes:=[6,7] }
  | 2=>some { keep:=[1,2,6,7,8,13,14,17,18],objs:=[(8,2,108002,.ints 37 .u64 [])],boxes:=[6,7] }
  | _=>none
def Aa.of.Ey.A6:List (Nat × Entry):=[(246,Aa.Ii.spec)]
def Aa.of.Ey.E:Env:=A9 (A5 Aa.of.Ey.A6) (fun _=>false) Aa.of.Ey.hint (fun _=>none)
def Aa.of.Ey.L0 (N M:Nat) (a b p14:Int) (p2_1:List Int):Option DV:=B0 Aa.of.Ey.E N Tryz.f187 (An Tryz.f187) [1,1,0,1,0] [] M ⟨Gj 33 [(1,.int .i64 b),(2,.fn 246 [] []),(6,.ptr 6 0 0),(7,.ptr 7 0 0),(13,.int .i64 a),(14,.int .i64 p14)],[(6,false,.box [.int .i64 0,.int .i64 0,.nil]),(7,false,.box [.int .i64 a,.int .i64 b,.oref 108002]),(108002,false,.ints 37 .u64 p2_1)]⟩
def Aa.of.Ey.L1 (N M0 M:Nat) (a b:Int) (p8 p14_1 p18:Int) (p2:List Int):Option DV:=B0 Aa.of.Ey.E N Tryz.f187 (An Tryz.f187) [1,1,0,1,0,0,1,1,0,0,1,1,0] [M0] M ⟨Gj 33 [(1,.int .i64 b),(2,.fn 246 [] []),(6,.ptr 6 0 0),(7,.ptr 7 0 0),(8,.int .i64 p8),(13,.int .i64 a),(14,.int .i64 p14_1),(17,.int .i64 b),(18,.int .i64 p18)],[(6,false,.box [.int .i64 0,.int .i64 0,.nil]),(7,false,.box [.int .i64 a,.int .i64 b,.oref 108002]),(108002,false,.ints 37 .u64 p2)]⟩
theorem Aa.of.Ey.Ar (N M:Nat) (a b p14:Int) (p2_1:List Int):Aa.of.Ey.L0 N (M+1) a b p14 p2_1=bif (A4 p14 a) then Aa.of.Ey.L1 N M N a b p14 p14 0 p2_1 else some (.agg [.int .i64 a,.int .i64 b,.ints (.own 108002 37) .u64 p2_1]):=by kernel_rfl
theorem Aa.of.Ey.B9 (N M0 M:Nat) (a b:Int) (p8 p14_1 p18:Int) (p2:List Int):Aa.of.Ey.L1 N M0 (M+1) a b p8 p14_1 p18 p2=bif (A4 p18 b) then bif (decide ((List.length p2)+1≤Gt)) then Aa.of.Ey.L1 N M0 M a b p8 p14_1 (Ab (p18+1)) (p2++[(Nk p8 p18)]) else none else Aa.of.Ey.L0 N M0 a b (Ab (p14_1+1)) p2 :=
  Eq.trans (by kernel_rfl)
  (Eh (C0 (Cx (decide ((List.length p2)+1≤Gt))) rfl rfl) rfl)
theorem Aa.of.Ey.ev (N:Nat) (a b:Int):Bq Aa.of.Ey.E N Tryz.f187 (An Tryz.f187) [.int .i64 a,.int .i64 b,.fn 246 [] []] =
  Aa.of.Ey.L0 N N a b 0 []:=by kernel_rfl
abbrev _root_.Go.Proofs.S1.Aa.of.Ey.Kn:=A3 Tryz.prog 187 Aa.of.Ey.spec
theorem Aa.of.Ey.Ac (hk:Ax Tryz.prog Aa.of.Ey.A6) (h:∀ (a b:Int),Aa.of.Ey.pre [.i a,.i b]=true→A8 Aa.of.Ey.E Tryz.f187 [.int .i64 a,.int .i64 b,.fn 246 [] []] (Aa.of.Ey.out [.i a,.i b])):Aa.of.Ey.Kn :=
  Ak (Az hk _ _ _) Tryz.func187 (by kernel_rfl) (by kernel_rfl) h
def Aa.of.Cs.hint:Nat→Option Ba
  | 0=>some { keep:=[1,2,6,7,13,14],objs:=[(8,2,108002,.ints 37 .u64 [])],boxes:=[6,7] }
  | 2=>some { keep:=[1,2,6,7,8,13,14,17,18],objs:=[(8,2,108002,.ints 37 .u64 [])],boxes:=[6,7] }
  | _=>none
def Aa.of.Cs.A6:List (Nat × Entry):=[(220,Aa.Fy.spec)]
def Aa.of.Cs.E:Env:=A9 (A5 Aa.of.Cs.A6) (fun _=>false) Aa.of.Cs.hint (fun _=>none)
def Aa.of.Cs.L0 (N M:Nat) (a b:Int) (r c:Int) (l:List Int) (p14:Int) (p2_1:List Int):Option DV:=B0 Aa.of.Cs.E N Tryz.f187 (An Tryz.f187) [1,1,0,1,0] [] M ⟨Gj 33 [(1,.int .i64 b),(2,.fn 220 [] [.cellp [.int .i64 r,.int .i64 c,.ints .arg .u64 l]]),(6,.ptr 6 0 0),(7,.ptr 7 0 0),(13,.int .i64 a),(14,.int .i64 p14)],[(6,false,.box [.int .i64 0,.int .i64 0,.nil]),(7,false,.box [.int .i64 a,.int .i64 b,.oref 108002]),(108002,false,.ints 37 .u64 p2_1)]⟩
def Aa.of.Cs.L1 (N M0 M:Nat) (a b:Int) (r c:Int) (l:List Int) (p8 p14_1 p18:Int) (p2:List Int):Option DV:=B0 Aa.of.Cs.E N Tryz.f187 (An Tryz.f187) [1,1,0,1,0,0,1,1,0,0,1,1,0] [M0] M ⟨Gj 33 [(1,.int .i64 b),(2,.fn 220 [] [.cellp [.int .i64 r,.int .i64 c,.ints .arg .u64 l]]),(6,.ptr 6 0 0),(7,.ptr 7 0 0),(8,.int .i64 p8),(13,.int .i64 a),(14,.int .i64 p14_1),(17,.int .i64 b),(18,.int .i64 p18)],[(6,false,.box [.int .i64 0,.int .i64 0,.nil]),(7,false,.box [.int .i64 a,.int .i64 b,.oref 108002]),(108002,false,.ints 37 .u64 p2)]⟩
theorem Aa.of.Cs.Ar (N M:Nat) (a b:Int) (r c:Int) (l:List Int) (p14:Int) (p2_1:List Int):Aa.of.Cs.L0 N (M+1) a b r c l p14 p2_1=bif (A4 p14 a) then Aa.of.Cs.L1 N M N a b r c l p14 p14 0 p2_1 else some (.agg [.int .i64 a,.int .i64 b,.ints (.own 108002 37) .u64 p2_1]):=by kernel_rfl
theorem Aa.of.Cs.B9 (N M0 M:Nat) (a b:Int) (r c:Int) (l:List Int) (p8 p14_1 p18:Int) (p2:List Int):Aa.of.Cs.L1 N M0 (M+1) a b r c l p8 p14_1 p18 p2=bif (A4 p18 b) then bif (C2 r c l p18 p8) then bif (decide ((List.length p2)+1≤Gt)) then Aa.of.Cs.L1 N M0 M a b r c l p8 p14_1 (Ab (p18+1)) (p2++[(D9 c l p18 p8)]) else none else none else Aa.of.Cs.L0 N M0 a b r c l (Ab (p14_1+1)) p2 :=
  Eq.trans (by kernel_rfl)
  (Eh (C0 (Cx (C2 r c l p18 p8)) (C0 (Cx (decide ((List.length p2)+1≤Gt))) rfl rfl) rfl) rfl)
theorem Aa.of.Cs.ev (N:Nat) (a b:Int) (r c:Int) (l:List Int):Bq Aa.of.Cs.E N Tryz.f187 (An Tryz.f187) [.int .i64 a,.int .i64 b,.fn 220 [] [.cellp [.int .i64 r,.int .i64 c,.ints .arg .u64 l]]] =
  Aa.of.Cs.L0 N N a b r c l 0 []:=by kernel_rfl
abbrev _root_.Go.Proofs.S1.Aa.of.Cs.Kn:=A3 Tryz.prog 187 Aa.of.Cs.spec
theorem Aa.of.Cs.Ac (hk:Ax Tryz.prog Aa.of.Cs.A6) (h:∀ (a b:Int) (r c:Int) (l:List Int),Aa.of.Cs.pre [.i a,.i b,.i r,.i c,.l l]=true→A8 Aa.of.Cs.E Tryz.f187 [.int .i64 a,.int .i64 b,.fn 220 [] [.cellp [.int .i64 r,.int .i64 c,.ints .arg .u64 l]]] (Aa.of.Cs.out [.i a,.i b,.i r,.i c,.l l])):Aa.of.Cs.Kn :=
  Ak (Az hk _ _ _) Tryz.func187 (by kernel_rfl) (by kernel_rfl) h
def Aa.of.Part.hint:Nat→Option Ba
  | 0=>some { keep:=[1,2,6,7,13,14],objs:=[(8,2,108002,.ints 37 .u64 [])],boxes:=[6,7] }
  | 2=>some { keep:=[1,2,6,7,8,13,14,17,18],objs:=[(8,2,108002,.ints 37 .u64 [])],boxes:=[6,7] }
  | _=>none
def Aa.of.Part.A6:List (Nat × Entry):=[(192,Aa.F0.spec)]
def Aa.of.Part.E:Env:=A9 (A5 Aa.of.Part.A6) (fun _=>false) Aa.of.Part.hint (fun _=>none)
def Aa.of.Part.L0 (N M:Nat) (a b:Int) (r c:Int) (l:List Int) (x y p14:Int) (p2_1:List Int):Option DV:=B0 Aa.of.Part.E N Tryz.f187 (An Tryz.f187) [1,1,0,1,0] [] M ⟨Gj 33 [(1,.int .i64 b),(2,.fn 192 [] [.cellp [.int .i64 r,.int .i64 c,.ints .arg .u64 l],.cellp [.int .i64 x],.cellp [.int .i64 y]]),(6,.ptr 6 0 0),(7,.ptr 7 0 0),(13,.int .i64 a),(14,.int .i64 p14)],[(6,false,.box [.int .i64 0,.int .i64 0,.nil]),(7,false,.box [.int .i64 a,.int .i64 b,.oref 108002]),(108002,false,.ints 37 .u64 p2_1)]⟩
def Aa.of.Part.L1 (N M0 M:Nat) (a b:Int) (r c:Int) (l:List Int) (x y:Int) (p8 p14_1 p18:Int) (p2:List Int):Option DV:=B0 Aa.of.Part.E N Tryz.f187 (An Tryz.f187) [1,1,0,1,0,0,1,1,0,0,1,1,0] [M0] M ⟨Gj 33 [(1,.int .i64 b),(2,.fn 192 [] [.cellp [.int .i64 r,.int .i64 c,.ints .arg .u64 l],.cellp [.int .i64 x],.cellp [.int .i64 y]]),(6,.ptr 6 0 0),(7,.ptr 7 0 0),(8,.int .i64 p8),(13,.int .i64 a),(14,.int .i64 p14_1),(17,.int .i64 b),(18,.int .i64 p18)],[(6,false,.box [.int .i64 0,.int .i64 0,.nil]),(7,false,.box [.int .i64 a,.int .i64 b,.oref 108002]),(108002,false,.ints 37 .u64 p2)]⟩
theorem Aa.of.Part.Ar (N M:Nat) (a b:Int) (r c:Int) (l:List Int) (x y p14:Int) (p2_1:List Int):Aa.of.Part.L0 N (M+1) a b r c l x y p14 p2_1=bif (A4 p14 a) then Aa.of.Part.L1 N M N a b r c l x y p14 p14 0 p2_1 else some (.agg [.int .i64 a,.int .i64 b,.ints (.own 108002 37) .u64 p2_1]):=by kernel_rfl
theorem Aa.of.Part.B9 (N M0 M:Nat) (a b:Int) (r c:Int) (l:List Int) (x y:Int) (p8 p14_1 p18:Int) (p2:List Int):Aa.of.Part.L1 N M0 (M+1) a b r c l x y p8 p14_1 p18 p2=bif (A4 p18 b) then bif (C2 r c l (x+p8) (y+p18)&&Vh x y p8 p18) then bif (decide ((List.length p2)+1≤Gt)) then Aa.of.Part.L1 N M0 M a b r c l x y p8 p14_1 (Ab (p18+1)) (p2++[(D9 c l (x+p8) (y+p18))]) else none else none else Aa.of.Part.L0 N M0 a b r c l x y (Ab (p14_1+1)) p2 :=
  Eq.trans (by kernel_rfl)
  (Eh (C0 (Cx (C2 r c l (x+p8) (y+p18)&&Vh x y p8 p18)) (C0 (Cx (decide ((List.length p2)+1≤Gt))) rfl rfl) rfl) rfl)
theorem Aa.of.Part.ev (N:Nat) (a b:Int) (r c:Int) (l:List Int) (x y:Int):Bq Aa.of.Part.E N Tryz.f187 (An Tryz.f187) [.int .i64 a,.int .i64 b,.fn 192 [] [.cellp [.int .i64 r,.int .i64 c,.ints .arg .u64 l],.cellp [.int .i64 x],.cellp [.int .i64 y]]] =
  Aa.of.Part.L0 N N a b r c l x y 0 []:=by kernel_rfl
abbrev _root_.Go.Proofs.S1.Aa.of.Part.Kn:=A3 Tryz.prog 187 Aa.of.Part.spec
theorem Aa.of.Part.Ac (hk:Ax Tryz.prog Aa.of.Part.A6) (h:∀ (a b:Int) (r c:Int) (l:List Int) (x y:Int),Aa.of.Part.pre [.i a,.i b,.i r,.i c,.l l,.i x,.i y]=true→A8 Aa.of.Part.E Tryz.f187 [.int .i64 a,.int .i64 b,.fn 192 [] [.cellp [.int .i64 r,.int .i64 c,.ints .arg .u64 l],.cellp [.int .i64 x],.cellp [.int .i64 y]]] (Aa.of.Part.out [.i a,.i b,.i r,.i c,.l l,.i x,.i y])):Aa.of.Part.Kn :=
  Ak (Az hk _ _ _) Tryz.func187 (by kernel_rfl) (by kernel_rfl) h
def Aa.of.Stack.hint:Nat→Option Ba
  | 0=>some { keep:=[1,2,6,7,13,14],objs:=[(8,2,108002,.ints 37 .u64 [])],boxes:=[6,7] }
  | 2=>some { keep:=[1,2,6,7,8,13,14,17,18],objs:=[(8,2,108002,.ints 37 .u64 [])],boxes:=[6,7] }
  | _=>none
def Aa.of.Stack.A6:List (Nat × Entry):=[(195,Aa.Eu.spec)]
def Aa.of.Stack.E:Env:=A9 (A5 Aa.of.Stack.A6) (fun _=>false) Aa.of.Stack.hint (fun _=>none)
def Aa.of.Stack.L0 (N M:Nat) (a b:Int) (r c:Int) (l:List Int) (p q:Int) (m:List Int) (p14:Int) (p2_1:List Int):Option DV:=B0 Aa.of.Stack.E N Tryz.f187 (An Tryz.f187) [1,1,0,1,0] [] M ⟨Gj 33 [(1,.int .i64 b),(2,.fn 195 [] [.cellp [.int .i64 r,.int .i64 c,.ints .arg .u64 l],.cellp [.int .i64 p,.int .i64 q,.ints .arg .u64 m]]),(6,.ptr 6 0 0),(7,.ptr 7 0 0),(13,.int .i64 a),(14,.int .i64 p14)],[(6,false,.box [.int .i64 0,.int .i64 0,.nil]),(7,false,.box [.int .i64 a,.int .i64 b,.oref 108002]),(108002,false,.ints 37 .u64 p2_1)]⟩
def Aa.of.Stack.L1 (N M0 M:Nat) (a b:Int) (r c:Int) (l:List Int) (p q:Int) (m:List Int) (p8 p14_1 p18:Int) (p2:List Int):Option DV:=B0 Aa.of.Stack.E N Tryz.f187 (An Tryz.f187) [1,1,0,1,0,0,1,1,0,0,1,1,0] [M0] M ⟨Gj 33 [(1,.int .i64 b),(2,.fn 195 [] [.cellp [.int .i64 r,.int .i64 c,.ints .arg .u64 l],.cellp [.int .i64 p,.int .i64 q,.ints .arg .u64 m]]),(6,.ptr 6 0 0),(7,.ptr 7 0 0),(8,.int .i64 p8),(13,.int .i64 a),(14,.int .i64 p14_1),(17,.int .i64 b),(18,.int .i64 p18)],[(6,false,.box [.int .i64 0,.int .i64 0,.nil]),(7,false,.box [.int .i64 a,.int .i64 b,.oref 108002]),(108002,false,.ints 37 .u64 p2)]⟩
theorem Aa.of.Stack.Ar (N M:Nat) (a b:Int) (r c:Int) (l:List Int) (p q:Int) (m:List Int) (p14:Int) (p2_1:List Int):Aa.of.Stack.L0 N (M+1) a b r c l p q m p14 p2_1=bif (A4 p14 a) then Aa.of.Stack.L1 N M N a b r c l p q m p14 p14 0 p2_1 else some (.agg [.int .i64 a,.int .i64 b,.ints (.own 108002 37) .u64 p2_1]):=by kernel_rfl
theorem Aa.of.Stack.B9 (N M0 M:Nat) (a b:Int) (r c:Int) (l:List Int) (p q:Int) (m:List Int) (p8 p14_1 p18:Int) (p2:List Int):Aa.of.Stack.L1 N M0 (M+1) a b r c l p q m p8 p14_1 p18 p2=bif (A4 p18 b) then bif (Mw r c l p q m p8 p18) then bif (decide ((List.length p2)+1≤Gt)) then Aa.of.Stack.L1 N M0 M a b r c l p q m p8 p14_1 (Ab (p18+1)) (p2++[(Ja r c l q m p8 p18)]) else none else none else Aa.of.Stack.L0 N M0 a b r c l p q m (Ab (p14_1+1)) p2 :=
  Eq.trans (by kernel_rfl)
  (Eh (C0 (Cx (Mw r c l p q m p8 p18)) (C0 (Cx (decide ((List.length p2)+1≤Gt))) rfl rfl) rfl) rfl)
theorem Aa.of.Stack.ev (N:Nat) (a b:Int) (r c:Int) (l:List Int) (p q:Int) (m:List Int):Bq Aa.of.Stack.E N Tryz.f187 (An Tryz.f187) [.int .i64 a,.int .i64 b,.fn 195 [] [.cellp [.int .i64 r,.int .i64 c,.ints .arg .u64 l],.cellp [.int .i64 p,.int .i64 q,.ints .arg .u64 m]]] =
  Aa.of.Stack.L0 N N a b r c l p q m 0 []:=by kernel_rfl
abbrev _root_.Go.Proofs.S1.Aa.of.Stack.Kn:=A3 Tryz.prog 187 Aa.of.Stack.spec
theorem Aa.of.Stack.Ac (hk:Ax Tryz.prog Aa.of.Stack.A6) (h:∀ (a b:Int) (r c:Int) (l:List Int) (p q:Int) (m:List Int),Aa.of.Stack.pre [.i a,.i b,.i r,.i c,.l l,.i p,.i q,.l m]=true→A8 Aa.of.Stack.E Tryz.f187 [.int .i64 a,.int .i64 b,.fn 195 [] [.cellp [.int .i64 r,.int .i64 c,.ints .arg .u64 l],.cellp [.int .i64 p,.int .i64 q,.ints .arg .u64 m]]] (Aa.of.Stack.out [.i a,.i b,.i r,.i c,.l l,.i p,.i q,.l m])):Aa.of.Stack.Kn :=
  Ak (Az hk _ _ _) Tryz.func187 (by kernel_rfl) (by kernel_rfl) h
def Aa.of.Mul.hint:Nat→Option Ba
  | 0=>some { keep:=[1,2,6,7,13,14],objs:=[(8,2,108002,.ints 37 .u64 [])],boxes:=[6,7] }
  | 2=>some { keep:=[1,2,6,7,8,13,14,17,18],objs:=[(8,2,108002,.ints 37 .u64 [])],boxes:=[6,7] }
  | _=>none
def Aa.of.Mul.A6:List (Nat × Entry):=[(188,Aa.Ic.spec)]
def Aa.of.Mul.E:Env:=A9 (A5 Aa.of.Mul.A6) (fun _=>false) Aa.of.Mul.hint (fun _=>none)
def Aa.of.Mul.L0 (N M:Nat) (a b:Int) (r c:Int) (l:List Int) (p q:Int) (m:List Int) (p14:Int) (p2_1:List Int):Option DV:=B0 Aa.of.Mul.E N Tryz.f187 (An Tryz.f187) [1,1,0,1,0] [] M ⟨Gj 33 [(1,.int .i64 b),(2,.fn 188 [] [.cellp [.int .i64 r,.int .i64 c,.ints .arg .u64 l],.cellp [.int .i64 p,.int .i64 q,.ints .arg .u64 m]]),(6,.ptr 6 0 0),(7,.ptr 7 0 0),(13,.int .i64 a),(14,.int .i64 p14)],[(6,false,.box [.int .i64 0,.int .i64 0,.nil]),(7,false,.box [.int .i64 a,.int .i64 b,.oref 108002]),(108002,false,.ints 37 .u64 p2_1)]⟩
def Aa.of.Mul.L1 (N M0 M:Nat) (a b:Int) (r c:Int) (l:List Int) (p q:Int) (m:List Int) (p8 p14_1 p18:Int) (p2:List Int):Option DV:=B0 Aa.of.Mul.E N Tryz.f187 (An Tryz.f187) [1,1,0,1,0,0,1,1,0,0,1,1,0] [M0] M ⟨Gj 33 [(1,.int .i64 b),(2,.fn 188 [] [.cellp [.int .i64 r,.int .i64 c,.ints .arg .u64 l],.cellp [.int .i64 p,.int .i64 q,.ints .arg .u64 m]]),(6,.ptr 6 0 0),(7,.ptr 7 0 0),(8,.int .i64 p8),(13,.int .i64 a),(14,.int .i64 p14_1),(17,.int .i64 b),(18,.int .i64 p18)],[(6,false,.box [.int .i64 0,.int .i64 0,.nil]),(7,false,.box [.int .i64 a,.int .i64 b,.oref 108002]),(108002,false,.ints 37 .u64 p2)]⟩
theorem Aa.of.Mul.Ar (N M:Nat) (a b:Int) (r c:Int) (l:List Int) (p q:Int) (m:List Int) (p14:Int) (p2_1:List Int):Aa.of.Mul.L0 N (M+1) a b r c l p q m p14 p2_1=bif (A4 p14 a) then Aa.of.Mul.L1 N M N a b r c l p q m p14 p14 0 p2_1 else some (.agg [.int .i64 a,.int .i64 b,.ints (.own 108002 37) .u64 p2_1]):=by kernel_rfl
theorem Aa.of.Mul.B9 (N M0 M:Nat) (a b:Int) (r c:Int) (l:List Int) (p q:Int) (m:List Int) (p8 p14_1 p18:Int) (p2:List Int):Aa.of.Mul.L1 N M0 (M+1) a b r c l p q m p8 p14_1 p18 p2=bif (A4 p18 b) then bif (S2 r c l p q m p8 p18) then bif (decide ((List.length p2)+1≤Gt)) then Aa.of.Mul.L1 N M0 M a b r c l p q m p8 p14_1 (Ab (p18+1)) (p2++[(Jg (Ha c l p8) (Kk p q m p18))]) else none else none else Aa.of.Mul.L0 N M0 a b r c l p q m (Ab (p14_1+1)) p2 :=
  Eq.trans (by kernel_rfl)
  (Eh (C0 (Cx (S2 r c l p q m p8 p18)) (C0 (Cx (decide ((List.length p2)+1≤Gt))) rfl rfl) rfl) rfl)
theorem Aa.of.Mul.ev (N:Nat) (a b:Int) (r c:Int) (l:List Int) (p q:Int) (m:List Int):Bq Aa.of.Mul.E N Tryz.f187 (An Tryz.f187) [.int .i64 a,.int .i64 b,.fn 188 [] [.cellp [.int .i64 r,.int .i64 c,.ints .arg .u64 l],.cellp [.int .i64 p,.int .i64 q,.ints .arg .u64 m]]] =
  Aa.of.Mul.L0 N N a b r c l p q m 0 []:=by kernel_rfl
abbrev _root_.Go.Proofs.S1.Aa.of.Mul.Kn:=A3 Tryz.prog 187 Aa.of.Mul.spec
theorem Aa.of.Mul.Ac (hk:Ax Tryz.prog Aa.of.Mul.A6) (h:∀ (a b:Int) (r c:Int) (l:List Int) (p q:Int) (m:List Int),Aa.of.Mul.pre [.i a,.i b,.i r,.i c,.l l,.i p,.i q,.l m]=true→A8 Aa.of.Mul.E Tryz.f187 [.int .i64 a,.int .i64 b,.fn 188 [] [.cellp [.int .i64 r,.int .i64 c,.ints .arg .u64 l],.cellp [.int .i64 p,.int .i64 q,.ints .arg .u64 m]]] (Aa.of.Mul.out [.i a,.i b,.i r,.i c,.l l,.i p,.i q,.l m])):Aa.of.Mul.Kn :=
  Ak (Az hk _ _ _) Tryz.func187 (by kernel_rfl) (by kernel_rfl) h
def Aa.Bf.A6:List (Nat × Entry):=[(187,Aa.of.Bf.spec),(204,Aa.size.spec)]
def Aa.Bf.E:Env:=A9 (A5 Aa.Bf.A6) (fun _=>false) (fun _=>none) (fun _=>none)
theorem Aa.Bf.ev (N:Nat) (a b:Int):Bq Aa.Bf.E N Tryz.f151 (An Tryz.f151) [.int .i64 a,.int .i64 b]=bif ((!(Bg a))||(!(Bg b))) then some (.tup [.agg [.int .i64 0,.int .i64 0,.nil],.int .i64 3]) else bif ((Bg a&&Bg b)) then some (.tup [.agg [.int .i64 a,.int .i64 b,.ints .fresh .u64 (B7 (Int.toNat a) (Int.toNat b) (fun _ _=>0))],.int .i64 0]) else none :=
  Eq.trans (by kernel_rfl)
  (Av (Ab8 (Bg a)) (Av (R8 (Bg a)) (Av (R8 (Bg a)) (Av (Ab9 (Bg a)) (C0 (Amp (Bg a) (Bg b)) rfl rfl)))))
abbrev _root_.Go.Proofs.S1.Aa.Bf.Kn:=A3 Tryz.prog 151 Aa.Bf.spec
theorem Aa.Bf.Ac (hk:Ax Tryz.prog Aa.Bf.A6) (h:∀ (a b:Int),Aa.Bf.pre [.i a,.i b]=true→A8 Aa.Bf.E Tryz.f151 [.int .i64 a,.int .i64 b] (Aa.Bf.out [.i a,.i b])):Aa.Bf.Kn :=
  Ak (Az hk _ _ _) Tryz.func151 (by kernel_rfl) (by kernel_rfl) h
def Aa.Ey.A6:List (Nat × Entry):=[(187,Aa.of.Ey.spec),(204,Aa.size.spec)]
def Aa.Ey.E:Env:=A9 (A5 Aa.Ey.A6) (fun _=>false) (fun _=>none) (fun _=>none)
theorem Aa.Ey.ev (N:Nat) (n:Int):Bq Aa.Ey.E N Tryz.f218 (An Tryz.f218) [.int .i64 n]=bif (!(Bg n)) then some (.tup [.agg [.int .i64 0,.int .i64 0,.nil],.int .i64 3]) else bif ((Bg n&&Bg n)) then some (.tup [.agg [.int .i64 n,.int .i64 n,.ints .fresh .u64 (B7 (Int.toNat n) (Int.toNat n) (fun j1 j2=>Nk j1 j2))],.int .i64 0]) else none:=by kernel_rfl
abbrev _root_.Go.Proofs.S1.Aa.Ey.Kn:=A3 Tryz.prog 218 Aa.Ey.spec
theorem Aa.Ey.Ac (hk:Ax Tryz.prog Aa.Ey.A6) (h:∀ (n:Int),Aa.Ey.pre [.i n]=true→A8 Aa.Ey.E Tryz.f218 [.int .i64 n] (Aa.Ey.out [.i n])):Aa.Ey.Kn :=
  Ak (Az hk _ _ _) Tryz.func218 (by kernel_rfl) (by kernel_rfl) h
def Aa.Cs.A6:List (Nat × Entry):=[(160,Aa.Check.spec),(187,Aa.of.Cs.spec)]
def Aa.Cs.E:Env:=A9 (A5 Aa.Cs.A6) (fun _=>false) (fun _=>none) (fun _=>none)
theorem Aa.Cs.ev (N:Nat) (r c:Int) (l:List Int):Bq Aa.Cs.E N Tryz.f167 (An Tryz.f167) [.agg [.int .i64 r,.int .i64 c,.ints .arg .u64 l]]=bif ((K1 r c l) !=(0:Int)) then some (.tup [.agg [.int .i64 0,.int .i64 0,.nil],.int .i64 (K1 r c l)]) else bif ((Bg c&&Bg r)&&A0 r c l&&decide (c=c∧r=r)) then some (.tup [.agg [.int .i64 c,.int .i64 r,.ints .fresh .u64 (B7 (Int.toNat c) (Int.toNat r) (fun j1 j2=>D9 c l j2 j1))],.int .i64 0]) else none:=by kernel_rfl
abbrev _root_.Go.Proofs.S1.Aa.Cs.Kn:=A3 Tryz.prog 167 Aa.Cs.spec
theorem Aa.Cs.Ac (hk:Ax Tryz.prog Aa.Cs.A6) (h:∀ (r c:Int) (l:List Int),Aa.Cs.pre [.i r,.i c,.l l]=true→A8 Aa.Cs.E Tryz.f167 [.agg [.int .i64 r,.int .i64 c,.ints .arg .u64 l]] (Aa.Cs.out [.i r,.i c,.l l])):Aa.Cs.Kn :=
  Ak (Az hk _ _ _) Tryz.func167 (by kernel_rfl) (by kernel_rfl) h
def Aa.Part.A6:List (Nat × Entry):=[(160,Aa.Check.spec),(187,Aa.of.Part.spec)]
def Aa.Part.E:Env:=A9 (A5 Aa.Part.A6) (fun _=>false) (fun _=>none) (fun _=>none)
theorem Aa.Part.ev (N:Nat) (r c:Int) (l:List Int) (x y:Int) (a b:Int):Bq Aa.Part.E N Tryz.f124 (An Tryz.f124) [.agg [.int .i64 r,.int .i64 c,.ints .arg .u64 l],.int .i64 x,.int .i64 y,.int .i64 a,.int .i64 b]=bif ((K1 r c l) !=(0:Int)) then some (.tup [.agg [.int .i64 0,.int .i64 0,.nil],.int .i64 (K1 r c l)]) else bif ((((((((A4 x 0)||(A4 y 0))||(A4 a 0))||(A4 b 0))||(A4 r x))||(A4 c y))||(A4 (Ab (r-x)) a))||(A4 (Ab (c-y)) b)) then some (.tup [.agg [.int .i64 0,.int .i64 0,.nil],.int .i64 3]) else bif ((Bg a&&Bg b)&&A0 r c l&&Hv r c x y a b) then some (.tup [.agg [.int .i64 a,.int .i64 b,.ints .fresh .u64 (B7 (Int.toNat a) (Int.toNat b) (fun j1 j2=>D9 c l (x+j1) (y+j2)))],.int .i64 0]) else none :=
  Eq.trans (by kernel_rfl)
  (Eh rfl (Av (Se (A4 x 0)) (Av (Qa (A4 x 0)) (Av (W4 (A4 x 0)) (Av (Ad5 (A4 x 0) (A4 y 0)) (Av (Agt (A4 x 0) (A4 y 0)) (Av (Ap8 (A4 x 0) (A4 y 0)) (Av (Aj1 (A4 x 0) (A4 y 0) (A4 a 0)) (Av (Ad6 (A4 x 0) (A4 y 0) (A4 a 0)) (Av (Ap9 (A4 x 0) (A4 y 0) (A4 a 0)) (Av (Aqa (A4 x 0) (A4 y 0) (A4 a 0) (A4 b 0)) (Av (Aqa (A4 x 0) (A4 y 0) (A4 a 0) (A4 b 0)) (Av (Ava (A4 x 0) (A4 y 0) (A4 a 0) (A4 b 0)) (Av (Avb (A4 x 0) (A4 y 0) (A4 a 0) (A4 b 0)) (Av (Avc (A4 x 0) (A4 y 0) (A4 a 0) (A4 b 0)) (Av (Avd (A4 x 0) (A4 y 0) (A4 a 0) (A4 b 0) (A4 r x)) (Av (Avd (A4 x 0) (A4 y 0) (A4 a 0) (A4 b 0) (A4 r x)) (Av (Axs (A4 x 0) (A4 y 0) (A4 a 0) (A4 b 0) (A4 r x)) (Av (Axt (A4 x 0) (A4 y 0) (A4 a 0) (A4 b 0) (A4 r x)) (Av (Axu (A4 x 0) (A4 y 0) (A4 a 0) (A4 b 0) (A4 r x)) (Av (As2 (A4 x 0) (A4 y 0) (A4 a 0) (A4 b 0) (A4 r x) (A4 c y)) (Av (As2 (A4 x 0) (A4 y 0) (A4 a 0) (A4 b 0) (A4 r x) (A4 c y)) (Av (Axv (A4 x 0) (A4 y 0) (A4 a 0) (A4 b 0) (A4 r x) (A4 c y)) (Av (As2 (A4 x 0) (A4 y 0) (A4 a 0) (A4 b 0) (A4 r x) (A4 c y)) (Av (Ave (A4 x 0) (A4 y 0) (A4 a 0) (A4 b 0) (A4 r x) (A4 c y)) (Av (Ave (A4 x 0) (A4 y 0) (A4 a 0) (A4 b 0) (A4 r x) (A4 c y)) (Av (Axw (A4 x 0) (A4 y 0) (A4 a 0) (A4 b 0) (A4 r x) (A4 c y)) (Av (As3 (A4 x 0) (A4 y 0) (A4 a 0) (A4 b 0) (A4 r x) (A4 c y) (A4 (Ab (r-x)) a)) (Av (As3 (A4 x 0) (A4 y 0) (A4 a 0) (A4 b 0) (A4 r x) (A4 c y) (A4 (Ab (r-x)) a)) (Av (Axx (A4 x 0) (A4 y 0) (A4 a 0) (A4 b 0) (A4 r x) (A4 c y) (A4 (Ab (r-x)) a)) (Av (As3 (A4 x 0) (A4 y 0) (A4 a 0) (A4 b 0) (A4 r x) (A4 c y) (A4 (Ab (r-x)) a)) (Av (Avf (A4 x 0) (A4 y 0) (A4 a 0) (A4 b 0) (A4 r x) (A4 c y) (A4 (Ab (r-x)) a)) (Av (Avf (A4 x 0) (A4 y 0) (A4 a 0) (A4 b 0) (A4 r x) (A4 c y) (A4 (Ab (r-x)) a)) (Av (Axy (A4 x 0) (A4 y 0) (A4 a 0) (A4 b 0) (A4 r x) (A4 c y) (A4 (Ab (r-x)) a)) (C0 (Axz (A4 x 0) (A4 y 0) (A4 a 0) (A4 b 0) (A4 r x) (A4 c y) (A4 (Ab (r-x)) a) (A4 (Ab (c-y)) b)) rfl rfl)))))))))))))))))))))))))))))))))))
abbrev _root_.Go.Proofs.S1.Aa.Part.Kn:=A3 Tryz.prog 124 Aa.Part.spec
theorem Aa.Part.Ac (hk:Ax Tryz.prog Aa.Part.A6) (h:∀ (r c:Int) (l:List Int) (x y:Int) (a b:Int),Aa.Part.pre [.i r,.i c,.l l,.i x,.i y,.i a,.i b]=true→A8 Aa.Part.E Tryz.f124 [.agg [.int .i64 r,.int .i64 c,.ints .arg .u64 l],.int .i64 x,.int .i64 y,.int .i64 a,.int .i64 b] (Aa.Part.out [.i r,.i c,.l l,.i x,.i y,.i a,.i b])):Aa.Part.Kn :=
  Ak (Az hk _ _ _) Tryz.func124 (by kernel_rfl) (by kernel_rfl) h
def Aa.Stack.A6:List (Nat × Entry):=[(187,Aa.of.Stack.spec),(186,Aa.two.spec)]
def Aa.Stack.E:Env:=A9 (A5 Aa.Stack.A6) (fun _=>false) (fun _=>none) (fun _=>none)
theorem Aa.Stack.ev (N:Nat) (r c:Int) (l:List Int) (p q:Int) (m:List Int):Bq Aa.Stack.E N Tryz.f126 (An Tryz.f126) [.agg [.int .i64 r,.int .i64 c,.ints .arg .u64 l],.agg [.int .i64 p,.int .i64 q,.ints .arg .u64 m]]=bif ((Xr r c l p q m) !=(0:Int)) then some (.tup [.agg [.int .i64 0,.int .i64 0,.nil],.int .i64 (Xr r c l p q m)]) else bif ((c !=q)||(A4 6 (Ab (r+p)))) then some (.tup [.agg [.int .i64 0,.int .i64 0,.nil],.int .i64 3]) else bif ((Bg (Ab (r+p))&&Bg c)&&(A0 r c l&&A0 p q m)&&decide ((Ab (r+p))=r+p∧c=c∧q=c)) then some (.tup [.agg [.int .i64 (Ab (r+p)),.int .i64 c,.ints .fresh .u64 (B7 (Int.toNat (Ab (r+p))) (Int.toNat c) (fun j1 j2=>Ja r c l q m j1 j2))],.int .i64 0]) else none :=
  Eq.trans (by kernel_rfl)
  (Eh rfl (Av (Se (c !=q)) (Av (Qa (c !=q)) (Av (Se (c !=q)) (Av (Qa (c !=q)) (Av (tt8 (c !=q)) (Av (Qa (c !=q)) (Av (W4 (c !=q)) (C0 (tt5 (c !=q) (A4 6 (Ab (r+p)))) rfl rfl)))))))))
abbrev _root_.Go.Proofs.S1.Aa.Stack.Kn:=A3 Tryz.prog 126 Aa.Stack.spec
theorem Aa.Stack.Ac (hk:Ax Tryz.prog Aa.Stack.A6) (h:∀ (r c:Int) (l:List Int) (p q:Int) (m:List Int),Aa.Stack.pre [.i r,.i c,.l l,.i p,.i q,.l m]=true→A8 Aa.Stack.E Tryz.f126 [.agg [.int .i64 r,.int .i64 c,.ints .arg .u64 l],.agg [.int .i64 p,.int .i64 q,.ints .arg .u64 m]] (Aa.Stack.out [.i r,.i c,.l l,.i p,.i q,.l m])):Aa.Stack.Kn :=
  Ak (Az hk _ _ _) Tryz.func126 (by kernel_rfl) (by kernel_rfl) h
def Aa.Mul.A6:List (Nat × Entry):=[(187,Aa.of.Mul.spec),(186,Aa.two.spec)]
def Aa.Mul.E:Env:=A9 (A5 Aa.Mul.A6) (fun _=>false) (fun _=>none) (fun _=>none)
theorem Aa.Mul.ev (N:Nat) (r c:Int) (l:List Int) (p q:Int) (m:List Int):Bq Aa.Mul.E N Tryz.f123 (An Tryz.f123) [.agg [.int .i64 r,.int .i64 c,.ints .arg .u64 l],.agg [.int .i64 p,.int .i64 q,.ints .arg .u64 m]]=bif ((Xr r c l p q m) !=(0:Int)) then some (.tup [.agg [.int .i64 0,.int .i64 0,.nil],.int .i64 (Xr r c l p q m)]) else bif (c !=p) then some (.tup [.agg [.int .i64 0,.int .i64 0,.nil],.int .i64 3]) else bif ((Bg r&&Bg q)&&((A0 r c l&&A0 p q m)&&(Ah l&&Ah m))&&decide (r=r∧q=q∧c=p)) then some (.tup [.agg [.int .i64 r,.int .i64 q,.ints .fresh .u64 (B7 (Int.toNat r) (Int.toNat q) (fun j1 j2=>Jg (Ha c l j1) (Kk p q m j2)))],.int .i64 0]) else none:=by kernel_rfl
abbrev _root_.Go.Proofs.S1.Aa.Mul.Kn:=A3 Tryz.prog 123 Aa.Mul.spec
theorem Aa.Mul.Ac (hk:Ax Tryz.prog Aa.Mul.A6) (h:∀ (r c:Int) (l:List Int) (p q:Int) (m:List Int),Aa.Mul.pre [.i r,.i c,.l l,.i p,.i q,.l m]=true→A8 Aa.Mul.E Tryz.f123 [.agg [.int .i64 r,.int .i64 c,.ints .arg .u64 l],.agg [.int .i64 p,.int .i64 q,.ints .arg .u64 m]] (Aa.Mul.out [.i r,.i c,.l l,.i p,.i q,.l m])):Aa.Mul.Kn :=
  Ak (Az hk _ _ _) Tryz.func123 (by kernel_rfl) (by kernel_rfl) h
end EqOf
end Go.Proofs.S1
end
