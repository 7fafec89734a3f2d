/- A verified evaluator of the program's form and its use for this seat: S1PRoot, S1PRootA, LdxL, S1EqLdx, S1PLdx, S1PLdxA, S1EqRef08, S1EqRef13, S1PRef08, S1EqOf. -/
import Derived.Test.YtjbokjpbiobjpaaGreatTI
import Derived.Test.YtjbokjpbiobjpaaGreatTE
import Derived.Test.YtjbokjpbiobjpaaGreatTF
import Derived.Test.YtjbokjpbiobjpaaGreatTG
set_option linter.unusedVariables false
set_option linter.unusedSimpArgs false
noncomputable section
namespace Go.Proofs.S1
open Go Go.Den Go.Rnd Go.Proofs
open EqRoot
theorem Qx (n s:Nat) (h:s≤64):De .u64 (n:Int) (s:Int)=((n / 2^s:Nat):Int):=Ht .u64 n s h
theorem sh2 {n t:Nat} (ht:t<4):H7 .u64 (B2 .u64 (n:Int) (2:Int)) (t:Int)=((n%2^62*4+t:Nat):Int):=by
  rw [show (2:Int)=((2:Nat):Int) from rfl,Ff n 2 (by decide),show n*2^2%2^64=(n%2^62)*2^2 by omega]
  exact M5 ht (by omega)
theorem sh1 {n:Nat} (h:n<2^63):B2 .u64 (n:Int) (1:Int)=((2*n:Nat):Int):=by
  rw [show (1:Int)=((1:Nat):Int) from rfl,Ff n 1 (by decide)]
  congr 1; omega
theorem Axf {n:Nat} (h:n<2^63):H7 .u64 (B2 .u64 (n:Int) (1:Int)) (1:Int)=((2*n+1:Nat):Int):=by
  rw [show (1:Int)=((1:Nat):Int) from rfl,Ff n 1 (by decide),show n*2^1%2^64=n*2^1 by omega,Nat.mul_comm 2 n]
  exact M5 (k:=1) (by decide) (by omega)
theorem Al6 {m i:Nat} (hi:i<32):Et .u64 (De .u64 (m:Int) (Ab ((62:Int)-(Ab ((2:Int)*(i:Int)))))) (3:Int)=((m / 2^(62-2*i)%2^64%4:Nat):Int)∨2^64≤m:=by
  by_cases hm:m<2^64
  · left
    rw [Am (x:=(2:Int)*(i:Int)) (by omega) (by omega),Am (x:=(62:Int)-2*(i:Int)) (by omega) (by omega),show (62:Int)-2*(i:Int)=((62-2*i:Nat):Int) by omega,Qx _ _ (by omega)]
    have hd:m / 2^(62-2*i)<2^64:=Nat.lt_of_le_of_lt (Nat.div_le_self _ _) hm
    rw [show (3:Int)=((2^2-1:Nat):Int) from rfl,I2 2 hd (by decide)]
    congr 1
    omega
  · right; omega
def R1 (m i:Nat):Nat:=m*2^64 / 2^(128-2*i)
theorem Amx {m i:Nat} (hi:i<32):R1 m (i+1)=4*R1 m i+m / 2^(62-2*i)%4:=by
  unfold R1
  have e1:128-2*i=64+(64-2*i):=by omega
  have e2:128-2*(i+1)=64+(62-2*i):=by omega
  rw [e1,e2,Nat.pow_add,Nat.pow_add,Nat.mul_comm (2^64),Nat.mul_comm (2^64),Nat.mul_div_mul_right _ _ (by decide),Nat.mul_div_mul_right _ _ (by decide),show 64-2*i=(62-2*i)+2 by omega,Nat.pow_add,← Nat.div_div_eq_div_mul]
  omega
theorem Aj7 {m i:Nat} (hi:32≤i) (h:i<64):R1 m (i+1)=4*R1 m i:=by
  unfold R1
  have e1:(2:Nat)^64=2^(2*i-64)*2^(128-2*i):=by rw [← Nat.pow_add]; congr 1; omega
  have e2:(2:Nat)^64=2^(2*i-64)*4*2^(128-2*(i+1)):=by
    rw [show (4:Nat)=2^2 from rfl,← Nat.pow_add,← Nat.pow_add]; congr 1; omega
  have a1:m*2^64 / 2^(128-2*i)=m*2^(2*i-64):=by rw [e1,← Nat.mul_assoc,Nat.mul_div_cancel _ (Cj _)]
  have a2:m*2^64 / 2^(128-2*(i+1))=m*(2^(2*i-64)*4):=by rw [e2,← Nat.mul_assoc,Nat.mul_div_cancel _ (Cj _)]
  rw [a1,a2,← Nat.mul_assoc,Nat.mul_comm 4]
theorem Apz {A B tl th:Nat} (hA:A<2^64) (htl:tl<2^64) (hB:B<2^64) (hth:th<4) :
    (Gx (A:Int) (tl:Int) (0:Int)=0∨Gx (A:Int) (tl:Int) (0:Int)=1) ∧
    (th*2^64+tl≤B*2^64+A→(Gx (B:Int) (th:Int) (Gx (A:Int) (tl:Int) (0:Int))==(0:Int))=true ∧
      ∃ h l:Nat,Ng (B:Int) (th:Int) (Gx (A:Int) (tl:Int) (0:Int))=(h:Int)∧Ng (A:Int) (tl:Int) (0:Int)=(l:Int)∧l<2^64∧h*2^64+l=B*2^64+A-(th*2^64+tl)) ∧
    (B*2^64+A<th*2^64+tl→(Gx (B:Int) (th:Int) (Gx (A:Int) (tl:Int) (0:Int))==(0:Int))=false):=by
  have e1:Gx (A:Int) (tl:Int) (0:Int)=((if A<tl then 1 else 0:Nat):Int):=by
    unfold Gx
    rw [Axv,Axv]
    rfl
  by_cases h:A<tl
  · rw [if_pos h] at e1
    rw [e1]
    have e2:Gx (B:Int) (th:Int) ((1:Nat):Int)=((if B<th+1 then 1 else 0:Nat):Int):=by
      unfold Gx
      rw [Axv,Axv]
      rfl
    refine ⟨.inr rfl,fun hle=>?_,fun hlt=>?_⟩
    · rw [if_neg (by omega)] at e2
      rw [e2]
      refine ⟨rfl,B-th-1,A+2^64-tl,?_,?_,by omega,by omega⟩
      · unfold Ng
        rw [Axv,Axv,Axv]
        congr 1; omega
      · unfold Ng
        rw [Axv,Axv]
        show ((_:Nat):Int)=_
        congr 1
        show (A+18446744073709551616-tl-0)%18446744073709551616=_
        omega
    · rw [if_pos (by omega)] at e2
      rw [e2]; rfl
  · rw [if_neg h] at e1
    rw [e1]
    have e2:Gx (B:Int) (th:Int) ((0:Nat):Int)=((if B<th then 1 else 0:Nat):Int):=by
      unfold Gx
      rw [Axv,Axv]
      rfl
    refine ⟨.inl rfl,fun hle=>?_,fun hlt=>?_⟩
    · rw [if_neg (by omega)] at e2
      rw [e2]
      refine ⟨rfl,B-th,A-tl,?_,?_,by omega,by omega⟩
      · unfold Ng
        rw [Axv,Axv,Axv]
        congr 1; omega
      · unfold Ng
        rw [Axv,Axv]
        show ((_:Nat):Int)=_
        congr 1
        show (A+18446744073709551616-tl-0)%18446744073709551616=_
        omega
    · rw [if_pos (by omega)] at e2
      rw [e2]; rfl
theorem glue (n t:Nat):n / 2^62*2^64+(n%2^62*4+t)=4*n+t:=by omega
theorem Akt (N:Nat) {m:Nat} (hm:m<2^63):∀ (k i F rt rest:Nat),i+k=64→k<F→R1 m i=rt*rt+rest→rest≤2*rt→rt<2^i→∀ hi lo:Nat,hi*2^64+lo=rest→lo<2^64 →
    root.Gt.L0 N F (m:Int) (rt:Int) (hi:Int) (lo:Int) (i:Int)=some (.tup [.int .u64 (Uf m),.bool (Ug m)]):=by
  intro k
  induction k with
  | zero =>
    intro i F rt rest hi hF hP hr hb h l e hl
    obtain ⟨F,rfl⟩:∃ G,F=G+1:=⟨F-1,by omega⟩
    obtain rfl:i=64:=by omega
    have hP':m*2^64=rt*rt+rest:=by
      rw [← hP]; unfold R1
      rw [show 128-2*64=0 from rfl,Nat.pow_zero,Nat.div_one]
    have hroot:=Ap4 hP' hr
    rw [root.Gt.Au,As,Axy (by omega),Axx]
    have e1:Uf (m:Int)=(rt:Int):=by unfold Uf; rw [Axv,← hroot]
    have e2:Ug (m:Int)=(bif ((h:Int)==(0:Int)) then ((l:Int)==(0:Int)) else false):=by
      unfold Ug
      rw [Axv,← hroot,hP']
      by_cases h0:h=0
      · subst h0
        rw [show (((0:Nat):Int)==(0:Int))=true from rfl,Axt,Ax9,Ax0,beq_iff_eq]
        omega
      · rw [show ((h:Int)==(0:Int))=false by rw [beq_eq_false_iff_ne]; omega,Axx,Axy]
        omega
    rw [e1,e2]
  | succ k ih =>
    intro i F rt rest hi hF hP hr hb h l e hl
    obtain ⟨F,rfl⟩:∃ G,F=G+1:=⟨F-1,by omega⟩
    have hp:2^i≤2^63:=Ax8 (by decide) (by omega)
    have hi63:2^(i+1)=2*2^i:=by rw [Nat.pow_succ,Nat.mul_comm]
    have f1:2*rt+1<2^(i+1):=by rw [hi63]; omega
    have f2:2*rt<2^(i+1):=by omega
    have hh:h=0:=by omega
    subst hh
    have hrest:rest=l:=by omega
    subst hrest
    obtain ⟨two,t4,hP',hcode⟩:∃ two:Nat,two<4∧R1 m (i+1)=4*R1 m i+two ∧
        root.Gt.L0 N (F+1) (m:Int) (rt:Int) ((0:Nat):Int) (rest:Int) (i:Int) =
        (bif (decide ((Gx (H7 .u64 (B2 .u64 (rest:Int) (2:Int)) (two:Int)) (H7 .u64 (B2 .u64 (rt:Int) (2:Int)) (1:Int)) (0:Int))≤1)) then
          bif ((Gx (H7 .u64 (B2 .u64 ((0:Nat):Int) (2:Int)) (De .u64 (rest:Int) (62:Int))) (De .u64 (rt:Int) (62:Int)) (Gx (H7 .u64 (B2 .u64 (rest:Int) (2:Int)) (two:Int)) (H7 .u64 (B2 .u64 (rt:Int) (2:Int)) (1:Int)) (0:Int)))==(0:Int)) then
            root.Gt.L0 N F (m:Int) (H7 .u64 (B2 .u64 (rt:Int) (1:Int)) (1:Int)) (Ng (H7 .u64 (B2 .u64 ((0:Nat):Int) (2:Int)) (De .u64 (rest:Int) (62:Int))) (De .u64 (rt:Int) (62:Int)) (Gx (H7 .u64 (B2 .u64 (rest:Int) (2:Int)) (two:Int)) (H7 .u64 (B2 .u64 (rt:Int) (2:Int)) (1:Int)) (0:Int))) (Ng (H7 .u64 (B2 .u64 (rest:Int) (2:Int)) (two:Int)) (H7 .u64 (B2 .u64 (rt:Int) (2:Int)) (1:Int)) (0:Int)) (Ab ((i:Int)+(1:Int)))
          else root.Gt.L0 N F (m:Int) (B2 .u64 (rt:Int) (1:Int)) (H7 .u64 (B2 .u64 ((0:Nat):Int) (2:Int)) (De .u64 (rest:Int) (62:Int))) (H7 .u64 (B2 .u64 (rest:Int) (2:Int)) (two:Int)) (Ab ((i:Int)+(1:Int)))
        else none):=by
      by_cases h32:i<32
      · refine ⟨m / 2^(62-2*i)%4,Nat.mod_lt _ (by decide),Amx h32,?_⟩
        have ht:=(Al6 (m:=m) h32).resolve_right (by omega)
        have hq:m / 2^(62-2*i)%2^64%4=m / 2^(62-2*i)%4:=by omega
        rw [hq] at ht
        rw [root.Gt.Au,As,Axu (show (i:Int)<64 by omega),Axt,As,Axu (show (i:Int)<32 by omega),Axt,ht,Am (x:=(2:Int)*(i:Int)) (by omega) (by omega),Am (x:=(62:Int)-2*(i:Int)) (by omega) (by omega),Axu (show (0:Int)≤62-2*(i:Int) by omega),Axt]
      · refine ⟨0,by decide,by rw [Aj7 (by omega) (by omega),Nat.add_zero],?_⟩
        rw [root.Gt.Au,As,Axu (show (i:Int)<64 by omega),Axt,As,Axy (show ¬ (i:Int)<32 by omega),Axx]
        rfl
    obtain ⟨s1,s2⟩:=Ahl hP hr t4
    have eA:=sh2 (n:=rest) t4
    have eT:=sh2 (n:=rt) (t:=1) (by decide)
    have eB:H7 .u64 (B2 .u64 ((0:Nat):Int) (2:Int)) (De .u64 (rest:Int) (62:Int))=((rest / 2^62:Nat):Int):=by
      rw [show (62:Int)=((62:Nat):Int) from rfl,Qx _ _ (by decide),sh2 (n:=0) (t:=rest / 2^62) (by omega)]
      congr 1; omega
    have eH:De .u64 (rt:Int) (62:Int)=((rt / 2^62:Nat):Int):=by rw [show (62:Int)=((62:Nat):Int) from rfl,Qx _ _ (by decide)]
    have eT':H7 .u64 (B2 .u64 (rt:Int) (2:Int)) (1:Int)=((rt%2^62*4+1:Nat):Int):=eT
    obtain ⟨b1,b2,b3⟩:=Apz (A:=rest%2^62*4+two) (B:=rest / 2^62) (tl:=rt%2^62*4+1) (th:=rt / 2^62) (by omega) (by omega) (by omega) (by omega)
    rw [hcode,eA,eT',eB,eH,Axu (by rcases b1 with b | b<;>rw [b]<;>decide),Axt,Am (by omega) (by omega)]
    by_cases hc:4*rt+1≤4*rest+two
    · obtain ⟨c1,hh,ll,c2,c3,c4,c5⟩:=b2 (by rw [glue,glue]; exact hc)
      obtain ⟨d1,d2⟩:=s1 hc
      rw [c1,Axt,c2,c3,Axf (by omega)]
      refine ih (i+1) F (2*rt+1) (4*rest+two-(4*rt+1)) (by omega) (by omega) (hP'.trans d1) d2 f1 hh ll ?_ c4
      rw [c5,glue,glue]
    · rw [b3 (by rw [glue,glue]; omega),Axx,sh1 (by omega)]
      obtain ⟨d1,d2⟩:=s2 (by omega)
      refine ih (i+1) F (2*rt) (4*rest+two) (by omega) (by omega) (hP'.trans d1) d2 f2 _ _ (glue _ _) ?_
      clear hcode
      omega
theorem root.Gt.known:root.Gt.Kn:=root.Gt.Ac .nil fun m hp=>by
  have hp:=Ar.1 hp
  obtain ⟨n,rfl⟩:∃ n:Nat,m=n:=⟨m.toNat,by omega⟩
  refine ⟨65,root.Gt.out [.i n],[],?_,Wk.Gw (.cons .int (.cons .bool .nil))⟩
  rw [root.Gt.ev]
  have h0:R1 n 0=0*0+0:=by
    unfold R1
    rw [Nat.div_eq_of_lt]
    show n*18446744073709551616<340282366920938463463374607431768211456
    omega
  exact Akt 65 (by omega) 64 0 65 0 0 rfl (by omega) h0 (Nat.le_refl 0) Nat.one_pos 0 0 rfl (Nat.pow_pos (by decide))
open EqRoot
theorem Ys {b:Nat} (h:Av b≠0):E2 (Av b:Int)=((Av b).log2:Int)+1:=by
  unfold E2
  rw [if_neg (by omega),Axv]
theorem Ajn {w:Nat} {E:Int} {s:Bool} (hw:2^62≤w) (n:Nat) (h:Sy n=w) (hs:s=decide (w*w≠n)) :
    Gf false (w / 2) (E+2) (bif s then true else decide (w%2=1))=(Ci (Gg n) E,flagsOf (Gg n) E):=by
  have e1:Gg n / 2^2=w / 2:=by unfold Gg; rw [h]; split<;>omega
  have e2:(bif s then true else decide (w%2=1))=decide (Gg n%2^2≠0):=by
    rw [hs]
    unfold Gg
    rw [h]
    by_cases h0:w*w=n
    · rw [Axy (by omega),Axx,if_pos h0,decide_eq_decide]; omega
    · rw [Axu h0,Axt,if_neg h0]; symm; exact Axu (by omega)
  rw [← e1]
  have:=T9 false (V:=Gg n) (k:=2) (E:=E) (e:=E+2) rfl e2 (by rw [e1]; omega) (by left; rw [e1]; omega)
  rw [Tm] at this
  exact this
theorem root.Sqrt.num {b:Nat} (hb:b<2^64) (h4:Al b≠4) (h:¬ (Al b=0∨b=D8)) (hn:Bs b=false) {z:Nat} (hz:2^60≤Av b*2^z) (hz2:Av b*2^z<2^62) (he:(A2 b-(z:Int))%2=0) (z60:z≤62) :
    root.Sqrt.L0 2 2 (A2 b-(z:Int)) (Uf ((Av b*2^z:Nat):Int)) (!(Ug ((Av b*2^z:Nat):Int)))=some (.tup [.int .u64 (Fq (b:Int)),.int .u8 (P8 (b:Int))]):=by
  have hE:=El b
  have hM:=E9 b
  have h3:Al b≠3:=fun h3=>by
    refine h (.inr ?_)
    have hpn:Bs b=false:=hn
    unfold Bs at hpn
    have hlt:b<2^63:=by simpa using hpn
    unfold Al at h3
    have hp:=Jb b
    unfold Dv at h3
    unfold C4 at h3
    unfold D8
    split at h3
    · split at h3
      · omega
      · omega
    · split at h3
      · omega
      · split at h3<;>omega
  have hm:Av b≠0:=fun h0=>h (.inl ((He h3 h4).1 h0))
  have eN:Av b*2^z*2^64=Av b*2^(z+64):=by rw [Nat.mul_assoc,← Nat.pow_add]
  have i1:2^62≤Sy (Av b*2^z*2^64):=Acq (t:=62) (by omega)
  have i2:=(Qm (Av b*2^z*2^64)).1
  have i3:Sy (Av b*2^z*2^64)<2^63:=by
    refine Ad3 (Nat.lt_of_le_of_lt i2 ?_)
    show _<9223372036854775808*9223372036854775808
    omega
  have r1:Uf ((Av b*2^z:Nat):Int)=(Sy (Av b*2^z*2^64):Int):=by unfold Uf; rw [Axv]
  have r2:(!(Ug ((Av b*2^z:Nat):Int)))=decide (Sy (Av b*2^z*2^64)*Sy (Av b*2^z*2^64)≠Av b*2^z*2^64):=by
    unfold Ug; rw [Axv,← decide_not]
  obtain ⟨k1,k2⟩:=Aec hm
  have same:=Aam (m:=Av b) (k:=z+64) (l:=Lr b) (E:=(A2 b-(z:Int)) / 2-33) (F:=(A2 b-(Lr b:Int)) / 2-1) (by rw [← eN]; omega) k1 (by omega)
  rw [← eN] at same
  have near:=Ajn (E:=(A2 b-(z:Int)) / 2-33) i1 _ rfl r2
  rw [same.1,same.2] at near
  have sq:N9 b=_:=Ad2 h4 h hn
  rw [r1,r2]
  rw [r2] at near
  generalize Sy (Av b*2^z*2^64)=w at *
  have w1:Ee (4611686018427387904:Int) (w:Int)=true:=by rw [Ei]; exact Axu (by omega)
  have w2:De .u64 (w:Int) (1:Int)=((w / 2:Nat):Int):=by rw [show (1:Int)=((1:Nat):Int) from rfl,Qx _ _ (by decide)]
  have w3:((Et .u64 (w:Int) (1:Int))==(1:Int))=decide (w%2=1):=by
    rw [show Et .u64 (w:Int) (1:Int)=((w%2^1:Nat):Int) from I2 1 (by omega) (by decide),Ax9,beq_iff_eq,Ax0]
    omega
  have w4:Ee (4611686018427387904:Int) ((w / 2:Nat):Int)=false:=by rw [Ei]; exact Axy (by omega)
  have w5:Ab (Ab (Int.tdiv (A2 b-(z:Int)+2) 2)-32)=(A2 b-(z:Int)) / 2-33+2:=by
    have:Int.tdiv (A2 b-(z:Int)+2) 2=(A2 b-(z:Int)) / 2+1:=by
      rw [Int.tdiv_eq_ediv]
      split<;>omega
    rw [this,Am (x:=(A2 b-(z:Int)) / 2+1) (by omega) (by omega),Am (by omega) (by omega)]
    omega
  have w6:Ab (A2 b-(z:Int)+2)=A2 b-(z:Int)+2:=Am (by omega) (by omega)
  generalize hs:decide (w*w≠Av b*2^z*2^64)=s at *
  have pre:Ec ((w / 2:Nat):Int) ((A2 b-(z:Int)) / 2-33+2) (bif s then true else decide (w%2=1))=true:=Ar.2 ⟨by omega,by omega,by omega,by omega,fun _=>.inl (by omega)⟩
  rw [show (2:Nat)=1+1 from rfl,root.Sqrt.Au,w1,Axt,w2,w3,w6,show (1:Nat)=0+1 from rfl,root.Sqrt.Au,w4,Axx,w5,pre,Axt]
  unfold E1 E0 Fq P8
  rw [Axv,Axv,near,sq]
theorem root.Sqrt.known:root.Sqrt.Kn:=root.Sqrt.Ac (.cons Cz.B3.known (.cons root.Gt.known (.cons soft.Kind.known (.cons soft.Dd.known (.cons soft.F7.known (.cons soft.Sign.known .nil)))))) fun a hp=>by
  obtain ⟨b,rfl,hb⟩:=Bl (x:=a) hp
  refine ⟨2,root.Sqrt.out [.i b],[],?_,Wk.Gw (.cons .int (.cons .int .nil))⟩
  show _=some (DV.tup [.int .u64 (Fq (b:Int)),.int .u8 (P8 (b:Int))])
  have hk:Bd (b:Int)=(Al b:Int):=rfl
  rw [root.Sqrt.ev,B9 hb,Axt,Axt,Axt,Axt,hk]
  by_cases h4:Al b=4
  · rw [h4,show (((4:Nat):Int)==(4:Int))=true from rfl,Axt]
    unfold Fq P8
    rw [Axv,Xp h4]; rfl
  have k4:(((Al b:Nat):Int)==(4:Int))=false:=by rw [beq_eq_false_iff_ne]; omega
  rw [k4,Axx]
  by_cases h0:Al b=0
  · rw [h0,show (((0:Nat):Int)==(0:Int))=true from rfl,Axt]
    unfold Fq P8
    rw [Axv,N8 h4 (.inl h0)]; rfl
  have k0:(((Al b:Nat):Int)==(0:Int))=false:=by rw [beq_eq_false_iff_ne]; omega
  rw [k0,Axx]
  by_cases hi:b=D8
  · rw [show (((b:Nat):Int)==(9218868437227405312:Int))=true by rw [hi]; rfl,Axt]
    unfold Fq P8
    rw [Axv,N8 h4 (.inr hi)]; rfl
  have ki:(((b:Nat):Int)==(9218868437227405312:Int))=false:=by
    rw [beq_eq_false_iff_ne]; intro hh; refine hi (show b=9218868437227405312 from ?_); omega
  rw [ki,Axx]
  have hh:¬ (Al b=0∨b=D8):=by rintro (h | h); exact h0 h; exact hi h
  have hneg:Dp (b:Int)=Bs b:=rfl
  rw [hneg]
  cases hn:Bs b with
  | true =>
    rw [Axt]
    unfold Fq P8
    rw [Axv,Tl h4 hh hn]; rfl
  | false =>
    rw [Axx]
    have hm:Av b≠0:=fun hz=>by
      have h3:Al b≠3:=fun h3=>by
        rcases Hk b with ⟨p,_,_⟩ | ⟨_,_,q⟩ | ⟨_,q,_⟩
        · unfold Av at hz
          rw [if_neg (by omega)] at hz
          omega
        · omega
        · exact q h3
      exact hh (.inl ((He h3 h4).1 hz))
    have hM:=E9 b
    have hE:=El b
    have hl:(Av b).log2≤52:=by have:=(Nat.log2_lt hm).2 (show Av b<2^53 by omega); omega
    have e1:Bt (b:Int)=(Av b:Int):=rfl
    have e2:Bh (b:Int)=A2 b:=rfl
    have l1:∀ z:Nat,(Av b).log2+z=60∨(Av b).log2+z=61→2^60≤Av b*2^z∧Av b*2^z<2^62:=by
      intro z hz
      have hlz:=La (Av b) z hm
      have hne:Av b*2^z≠0:=Ip hm
      constructor
      · rw [← Nat.le_log2 hne]; omega
      · rw [← Nat.log2_lt hne]; omega
    have ez:Ab ((64-(((Av b).log2:Int)+1))-(2:Int))=((61-(Av b).log2:Nat):Int):=by rw [Am (by omega) (by omega)]; omega
    have ez':Ab (((61-(Av b).log2:Nat):Int)-(1:Int))=((60-(Av b).log2:Nat):Int):=by rw [Am (by omega) (by omega)]; omega
    rw [e1,e2,B9 (n:=Av b) (by omega),Axt,Ys hm,ez,ez',Am (x:=A2 b-((61-(Av b).log2:Nat):Int)) (by omega) (by omega),Am (x:=A2 b-((60-(Av b).log2:Nat):Int)) (by omega) (by omega)]
    by_cases hp2:(A2 b-((61-(Av b).log2:Nat):Int))%2=0
    · have t0:(Int.tmod (A2 b-((61-(Av b).log2:Nat):Int)) (2:Int) !=(0:Int))=false:=by
        rw [bne_eq_false_iff_eq]; exact Int.tmod_eq_zero_of_dvd (Int.dvd_of_emod_eq_zero hp2)
      obtain ⟨m1,m2⟩:=l1 (61-(Av b).log2) (by omega)
      rw [t0,Axx,Axu (by omega),Axt,Ff _ _ (by omega),Ax6 (by omega),Ar.2 (by omega),Axt]
      exact root.Sqrt.num hb h4 hh hn m1 m2 hp2 (by omega)
    · have t0:(Int.tmod (A2 b-((61-(Av b).log2:Nat):Int)) (2:Int) !=(0:Int))=true:=by
        rw [bne_iff_ne]; intro hz; exact hp2 (Int.emod_eq_zero_of_dvd (Int.dvd_of_tmod_eq_zero hz))
      obtain ⟨m1,m2⟩:=l1 (60-(Av b).log2) (by omega)
      rw [t0,Axt,Axu (by omega),Axt,Ff _ _ (by omega),Ax6 (by omega),Ar.2 (by omega),Axt]
      exact root.Sqrt.num hb h4 hh hn m1 m2 (by omega) (by omega)
theorem Ae.Sqrt.known:Ae.Sqrt.Kn:=Ae.Sqrt.Ac (.cons root.Sqrt.known .nil) fun a hp=>by
  have hp:Af a=true:=hp
  refine ⟨0,Ae.Sqrt.out [.i a],[],?_,.int⟩
  rw [Ae.Sqrt.ev,hp]; rfl
theorem compare.Lj.known:compare.Lj.Kn:=compare.Lj.Ac (.cons Cz.Lg.known (.cons soft.Finite.known (.cons soft.Kind.known (.cons soft.F7.known .nil)))) fun a hp=>by
  obtain ⟨b,rfl,hb⟩:=Bl (x:=a) hp
  refine ⟨0,compare.Lj.out [.i b],[],?_,.int⟩
  show _=some (DV.int .i64 (Bq (b:Int)))
  have hk:Bd (b:Int)=(Al b:Int):=rfl
  have hf:Cq (b:Int)=J4 b:=rfl
  have hE:=El b
  have hM:=E9 b
  rw [compare.Lj.ev,B9 hb,Axt,Bool.or_true,Axt,hk,hf]
  unfold Bq
  rw [Axv]
  unfold Ak6
  cases hfin:J4 b with
  | false=>rfl
  | true =>
    by_cases h0:Al b=0
    · rw [h0]; rfl
    · have k0:(((Al b:Nat):Int)==(0:Int))=false:=by rw [beq_eq_false_iff_ne]; omega
      have hm:Av b≠0:=fun hz=>by
        obtain ⟨f4,f3⟩:=Qq hfin
        exact h0 ((He f3 f4).1 hz)
      have hl:(Av b).log2≤52:=by have:=(Nat.log2_lt hm).2 (show Av b<2^53 by omega); omega
      have e1:Bt (b:Int)=(Av b:Int):=rfl
      have e2:Bh (b:Int)=A2 b:=rfl
      rw [k0,if_pos ⟨rfl,h0⟩,Bool.not_true,Bool.false_or,Axx,Axt,e1,e2,B9 (n:=Av b) (by omega),Axt,Ys hm,Am (x:=((Av b).log2:Int)+1-1) (by omega) (by omega),Am (by omega) (by omega)]
      congr 2; omega
theorem Adz {x:List Int} {i:Nat} (h:i<x.length) (k s:Int):Ad0 k s (x.drop i)=Ad0 k (Jq s (D1 (Bw (x.getD i 0) k) (Bw (x.getD i 0) k))) (x.drop (i+1)):=by
  rw [G3 h,Ad0]
theorem Akd (N:Nat) {x:List Int} (hx:Ck x=true) (hl:x.length≤1000):∀ (k i F:Nat) (s:Int),i+k=x.length→k<F→Af s=true →
    Ae.Norm.L0 N F x s (i:Int)=some (.tup [.int .u64 (Bw (Fq (Ad0 (-Bq (Be x)) s (x.drop i))) (Bq (Be x))),.int .i64 0]):=by
  obtain ⟨_,hu⟩:=H3 hx
  have he:=Za (Be x)
  intro k
  induction k with
  | zero =>
    intro i F s hi hF hs
    obtain ⟨F,rfl⟩:∃ G,F=G+1:=⟨F-1,by omega⟩
    rw [Ae.Norm.Au,As,Axy (by omega),Axx,hs,Axt,show Db (Fq s) (Bq (Be x))=true from Ad.2 ⟨Abz hs,Ar.2 (by omega)⟩,Axt,Ax7 (by omega)]
    rfl
  | succ k ih =>
    intro i F s hi hF hs
    obtain ⟨F,rfl⟩:∃ G,F=G+1:=⟨F-1,by omega⟩
    rw [Ae.Norm.Au,As,Axu (show (i:Int)<(x.length:Int) by omega),Axt,Axu (show (0:Int)≤(i:Int) by omega),Axz,Axt,Axv,Am (x:=0-Bq (Be x)) (by omega) (by omega),show (0:Int)-Bq (Be x)=-Bq (Be x) by omega,
      show Db (List.getD x i 0) (-Bq (Be x))=true from Ad.2 ⟨hu i (by omega),Ar.2 (by omega)⟩,Axt,Hr (hu i (by omega)),Axz,Axt,hs,Jg,Axz,Axt,Adz (by omega),Am (by omega) (by omega)]
    exact ih (i+1) F _ (by omega) (by omega) (Ahx hs (Jg _ _))
theorem Ae.Norm.known:Ae.Norm.Kn:=Ae.Norm.Ac (.cons compare.Lj.known (.cons soft.Finite.known (.cons Ae.Add.known (.cons Ae.Bn.known (.cons Ae.Mul.known (.cons Ae.Br.known (.cons Ae.Sqrt.known .nil))))))) fun x hp=>by
  obtain ⟨hx,hl⟩:=Ad.1 (show (Ck x&&Cu (List.length x≤64))=true from hp)
  have hl:=Ar.1 hl
  refine ⟨65,Ae.Norm.out [.l x],[],?_,Wk.Gw (.cons .int (.cons .int .nil))⟩
  show _=some (DV.tup [.int .u64 (Df x),.int .i64 0])
  rw [Ae.Norm.ev,As,Axy (by omega),Axx,hx,Axt,N2,Bool.or_true,Axt]
  unfold Df
  by_cases h:Be x=0∨Cq (Be x)=false
  · have:((Be x==(0:Int))||(!(Cq (Be x))))=true:=by
      rcases h with h | h
      · rw [h]; rfl
      · rw [h,Bool.not_false,Bool.or_true]
    rw [this,Axt,if_pos h]
  · have:((Be x==(0:Int))||(!(Cq (Be x))))=false:=by
      rw [Bool.or_eq_false_iff,beq_eq_false_iff_ne,Bool.not_eq_false']
      refine ⟨fun h0=>h (.inl h0),?_⟩
      cases hf:Cq (Be x) with
      | true=>rfl
      | false=>exact absurd (.inr hf) h
    rw [this,Axx,Axt,if_neg h]
    exact Akd 65 hx (by omega) x.length 0 65 0 (by omega) (by omega) H0
end Go.Proofs.S1
namespace Go.Rnd
open Go.Den
theorem p52:Av 4841369599423283200=2^52∧A2 4841369599423283200=0∧Al 4841369599423283200=2∧Bs 4841369599423283200=false:=by decide +kernel
theorem p53:Av 4368491638549381120=2^52∧A2 4368491638549381120=-105∧Al 4368491638549381120=2∧Bs 4368491638549381120=false:=by decide +kernel
theorem Ad9 {L:Int} {q:Nat} (b1:2^52≤q) (b2:q<2^53) (he:-1074≤L) (hi:L+1074≤2045):min ((L+1074).toNat*2^52+q) 9218868437227405312=(L+1075).toNat*2^52+(q-2^52):=by
  obtain ⟨t,rfl⟩:∃ t:Nat,L=t-1074:=⟨(L+1074).toNat,by omega⟩
  have e1:((t:Int)-1074+1074).toNat=t:=by omega
  have e2:((t:Int)-1074+1075).toNat=t+1:=by omega
  rw [e1,e2]
  omega
theorem Amk {m:Nat} (h0:m≠0) (h:m.log2≤52) {e:Int} (he:-1074≤e+m.log2-52) (hi:e+m.log2-52+1074≤2045) :
    Ci m e=(e+m.log2-52+1075).toNat*2^52+(m*2^(52-m.log2)-2^52)∧2^52≤m*2^(52-m.log2)∧m*2^(52-m.log2)<2^53:=by
  have hl:=La m (52-m.log2) h0
  have hne:m*2^(52-m.log2)≠0:=Ip h0
  have b1:2^52≤m*2^(52-m.log2):=by rw [← Nat.le_log2 hne,hl]; omega
  have b2:m*2^(52-m.log2)<2^53:=by rw [← Nat.log2_lt hne,hl]; omega
  have hs:=(Eb m (52-m.log2) e).1
  have ee:e-((52-m.log2:Nat):Int)=e+m.log2-52:=by omega
  rw [ee] at hs
  exact ⟨hs.symm.trans ((Mh b1 b2 (by omega)).trans (Ad9 b1 b2 he hi)),b1,b2⟩
theorem Am6 {x:Nat} (hx:x<2^64) (h3:Al x≠3) (h4:Al x≠4) (h0:Al x≠0) :
    ∃ P f d:Nat,1≤P∧P≤2046∧f<2^52∧L4 x=Bk (Bs x) (P*2^52+f)∧f+2^52=Av x*2^d∧(P:Int)-1075=A2 x-Iz x-d:=by
  have hf:=J2 x
  have hp:=Jb x
  have hm:Av x≠0:=fun h=>h0 ((He h3 h4).1 h)
  have hw:=Mg hx
  have hab:G7 x=Dv x*2^52+C4 x:=by unfold G7 Dv C4; omega
  have hp2:Dv x≠2047:=fun h=>by
    rcases Hk x with ⟨_,_,k⟩ | ⟨_,_,k⟩ | ⟨k,_,_⟩
    · exact h3 k
    · exact h4 k
    · omega
  unfold L4 Iz
  by_cases hs:G7 x<4503599627370496
  · have hz:Dv x=0:=by omega
    have eM:Av x=C4 x:=by unfold Av; rw [if_pos hz]
    have eE:A2 x=-1074:=by unfold A2; rw [if_pos hz]
    have hl:(Av x).log2≤51:=by have:=(Nat.log2_lt hm).2 (show Av x<2^52 by omega); omega
    rw [if_pos hs,if_pos hs]
    have hmul:=mul_pow h3 h4 (by rw [p52.2.2.1]; decide) (by rw [p52.2.2.1]; decide) p52.1 p52.2.2.2
    rw [hmul,p52.2.1,eE]
    obtain ⟨r1,r2,r3⟩:=Amk (e:=-1074+0+52) hm (by omega) (by omega) (by omega)
    refine ⟨(Av x).log2+1,Av x*2^(52-(Av x).log2)-2^52,52-(Av x).log2,by omega,by omega,by omega,?_,by omega,by omega⟩
    have ht:(-1074+0+52+((Av x).log2:Int)-52+1075).toNat=(Av x).log2+1:=by omega
    rw [ht] at r1
    exact congrArg (Bk (Bs x)) r1
  · rw [if_neg hs,if_neg hs]
    have hz:Dv x≠0:=by
      intro h
      rw [h] at hab
      omega
    have eM:Av x=C4 x+2^52:=by unfold Av; rw [if_neg hz]
    have eE:A2 x=(Dv x:Int)-1075:=by unfold A2; rw [if_neg hz]
    refine ⟨Dv x,C4 x,0,by omega,by omega,hf,?_,by rw [eM,Nat.pow_zero,Nat.mul_one],by omega⟩
    rw [← hab]
    exact hw.symm
theorem Q5 {s:Bool} {P f:Nat} (h1:1≤P) (h2:P≤2046) (hf:f<2^52) :
    Dv (Bk s (P*2^52+f))=P∧C4 (Bk s (P*2^52+f))=f∧Bs (Bk s (P*2^52+f))=s∧Bk s (P*2^52+f)<2^64∧Al (Bk s (P*2^52+f))=2 ∧
    Av (Bk s (P*2^52+f))=f+2^52∧A2 (Bk s (P*2^52+f))=(P:Int)-1075:=by
  have e1:Dv (Bk s (P*2^52+f))=P:=by
    unfold Dv Bk
    cases s
    · rw [if_neg (by decide)]; omega
    · rw [if_pos rfl]; omega
  have e2:C4 (Bk s (P*2^52+f))=f:=by
    unfold C4 Bk
    cases s
    · rw [if_neg (by decide)]; omega
    · rw [if_pos rfl]; omega
  have e3:Bs (Bk s (P*2^52+f))=s:=sign_neg s (by omega)
  have e4:Bk s (P*2^52+f)<2^64:=by
    unfold Bk
    cases s
    · rw [if_neg (by decide)]; omega
    · rw [if_pos rfl]; omega
  refine ⟨e1,e2,e3,e4,?_,?_,?_⟩
  · unfold Al; rw [e1,if_neg (by omega),if_pos (by omega)]
  · unfold Av; rw [e1,e2,if_neg (by omega)]
  · unfold A2; rw [e1,if_neg (by omega)]
theorem Amj {L:Int} {q f:Nat} (hf:f<2^52) (h1:-1074≤L) (h2:L+1074≤2045) (hq:(L+1075).toNat=q):Ci (f+2^52) L=q*2^52+f:=by
  have em:=Ad9 (L:=L) (q:=f+2^52) (by omega) (by omega) h1 h2
  rw [hq,Nat.add_sub_cancel] at em
  exact (Mh (by omega) (by omega) h1).trans em
theorem Axj {V:Nat} {E:Int} (h0:V≠0) (h:1024≤E+V.log2):Ci V E=D8:=by
  have hl:Ch V E=E+V.log2-52:=by unfold Ch; omega
  have hk:=Acp h0 hl
  have hle:=Kw V E
  unfold Ci at hle ⊢
  rw [if_neg h0] at hle ⊢
  rw [hl,H4] at hle ⊢
  generalize kept V E=q at *
  obtain ⟨t,ht⟩:∃ t:Nat,E+(V.log2:Int)-52=t:=⟨(E+(V.log2:Int)-52).toNat,by omega⟩
  rw [ht]
  have:((t:Int)+1074).toNat=t+1074:=by omega
  rw [this]
  omega
theorem X6 {y m:Nat} (h:Dt y=m) (hm:Al m≠4):y=m:=by
  unfold Dt at h
  by_cases h4:Al y=4
  · rw [if_pos h4] at h
    exact absurd (by rw [← h]; decide) hm
  · rw [if_neg h4] at h; exact h
theorem Qj (s:Bool) (V:Nat) (E:Int):Al (Bk s (Ci V E))≠4:=by
  rw [Vl s (Kw V E)]
  split
  · decide
  · split
    · decide
    · split<;>decide
theorem Ami {x P f d:Nat} {k:Int} (hm:Av x≠0) (he:f+2^52=Av x*2^d) (hP:(P:Int)-1075=A2 x-Iz x-d) :
    Ci (Av x) (A2 x+k)=Ci (f+2^52) ((P:Int)-1075+Iz x+k):=by
  have:=(Eb (Av x) d (A2 x+k)).1
  rw [← he] at this
  rw [← this]
  congr 1
  omega
end Go.Rnd
namespace Go.Proofs.S1
open Go Go.Den Go.Rnd Go.Proofs
set_option maxRecDepth 100000
namespace EqLdx
def math.Ho.A6:List (Nat × Entry):=[]
def math.Ho.E:Env:=A9 (A5 math.Ho.A6) (fun _=>false) (fun _=>none) (fun _=>none)
theorem math.Ho.ev (N x:Nat):Bp math.Ho.E N Tryz.f251 (An Tryz.f251) [.fl x]=some (.fl (x%9223372036854775808)):=by kernel_rfl
abbrev _root_.Go.Proofs.S1.math.Ho.Kn:=A3 Tryz.prog 251 math.Ho.spec
theorem math.Ho.Ac (hk:Ax Tryz.prog math.Ho.A6) (h:∀ (x:Nat),math.Ho.pre [.f x]=true→A8 math.Ho.E Tryz.f251 [.fl x] (math.Ho.out [.f x])):math.Ho.Kn :=
  Ak (Az hk _ _ _) Tryz.func251 (by kernel_rfl) (by kernel_rfl) h
def math.Ib.A6:List (Nat × Entry):=[]
def math.Ib.E:Env:=A9 (A5 math.Ib.A6) (fun _=>false) (fun _=>none) (fun _=>none)
theorem math.Ib.ev (N x:Nat):Bp math.Ib.E N Tryz.f241 (An Tryz.f241) [.fl x]=some (.bool (Ieee.double.order x x !=some .eq)):=by kernel_rfl
abbrev _root_.Go.Proofs.S1.math.Ib.Kn:=A3 Tryz.prog 241 math.Ib.spec
theorem math.Ib.Ac (hk:Ax Tryz.prog math.Ib.A6) (h:∀ (x:Nat),math.Ib.pre [.f x]=true→A8 math.Ib.E Tryz.f241 [.fl x] (math.Ib.out [.f x])):math.Ib.Kn :=
  Ak (Az hk _ _ _) Tryz.func241 (by kernel_rfl) (by kernel_rfl) h
def math.Ic.A6:List (Nat × Entry):=[(251,math.Ho.spec)]
def math.Ic.E:Env:=A9 (A5 math.Ic.A6) (fun _=>false) (fun _=>none) (fun _=>none)
theorem math.Ic.ev (N x:Nat) (s:Int):Bp math.Ic.E N Tryz.f240 (An Tryz.f240) [.fl x,.int .i64 s]=bif (s==(0:Int)) then some (.bool (Ieee.double.order (G7 x) 9218868437227405311==some .gt)) else bif (A4 s 0) then none else some (.bool (Ieee.double.order x 9218868437227405311==some .gt)):=by kernel_rfl
abbrev _root_.Go.Proofs.S1.math.Ic.Kn:=A3 Tryz.prog 240 math.Ic.spec
theorem math.Ic.Ac (hk:Ax Tryz.prog math.Ic.A6) (h:∀ (x:Nat) (s:Int),math.Ic.pre [.f x,.i s]=true→A8 math.Ic.E Tryz.f240 [.fl x,.int .i64 s] (math.Ic.out [.f x,.i s])):math.Ic.Kn :=
  Ak (Az hk _ _ _) Tryz.func240 (by kernel_rfl) (by kernel_rfl) h
def math.normalize.A6:List (Nat × Entry):=[(251,math.Ho.spec)]
def math.normalize.E:Env:=A9 (A5 math.normalize.A6) (fun _=>false) (fun _=>none) (fun _=>none)
theorem math.normalize.ev (N x:Nat):Bp math.normalize.E N Tryz.f242 (An Tryz.f242) [.fl x]=bif (Ieee.double.order (G7 x) 4503599627370496==some .lt) then some (.tup [.fl ((Ieee.double.mul x 4841369599423283200).getD nanBits),.int .i64 (-52:Int)]) else some (.tup [.fl x,.int .i64 0]):=by kernel_rfl
abbrev _root_.Go.Proofs.S1.math.normalize.Kn:=A3 Tryz.prog 242 math.normalize.spec
theorem math.normalize.Ac (hk:Ax Tryz.prog math.normalize.A6) (h:∀ (x:Nat),math.normalize.pre [.f x]=true→A8 math.normalize.E Tryz.f242 [.fl x] (math.normalize.out [.f x])):math.normalize.Kn :=
  Ak (Az hk _ _ _) Tryz.func242 (by kernel_rfl) (by kernel_rfl) h
def math.D3.A6:List (Nat × Entry):=[]
def math.D3.E:Env:=Vo (A5 math.D3.A6) (fun _=>false) (fun _=>none) (fun _=>none) (Af2 [])
theorem math.D3.ev (N x y:Nat):Bp math.D3.E N Tryz.f243 (An Tryz.f243) [.fl x,.fl y]=bif (!(Fj x)) then bif (!(Fj y)) then bif (decide (0≤(H7 .u64 (Gm .u64 (x:Int) 9223372036854775808) (Et .u64 (y:Int) 9223372036854775808)))) then some (.fl (Int.toNat (H7 .u64 (Gm .u64 (x:Int) 9223372036854775808) (Et .u64 (y:Int) 9223372036854775808)))) else none else none else none:=by kernel_rfl
abbrev _root_.Go.Proofs.S1.math.D3.Kn:=A3 Tryz.prog 243 math.D3.spec
theorem math.D3.Ac (hk:Ax Tryz.prog math.D3.A6) (h:∀ (x y:Nat),math.D3.pre [.f x,.f y]=true→A8 math.D3.E Tryz.f243 [.fl x,.fl y] (math.D3.out [.f x,.f y])):math.D3.Kn :=
  Ak (W9 hk _ _ _ _) Tryz.func243 (by kernel_rfl) (by kernel_rfl) h
def math.Xd.A6:List (Nat × Entry):=[]
def math.Xd.E:Env:=A9 (A5 math.Xd.A6) (fun _=>false) (fun _=>none) (fun _=>none)
theorem math.Xd.ev (N:Nat) (s:Int):Bp math.Xd.E N Tryz.f244 (An Tryz.f244) [.int .i64 s]=bif (Ee 0 s) then some (.fl 9218868437227405312) else some (.fl 18442240474082181120):=by kernel_rfl
abbrev _root_.Go.Proofs.S1.math.Xd.Kn:=A3 Tryz.prog 244 math.Xd.spec
theorem math.Xd.Ac (hk:Ax Tryz.prog math.Xd.A6) (h:∀ (s:Int),math.Xd.pre [.i s]=true→A8 math.Xd.E Tryz.f244 [.int .i64 s] (math.Xd.out [.i s])):math.Xd.Kn :=
  Ak (Az hk _ _ _) Tryz.func244 (by kernel_rfl) (by kernel_rfl) h
def math.Hc.A6:List (Nat × Entry):=[(243,math.D3.spec),(244,math.Xd.spec),(240,math.Ic.spec),(241,math.Ib.spec),(242,math.normalize.spec)]
def math.Hc.E:Env:=Vo (A5 math.Hc.A6) (fun _=>false) (fun _=>none) (fun _=>none) (Af2 [])
theorem math.Hc.ev (N x:Nat) (k:Int):Bp math.Hc.E N Tryz.f216 (An Tryz.f216) [.fl x,.int .i64 k]=bif (Ieee.double.order x 0==some .eq) then some (.fl x) else bif (Tb x&&decide ((0:Int)=0)) then bif ((decide (Al x=3))||(Tb x)) then bif ((decide (Al x=3))||(decide (Al x=4))) then some (.fl x) else bif (Afj x) then bif (!(Fj (L4 x))) then bif (A4 (Ab ((Ab (k+(Iz x)))+(Ab ((Et .i64 (Ab (De .u64 ((L4 x):Int) 52)) 2047)-1023)))) (-1075:Int)) then bif (Afj (L4 x)&&decide ((0:Int)=0)) then some (.fl (Bk (Bs (L4 x)) 0)) else none else bif (A4 1023 (Ab ((Ab (k+(Iz x)))+(Ab ((Et .i64 (Ab (De .u64 ((L4 x):Int) 52)) 2047)-1023))))) then bif (Ieee.double.order (L4 x) 0==some .lt) then some (.fl (Bk (decide ((-1:Int)<0)) D8)) else some (.fl (Bk (decide ((1:Int)<0)) D8)) else bif (A4 (Ab ((Ab (k+(Iz x)))+(Ab ((Et .i64 (Ab (De .u64 ((L4 x):Int) 52)) 2047)-1023)))) (-1022:Int)) then bif (decide (0≤(H7 .u64 (Gm .u64 ((L4 x):Int) 9218868437227405312) (B2 .u64 (Bj (Ab ((Ab ((Ab ((Ab (k+(Iz x)))+(Ab ((Et .i64 (Ab (De .u64 ((L4 x):Int) 52)) 2047)-1023))))+53))+1023))) 52)))) then some (.fl ((Ieee.double.mul 4368491638549381120 (Int.toNat (H7 .u64 (Gm .u64 ((L4 x):Int) 9218868437227405312) (B2 .u64 (Bj (Ab ((Ab ((Ab ((Ab (k+(Iz x)))+(Ab ((Et .i64 (Ab (De .u64 ((L4 x):Int) 52)) 2047)-1023))))+53))+1023))) 52)))).getD nanBits)) else none else bif (decide (0≤(H7 .u64 (Gm .u64 ((L4 x):Int) 9218868437227405312) (B2 .u64 (Bj (Ab ((Ab ((Ab (k+(Iz x)))+(Ab ((Et .i64 (Ab (De .u64 ((L4 x):Int) 52)) 2047)-1023))))+1023))) 52)))) then some (.fl ((Ieee.double.mul 4607182418800017408 (Int.toNat (H7 .u64 (Gm .u64 ((L4 x):Int) 9218868437227405312) (B2 .u64 (Bj (Ab ((Ab ((Ab (k+(Iz x)))+(Ab ((Et .i64 (Ab (De .u64 ((L4 x):Int) 52)) 2047)-1023))))+1023))) 52)))).getD nanBits)) else none else none else none else none else none :=
  Eq.trans (by kernel_rfl)
  (Ej rfl (Ej (Aw (R7 (decide (Al x=3))) (C2 (Apn (decide (Al x=3)) (Tb x)) (Aw (Wt (decide (Al x=3))) (C2 (tt5 (decide (Al x=3)) (decide (Al x=4))) rfl rfl)) rfl)) rfl))
abbrev _root_.Go.Proofs.S1.math.Hc.Kn:=A3 Tryz.prog 216 math.Hc.spec
theorem math.Hc.Ac (hk:Ax Tryz.prog math.Hc.A6) (h:∀ (x:Nat) (k:Int),math.Hc.pre [.f x,.i k]=true→A8 math.Hc.E Tryz.f216 [.fl x,.int .i64 k] (math.Hc.out [.f x,.i k])):math.Hc.Kn :=
  Ak (W9 hk _ _ _ _) Tryz.func216 (by kernel_rfl) (by kernel_rfl) h
def math.Iv.A6:List (Nat × Entry):=[(216,math.Hc.spec)]
def math.Iv.E:Env:=A9 (A5 math.Iv.A6) (fun _=>false) (fun _=>none) (fun _=>none)
theorem math.Iv.ev (N x:Nat) (k:Int):Bp math.Iv.E N Tryz.f165 (An Tryz.f165) [.fl x,.int .i64 k]=bif (Tb x&&Cu (-2300≤k∧k≤2300)) then some (.fl (Iq x k)) else none:=by kernel_rfl
abbrev _root_.Go.Proofs.S1.math.Iv.Kn:=A3 Tryz.prog 165 math.Iv.spec
theorem math.Iv.Ac (hk:Ax Tryz.prog math.Iv.A6) (h:∀ (x:Nat) (k:Int),math.Iv.pre [.f x,.i k]=true→A8 math.Iv.E Tryz.f165 [.fl x,.int .i64 k] (math.Iv.out [.f x,.i k])):math.Iv.Kn :=
  Ak (Az hk _ _ _) Tryz.func165 (by kernel_rfl) (by kernel_rfl) h
def Ag.Br.A6:List (Nat × Entry):=[(165,math.Iv.spec),(102,Ag.B.spec),(159,Ag.F.spec)]
def Ag.Br.E:Env:=A9 (A5 Ag.Br.A6) (fun _=>false) (fun _=>none) (fun _=>none)
theorem Ag.Br.ev (N:Nat) (a k:Int):Bp Ag.Br.E N Tryz.f96 (An Tryz.f96) [.int .u64 a,.int .i64 k]=bif (Af a) then bif (Tb (Int.toNat a)&&Cu (-2300≤k∧k≤2300)) then some (.int .u64 (Ft (Iq (Int.toNat a) k))) else none else none:=by kernel_rfl
abbrev _root_.Go.Proofs.S1.Ag.Br.Kn:=A3 Tryz.prog 96 Ag.Br.spec
theorem Ag.Br.Ac (hk:Ax Tryz.prog Ag.Br.A6) (h:∀ (a k:Int),Ag.Br.pre [.i a,.i k]=true→A8 Ag.Br.E Tryz.f96 [.int .u64 a,.int .i64 k] (Ag.Br.out [.i a,.i k])):Ag.Br.Kn :=
  Ak (Az hk _ _ _) Tryz.func96 (by kernel_rfl) (by kernel_rfl) h
end EqLdx
open EqLdx
theorem Yx (n:Nat):Fj n=decide (Al n=4):=Ye n
theorem Ada (x:Nat):G7 x<2^64:=Nat.lt_trans (Rv x) (by decide)
theorem Qk (x:Nat):Al (G7 x)=Al x:=by
  have e1:Dv (G7 x)=Dv x:=by unfold Dv G7; omega
  have e2:C4 (G7 x)=C4 x:=by unfold C4 G7; omega
  unfold Al
  rw [e1,e2]
theorem Qv (x y:Int):(compare x y=.lt↔x<y)∧(compare x y=.gt↔y<x)∧(compare x y=.eq↔x=y):=by
  rcases Int.lt_trichotomy x y with h | h | h
  · rw [Ahn h]; refine ⟨by simp [h],?_,?_⟩<;>simp<;>omega
  · subst h
    have:compare x x=.eq:=by simp [compare,compareOfLessAndEq]
    rw [this]; simp
  · rw [Aho h]; refine ⟨?_,by simp [h],?_⟩<;>simp<;>omega
theorem math.Ho.known:math.Ho.Kn:=math.Ho.Ac .nil fun x _=>⟨0,math.Ho.out [.f x],[],by rw [math.Ho.ev]; rfl,.fl⟩
theorem math.Ib.known:math.Ib.Kn:=math.Ib.Ac .nil fun x hp=>by
  have hx:=Ar.1 (show Tb x=true from hp)
  refine ⟨0,math.Ib.out [.f x],[],?_,.bool⟩
  show _=some (DV.bool (decide (Al x=4)))
  rw [math.Ib.ev]
  by_cases h:Al x=4
  · rw [Vf hx hx (.inl h),Axu h]; rfl
  · rw [Oi hx hx h h,Axy h,(Qv _ _).2.2.2 rfl]; rfl
theorem Arj {x:Nat} (hx:x<2^64) (h4:Al x≠4):(Ieee.double.order (G7 x) 9218868437227405311==some .gt)=decide (Al x=3):=by
  have k1:Al 9218868437227405311≠4:=by decide +kernel
  have k2:Hx 9218868437227405311=9218868437227405311:=by decide +kernel
  have ka:Hx (G7 x)=((G7 x:Nat):Int):=by
    have:=Oq false (r:=G7 x) (Rv x)
    exact this
  rw [Oi (Ada x) (by decide) (by rw [Qk]; exact h4) k1,k2,ka]
  have hl:=Ate h4
  rw [Ax9,beq_iff_eq,Axw,(Qv _ _).2.1,Ax0]
  constructor
  · intro h
    refine Decidable.byContradiction fun h3=>?_
    have:=Um h3 h4
    rw [H4] at this
    unfold G7 at h
    omega
  · intro h3
    have:=Ul h3
    rw [H4] at this
    unfold G7
    omega
theorem math.Ic.known:math.Ic.Kn:=math.Ic.Ac (.cons math.Ho.known .nil) fun x s hp=>by
  obtain ⟨h1,h2⟩:=Ad.1 (show (Tb x&&decide (s=0))=true from hp)
  have hx:=Ar.1 h1
  obtain rfl:=of_decide_eq_true h2
  refine ⟨0,math.Ic.out [.f x,.i 0],[],?_,.bool⟩
  show _=some (DV.bool (decide (Al x=3)))
  rw [math.Ic.ev,show ((0:Int)==(0:Int))=true from rfl,Axt]
  by_cases h4:Al x=4
  · rw [Vf (Ada x) (by decide) (.inl (by rw [Qk]; exact h4)),Axy (by omega)]; rfl
  · rw [Arj hx h4]
theorem math.normalize.known:math.normalize.Kn:=math.normalize.Ac (.cons math.Ho.known .nil) fun x hp=>by
  obtain ⟨hx,h3,h4⟩:=Ar.1 (show Afj x=true from hp)
  refine ⟨0,math.normalize.out [.f x],[],?_,Wk.Gw (.cons .fl (.cons .int .nil))⟩
  show _=some (DV.tup [.fl (L4 x),.int .i64 (Iz x)])
  have k1:Al 4503599627370496≠4:=by decide +kernel
  have k2:Hx 4503599627370496=4503599627370496:=by decide +kernel
  have ka:Hx (G7 x)=((G7 x:Nat):Int):=Oq false (r:=G7 x) (Rv x)
  have hc:(Ieee.double.order (G7 x) 4503599627370496==some .lt)=decide (G7 x<4503599627370496):=by
    rw [Oi (Ada x) (by decide) (by rw [Qk]; exact h4) k1,k2,ka,Ax9,beq_iff_eq,Axw,(Qv _ _).1,Ax0]
    omega
  rw [math.normalize.ev,hc]
  unfold L4 Iz
  by_cases h:G7 x<4503599627370496
  · rw [Axu h,Axt,if_pos h,if_pos h]
    have hm:=mul_pow h3 h4 (by rw [p52.2.2.1]; decide) (by rw [p52.2.2.1]; decide) p52.1 p52.2.2.2
    have:=X6 (Ub hx (b:=4841369599423283200) (by decide) Gk) (by rw [hm]; exact Qj _ _ _)
    rw [this]
  · rw [Axy h,Axx,if_neg h,if_neg h]
theorem Aql {n:Nat} (h:n<2^64):n &&& 9227875636482146303=n / 2^63*2^63+n%2^52:=by
  have hf:n%2^52<2^63:=by omega
  apply Nat.eq_of_testBit_eq
  intro j
  rw [Nat.testBit_and,show (9227875636482146303:Nat)=2^63*1+(2^52-1) from rfl,Nat.mul_comm (n / 2^63),Nat.testBit_two_pow_mul_add _ (by decide:2^52-1<2^63),Nat.testBit_two_pow_mul_add _ hf]
  by_cases hj:j<63
  · rw [if_pos hj,if_pos hj,Nat.testBit_mod_two_pow,Nat.testBit_two_pow_sub_one,Bool.and_comm]
  · rw [if_neg hj,if_neg hj,Nat.testBit_div_two_pow,Nat.sub_add_cancel (by omega)]
    by_cases h63:j=63
    · subst h63
      show (n.testBit 63&&true)=_
      rw [Bool.and_true]
    · have e1:Nat.testBit 1 (j-63)=false:=by rw [show (1:Nat)=2^0 from rfl,Nat.testBit_two_pow]; exact Axy (by omega)
      have e2:n.testBit j=false:=Nat.testBit_lt_two_pow (Nat.lt_of_lt_of_le h (Ax8 (by decide) (by omega)))
      rw [e1,e2]; rfl
theorem Af0 {n:Nat} (h:n<2^64):Gm .u64 (n:Int) (9218868437227405312:Int)=((n / 2^63*2^63+n%2^52:Nat):Int):=by
  have e:(BitVec.ofInt 64 (n:Int) &&& ~~~(BitVec.ofInt 64 9218868437227405312)).toNat=n / 2^63*2^63+n%2^52:=by
    have e1 : ~~~(BitVec.ofInt 64 9218868437227405312)=BitVec.ofNat 64 9227875636482146303:=by decide
    rw [e1,BitVec.toNat_and,BitVec.toNat_ofNat,BitVec.toNat_ofInt]
    have e2:(((n:Int)%((2^64:Nat):Int)).toNat)=n:=by omega
    rw [e2]
    exact Aql h
  have e':(BitVec.ofInt IntKind.u64.bits (n:Int) &&& ~~~(BitVec.ofInt IntKind.u64.bits 9218868437227405312)).toNat=n / 2^63*2^63+n%2^52:=e
  unfold Gm
  rw [e']
  exact Th (by omega)
theorem or3 {A X Y Z W V f:Nat} (h1:A=f ||| X) (h2:X ||| Y=Z) (h3:f ||| Z=W) (h4:W=V):A ||| Y=V:=by rw [h1,Nat.or_assoc,h2,h3,h4]
theorem Axh (s p f:Nat):(s*2^11+p)*2^52+f=s*2^63+p*2^52+f:=by
  rw [Nat.add_mul,Nat.mul_assoc,← Nat.pow_add]
theorem As2 {s f p:Nat} (hs:s<2) (hf:f<2^52) (hp:p<2048):(s*2^63+f) ||| (p*2^52)=s*2^63+p*2^52+f:=by
  have e1:s*2^63+f=f ||| s*2^11*2^52:=by rw [Ms hf]; omega
  have e2:s*2^11*2^52 ||| p*2^52=(s*2^11+p)*2^52:=by
    have:=Ms (a:=s) (b:=p) (k:=11) hp
    rw [← Nat.shiftLeft_eq,← Nat.shiftLeft_eq p,← Nat.shiftLeft_or_distrib,Nat.or_comm,this,Nat.shiftLeft_eq]
  exact or3 e1 e2 (Ms hf) (Axh s p f)
theorem Aih {s:Bool} {P f:Nat} (h2:P≤2046) (hf:f<2^52) {q:Nat} (hq:q<2048) :
    H7 .u64 (Gm .u64 ((Bk s (P*2^52+f):Nat):Int) (9218868437227405312:Int)) (B2 .u64 (Bj (q:Int)) (52:Int))=((Bk s (q*2^52+f):Nat):Int):=by
  have h64:Bk s (P*2^52+f)<2^64:=by
    unfold Bk
    cases s
    · rw [if_neg (by decide)]; omega
    · rw [if_pos rfl]; omega
  have ef:Bk s (P*2^52+f)%2^52=f:=by
    unfold Bk
    cases s
    · rw [if_neg (by decide)]; omega
    · rw [if_pos rfl]; omega
  have es:Bk s (P*2^52+f) / 2^63=if s then 1 else 0:=by
    unfold Bk
    cases s
    · rw [if_neg (by decide),if_neg (by decide)]; omega
    · rw [if_pos rfl,if_pos rfl]; omega
  rw [Af0 h64,ef,es,Di (by omega) (by omega),show (52:Int)=((52:Nat):Int) from rfl,Ff q 52 (by decide),Ax6 (by omega),Ux (by split<;>omega) (by omega),As2 (by split<;>decide) hf hq]
  refine congrArg (fun n:Nat=>(n:Int)) ?_
  unfold Bk
  cases s
  · rw [if_neg (by decide),if_neg (by decide)]; omega
  · rw [if_pos rfl,if_pos rfl]; omega
theorem Aoi {s:Bool} {P f:Nat} (h1:1≤P) (h2:P≤2046) (hf:f<2^52):Et .i64 (Ab (De .u64 ((Bk s (P*2^52+f):Nat):Int) (52:Int))) (2047:Int)=(P:Int):=by
  obtain ⟨e1,_,_,h64,_⟩:=Q5 (s:=s) h1 h2 hf
  rw [show (52:Int)=((52:Nat):Int) from rfl,Qx _ _ (by decide),Am (by omega) (by omega)]
  have hb:Et .i64 ((Bk s (P*2^52+f) / 2^52:Nat):Int) (2047:Int)=Ab ((Bk s (P*2^52+f) / 2^52%2048:Nat):Int):=by
    unfold Et
    have e:(BitVec.ofInt 64 ((Bk s (P*2^52+f) / 2^52:Nat):Int) &&& BitVec.ofInt 64 2047).toNat=Bk s (P*2^52+f) / 2^52%2048:=by
      rw [BitVec.toNat_and,Iy,show (BitVec.ofInt 64 2047).toNat=2^11-1 from rfl,Nat.and_two_pow_sub_one_eq_mod]
      omega
    have e':(BitVec.ofInt IntKind.i64.bits ((Bk s (P*2^52+f) / 2^52:Nat):Int) &&& BitVec.ofInt IntKind.i64.bits 2047).toNat=Bk s (P*2^52+f) / 2^52%2048:=e
    rw [e']
    rfl
  unfold Dv at e1
  rw [hb,e1,Am (by omega) (by omega)]
theorem math.D3.known:math.D3.Kn:=math.D3.Ac .nil fun x y hp=>by
  obtain ⟨h1,h2⟩:=Ad.1 (show (Afj y&&decide (x=0))=true from hp)
  obtain ⟨hy,h3,h4⟩:=Ar.1 (show Cu _=true from h1)
  obtain rfl:=of_decide_eq_true h2
  refine ⟨0,math.D3.out [.f 0,.f y],[],?_,.fl⟩
  show _=some (DV.fl (Bk (Bs y) 0))
  have n0:Fj 0=false:=by decide +kernel
  have ny:Fj y=false:=by rw [Yx]; exact Axy h4
  have e1:Gm .u64 ((0:Nat):Int) (9223372036854775808:Int)=((0:Nat):Int):=Zn (by decide)
  have e2:Et .u64 (y:Int) (9223372036854775808:Int)=((Bk (Bs y) 0:Nat):Int):=by
    rw [show (9223372036854775808:Int)=((9223372036854775808:Nat):Int) from rfl,Afw hy (by decide)]
    congr 1
    apply Nat.eq_of_testBit_eq
    intro j
    rw [Nat.testBit_and,show (9223372036854775808:Nat)=2^63 from rfl,Nat.testBit_two_pow]
    unfold Bk Bs
    by_cases hn:2^63≤y
    · rw [Axu hn,if_pos rfl,Nat.add_zero,Nat.testBit_two_pow]
      by_cases hj:63=j
      · subst hj
        have:y.testBit 63=true:=by
          rw [Nat.testBit_eq_decide_div_mod_eq,Ax0]; omega
        rw [this]; rfl
      · rw [Axy hj,Bool.and_false]
    · rw [Axy hn,if_neg (by decide),Nat.zero_testBit]
      by_cases hj:63=j
      · subst hj
        rw [Nat.testBit_lt_two_pow (by omega)]; rfl
      · rw [Axy hj,Bool.and_false]
  have e3:H7 .u64 ((0:Nat):Int) ((Bk (Bs y) 0:Nat):Int)=((Bk (Bs y) 0:Nat):Int):=by
    rw [Ux (by decide) (by unfold Bk; split<;>decide),Nat.zero_or]
  rw [math.D3.ev,n0,ny,e1,e2,e3,Axu (by omega)]
  rfl
theorem math.Xd.known:math.Xd.Kn:=math.Xd.Ac .nil fun s _=>by
  refine ⟨0,math.Xd.out [.i s],[],?_,.fl⟩
  show _=some (DV.fl (Bk (decide (s<0)) D8))
  rw [math.Xd.ev,Ei]
  by_cases h:s<0
  · rw [Axy (by omega),Axu h]; rfl
  · rw [Axu (by omega),Axy h]; rfl
open EqLdx
theorem Pd {x:Nat} (hx:x<2^64):(Ieee.double.order x 0==some .eq)=decide (Al x=0):=by
  by_cases h4:Al x=4
  · rw [Vf hx (by decide) (.inl h4),Axy (by omega)]; rfl
  · have k0:Al 0≠4:=by decide +kernel
    have z:Hx 0=0:=by decide +kernel
    have hk:Hx x=0↔x%2^63=0:=by
      have:=Oq (Bs x) (r:=x%2^63) (Nat.mod_lt _ (by decide))
      rw [Mg hx] at this
      rw [this]
      unfold H2
      cases Bs x
      · rw [if_neg (by decide)]; omega
      · rw [if_pos rfl]; omega
    have h0:Al x=0↔x%2^63=0:=by
      have hp:x%2^63=Dv x*2^52+C4 x:=by unfold Dv C4; omega
      rw [hp]
      have:=Jb x
      unfold Al
      split
      · split<;>omega
      · split
        · omega
        · split<;>omega
    rw [Oi hx (by decide) h4 k0,z,Ax9,beq_iff_eq,Axw,(Qv _ _).2.2,Ax0,hk,h0]
theorem Aka {x:Nat} (hx:x<2^64) (h4:Al x≠4) (h0:Al x≠0):(Ieee.double.order x 0==some .lt)=Bs x:=by
  have k0:Al 0≠4:=by decide +kernel
  have z:Hx 0=0:=by decide +kernel
  have hp:x%2^63=Dv x*2^52+C4 x:=by unfold Dv C4; omega
  have hne:x%2^63≠0:=by
    intro h
    refine h0 ?_
    unfold Al
    rw [if_neg (by omega),if_neg (by omega),if_neg (by omega)]
  have:=Oq (Bs x) (r:=x%2^63) (Nat.mod_lt _ (by decide))
  rw [Mg hx] at this
  rw [Oi hx (by decide) h4 k0,z,Ax9,beq_iff_eq,Axw,(Qv _ _).1,this]
  unfold H2
  cases Bs x
  · rw [if_neg (by decide)]
    constructor
    · intro h; omega
    · intro h; cases h
  · rw [if_pos rfl]
    constructor
    · intro _; rfl
    · intro _; omega
theorem Akc (x:Nat):Iz x=-52∨Iz x=0:=by unfold Iz; split<;>simp
theorem Aqq {f:Nat} (hf:f<2^52):(f+2^52).log2=52:=Uh (a:=52) (by omega) (by omega)
theorem math.Hc.known:math.Hc.Kn:=math.Hc.Ac (.cons math.D3.known (.cons math.Xd.known (.cons math.Ic.known (.cons math.Ib.known (.cons math.normalize.known .nil))))) fun x k hp=>by
  obtain ⟨h1,h2⟩:=Ad.1 (show (Tb x&&Cu (-2300≤k∧k≤2300))=true from hp)
  have hx:=Ar.1 (show Cu (x<2^64)=true from h1)
  have hk:=Ar.1 h2
  refine ⟨0,.fl (Iq x k),[],?_,.fl⟩
  by_cases h0:Al x=0
  · have:Iq x k=x:=by unfold Iq Gh; rw [if_neg (by omega),if_neg (by omega),if_pos (.inr h0)]
    rw [math.Hc.ev,Pd hx,Axu h0,Axt,this]
  by_cases h3:Al x=3
  · have:Iq x k=x:=by unfold Iq Gh; rw [if_neg (by omega),if_neg (by omega),if_pos (.inl h3)]
    rw [math.Hc.ev,Pd hx,Axy h0,Axx,h1,Axu (rfl:(0:Int)=0),Axz,Axt,Bool.or_true,Axt,Axu h3,Bool.true_or,Axt,this]
  by_cases h4:Al x=4
  · have:Iq x k=x:=by unfold Iq; rw [if_pos h4]
    rw [math.Hc.ev,Pd hx,Axy h0,Axx,h1,Axu (rfl:(0:Int)=0),Axz,Axt,Bool.or_true,Axt,Axu h4,Bool.or_true,Axt,this]
  obtain ⟨P,f,d,p1,p2,hf,hw,hM,hP⟩:=Am6 hx h3 h4 h0
  obtain ⟨w1,w2,w3,w4,w5,w6,w7⟩:=Q5 (s:=Bs x) p1 p2 hf
  have hm:Av x≠0:=fun h=>h0 ((He h3 h4).1 h)
  have hr:=Akc x
  have hl:=Aqq hf
  have hld:Iq x k=Bk (Bs x) (Ci (f+2^52) ((P:Int)-1075+Iz x+k)):=by
    have:=Ami (k:=k) hm hM hP
    unfold Iq Gh
    rw [if_neg h4,if_neg h4,if_neg (by omega),this]
  have hp:Tb x=true:=Ar.2 hx
  have hfp:Afj x=true:=Ar.2 ⟨hx,h3,h4⟩
  have hnn:Fj (L4 x)=false:=by rw [Yx,hw,w5]; rfl
  have hfw:Afj (L4 x)=true:=by rw [hw]; exact Ar.2 ⟨w4,by omega,by omega⟩
  have ee:Ab (Ab (k+Iz x)+Ab (Et .i64 (Ab (De .u64 ((L4 x:Nat):Int) (52:Int))) (2047:Int)-(1023:Int)))=k+Iz x+(P:Int)-1023:=by
    rw [hw,Aoi p1 p2 hf,Am (x:=k+Iz x) (by omega) (by omega),Am (x:=(P:Int)-1023) (by omega) (by omega),Am (by omega) (by omega)]
    omega
  have hrun:=math.Hc.ev 0 x k
  rw [Pd hx,Axy h0,Axx,hp,Axu (rfl:(0:Int)=0),Axz,Axt,Bool.or_true,Axt,Axy h3,Axy h4,Bool.or_self,Axx,hfp,Axt,hnn,Bool.not_false,Axt,ee,hfw,Axz,Axt] at hrun
  refine hrun.trans ?_
  rw [hld]
  rw [As,As,As]
  by_cases c1:k+Iz x+(P:Int)-1023 < -1075
  · rw [Axu c1,Axt,hw,w3,(Go.Rnd.Ajk (V:=f+2^52) (by omega) (by rw [hl]; omega)).1]
  · rw [Axy c1,Axx]
    by_cases c2:1023<k+Iz x+(P:Int)-1023
    · have hng:(Ieee.double.order (L4 x) 0==some .lt)=Bs x:=by
        rw [hw,Aka w4 (by omega) (by omega),w3]
      rw [Axu c2,Axt,hng,Axj (by omega) (by rw [hl]; omega)]
      cases Bs x<;>rfl
    · rw [Axy c2,Axx]
      by_cases c3:k+Iz x+(P:Int)-1023 < -1022
      · obtain ⟨q,hq⟩:∃ q:Nat,k+Iz x+(P:Int)-1023+53+1023=q:=⟨(k+Iz x+(P:Int)-1023+53+1023).toNat,by omega⟩
        have e1:Ab (Ab (k+Iz x+(P:Int)-1023+53)+1023)=(q:Int):=by
          rw [Am (x:=k+Iz x+(P:Int)-1023+53) (by omega) (by omega),Am (by omega) (by omega)]; exact hq
        have e2:=Aih (s:=Bs x) (P:=P) (f:=f) p2 hf (q:=q) (by omega)
        obtain ⟨v1,v2,v3,v4,v5,v6,v7⟩:=Q5 (s:=Bs x) (P:=q) (f:=f) (by omega) (by omega) hf
        have hmul:=mul_pow (a:=Bk (Bs x) (q*2^52+f)) (p:=4368491638549381120) (by omega) (by omega) (by rw [p53.2.2.1]; decide) (by rw [p53.2.2.1]; decide) p53.1 p53.2.2.2
        have hmi:=Ub (a:=4368491638549381120) (b:=Bk (Bs x) (q*2^52+f)) (by decide) v4 Gk
        rw [Aav] at hmi
        have:=X6 hmi (by rw [hmul]; exact Qj _ _ _)
        have e3:(q:Int)-1075+-105+52=(P:Int)-1075+Iz x+k:=by omega
        have e4:(Nb (Bk (Bs x) (q*2^52+f)) 4368491638549381120).1=Bk (Bs x) (Ci (f+2^52) ((P:Int)-1075+Iz x+k)):=by
          rw [hmul,v3,v6,v7,p53.2.1,e3]
        rw [e4] at this
        rw [Axu c3,Axt,e1,hw,e2,Axu (by omega),Axt,Axv,this]
      · obtain ⟨q,hq⟩:∃ q:Nat,k+Iz x+(P:Int)-1023+1023=q:=⟨(k+Iz x+(P:Int)-1023+1023).toNat,by omega⟩
        have e1:Ab (k+Iz x+(P:Int)-1023+1023)=(q:Int):=by rw [Am (by omega) (by omega)]; exact hq
        have e2:=Aih (s:=Bs x) (P:=P) (f:=f) p2 hf (q:=q) (by omega)
        obtain ⟨v1,v2,v3,v4,v5,v6,v7⟩:=Q5 (s:=Bs x) (P:=q) (f:=f) (by omega) (by omega) hf
        have hone:Nb 4607182418800017408 (Bk (Bs x) (q*2^52+f))=(Bk (Bs x) (q*2^52+f),0):=by
          rw [Aav]; exact mul_one v4 (by omega) (by omega)
        have hmi:=Ub (a:=4607182418800017408) (b:=Bk (Bs x) (q*2^52+f)) (by decide) v4 Gk
        have:=X6 hmi (by rw [hone]; show Al (Bk (Bs x) (q*2^52+f))≠4; omega)
        have er:=Amj (L:=(P:Int)-1075+Iz x+k) (q:=q) hf (by omega) (by omega) (by omega)
        rw [Axy c3,Axx,e1,hw,e2,Axu (by omega),Axt,Axv,this,hone,er]
theorem math.Iv.known:math.Iv.Kn:=math.Iv.Ac (.cons math.Hc.known .nil) fun x k hp=>by
  have hp:(Tb x&&Cu (-2300≤k∧k≤2300))=true:=hp
  exact ⟨0,.fl (Iq x k),[],by rw [math.Iv.ev,hp,Axt],.fl⟩
theorem Aft {x:Nat} (k:Int):Dt (Iq x k)=(Gh x k).1:=by
  unfold Iq
  by_cases h4:Al x=4
  · rw [if_pos h4]
    unfold Dt Gh
    rw [if_pos h4,if_pos h4]
  · rw [if_neg h4]
    unfold Dt
    rw [if_neg]
    unfold Gh
    rw [if_neg h4]
    by_cases h3:Al x=3∨Al x=0
    · rw [if_pos h3]; exact h4
    · rw [if_neg h3]; exact Qj _ _ _
theorem Ag.Br.known:Ag.Br.Kn:=Ag.Br.Ac (.cons math.Iv.known (.cons Ag.B.known (.cons Ag.F.known .nil))) fun a k hp=>by
  obtain ⟨h1,h2⟩:=Ad.1 (show Db a k=true from hp)
  obtain ⟨x,rfl,hx⟩:=Bl h1
  refine ⟨0,.int .u64 (Bw (x:Int) k),[],?_,.int⟩
  have hp:Tb x=true:=Ar.2 hx
  have:Ft (Iq x k)=Bw (x:Int) k:=by
    unfold Ft Bw
    rw [Axv,Aft]
  rw [Ag.Br.ev,h1,Axt,Axv,hp,h2,Axz,Axt,this]
namespace EqRef08
def Bo.ends.A6:List (Nat × Entry):=[(131,A1.Finite.spec),(142,A1.Neg.spec)]
def Bo.ends.E:Env:=A9 (A5 Bo.ends.A6) (fun _=>false) (fun _=>none) (fun _=>none)
theorem Bo.ends.ev (N:Nat) (b:Int):Bp Bo.ends.E N Tryz.f164 (An Tryz.f164) [.int .u64 b]=bif (Af b) then bif (Cq b) then some (.int .i64 0) else bif (Af b) then bif (Dp b) then some (.int .i64 (-1:Int)) else some (.int .i64 1) else none else none:=by kernel_rfl
abbrev _root_.Go.Proofs.S1.Bo.ends.Kn:=A3 Tryz.prog 164 Bo.ends.spec
theorem Bo.ends.Ac (hk:Ax Tryz.prog Bo.ends.A6) (h:∀ (b:Int),Bo.ends.pre [.i b]=true→A8 Bo.ends.E Tryz.f164 [.int .u64 b] (Bo.ends.out [.i b])):Bo.ends.Kn :=
  Ak (Az hk _ _ _) Tryz.func164 (by kernel_rfl) (by kernel_rfl) h
def Bo.Order.A6:List (Nat × Entry):=[(116,Ay.Compare.spec),(62,A1.Kind.spec),(63,A1.Value.spec),(164,Bo.ends.spec)]
def Bo.Order.E:Env:=A9 (A5 Bo.Order.A6) (fun _=>false) (fun _=>none) (fun _=>none)
theorem Bo.Order.ev (N:Nat) (a b:Int):Bp Bo.Order.E N Tryz.f95 (An Tryz.f95) [.int .u64 a,.int .u64 b]=bif (Kl a) then bif (((Bd a)==(4:Int))||(Kl b)) then bif (((Bd a)==(4:Int))||((Bd b)==(4:Int))) then some (.tup [.int .i64 0,.bool false]) else bif (Af a) then bif (Af b) then bif (((Qr a) !=(0:Int))||((Qr b) !=(0:Int))) then some (.tup [.int .i64 (max (-1:Int) (min 1 (Ab ((Qr a)-(Qr b))))),.bool true]) else bif (Af a) then bif (Af b) then bif (((W2 (Bi (mD (E8 a))) (Ap (mD (E8 a)))&&W2 (Bi (mD (E8 b))) (Ap (mD (E8 b))))&&Wm (eD (E8 a) (Bh a)))&&Wm (eD (E8 b) (Bh b))) then some (.tup [.int .i64 (Wp (wv (Bi (mD (E8 a))) (Ap (mD (E8 a)))) (eD (E8 a) (Bh a)) (wv (Bi (mD (E8 b))) (Ap (mD (E8 b)))) (eD (E8 b) (Bh b))),.bool true]) else none else none else none else none else none else none else none :=
  Eq.trans (by kernel_rfl)
  (Ej (Aw (R7 ((Bd a)==(4:Int))) (C2 (Apn ((Bd a)==(4:Int)) (Kl b)) (Aw (P2 ((Bd a)==(4:Int))) (Aw (Wt ((Bd a)==(4:Int))) (C2 (tt5 ((Bd a)==(4:Int)) ((Bd b)==(4:Int))) rfl (Ej (Ej (Aw (R7 ((Qr a) !=(0:Int))) (Aw (P2 ((Qr a) !=(0:Int))) (Aw (Wt ((Qr a) !=(0:Int))) (C2 (tt5 ((Qr a) !=(0:Int)) ((Qr b) !=(0:Int))) rfl rfl)))) rfl) rfl)))) rfl)) rfl)
abbrev _root_.Go.Proofs.S1.Bo.Order.Kn:=A3 Tryz.prog 95 Bo.Order.spec
theorem Bo.Order.Ac (hk:Ax Tryz.prog Bo.Order.A6) (h:∀ (a b:Int),Bo.Order.pre [.i a,.i b]=true→A8 Bo.Order.E Tryz.f95 [.int .u64 a,.int .u64 b] (Bo.Order.out [.i a,.i b])):Bo.Order.Kn :=
  Ak (Az hk _ _ _) Tryz.func95 (by kernel_rfl) (by kernel_rfl) h
def Bo.Ho.A6:List (Nat × Entry):=[(163,A1.Dk.spec),(142,A1.Neg.spec)]
def Bo.Ho.E:Env:=A9 (A5 Bo.Ho.A6) (fun _=>false) (fun _=>none) (fun _=>none)
theorem Bo.Ho.ev (N:Nat) (a:Int):Bp Bo.Ho.E N Tryz.f94 (An Tryz.f94) [.int .u64 a]=bif (Af a) then bif (Dp a) then bif (Af a) then some (.int .u64 (C5 a)) else none else some (.int .u64 a) else none:=by kernel_rfl
abbrev _root_.Go.Proofs.S1.Bo.Ho.Kn:=A3 Tryz.prog 94 Bo.Ho.spec
theorem Bo.Ho.Ac (hk:Ax Tryz.prog Bo.Ho.A6) (h:∀ (a:Int),Bo.Ho.pre [.i a]=true→A8 Bo.Ho.E Tryz.f94 [.int .u64 a] (Bo.Ho.out [.i a])):Bo.Ho.Kn :=
  Ak (Az hk _ _ _) Tryz.func94 (by kernel_rfl) (by kernel_rfl) h
def Bo.Max.A6:List (Nat × Entry):=[(95,Bo.Order.spec)]
def Bo.Max.E:Env:=A9 (A5 Bo.Max.A6) (fun _=>false) (fun _=>none) (fun _=>none)
theorem Bo.Max.ev (N:Nat) (a b:Int):Bp Bo.Max.E N Tryz.f93 (An Tryz.f93) [.int .u64 a,.int .u64 b]=bif (Af a&&Af b) then bif (!(Aat a b)) then some (.int .u64 9221120237041090560) else bif (A4 (Sp a b) 0) then some (.int .u64 b) else some (.int .u64 a) else none:=by kernel_rfl
abbrev _root_.Go.Proofs.S1.Bo.Max.Kn:=A3 Tryz.prog 93 Bo.Max.spec
theorem Bo.Max.Ac (hk:Ax Tryz.prog Bo.Max.A6) (h:∀ (a b:Int),Bo.Max.pre [.i a,.i b]=true→A8 Bo.Max.E Tryz.f93 [.int .u64 a,.int .u64 b] (Bo.Max.out [.i a,.i b])):Bo.Max.Kn :=
  Ak (Az hk _ _ _) Tryz.func93 (by kernel_rfl) (by kernel_rfl) h
end EqRef08
namespace EqRef13
def Bo.Lj.A6:List (Nat × Entry):=[(180,Ay.Wj.spec),(131,A1.Finite.spec),(62,A1.Kind.spec),(63,A1.Value.spec)]
def Bo.Lj.E:Env:=A9 (A5 Bo.Lj.A6) (fun _=>false) (fun _=>none) (fun _=>none)
theorem Bo.Lj.ev (N:Nat) (a:Int):Bp Bo.Lj.E N Tryz.f132 (An Tryz.f132) [.int .u64 a]=bif (Af a) then bif ((!(Cq a))||(Kl a)) then bif ((!(Cq a))||((Bd a)==(0:Int))) then some (.int .i64 0) else bif (Af a) then bif (Jf (Bi (mD (E8 a))) (Ap (mD (E8 a)))&&Wm (eD (E8 a) (Bh a))) then some (.int .i64 (Ab ((Ii (wv (Bi (mD (E8 a))) (Ap (mD (E8 a)))) (eD (E8 a) (Bh a)))-1))) else none else none else none else none :=
  Eq.trans (by kernel_rfl)
  (Ej (Aw (Abr (Cq a)) (C2 (Al8 (Cq a) (Kl a)) (Aw (R0 (Cq a)) (Aw (Abt (Cq a)) (C2 (Asm (Cq a) ((Bd a)==(0:Int))) rfl rfl))) rfl)) rfl)
abbrev _root_.Go.Proofs.S1.Bo.Lj.Kn:=A3 Tryz.prog 132 Bo.Lj.spec
theorem Bo.Lj.Ac (hk:Ax Tryz.prog Bo.Lj.A6) (h:∀ (a:Int),Bo.Lj.pre [.i a]=true→A8 Bo.Lj.E Tryz.f132 [.int .u64 a] (Bo.Lj.out [.i a])):Bo.Lj.Kn :=
  Ak (Az hk _ _ _) Tryz.func132 (by kernel_rfl) (by kernel_rfl) h
def Ag.Bn.hint:Nat→Option Ba
  | 0=>some { keep:=[0,3,4],objs:=[],boxes:=[] }
  | _=>none
def Ag.Bn.A6:List (Nat × Entry):=[(94,Bo.Ho.spec),(93,Bo.Max.spec)]
def Ag.Bn.E:Env:=A9 (A5 Ag.Bn.A6) (fun _=>false) Ag.Bn.hint (fun _=>none)
def Ag.Bn.L0 (N M:Nat) (x:List Int) (p3 p4:Int):Option DV:=Bz Ag.Bn.E N Tryz.f228 (An Tryz.f228) [1,1,0,1,0] [] M ⟨Gl 19 [(0,.ints .arg .u64 x),(3,.int .u64 p3),(4,.int .i64 p4)],[]⟩
theorem Ag.Bn.Au (N M:Nat) (x:List Int) (p3 p4:Int):Ag.Bn.L0 N (M+1) x p3 p4=bif (A4 p4 (List.length x:Int)) then bif ((decide (0≤p4))&&(decide (p4<(List.length x:Int)))) then bif (Af (List.getD x (Int.toNat p4) 0)) then bif (Af p3&&Af (I7 (List.getD x (Int.toNat p4) 0))) then Ag.Bn.L0 N M x (Om p3 (I7 (List.getD x (Int.toNat p4) 0))) (Ab (p4+1)) else none else none else none else some (.int .u64 p3):=by kernel_rfl
theorem Ag.Bn.ev (N:Nat) (x:List Int):Bp Ag.Bn.E N Tryz.f228 (An Tryz.f228) [.ints .arg .u64 x] =
  Ag.Bn.L0 N N x 0 0:=by kernel_rfl
abbrev _root_.Go.Proofs.S1.Ag.Bn.Kn:=A3 Tryz.prog 228 Ag.Bn.spec
theorem Ag.Bn.Ac (hk:Ax Tryz.prog Ag.Bn.A6) (h:∀ (x:List Int),Ag.Bn.pre [.l x]=true→A8 Ag.Bn.E Tryz.f228 [.ints .arg .u64 x] (Ag.Bn.out [.l x])):Ag.Bn.Kn :=
  Ak (Az hk _ _ _) Tryz.func228 (by kernel_rfl) (by kernel_rfl) h
def math.Sqrt.A6:List (Nat × Entry):=[]
def math.Sqrt.E:Env:=A9 (A5 math.Sqrt.A6) (fun _=>false) (fun _=>none) (fun _=>none)
theorem math.Sqrt.ev (N x:Nat):Bp math.Sqrt.E N Tryz.f260 (An Tryz.f260) [.fl x]=some (.fl ((Ieee.double.sqrt x).getD nanBits)):=by kernel_rfl
abbrev _root_.Go.Proofs.S1.math.Sqrt.Kn:=A3 Tryz.prog 260 math.Sqrt.spec
theorem math.Sqrt.Ac (hk:Ax Tryz.prog math.Sqrt.A6) (h:∀ (x:Nat),math.Sqrt.pre [.f x]=true→A8 math.Sqrt.E Tryz.f260 [.fl x] (math.Sqrt.out [.f x])):math.Sqrt.Kn :=
  Ak (Az hk _ _ _) Tryz.func260 (by kernel_rfl) (by kernel_rfl) h
def Ag.Sqrt.A6:List (Nat × Entry):=[(260,math.Sqrt.spec),(102,Ag.B.spec),(159,Ag.F.spec)]
def Ag.Sqrt.E:Env:=A9 (A5 Ag.Sqrt.A6) (fun _=>false) (fun _=>none) (fun _=>none)
theorem Ag.Sqrt.ev (N:Nat) (a:Int):Bp Ag.Sqrt.E N Tryz.f247 (An Tryz.f247) [.int .u64 a]=bif (Af a) then some (.int .u64 (Ft (((Ieee.double.sqrt (Int.toNat a)).getD nanBits)))) else none:=by kernel_rfl
abbrev _root_.Go.Proofs.S1.Ag.Sqrt.Kn:=A3 Tryz.prog 247 Ag.Sqrt.spec
theorem Ag.Sqrt.Ac (hk:Ax Tryz.prog Ag.Sqrt.A6) (h:∀ (a:Int),Ag.Sqrt.pre [.i a]=true→A8 Ag.Sqrt.E Tryz.f247 [.int .u64 a] (Ag.Sqrt.out [.i a])):Ag.Sqrt.Kn :=
  Ak (Az hk _ _ _) Tryz.func247 (by kernel_rfl) (by kernel_rfl) h
def Ag.Norm.hint:Nat→Option Ba
  | 0=>some { keep:=[0,4,5,6],objs:=[],boxes:=[] }
  | _=>none
def Ag.Norm.A6:List (Nat × Entry):=[(131,A1.Finite.spec),(132,Bo.Lj.spec),(181,Ag.Add.spec),(228,Ag.Bn.spec),(82,Ag.Mul.spec),(96,Ag.Br.spec),(247,Ag.Sqrt.spec)]
def Ag.Norm.E:Env:=A9 (A5 Ag.Norm.A6) (fun _=>false) Ag.Norm.hint (fun _=>none)
def Ag.Norm.L0 (N M:Nat) (x:List Int) (p5 p6:Int):Option DV:=Bz Ag.Norm.E N Tryz.f229 (An Tryz.f229) [1,1,1,1,1,0,1,0] [] M ⟨Gl 42 [(0,.ints .arg .u64 x),(4,.int .i64 (Bq (Be x))),(5,.int .u64 p5),(6,.int .i64 p6)],[]⟩
theorem Ag.Norm.Au (N M:Nat) (x:List Int) (p5 p6:Int):Ag.Norm.L0 N (M+1) x p5 p6=bif (A4 p6 (List.length x:Int)) then bif ((decide (0≤p6))&&(decide (p6<(List.length x:Int)))) then bif (Db (List.getD x (Int.toNat p6) 0) (Ab ((0:Int)-(Bq (Be x))))) then bif (Af (Bw (List.getD x (Int.toNat p6) 0) (Ab ((0:Int)-(Bq (Be x)))))&&Af (Bw (List.getD x (Int.toNat p6) 0) (Ab ((0:Int)-(Bq (Be x)))))) then bif (Af p5&&Af (D1 (Bw (List.getD x (Int.toNat p6) 0) (Ab ((0:Int)-(Bq (Be x))))) (Bw (List.getD x (Int.toNat p6) 0) (Ab ((0:Int)-(Bq (Be x))))))) then Ag.Norm.L0 N M x (Jq p5 (D1 (Bw (List.getD x (Int.toNat p6) 0) (Ab ((0:Int)-(Bq (Be x))))) (Bw (List.getD x (Int.toNat p6) 0) (Ab ((0:Int)-(Bq (Be x))))))) (Ab (p6+1)) else none else none else none else none else bif (Af p5) then bif (Db (Fq p5) (Bq (Be x))) then some (.int .u64 (Bw (Fq p5) (Bq (Be x)))) else none else none:=by kernel_rfl
theorem Ag.Norm.ev (N:Nat) (x:List Int):Bp Ag.Norm.E N Tryz.f229 (An Tryz.f229) [.ints .arg .u64 x]=bif (Ck x) then bif (((Be x)==(0:Int))||(Af (Be x))) then bif (((Be x)==(0:Int))||(!(Cq (Be x)))) then some (.int .u64 (Be x)) else bif (Af (Be x)) then Ag.Norm.L0 N N x 0 (0:Int) else none else none else none :=
  Eq.trans (by kernel_rfl)
  (Ej (Aw (R7 ((Be x)==(0:Int))) (C2 (Apn ((Be x)==(0:Int)) (Af (Be x))) (Aw (P2 ((Be x)==(0:Int))) (Aw (Wt ((Be x)==(0:Int))) (C2 (Aun ((Be x)==(0:Int)) (Cq (Be x))) rfl rfl))) rfl)) rfl)
abbrev _root_.Go.Proofs.S1.Ag.Norm.Kn:=A3 Tryz.prog 229 Ag.Norm.spec
theorem Ag.Norm.Ac (hk:Ax Tryz.prog Ag.Norm.A6) (h:∀ (x:List Int),Ag.Norm.pre [.l x]=true→A8 Ag.Norm.E Tryz.f229 [.ints .arg .u64 x] (Ag.Norm.out [.l x])):Ag.Norm.Kn :=
  Ak (Az hk _ _ _) Tryz.func229 (by kernel_rfl) (by kernel_rfl) h
def Bb.By.hint:Nat→Option Ba
  | 0=>some { keep:=[0,3],objs:=[],boxes:=[] }
  | _=>none
def Bb.By.A6:List (Nat × Entry):=[(62,A1.Kind.spec)]
def Bb.By.E:Env:=A9 (A5 Bb.By.A6) (fun _=>false) Bb.By.hint (fun _=>none)
def Bb.By.L0 (N M:Nat) (x:List Int) (p3:Int):Option DV:=Bz Bb.By.E N Tryz.f227 (An Tryz.f227) [1,0,1,0] [] M ⟨Gl 16 [(0,.ints .arg .u64 x),(3,.int .i64 p3)],[]⟩
theorem Bb.By.Au (N M:Nat) (x:List Int) (p3:Int):Bb.By.L0 N (M+1) x p3=bif (A4 p3 (List.length x:Int)) then bif ((decide (0≤p3))&&(decide (p3<(List.length x:Int)))) then bif (Kl (List.getD x (Int.toNat p3) 0)) then bif ((Bd (List.getD x (Int.toNat p3) 0)) !=(0:Int)) then some (.bool false) else Bb.By.L0 N M x (Ab (p3+1)) else none else none else some (.bool true):=by kernel_rfl
theorem Bb.By.ev (N:Nat) (x:List Int):Bp Bb.By.E N Tryz.f227 (An Tryz.f227) [.ints .arg .u64 x] =
  Bb.By.L0 N N x 1:=by kernel_rfl
abbrev _root_.Go.Proofs.S1.Bb.By.Kn:=A3 Tryz.prog 227 Bb.By.spec
theorem Bb.By.Ac (hk:Ax Tryz.prog Bb.By.A6) (h:∀ (x:List Int),Bb.By.pre [.l x]=true→A8 Bb.By.E Tryz.f227 [.ints .arg .u64 x] (Bb.By.out [.l x])):Bb.By.Kn :=
  Ak (Az hk _ _ _) Tryz.func227 (by kernel_rfl) (by kernel_rfl) h
def Bb.lead.hint:Nat→Option Ba
  | 0=>some { keep:=[0,3],objs:=[],boxes:=[] }
  | _=>none
def Bb.lead.A6:List (Nat × Entry):=[(62,A1.Kind.spec)]
def Bb.lead.E:Env:=A9 (A5 Bb.lead.A6) (fun _=>false) Bb.lead.hint (fun _=>none)
def Bb.lead.L0 (N M:Nat) (x:List Int) (p3:Int):Option DV:=Bz Bb.lead.E N Tryz.f230 (An Tryz.f230) [1,0,1,0] [] M ⟨Gl 17 [(0,.ints .arg .u64 x),(3,.int .i64 p3)],[]⟩
theorem Bb.lead.Au (N M:Nat) (x:List Int) (p3:Int):Bb.lead.L0 N (M+1) x p3=bif (A4 p3 (List.length x:Int)) then bif ((decide (0≤p3))&&(decide (p3<(List.length x:Int)))) then bif (Kl (List.getD x (Int.toNat p3) 0)) then bif ((Bd (List.getD x (Int.toNat p3) 0)) !=(0:Int)) then some (.int .i64 p3) else Bb.lead.L0 N M x (Ab (p3+1)) else none else none else some (.int .i64 0):=by kernel_rfl
theorem Bb.lead.ev (N:Nat) (x:List Int):Bp Bb.lead.E N Tryz.f230 (An Tryz.f230) [.ints .arg .u64 x] =
  Bb.lead.L0 N N x 0:=by kernel_rfl
abbrev _root_.Go.Proofs.S1.Bb.lead.Kn:=A3 Tryz.prog 230 Bb.lead.spec
theorem Bb.lead.Ac (hk:Ax Tryz.prog Bb.lead.A6) (h:∀ (x:List Int),Bb.lead.pre [.l x]=true→A8 Bb.lead.E Tryz.f230 [.ints .arg .u64 x] (Bb.lead.out [.l x])):Bb.lead.Kn :=
  Ak (Az hk _ _ _) Tryz.func230 (by kernel_rfl) (by kernel_rfl) h
def Bb.Dl.hint:Nat→Option Ba
  | 0=>some { keep:=[0,2,4,5],objs:=[(0,4,100004,.ints 37 .u64 [])],boxes:=[2] }
  | 2=>some { keep:=[0,2,4,6,7,8],objs:=[(0,4,100004,.ints 37 .u64 []),(0,7,100007,.ints 37 .u64 [])],boxes:=[2] }
  | 4=>some { keep:=[2,4,7,9,10,11,12],objs:=[(0,4,100004,.ints 37 .u64 []),(0,7,100007,.ints 37 .u64 [])],boxes:=[2] }
  | _=>none
def Bb.Dl.A6:List (Nat × Entry):=[(131,A1.Finite.spec),(163,A1.Dk.spec),(142,A1.Neg.spec),(132,Bo.Lj.spec),(228,Ag.Bn.spec),(84,Ag.Div.spec),(229,Ag.Norm.spec),(96,Ag.Br.spec),(81,Ag.Sub.spec),(230,Bb.lead.spec),(227,Bb.By.spec)]
def Bb.Dl.E:Env:=A9 (A5 Bb.Dl.A6) (fun _=>false) Bb.Dl.hint (fun _=>none)
def Bb.Dl.L0 (N M:Nat) (x:List Int) (p5:Int) (p4:List Int):Option DV:=Bz Bb.Dl.E N Tryz.f196 (An Tryz.f196) [1,1,0,1,0,0,1,0] [] M ⟨Gl 98 [(0,.ints .arg .u64 x),(2,.ptr 2 0 0),(4,.oref 100004),(5,.int .i64 p5)],[(2,false,.box [.nil,.int .u64 0,.int .u64 0]),(100004,false,.ints 37 .u64 p4)]⟩
def Bb.Dl.L1 (N M:Nat) (x:List Int) (p8:Int) (p7:List Int):Option DV:=Bz Bb.Dl.E N Tryz.f196 (An Tryz.f196) [1,1,1,1,1,0,1,0] [] M ⟨Gl 98 [(0,.ints .arg .u64 x),(2,.ptr 2 0 0),(4,.oref 100004),(6,.int .i64 (Bq (Be x))),(7,.oref 100007),(8,.int .i64 p8)],[(2,false,.box [.nil,.int .u64 0,.int .u64 0]),(100004,false,.ints 37 .u64 [(4607182418800017408:Int)]),(100007,false,.ints 37 .u64 p7)]⟩
def Bb.Dl.L2 (N M:Nat) (p7:List Int) (p9 p10:Int) (p11 p12:Int) (p4_1:List Int):Option DV:=Bz Bb.Dl.E N Tryz.f196 (An Tryz.f196) [1,1,1,1,1,1,1,1,1,1,1,0,1,0] [] M ⟨Gl 98 [(2,.ptr 2 0 0),(4,.oref 100004),(7,.oref 100007),(9,.int .u64 p9),(10,.int .u64 p10),(11,.int .u64 p11),(12,.int .i64 p12)],[(2,false,.box [.nil,.int .u64 0,.int .u64 0]),(100004,false,.ints 37 .u64 p4_1),(100007,false,.ints 37 .u64 p7)]⟩
theorem Bb.Dl.Au (N M:Nat) (x:List Int) (p5:Int) (p4:List Int):Bb.Dl.L0 N (M+1) x p5 p4=bif (A4 p5 (List.length x:Int)) then bif (decide ((List.length p4)+1≤Gp)) then Bb.Dl.L0 N M x (Ab (p5+1)) (p4++[(0:Int)]) else none else bif (decide ((0:Int)<(List.length x:Int))) then some (.tup [.agg [.ints (.own 100004 37) .u64 p4,.int .u64 0,.int .u64 (List.getD x 0 0)],.bool true]) else none:=by kernel_rfl
theorem Bb.Dl.B7 (N M:Nat) (x:List Int) (p8:Int) (p7:List Int):Bb.Dl.L1 N (M+1) x p8 p7=bif (A4 p8 (List.length x:Int)) then bif ((decide (0≤p8))&&(decide (p8<(List.length x:Int)))) then bif (Db (List.getD x (Int.toNat p8) 0) (Ab ((0:Int)-(Bq (Be x))))) then bif (decide ((List.length p7)+1≤Gp)) then Bb.Dl.L1 N M x (Ab (p8+1)) (p7++[(Bw (List.getD x (Int.toNat p8) 0) (Ab ((0:Int)-(Bq (Be x)))))]) else none else none else none else bif (Ck p7) then bif (Ck x) then bif ((decide (0≤(Px x 0)))&&(decide ((Px x 0)<(List.length x:Int)))) then bif (Af (List.getD x (Int.toNat (Px x 0)) 0)) then bif (!(Dp (List.getD x (Int.toNat (Px x 0)) 0))) then bif (Af (Df p7)) then bif (Db (C5 (Df p7)) (Bq (Be x))) then bif (Af (Bw (C5 (Df p7)) (Bq (Be x)))) then bif (!(Cq (Bw (C5 (Df p7)) (Bq (Be x))))) then some (.tup [.agg [.nil,.int .u64 0,.int .u64 0],.bool false]) else bif (decide ((0:Int)<(List.length p7:Int))) then bif (decide (0<(List.length p7))) then bif (Af (List.getD p7 0 0)&&Af (C5 (Df p7))) then Bb.Dl.L2 N N p7 (C5 (Df p7)) (Bw (C5 (Df p7)) (Bq (Be x))) (Eu (List.getD p7 0 0) (C5 (Df p7))) 1 [(4607182418800017408:Int)] else none else none else none else none else none else none else bif (Db (Df p7) (Bq (Be x))) then bif (Af (Bw (Df p7) (Bq (Be x)))) then bif (!(Cq (Bw (Df p7) (Bq (Be x))))) then some (.tup [.agg [.nil,.int .u64 0,.int .u64 0],.bool false]) else bif (decide ((0:Int)<(List.length p7:Int))) then bif (decide (0<(List.length p7))) then bif (Af (List.getD p7 0 0)&&Af (Df p7)) then Bb.Dl.L2 N N p7 (Df p7) (Bw (Df p7) (Bq (Be x))) (Eu (List.getD p7 0 0) (Df p7)) 1 [(4607182418800017408:Int)] else none else none else none else none else none else none else none else none else none:=by kernel_rfl
theorem Bb.Dl.Hn (N M:Nat) (p7:List Int) (p9 p10:Int) (p11 p12:Int) (p4_1:List Int):Bb.Dl.L2 N (M+1) p7 p9 p10 p11 p12 p4_1=bif (A4 p12 (List.length p7:Int)) then bif ((decide (0≤p12))&&(decide (p12<(List.length p7:Int)))) then bif (decide ((Int.toNat p12)<(List.length p7))) then bif (Af (List.getD p7 (Int.toNat p12) 0)&&Af p11) then bif (decide ((List.length p4_1)+1≤Gp)) then Bb.Dl.L2 N M p7 p9 p10 p11 (Ab (p12+1)) (p4_1++[(Fa (List.getD p7 (Int.toNat p12) 0) p11)]) else none else none else none else none else bif (decide ((0:Int)<(List.length p7:Int))) then bif (decide (0<(List.length p7))) then bif (Af p9&&Af (List.getD p7 0 0)) then bif (Af (Eu p9 (List.getD p7 0 0))&&Af p9) then some (.tup [.agg [.ints (.own 100004 37) .u64 p4_1,.int .u64 (Fa (Eu p9 (List.getD p7 0 0)) p9),.int .u64 p10],.bool true]) else none else none else none else none:=by kernel_rfl
theorem Bb.Dl.ev (N:Nat) (x:List Int):Bp Bb.Dl.E N Tryz.f196 (An Tryz.f196) [.ints .arg .u64 x]=bif (Ck x) then bif (Ea (List.drop 1 x)) then Bb.Dl.L0 N N x 1 [(4607182418800017408:Int)] else bif (Ck x) then bif (Af (Be x)) then Bb.Dl.L1 N N x 0 [] else none else none else none:=by kernel_rfl
abbrev _root_.Go.Proofs.S1.Bb.Dl.Kn:=A3 Tryz.prog 196 Bb.Dl.spec
theorem Bb.Dl.Ac (hk:Ax Tryz.prog Bb.Dl.A6) (h:∀ (x:List Int),Bb.Dl.pre [.l x]=true→A8 Bb.Dl.E Tryz.f196 [.ints .arg .u64 x] (Bb.Dl.out [.l x])):Bb.Dl.Kn :=
  Ak (Az hk _ _ _) Tryz.func196 (by kernel_rfl) (by kernel_rfl) h
def Bb.Apply.hint:Nat→Option Ba
  | 0=>some { keep:=[1,3,4,5,10,11,12],objs:=[],boxes:=[5,10,11] }
  | 2=>some { keep:=[1,3,4,5,10,11,12,13,14,15],objs:=[],boxes:=[5,10,11] }
  | _=>none
def Bb.Apply.A6:List (Nat × Entry):=[(118,Ag.Hz.spec),(82,Ag.Mul.spec),(81,Ag.Sub.spec),(108,Aj.Pz.spec),(83,Aj.F8.arg.spec)]
def Bb.Apply.E:Env:=A9 (A5 Bb.Apply.A6) (fun _=>false) Bb.Apply.hint (fun _=>none)
def Bb.Apply.L0 (N M:Nat) (r c:Int) (l:List Int) (i:Int) (v:List Int) (t p12:Int) (p11_1:List Int):Option DV:=Bz Bb.Apply.E N Tryz.f198 (An Tryz.f198) [1,1,0,1,0] [] M ⟨Gl 60 [(1,.int .i64 i),(3,.ints .arg .u64 v),(4,.int .u64 t),(5,.ptr 5 0 0),(10,.ptr 10 0 0),(11,.ptr 11 0 0),(12,.int .i64 p12)],[(5,false,.box [.int .i64 r,.int .i64 c,.ints .arg .u64 l]),(10,false,.box [.int .i64 0,.int .i64 0,.nil]),(11,false,.box [.int .i64 r,.int .i64 c,.ints .arg .u64 p11_1])]⟩
def Bb.Apply.L1 (N M0 M:Nat) (r c:Int) (l:List Int) (i:Int) (v:List Int) (t p15:Int) (p11:List Int) (p12_1:Int) (p13:List Int) (p14:Int):Option DV:=Bz Bb.Apply.E N Tryz.f198 (An Tryz.f198) [1,1,0,1,0,0,1,0,0,1,1,1,0] [M0] M ⟨Gl 60 [(1,.int .i64 i),(3,.ints .arg .u64 v),(4,.int .u64 t),(5,.ptr 5 0 0),(10,.ptr 10 0 0),(11,.ptr 11 0 0),(12,.int .i64 p12_1),(13,.ints .fresh .u64 p13),(14,.int .u64 p14),(15,.int .i64 p15)],[(5,false,.box [.int .i64 r,.int .i64 c,.ints .arg .u64 l]),(10,false,.box [.int .i64 0,.int .i64 0,.nil]),(11,false,.box [.int .i64 r,.int .i64 c,.ints .arg .u64 p11])]⟩
theorem Bb.Apply.Au (N M:Nat) (r c:Int) (l:List Int) (i:Int) (v:List Int) (t p12:Int) (p11_1:List Int):Bb.Apply.L0 N (M+1) r c l i v t p12 p11_1=bif (A4 p12 c) then bif (G4 r c l p12&&Cu (0≤i∧i≤r)) then bif ((decide ((0:Int)≤(List.length v:Int)))&&(decide ((List.length v:Int)≤(List.length (Cp c l p12 i (Int.toNat (r-i))):Int)))) then bif ((Ow v (List.take (Int.toNat (List.length v:Int)) (Cp c l p12 i (Int.toNat (r-i))))&&Ai v)&&Ai (List.take (Int.toNat (List.length v:Int)) (Cp c l p12 i (Int.toNat (r-i))))) then bif (Af t&&Af (I9 v (List.take (Int.toNat (List.length v:Int)) (Cp c l p12 i (Int.toNat (r-i)))))) then Bb.Apply.L1 N M N r c l i v t 0 p11_1 p12 (Cp c l p12 i (Int.toNat (r-i))) (D1 t (I9 v (List.take (Int.toNat (List.length v:Int)) (Cp c l p12 i (Int.toNat (r-i)))))) else none else none else none else none else some (.agg [.int .i64 r,.int .i64 c,.ints .arg .u64 p11_1]) :=
  Eq.trans (by kernel_rfl)
  (Ej (Ej (C2 (Lk (decide ((0:Int)≤(List.length v:Int))) (decide ((List.length v:Int)≤(List.length (Cp c l p12 i (Int.toNat (r-i))):Int)))) rfl rfl) rfl) rfl)
theorem Bb.Apply.B7 (N M0 M:Nat) (r c:Int) (l:List Int) (i:Int) (v:List Int) (t p15:Int) (p11:List Int) (p12_1:Int) (p13:List Int) (p14:Int):Bb.Apply.L1 N M0 (M+1) r c l i v t p15 p11 p12_1 p13 p14=bif (A4 p15 (List.length v:Int)) then bif ((decide (0≤p15))&&(decide (p15<(List.length p13:Int)))) then bif ((decide (0≤p15))&&(decide (p15<(List.length v:Int)))) then bif (Af p14&&Af (List.getD v (Int.toNat p15) 0)) then bif (Af (List.getD p13 (Int.toNat p15) 0)&&Af (D1 p14 (List.getD v (Int.toNat p15) 0))) then bif (Cw r c p11 (Ab (i+p15)) p12_1) then Bb.Apply.L1 N M0 M r c l i v t (Ab (p15+1)) (List.set p11 (Int.toNat ((Ab (i+p15))*c+p12_1)) (Eu (List.getD p13 (Int.toNat p15) 0) (D1 p14 (List.getD v (Int.toNat p15) 0)))) p12_1 p13 p14 else none else none else none else none else none else Bb.Apply.L0 N M0 r c l i v t (Ab (p12_1+1)) p11 :=
  Eq.trans (by kernel_rfl)
  (Ej (C2 (Lk (decide (0≤p15)) (decide (p15<(List.length p13:Int)))) (C2 (Lk (decide (0≤p15)) (decide (p15<(List.length v:Int)))) (C2 (Cs (Af p14&&Af (List.getD v (Int.toNat p15) 0))) (C2 (Cs (Af (List.getD p13 (Int.toNat p15) 0)&&Af (D1 p14 (List.getD v (Int.toNat p15) 0)))) (C2 (Cs (Cw r c p11 (Ab (i+p15)) p12_1)) rfl rfl) rfl) rfl) rfl) rfl) rfl)
theorem Bb.Apply.ev (N:Nat) (r c:Int) (l:List Int) (i k:Int) (v:List Int) (t:Int):Bp Bb.Apply.E N Tryz.f198 (An Tryz.f198) [.agg [.int .i64 r,.int .i64 c,.ints .arg .u64 l],.int .i64 i,.int .i64 k,.ints .arg .u64 v,.int .u64 t] =
  Bb.Apply.L0 N N r c l i v t k l:=by kernel_rfl
abbrev _root_.Go.Proofs.S1.Bb.Apply.Kn:=A3 Tryz.prog 198 Bb.Apply.spec
theorem Bb.Apply.Ac (hk:Ax Tryz.prog Bb.Apply.A6) (h:∀ (r c:Int) (l:List Int) (i k:Int) (v:List Int) (t:Int),Bb.Apply.pre [.i r,.i c,.l l,.i i,.i k,.l v,.i t]=true→A8 Bb.Apply.E Tryz.f198 [.agg [.int .i64 r,.int .i64 c,.ints .arg .u64 l],.int .i64 i,.int .i64 k,.ints .arg .u64 v,.int .u64 t] (Bb.Apply.out [.i r,.i c,.l l,.i i,.i k,.l v,.i t])):Bb.Apply.Kn :=
  Ak (Az hk _ _ _) Tryz.func198 (by kernel_rfl) (by kernel_rfl) h
def B4.Dh.hint:Nat→Option Ba
  | 0=>some { keep:=[1,3,6,7],objs:=[],boxes:=[3,6] }
  | _=>none
def B4.Dh.A6:List (Nat × Entry):=[(83,Aj.F8.arg.spec)]
def B4.Dh.E:Env:=A9 (A5 B4.Dh.A6) (fun _=>false) B4.Dh.hint (fun _=>none)
def B4.Dh.L0 (N M:Nat) (r c:Int) (j p7:Int) (p3:List Int):Option DV:=Bz B4.Dh.E N Tryz.f197 (An Tryz.f197) [1,1,0,1,0] [] M ⟨Gl 26 [(1,.int .i64 j),(3,.ptr 3 0 0),(6,.ptr 6 0 0),(7,.int .i64 p7)],[(3,false,.box [.int .i64 r,.int .i64 c,.ints .arg .u64 p3]),(6,false,.box [.int .i64 0,.int .i64 0,.nil])]⟩
theorem B4.Dh.Au (N M:Nat) (r c:Int) (j p7:Int) (p3:List Int):B4.Dh.L0 N (M+1) r c j p7 p3=bif (A4 p7 r) then bif (Cw r c p3 p7 j) then B4.Dh.L0 N M r c j (Ab (p7+1)) (List.set p3 (Int.toNat (p7*c+j)) 0) else none else some (.agg [.int .i64 r,.int .i64 c,.ints .arg .u64 p3]):=by kernel_rfl
theorem B4.Dh.ev (N:Nat) (r c:Int) (l:List Int) (j b:Int):Bp B4.Dh.E N Tryz.f197 (An Tryz.f197) [.agg [.int .i64 r,.int .i64 c,.ints .arg .u64 l],.int .i64 j,.int .u64 b]=bif (Cw r c l j j) then B4.Dh.L0 N N r c j (Ab (j+1)) (List.set l (Int.toNat (j*c+j)) b) else none:=by kernel_rfl
abbrev _root_.Go.Proofs.S1.B4.Dh.Kn:=A3 Tryz.prog 197 B4.Dh.spec
theorem B4.Dh.Ac (hk:Ax Tryz.prog B4.Dh.A6) (h:∀ (r c:Int) (l:List Int) (j b:Int),B4.Dh.pre [.i r,.i c,.l l,.i j,.i b]=true→A8 B4.Dh.E Tryz.f197 [.agg [.int .i64 r,.int .i64 c,.ints .arg .u64 l],.int .i64 j,.int .u64 b] (B4.Dh.out [.i r,.i c,.l l,.i j,.i b])):B4.Dh.Kn :=
  Ak (Az hk _ _ _) Tryz.func197 (by kernel_rfl) (by kernel_rfl) h
end EqRef13
open EqRef08 EqRef13
theorem Bo.ends.known:Bo.ends.Kn:=Bo.ends.Ac (.cons A1.Finite.known (.cons A1.Neg.known .nil)) fun b hp=>by
  have hp:Af b=true:=hp
  refine ⟨0,.int .i64 (Qr b),[],?_,.int⟩
  rw [Bo.ends.ev,hp,Axt,Axt]
  unfold Qr
  cases Cq b with
  | true=>rfl
  | false =>
    rw [Axx,if_neg (by decide)]
    cases Dp b<;>rfl
theorem Bo.Ho.known:Bo.Ho.Kn:=Bo.Ho.Ac (.cons A1.Dk.known (.cons A1.Neg.known .nil)) fun a hp=>by
  obtain ⟨n,rfl,hn⟩:=Bl (x:=a) hp
  refine ⟨0,.int .u64 (I7 (n:Int)),[],?_,.int⟩
  rw [Bo.Ho.ev,B9 hn,Axt,Axt]
  unfold I7 Dp C5 G7 Hf Bs
  rw [Axv]
  by_cases h:2^63≤n
  · rw [Axu h,Axt,if_pos h,show n%2^63=n-2^63 by omega]
  · rw [Axy h,Axx,show n%2^63=n by omega]
theorem Acf (b:Nat):W2 (Bi (mD (E8 (b:Int)))) (Ap (mD (E8 (b:Int))))=true∧Jf (Bi (mD (E8 (b:Int)))) (Ap (mD (E8 (b:Int))))=true∧Wm (eD (E8 (b:Int)) (A2 b))=true:=by
  obtain ⟨v1,v2,v3⟩:=Ar8 b
  have hl:Dn (mD (E8 (b:Int))).natAbs<3:=Nat.lt_of_le_of_lt (Mj (Aay _)) v1
  exact ⟨Am3 (by omega),Je (by omega),Ar.2 ⟨v2,v3⟩⟩
theorem Arb {a b:Nat} (ha:Al a≠4) (hb:Al b≠4):Wp (mD (E8 (a:Int))) (eD (E8 (a:Int)) (A2 a)) (mD (E8 (b:Int))) (eD (E8 (b:Int)) (A2 b))=if Hx a<Hx b then -1 else if Hx b<Hx a then 1 else 0:=by
  have pa:=El a
  have pb:=El b
  have ga:mD (E8 (a:Int))≠0→(-1074:Int)≤eD (E8 (a:Int)) (A2 a):=fun h=>Ar5 pa.1 (fun h0=>h (Pg.2 h0))
  have gb:mD (E8 (b:Int))≠0→(-1074:Int)≤eD (E8 (b:Int)) (A2 b):=fun h=>Ar5 pb.1 (fun h0=>h (Pg.2 h0))
  rw [Arc ga gb,Ah1 pa.1,Ah1 pb.1,← Alv,← Alv]
  have h1:=Abo (f:=-1074) ha hb pa.1 pb.1
  have h2:=Abo (f:=-1074) hb ha pb.1 pa.1
  unfold Wo
  by_cases c1:Jv a (-1074)<Jv b (-1074)
  · rw [if_pos c1,if_pos (h1.1 c1)]
  · rw [if_neg c1,if_neg (fun h=>c1 (h1.2 h))]
    by_cases c2:Jv b (-1074)<Jv a (-1074)
    · rw [if_pos c2,if_pos (h2.1 c2)]
    · rw [if_neg c2,if_neg (fun h=>c2 (h2.2 h))]
theorem Anz {b:Nat} (hb:b<2^64):Hx b=H2 (Bs b) (b%2^63):=by
  have:=Oq (Bs b) (r:=b%2^63) (Nat.mod_lt _ (by decide))
  rw [Mg hb] at this
  exact this
theorem Aiz {b:Nat} (hb:b<2^64) (h4:Al b≠4):(J4 b=true→Qr (b:Int)=0∧-(D8:Int)<Hx b∧Hx b<D8)∧(J4 b=false→Al b=3∧((Qr (b:Int)=1∧Hx b=D8)∨(Qr (b:Int)=-1∧Hx b=-(D8:Int)))):=by
  have hk:=Anz hb
  constructor
  · intro hf
    obtain ⟨_,f3⟩:=Qq hf
    have hl:=Um f3 h4
    refine ⟨by unfold Qr Cq; rw [Axv,hf,if_pos rfl],?_⟩
    rw [hk]
    unfold H2
    cases Bs b
    · rw [if_neg (by decide)]; omega
    · rw [if_pos rfl]; omega
  · intro hf
    have h3:Al b=3:=by
      unfold J4 at hf
      have:=of_decide_eq_false hf
      rcases Hk b with ⟨_,_,k⟩ | ⟨_,_,k⟩ | ⟨k,_,_⟩
      · exact k
      · exact absurd k h4
      · omega
    have hi:=Ul h3
    refine ⟨h3,?_⟩
    rw [hk,hi]
    unfold Qr Cq Dp H2
    rw [Axv,hf,if_neg (by decide)]
    cases Bs b
    · left; exact ⟨rfl,rfl⟩
    · right; exact ⟨rfl,rfl⟩
theorem Bo.Order.known:Bo.Order.Kn:=Bo.Order.Ac (.cons Ay.Compare.known (.cons A1.Kind.known (.cons A1.Value.known (.cons Bo.ends.known .nil)))) fun a b hp=>by
  obtain ⟨ha,hb⟩:=Ad.1 (show (Af a&&Af b)=true from hp)
  obtain ⟨a,rfl,hn⟩:=Bl ha
  obtain ⟨b,rfl,hm⟩:=Bl hb
  refine ⟨0,.tup [.int .i64 (Sp (a:Int) (b:Int)),.bool (Aat (a:Int) (b:Int))],[],?_,Wk.Gw (.cons .int (.cons .bool .nil))⟩
  have kk:∀ n:Nat,Bd (n:Int)=(Al n:Int):=fun _=>rfl
  have pe:∀ n:Nat,Bh (n:Int)=A2 n:=fun _=>rfl
  rw [Bo.Order.ev,Io,Io,ha,hb,Axt,Bool.or_true,Axt,Axt,Axt,Axt,Axt,kk,kk,pe,pe,Hq,Hq]
  unfold Sp Aat Aep Zz
  rw [Axv,Axv]
  by_cases n4:Al a=4∨Al b=4
  · have:(((Al a:Nat):Int)==4||((Al b:Nat):Int)==4)=true:=by
      rw [Bool.or_eq_true,beq_iff_eq,beq_iff_eq]; omega
    rw [this,Axt,if_pos n4,Axu n4]; rfl
  · have:(((Al a:Nat):Int)==4||((Al b:Nat):Int)==4)=false:=by
      rw [Bool.or_eq_false_iff,beq_eq_false_iff_ne,beq_eq_false_iff_ne]; omega
    rw [this,Axx,if_neg n4,Axy n4,Bool.not_false]
    have a4:Al a≠4:=fun h=>n4 (.inl h)
    have b4:Al b≠4:=fun h=>n4 (.inr h)
    obtain ⟨a1,a2⟩:=Aiz hn a4
    obtain ⟨b1,b2⟩:=Aiz hm b4
    have hinf:(0:Int)<(D8:Int):=by decide
    cases hfa:J4 a with
    | true =>
      obtain ⟨ea,ka1,ka2⟩:=a1 hfa
      cases hfb:J4 b with
      | true =>
        obtain ⟨eb,kb1,kb2⟩:=b1 hfb
        obtain ⟨o1,_,o3⟩:=Acf a
        obtain ⟨p1,_,p3⟩:=Acf b
        have hc:=Arb a4 b4
        rw [ea,eb,show (((0:Int) !=(0:Int))||((0:Int) !=(0:Int)))=false from rfl,Axx,o1,o3,p1,p3,hc]
        rfl
      | false =>
        obtain ⟨_,hb2⟩:=b2 hfb
        rcases hb2 with ⟨eb,kb⟩ | ⟨eb,kb⟩
        · rw [ea,eb,kb,if_pos ka2]; rfl
        · rw [ea,eb,kb,if_neg (by omega),if_pos ka1]; rfl
    | false =>
      obtain ⟨_,ha2⟩:=a2 hfa
      cases hfb:J4 b with
      | true =>
        obtain ⟨eb,kb1,kb2⟩:=b1 hfb
        rcases ha2 with ⟨ea,ka⟩ | ⟨ea,ka⟩
        · rw [ea,eb,ka,if_neg (by omega),if_pos kb2]; rfl
        · rw [ea,eb,ka,if_pos kb1]; rfl
      | false =>
        obtain ⟨_,hb2⟩:=b2 hfb
        rcases ha2 with ⟨ea,ka⟩ | ⟨ea,ka⟩<;>rcases hb2 with ⟨eb,kb⟩ | ⟨eb,kb⟩
        · rw [ea,eb,ka,kb,if_neg (by omega),if_neg (by omega)]; rfl
        · rw [ea,eb,ka,kb,if_neg (by omega),if_pos (by omega)]; rfl
        · rw [ea,eb,ka,kb,if_pos (by omega)]; rfl
        · rw [ea,eb,ka,kb,if_neg (by omega),if_neg (by omega)]; rfl
theorem Bo.Max.known:Bo.Max.Kn:=Bo.Max.Ac (.cons Bo.Order.known .nil) fun a b hp=>by
  have hp:(Af a&&Af b)=true:=hp
  refine ⟨0,.int .u64 (Om a b),[],?_,.int⟩
  rw [Bo.Max.ev,hp,Axt,As]
  unfold Om Ag8 Aat Sp
  cases Zz a.toNat b.toNat with
  | false=>rfl
  | true =>
    rw [Bool.not_true,Axx,if_pos rfl]
    obtain ⟨h1,h2⟩:=Ad.1 hp
    obtain ⟨x,rfl,_⟩:=Bl h1
    obtain ⟨y,rfl,_⟩:=Bl h2
    rw [Axv,Axv]
    by_cases h:Aep x y<0
    · rw [Axu h,Axt,if_pos h]
    · rw [Axy h,Axx,if_neg h]
theorem Bo.Lj.known:Bo.Lj.Kn:=Bo.Lj.Ac (.cons Ay.Wj.known (.cons A1.Finite.known (.cons A1.Kind.known (.cons A1.Value.known .nil)))) fun a hp=>by
  obtain ⟨b,rfl,hb⟩:=Bl (x:=a) hp
  refine ⟨0,.int .i64 (Bq (b:Int)),[],?_,.int⟩
  have kk:Bd (b:Int)=(Al b:Int):=rfl
  have hf:Cq (b:Int)=J4 b:=rfl
  have pe:Bh (b:Int)=A2 b:=rfl
  obtain ⟨_,o2,o3⟩:=Acf b
  have hE:=El b
  have hM:=E9 b
  rw [Bo.Lj.ev,B9 hb,Axt,Io,Bool.or_true,Axt,kk,hf,pe,o2,o3,Hq,Axz,Axt,Axt]
  unfold Bq
  rw [Axv]
  unfold Ak6
  cases hfin:J4 b with
  | false=>rfl
  | true =>
    by_cases h0:Al b=0
    · rw [h0]; rfl
    · have k0:(((Al b:Nat):Int)==(0:Int))=false:=by rw [beq_eq_false_iff_ne]; omega
      obtain ⟨f4,f3⟩:=Qq hfin
      have hm:Av b≠0:=fun hz=>h0 ((He f3 f4).1 hz)
      have hv:E8 (b:Int)≠0:=by
        intro h
        have:=Abp b
        rw [h] at this
        exact hm this.symm
      have hl:(Av b).log2≤52:=by have:=(Nat.log2_lt hm).2 (show Av b<2^53 by omega); omega
      have ht:Ii (mD (E8 (b:Int))) (eD (E8 (b:Int)) (A2 b))=((Av b).log2:Int)+1+A2 b:=by
        unfold Ii Yr
        rw [if_neg (fun h=>hv (Pg.1 h)),if_neg (fun h=>hv (Pg.1 h))]
        unfold eD
        rw [if_neg hv]
        have hs:=W5 (E8 (b:Int))
        have ha:Av b=(mD (E8 (b:Int))).natAbs*2^Rz (E8 (b:Int)).natAbs:=by
          have e:=congrArg Int.natAbs hs
          rw [Int.natAbs_mul,Int.natAbs_natCast] at e
          rw [← Abp b]
          exact e
        have hmd:(mD (E8 (b:Int))).natAbs≠0:=fun h=>hv (Pg.1 (Int.natAbs_eq_zero.1 h))
        have hlog:=La (mD (E8 (b:Int))).natAbs (Rz (E8 (b:Int)).natAbs) hmd
        rw [← ha] at hlog
        rw [hlog]
        omega
      rw [k0,if_pos ⟨rfl,h0⟩,ht,Am (by omega) (by omega)]
      show some (DV.int .i64 _)=_
      congr 2; omega
theorem Aiv {b:Nat} (h:b<2^63):Hx b=(b:Int):=Oq false h
theorem Aqm {m x:Nat} (hm:m<2^63) (m4:Al m≠4) (hx:x<2^63) (x4:Al x≠4):Ag8 m x=max m x:=by
  have o:Zz m x=true:=by unfold Zz; rw [Axy (by omega)]; rfl
  have ho:Aep m x=if (m:Int)<(x:Int) then -1 else if (x:Int)<(m:Int) then 1 else 0:=by
    unfold Aep
    rw [if_neg (by omega),Aiv hm,Aiv hx]
  unfold Ag8
  rw [o,if_pos rfl,ho]
  by_cases h:m<x
  · rw [if_pos (show (m:Int)<(x:Int) by omega),if_pos (by decide),Nat.max_eq_right (by omega)]
  · rw [if_neg (show ¬ (m:Int)<(x:Int) by omega)]
    by_cases h2:x<m
    · rw [if_pos (show (x:Int)<(m:Int) by omega),if_neg (by decide),Nat.max_eq_left (by omega)]
    · rw [if_neg (show ¬ (x:Int)<(m:Int) by omega),if_neg (by decide),Nat.max_eq_left (by omega)]
theorem Aiq {m x:Nat} (h:Al m=4∨Al x=4):Ag8 m x=P0:=by
  have o:Zz m x=false:=by unfold Zz; rw [Axu h]; rfl
  unfold Ag8
  rw [o,if_neg (by decide)]
theorem Akn:Al P0=4:=by decide
theorem Afd:∀ l:List Int,l.foldl (fun m x=>Om m (I7 x)) ((P0:Nat):Int)=((P0:Nat):Int)
  | []=>rfl
  | x::l=>by
    rw [List.foldl_cons]
    have:Om ((P0:Nat):Int) (I7 x)=((P0:Nat):Int):=by unfold Om; rw [Axv,Aiq (.inl Akn)]
    rw [this]
    exact Afd l
theorem Y2:∀ (l:List Int) (m:Nat),m<2^63→Al m≠4→l.foldl (fun m x=>Om m (I7 x)) (m:Int)=((Zl l m:Nat):Int)
  | [],m,_,_=>rfl
  | x::l,m,hm,m4=>by
    rw [List.foldl_cons]
    unfold Zl
    have e1:(I7 x).toNat=G7 x.toNat:=by unfold I7; rw [Axv]
    by_cases h:Al x.toNat=4
    · rw [if_pos h]
      have:Om (m:Int) (I7 x)=((P0:Nat):Int):=by
        unfold Om
        rw [e1,Aiq (.inr (by rw [Qk]; exact h))]
      rw [this]
      exact Afd l
    · rw [if_neg h]
      have hx:=Rv x.toNat
      have x4:Al (G7 x.toNat)≠4:=by rw [Qk]; exact h
      have:Om (m:Int) (I7 x)=((max m (G7 x.toNat):Nat):Int):=by
        unfold Om
        rw [Axv,e1,Aqm hm m4 hx x4]
      rw [this]
      refine Y2 l _ (by omega) ?_
      rcases Nat.le_total m (G7 x.toNat) with h2 | h2
      · rw [Nat.max_eq_right h2]; exact x4
      · rw [Nat.max_eq_left h2]; exact m4
theorem Ani {a b:Int} (ha:Af a=true) (hb:Af b=true):Af (Om a b)=true:=by
  obtain ⟨x,rfl,hx⟩:=Bl ha
  obtain ⟨y,rfl,hy⟩:=Bl hb
  unfold Om Ag8
  rw [Axv,Axv]
  split
  · split
    · exact hb
    · exact ha
  · exact B9 (by decide)
theorem Acd (N:Nat) {x:List Int} (hx:Ck x=true):∀ (k i F:Nat) (m:Int),i+k=x.length→k<F→Af m=true→Ag.Bn.L0 N F x m (i:Int)=some (.int .u64 ((x.drop i).foldl (fun m x=>Om m (I7 x)) m)):=by
  obtain ⟨hl,hu⟩:=H3 hx
  intro k
  induction k with
  | zero =>
    intro i F m hi hF hm
    obtain ⟨F,rfl⟩:∃ G,F=G+1:=⟨F-1,by omega⟩
    rw [Ag.Bn.Au,As,Axy (by omega),Axx,Ax7 (by omega)]; rfl
  | succ k ih =>
    intro i F m hi hF hm
    obtain ⟨F,rfl⟩:∃ G,F=G+1:=⟨F-1,by omega⟩
    rw [Ag.Bn.Au,As,Axu (show (i:Int)<(x.length:Int) by omega),Axt,Axu (show (0:Int)≤(i:Int) by omega),Axz,Axt,Axv,hu i (by omega),Axt,hm,Sx,Axz,Axt,G3 (by omega),List.foldl_cons,Am (by omega) (by omega)]
    exact ih (i+1) F _ (by omega) (by omega) (Ani hm (Sx _))
theorem Ag.Bn.known:Ag.Bn.Kn:=Ag.Bn.Ac (.cons Bo.Ho.known (.cons Bo.Max.known .nil)) fun x hp=>by
  refine ⟨x.length+1,.int .u64 (Be x),[],?_,.int⟩
  rw [Ag.Bn.ev]
  have h:=Acd (x.length+1) hp x.length 0 (x.length+1) 0 (by omega) (by omega) H0
  rw [List.drop_zero] at h
  have h2:=Y2 x 0 (by decide) (by decide +kernel)
  exact h.trans (congrArg (fun n:Int=>some (DV.int .u64 n)) h2)
theorem math.Sqrt.known:math.Sqrt.Kn:=math.Sqrt.Ac .nil fun x _=>⟨0,.fl ((Ieee.double.sqrt x).getD nanBits),[],by rw [math.Sqrt.ev],.fl⟩
theorem Ag.Sqrt.known:Ag.Sqrt.Kn:=Ag.Sqrt.Ac (.cons math.Sqrt.known (.cons Ag.B.known (.cons Ag.F.known .nil))) fun a hp=>by
  obtain ⟨x,rfl,hx⟩:=Bl (x:=a) hp
  refine ⟨0,.int .u64 (Fq (x:Int)),[],?_,.int⟩
  have:Ft ((Ieee.double.sqrt (Int.toNat (x:Int))).getD nanBits)=Fq (x:Int):=by
    unfold Ft Fq
    rw [Axv,Aj0 hx Gk]
  rw [Ag.Sqrt.ev,B9 hx,Axt,this]
theorem Zv (N:Nat) {x:List Int} (hx:Ck x=true):∀ (k i F:Nat) (s:Int),i+k=x.length→k<F→Af s=true →
    Ag.Norm.L0 N F x s (i:Int)=some (.int .u64 (Bw (Fq (Ad0 (-Bq (Be x)) s (x.drop i))) (Bq (Be x)))):=by
  obtain ⟨hl,hu⟩:=H3 hx
  have he:=Za (Be x)
  intro k
  induction k with
  | zero =>
    intro i F s hi hF hs
    obtain ⟨F,rfl⟩:∃ G,F=G+1:=⟨F-1,by omega⟩
    rw [Ag.Norm.Au,As,Axy (by omega),Axx,hs,Axt,show Db (Fq s) (Bq (Be x))=true from Ad.2 ⟨Abz hs,Ar.2 (by omega)⟩,Axt,Ax7 (by omega)]
    rfl
  | succ k ih =>
    intro i F s hi hF hs
    obtain ⟨F,rfl⟩:∃ G,F=G+1:=⟨F-1,by omega⟩
    rw [Ag.Norm.Au,As,Axu (show (i:Int)<(x.length:Int) by omega),Axt,Axu (show (0:Int)≤(i:Int) by omega),Axz,Axt,Axv,Am (x:=(0:Int)-Bq (Be x)) (by omega) (by omega),show (0:Int)-Bq (Be x)=-Bq (Be x) by omega,
      show Db (List.getD x i 0) (-Bq (Be x))=true from Ad.2 ⟨hu i (by omega),Ar.2 (by omega)⟩,Axt,Hr (hu i (by omega)),Axz,Axt,hs,Jg,Axz,Axt,Adz (by omega),Am (by omega) (by omega)]
    exact ih (i+1) F _ (by omega) (by omega) (Ahx hs (Jg _ _))
theorem Ag.Norm.known:Ag.Norm.Kn:=Ag.Norm.Ac (.cons A1.Finite.known (.cons Bo.Lj.known (.cons Ag.Add.known (.cons Ag.Bn.known (.cons Ag.Mul.known (.cons Ag.Br.known (.cons Ag.Sqrt.known .nil))))))) fun x hp=>by
  have hx:Ck x=true:=hp
  refine ⟨x.length+1,.int .u64 (Df x),[],?_,.int⟩
  rw [Ag.Norm.ev,hx,Axt,N2,Bool.or_true,Axt]
  unfold Df
  by_cases h:Be x=0∨Cq (Be x)=false
  · have:((Be x==(0:Int))||(!(Cq (Be x))))=true:=by
      rcases h with h | h
      · rw [h]; rfl
      · rw [h,Bool.not_false,Bool.or_true]
    rw [this,Axt,if_pos h]
  · have:((Be x==(0:Int))||(!(Cq (Be x))))=false:=by
      rw [Bool.or_eq_false_iff,beq_eq_false_iff_ne,Bool.not_eq_false']
      refine ⟨fun h0=>h (.inl h0),?_⟩
      cases hf:Cq (Be x) with
      | true=>rfl
      | false=>exact absurd (.inr hf) h
    rw [this,Axx,Axt,if_neg h]
    exact Zv (x.length+1) hx x.length 0 (x.length+1) 0 (by omega) (by omega) H0
namespace EqOf
def Aa.of.Bf.hint:Nat→Option Ba
  | 0=>some { keep:=[1,2,6,7,13,14],objs:=[(8,2,108002,.ints 37 .u64 [])],boxes:=[6,7] }
  | 2=>some { keep:=[1,2,6,7,8,13,14,17,18],objs:=[(8,2,108002,.ints 37 .u64 [])],boxes:=[6,7] }
  | _=>none
def Aa.of.Bf.A6:List (Nat × Entry):=[(205,Aa.Ed.spec)]
def Aa.of.Bf.E:Env:=A9 (A5 Aa.of.Bf.A6) (fun _=>false) Aa.of.Bf.hint (fun _=>none)
def Aa.of.Bf.L0 (N M:Nat) (a b p14:Int) (p2_1:List Int):Option DV:=Bz Aa.of.Bf.E N Tryz.f187 (An Tryz.f187) [1,1,0,1,0] [] M ⟨Gl 33 [(1,.int .i64 b),(2,.fn 205 [] []),(6,.ptr 6 0 0),(7,.ptr 7 0 0),(13,.int .i64 a),(14,.int .i64 p14)],[(6,false,.box [.int .i64 0,.int .i64 0,.nil]),(7,false,.box [.int .i64 a,.int .i64 b,.oref 108002]),(108002,false,.ints 37 .u64 p2_1)]⟩
def Aa.of.Bf.L1 (N M0 M:Nat) (a b:Int) (p8 p14_1 p18:Int) (p2:List Int):Option DV:=Bz Aa.of.Bf.E N Tryz.f187 (An Tryz.f187) [1,1,0,1,0,0,1,1,0,0,1,1,0] [M0] M ⟨Gl 33 [(1,.int .i64 b),(2,.fn 205 [] []),(6,.ptr 6 0 0),(7,.ptr 7 0 0),(8,.int .i64 p8),(13,.int .i64 a),(14,.int .i64 p14_1),(17,.int .i64 b),(18,.int .i64 p18)],[(6,false,.box [.int .i64 0,.int .i64 0,.nil]),(7,false,.box [.int .i64 a,.int .i64 b,.oref 108002]),(108002,false,.ints 37 .u64 p2)]⟩
theorem Aa.of.Bf.Au (N M:Nat) (a b p14:Int) (p2_1:List Int):Aa.of.Bf.L0 N (M+1) a b p14 p2_1=bif (A4 p14 a) then Aa.of.Bf.L1 N M N a b p14 p14 0 p2_1 else some (.agg [.int .i64 a,.int .i64 b,.ints (.own 108002 37) .u64 p2_1]):=by kernel_rfl
theorem Aa.of.Bf.B7 (N M0 M:Nat) (a b:Int) (p8 p14_1 p18:Int) (p2:List Int):Aa.of.Bf.L1 N M0 (M+1) a b p8 p14_1 p18 p2=bif (A4 p18 b) then bif (decide ((List.length p2)+1≤Gp)) then Aa.of.Bf.L1 N M0 M a b p8 p14_1 (Ab (p18+1)) (p2++[(0:Int)]) else none else Aa.of.Bf.L0 N M0 a b (Ab (p14_1+1)) p2 :=
  Eq.trans (by kernel_rfl)
  (Ej (C2 (Cs (decide ((List.length p2)+1≤Gp))) rfl rfl) rfl)
theorem Aa.of.Bf.ev (N:Nat) (a b:Int):Bp Aa.of.Bf.E N Tryz.f187 (An Tryz.f187) [.int .i64 a,.int .i64 b,.fn 205 [] []] =
  Aa.of.Bf.L0 N N a b 0 []:=by kernel_rfl
abbrev _root_.Go.Proofs.S1.Aa.of.Bf.Kn:=A3 Tryz.prog 187 Aa.of.Bf.spec
theorem Aa.of.Bf.Ac (hk:Ax Tryz.prog Aa.of.Bf.A6) (h:∀ (a b:Int),Aa.of.Bf.pre [.i a,.i b]=true→A8 Aa.of.Bf.E Tryz.f187 [.int .i64 a,.int .i64 b,.fn 205 [] []] (Aa.of.Bf.out [.i a,.i b])):Aa.of.Bf.Kn :=
  Ak (Az hk _ _ _) Tryz.func187 (by kernel_rfl) (by kernel_rfl) h
def Aa.of.Ew.hint:Nat→Option Ba
  | 0=>some { keep:=[1,2,6,7,13,14],objs:=[(8,2,108002,.ints 37 .u64 [])],boxes:=[6,7] }
  | 2=>some { keep:=[1,2,6,7,8,13,14,17,18],objs:=[(8,2,108002,.ints 37 .u64 [])],boxes:=[6,7] }
  | _=>none
def Aa.of.Ew.A6:List (Nat × Entry):=[(246,Aa.Ie.spec)]
def Aa.of.Ew.E:Env:=A9 (A5 Aa.of.Ew.A6) (fun _=>false) Aa.of.Ew.hint (fun _=>none)
def Aa.of.Ew.L0 (N M:Nat) (a b p14:Int) (p2_1:List Int):Option DV:=Bz Aa.of.Ew.E N Tryz.f187 (An Tryz.f187) [1,1,0,1,0] [] M ⟨Gl 33 [(1,.int .i64 b),(2,.fn 246 [] []),(6,.ptr 6 0 0),(7,.ptr 7 0 0),(13,.int .i64 a),(14,.int .i64 p14)],[(6,false,.box [.int .i64 0,.int .i64 0,.nil]),(7,false,.box [.int .i64 a,.int .i64 b,.oref 108002]),(108002,false,.ints 37 .u64 p2_1)]⟩
def Aa.of.Ew.L1 (N M0 M:Nat) (a b:Int) (p8 p14_1 p18:Int) (p2:List Int):Option DV:=Bz Aa.of.Ew.E N Tryz.f187 (An Tryz.f187) [1,1,0,1,0,0,1,1,0,0,1,1,0] [M0] M ⟨Gl 33 [(1,.int .i64 b),(2,.fn 246 [] []),(6,.ptr 6 0 0),(7,.ptr 7 0 0),(8,.int .i64 p8),(13,.int .i64 a),(14,.int .i64 p14_1),(17,.int .i64 b),(18,.int .i64 p18)],[(6,false,.box [.int .i64 0,.int .i64 0,.nil]),(7,false,.box [.int .i64 a,.int .i64 b,.oref 108002]),(108002,false,.ints 37 .u64 p2)]⟩
theorem Aa.of.Ew.Au (N M:Nat) (a b p14:Int) (p2_1:List Int):Aa.of.Ew.L0 N (M+1) a b p14 p2_1=bif (A4 p14 a) then Aa.of.Ew.L1 N M N a b p14 p14 0 p2_1 else some (.agg [.int .i64 a,.int .i64 b,.ints (.own 108002 37) .u64 p2_1]):=by kernel_rfl
theorem Aa.of.Ew.B7 (N M0 M:Nat) (a b:Int) (p8 p14_1 p18:Int) (p2:List Int):Aa.of.Ew.L1 N M0 (M+1) a b p8 p14_1 p18 p2=bif (A4 p18 b) then bif (decide ((List.length p2)+1≤Gp)) then Aa.of.Ew.L1 N M0 M a b p8 p14_1 (Ab (p18+1)) (p2++[(Nc p8 p18)]) else none else Aa.of.Ew.L0 N M0 a b (Ab (p14_1+1)) p2 :=
  Eq.trans (by kernel_rfl)
  (Ej (C2 (Cs (decide ((List.length p2)+1≤Gp))) rfl rfl) rfl)
theorem Aa.of.Ew.ev (N:Nat) (a b:Int):Bp Aa.of.Ew.E N Tryz.f187 (An Tryz.f187) [.int .i64 a,.int .i64 b,.fn 246 [] []] =
  Aa.of.Ew.L0 N N a b 0 []:=by kernel_rfl
abbrev _root_.Go.Proofs.S1.Aa.of.Ew.Kn:=A3 Tryz.prog 187 Aa.of.Ew.spec
theorem Aa.of.Ew.Ac (hk:Ax Tryz.prog Aa.of.Ew.A6) (h:∀ (a b:Int),Aa.of.Ew.pre [.i a,.i b]=true→A8 Aa.of.Ew.E Tryz.f187 [.int .i64 a,.int .i64 b,.fn 246 [] []] (Aa.of.Ew.out [.i a,.i b])):Aa.of.Ew.Kn :=
  Ak (Az hk _ _ _) Tryz.func187 (by kernel_rfl) (by kernel_rfl) h
def Aa.of.Cn.hint:Nat→Option Ba
  | 0=>some { keep:=[1,2,6,7,13,14],objs:=[(8,2,108002,.ints 37 .u64 [])],boxes:=[6,7] }
  | 2=>some { keep:=[1,2,6,7,8,13,14,17,18],objs:=[(8,2,108002,.ints 37 .u64 [])],boxes:=[6,7] }
  | _=>none
def Aa.of.Cn.A6:List (Nat × Entry):=[(220,Aa.Fv.spec)]
def Aa.of.Cn.E:Env:=A9 (A5 Aa.of.Cn.A6) (fun _=>false) Aa.of.Cn.hint (fun _=>none)
def Aa.of.Cn.L0 (N M:Nat) (a b:Int) (r c:Int) (l:List Int) (p14:Int) (p2_1:List Int):Option DV:=Bz Aa.of.Cn.E N Tryz.f187 (An Tryz.f187) [1,1,0,1,0] [] M ⟨Gl 33 [(1,.int .i64 b),(2,.fn 220 [] [.cellp [.int .i64 r,.int .i64 c,.ints .arg .u64 l]]),(6,.ptr 6 0 0),(7,.ptr 7 0 0),(13,.int .i64 a),(14,.int .i64 p14)],[(6,false,.box [.int .i64 0,.int .i64 0,.nil]),(7,false,.box [.int .i64 a,.int .i64 b,.oref 108002]),(108002,false,.ints 37 .u64 p2_1)]⟩
def Aa.of.Cn.L1 (N M0 M:Nat) (a b:Int) (r c:Int) (l:List Int) (p8 p14_1 p18:Int) (p2:List Int):Option DV:=Bz Aa.of.Cn.E N Tryz.f187 (An Tryz.f187) [1,1,0,1,0,0,1,1,0,0,1,1,0] [M0] M ⟨Gl 33 [(1,.int .i64 b),(2,.fn 220 [] [.cellp [.int .i64 r,.int .i64 c,.ints .arg .u64 l]]),(6,.ptr 6 0 0),(7,.ptr 7 0 0),(8,.int .i64 p8),(13,.int .i64 a),(14,.int .i64 p14_1),(17,.int .i64 b),(18,.int .i64 p18)],[(6,false,.box [.int .i64 0,.int .i64 0,.nil]),(7,false,.box [.int .i64 a,.int .i64 b,.oref 108002]),(108002,false,.ints 37 .u64 p2)]⟩
theorem Aa.of.Cn.Au (N M:Nat) (a b:Int) (r c:Int) (l:List Int) (p14:Int) (p2_1:List Int):Aa.of.Cn.L0 N (M+1) a b r c l p14 p2_1=bif (A4 p14 a) then Aa.of.Cn.L1 N M N a b r c l p14 p14 0 p2_1 else some (.agg [.int .i64 a,.int .i64 b,.ints (.own 108002 37) .u64 p2_1]):=by kernel_rfl
theorem Aa.of.Cn.B7 (N M0 M:Nat) (a b:Int) (r c:Int) (l:List Int) (p8 p14_1 p18:Int) (p2:List Int):Aa.of.Cn.L1 N M0 (M+1) a b r c l p8 p14_1 p18 p2=bif (A4 p18 b) then bif (Cw r c l p18 p8) then bif (decide ((List.length p2)+1≤Gp)) then Aa.of.Cn.L1 N M0 M a b r c l p8 p14_1 (Ab (p18+1)) (p2++[(D6 c l p18 p8)]) else none else none else Aa.of.Cn.L0 N M0 a b r c l (Ab (p14_1+1)) p2 :=
  Eq.trans (by kernel_rfl)
  (Ej (C2 (Cs (Cw r c l p18 p8)) (C2 (Cs (decide ((List.length p2)+1≤Gp))) rfl rfl) rfl) rfl)
theorem Aa.of.Cn.ev (N:Nat) (a b:Int) (r c:Int) (l:List Int):Bp Aa.of.Cn.E N Tryz.f187 (An Tryz.f187) [.int .i64 a,.int .i64 b,.fn 220 [] [.cellp [.int .i64 r,.int .i64 c,.ints .arg .u64 l]]] =
  Aa.of.Cn.L0 N N a b r c l 0 []:=by kernel_rfl
abbrev _root_.Go.Proofs.S1.Aa.of.Cn.Kn:=A3 Tryz.prog 187 Aa.of.Cn.spec
theorem Aa.of.Cn.Ac (hk:Ax Tryz.prog Aa.of.Cn.A6) (h:∀ (a b:Int) (r c:Int) (l:List Int),Aa.of.Cn.pre [.i a,.i b,.i r,.i c,.l l]=true→A8 Aa.of.Cn.E Tryz.f187 [.int .i64 a,.int .i64 b,.fn 220 [] [.cellp [.int .i64 r,.int .i64 c,.ints .arg .u64 l]]] (Aa.of.Cn.out [.i a,.i b,.i r,.i c,.l l])):Aa.of.Cn.Kn :=
  Ak (Az hk _ _ _) Tryz.func187 (by kernel_rfl) (by kernel_rfl) h
def Aa.of.Part.hint:Nat→Option Ba
  | 0=>some { keep:=[1,2,6,7,13,14],objs:=[(8,2,108002,.ints 37 .u64 [])],boxes:=[6,7] }
  | 2=>some { keep:=[1,2,6,7,8,13,14,17,18],objs:=[(8,2,108002,.ints 37 .u64 [])],boxes:=[6,7] }
  | _=>none
def Aa.of.Part.A6:List (Nat × Entry):=[(192,Aa.Fx.spec)]
def Aa.of.Part.E:Env:=A9 (A5 Aa.of.Part.A6) (fun _=>false) Aa.of.Part.hint (fun _=>none)
def Aa.of.Part.L0 (N M:Nat) (a b:Int) (r c:Int) (l:List Int) (x y p14:Int) (p2_1:List Int):Option DV:=Bz Aa.of.Part.E N Tryz.f187 (An Tryz.f187) [1,1,0,1,0] [] M ⟨Gl 33 [(1,.int .i64 b),(2,.fn 192 [] [.cellp [.int .i64 r,.int .i64 c,.ints .arg .u64 l],.cellp [.int .i64 x],.cellp [.int .i64 y]]),(6,.ptr 6 0 0),(7,.ptr 7 0 0),(13,.int .i64 a),(14,.int .i64 p14)],[(6,false,.box [.int .i64 0,.int .i64 0,.nil]),(7,false,.box [.int .i64 a,.int .i64 b,.oref 108002]),(108002,false,.ints 37 .u64 p2_1)]⟩
def Aa.of.Part.L1 (N M0 M:Nat) (a b:Int) (r c:Int) (l:List Int) (x y:Int) (p8 p14_1 p18:Int) (p2:List Int):Option DV:=Bz Aa.of.Part.E N Tryz.f187 (An Tryz.f187) [1,1,0,1,0,0,1,1,0,0,1,1,0] [M0] M ⟨Gl 33 [(1,.int .i64 b),(2,.fn 192 [] [.cellp [.int .i64 r,.int .i64 c,.ints .arg .u64 l],.cellp [.int .i64 x],.cellp [.int .i64 y]]),(6,.ptr 6 0 0),(7,.ptr 7 0 0),(8,.int .i64 p8),(13,.int .i64 a),(14,.int .i64 p14_1),(17,.int .i64 b),(18,.int .i64 p18)],[(6,false,.box [.int .i64 0,.int .i64 0,.nil]),(7,false,.box [.int .i64 a,.int .i64 b,.oref 108002]),(108002,false,.ints 37 .u64 p2)]⟩
theorem Aa.of.Part.Au (N M:Nat) (a b:Int) (r c:Int) (l:List Int) (x y p14:Int) (p2_1:List Int):Aa.of.Part.L0 N (M+1) a b r c l x y p14 p2_1=bif (A4 p14 a) then Aa.of.Part.L1 N M N a b r c l x y p14 p14 0 p2_1 else some (.agg [.int .i64 a,.int .i64 b,.ints (.own 108002 37) .u64 p2_1]):=by kernel_rfl
theorem Aa.of.Part.B7 (N M0 M:Nat) (a b:Int) (r c:Int) (l:List Int) (x y:Int) (p8 p14_1 p18:Int) (p2:List Int):Aa.of.Part.L1 N M0 (M+1) a b r c l x y p8 p14_1 p18 p2=bif (A4 p18 b) then bif (Cw r c l (x+p8) (y+p18)&&U6 x y p8 p18) then bif (decide ((List.length p2)+1≤Gp)) then Aa.of.Part.L1 N M0 M a b r c l x y p8 p14_1 (Ab (p18+1)) (p2++[(D6 c l (x+p8) (y+p18))]) else none else none else Aa.of.Part.L0 N M0 a b r c l x y (Ab (p14_1+1)) p2 :=
  Eq.trans (by kernel_rfl)
  (Ej (C2 (Cs (Cw r c l (x+p8) (y+p18)&&U6 x y p8 p18)) (C2 (Cs (decide ((List.length p2)+1≤Gp))) rfl rfl) rfl) rfl)
theorem Aa.of.Part.ev (N:Nat) (a b:Int) (r c:Int) (l:List Int) (x y:Int):Bp Aa.of.Part.E N Tryz.f187 (An Tryz.f187) [.int .i64 a,.int .i64 b,.fn 192 [] [.cellp [.int .i64 r,.int .i64 c,.ints .arg .u64 l],.cellp [.int .i64 x],.cellp [.int .i64 y]]] =
  Aa.of.Part.L0 N N a b r c l x y 0 []:=by kernel_rfl
abbrev _root_.Go.Proofs.S1.Aa.of.Part.Kn:=A3 Tryz.prog 187 Aa.of.Part.spec
theorem Aa.of.Part.Ac (hk:Ax Tryz.prog Aa.of.Part.A6) (h:∀ (a b:Int) (r c:Int) (l:List Int) (x y:Int),Aa.of.Part.pre [.i a,.i b,.i r,.i c,.l l,.i x,.i y]=true→A8 Aa.of.Part.E Tryz.f187 [.int .i64 a,.int .i64 b,.fn 192 [] [.cellp [.int .i64 r,.int .i64 c,.ints .arg .u64 l],.cellp [.int .i64 x],.cellp [.int .i64 y]]] (Aa.of.Part.out [.i a,.i b,.i r,.i c,.l l,.i x,.i y])):Aa.of.Part.Kn :=
  Ak (Az hk _ _ _) Tryz.func187 (by kernel_rfl) (by kernel_rfl) h
def Aa.of.Stack.hint:Nat→Option Ba
  | 0=>some { keep:=[1,2,6,7,13,14],objs:=[(8,2,108002,.ints 37 .u64 [])],boxes:=[6,7] }
  | 2=>some { keep:=[1,2,6,7,8,13,14,17,18],objs:=[(8,2,108002,.ints 37 .u64 [])],boxes:=[6,7] }
  | _=>none
def Aa.of.Stack.A6:List (Nat × Entry):=[(195,Aa.Es.spec)]
def Aa.of.Stack.E:Env:=A9 (A5 Aa.of.Stack.A6) (fun _=>false) Aa.of.Stack.hint (fun _=>none)
def Aa.of.Stack.L0 (N M:Nat) (a b:Int) (r c:Int) (l:List Int) (p q:Int) (m:List Int) (p14:Int) (p2_1:List Int):Option DV:=Bz Aa.of.Stack.E N Tryz.f187 (An Tryz.f187) [1,1,0,1,0] [] M ⟨Gl 33 [(1,.int .i64 b),(2,.fn 195 [] [.cellp [.int .i64 r,.int .i64 c,.ints .arg .u64 l],.cellp [.int .i64 p,.int .i64 q,.ints .arg .u64 m]]),(6,.ptr 6 0 0),(7,.ptr 7 0 0),(13,.int .i64 a),(14,.int .i64 p14)],[(6,false,.box [.int .i64 0,.int .i64 0,.nil]),(7,false,.box [.int .i64 a,.int .i64 b,.oref 108002]),(108002,false,.ints 37 .u64 p2_1)]⟩
def Aa.of.Stack.L1 (N M0 M:Nat) (a b:Int) (r c:Int) (l:List Int) (p q:Int) (m:List Int) (p8 p14_1 p18:Int) (p2:List Int):Option DV:=Bz Aa.of.Stack.E N Tryz.f187 (An Tryz.f187) [1,1,0,1,0,0,1,1,0,0,1,1,0] [M0] M ⟨Gl 33 [(1,.int .i64 b),(2,.fn 195 [] [.cellp [.int .i64 r,.int .i64 c,.ints .arg .u64 l],.cellp [.int .i64 p,.int .i64 q,.ints .arg .u64 m]]),(6,.ptr 6 0 0),(7,.ptr 7 0 0),(8,.int .i64 p8),(13,.int .i64 a),(14,.int .i64 p14_1),(17,.int .i64 b),(18,.int .i64 p18)],[(6,false,.box [.int .i64 0,.int .i64 0,.nil]),(7,false,.box [.int .i64 a,.int .i64 b,.oref 108002]),(108002,false,.ints 37 .u64 p2)]⟩
theorem Aa.of.Stack.Au (N M:Nat) (a b:Int) (r c:Int) (l:List Int) (p q:Int) (m:List Int) (p14:Int) (p2_1:List Int):Aa.of.Stack.L0 N (M+1) a b r c l p q m p14 p2_1=bif (A4 p14 a) then Aa.of.Stack.L1 N M N a b r c l p q m p14 p14 0 p2_1 else some (.agg [.int .i64 a,.int .i64 b,.ints (.own 108002 37) .u64 p2_1]):=by kernel_rfl
theorem Aa.of.Stack.B7 (N M0 M:Nat) (a b:Int) (r c:Int) (l:List Int) (p q:Int) (m:List Int) (p8 p14_1 p18:Int) (p2:List Int):Aa.of.Stack.L1 N M0 (M+1) a b r c l p q m p8 p14_1 p18 p2=bif (A4 p18 b) then bif (Mo r c l p q m p8 p18) then bif (decide ((List.length p2)+1≤Gp)) then Aa.of.Stack.L1 N M0 M a b r c l p q m p8 p14_1 (Ab (p18+1)) (p2++[(I4 r c l q m p8 p18)]) else none else none else Aa.of.Stack.L0 N M0 a b r c l p q m (Ab (p14_1+1)) p2 :=
  Eq.trans (by kernel_rfl)
  (Ej (C2 (Cs (Mo r c l p q m p8 p18)) (C2 (Cs (decide ((List.length p2)+1≤Gp))) rfl rfl) rfl) rfl)
theorem Aa.of.Stack.ev (N:Nat) (a b:Int) (r c:Int) (l:List Int) (p q:Int) (m:List Int):Bp Aa.of.Stack.E N Tryz.f187 (An Tryz.f187) [.int .i64 a,.int .i64 b,.fn 195 [] [.cellp [.int .i64 r,.int .i64 c,.ints .arg .u64 l],.cellp [.int .i64 p,.int .i64 q,.ints .arg .u64 m]]] =
  Aa.of.Stack.L0 N N a b r c l p q m 0 []:=by kernel_rfl
abbrev _root_.Go.Proofs.S1.Aa.of.Stack.Kn:=A3 Tryz.prog 187 Aa.of.Stack.spec
theorem Aa.of.Stack.Ac (hk:Ax Tryz.prog Aa.of.Stack.A6) (h:∀ (a b:Int) (r c:Int) (l:List Int) (p q:Int) (m:List Int),Aa.of.Stack.pre [.i a,.i b,.i r,.i c,.l l,.i p,.i q,.l m]=true→A8 Aa.of.Stack.E Tryz.f187 [.int .i64 a,.int .i64 b,.fn 195 [] [.cellp [.int .i64 r,.int .i64 c,.ints .arg .u64 l],.cellp [.int .i64 p,.int .i64 q,.ints .arg .u64 m]]] (Aa.of.Stack.out [.i a,.i b,.i r,.i c,.l l,.i p,.i q,.l m])):Aa.of.Stack.Kn :=
  Ak (Az hk _ _ _) Tryz.func187 (by kernel_rfl) (by kernel_rfl) h
def Aa.of.Mul.hint:Nat→Option Ba
  | 0=>some { keep:=[1,2,6,7,13,14],objs:=[(8,2,108002,.ints 37 .u64 [])],boxes:=[6,7] }
  | 2=>some { keep:=[1,2,6,7,8,13,14,17,18],objs:=[(8,2,108002,.ints 37 .u64 [])],boxes:=[6,7] }
  | _=>none
def Aa.of.Mul.A6:List (Nat × Entry):=[(188,Aa.H9.spec)]
def Aa.of.Mul.E:Env:=A9 (A5 Aa.of.Mul.A6) (fun _=>false) Aa.of.Mul.hint (fun _=>none)
def Aa.of.Mul.L0 (N M:Nat) (a b:Int) (r c:Int) (l:List Int) (p q:Int) (m:List Int) (p14:Int) (p2_1:List Int):Option DV:=Bz Aa.of.Mul.E N Tryz.f187 (An Tryz.f187) [1,1,0,1,0] [] M ⟨Gl 33 [(1,.int .i64 b),(2,.fn 188 [] [.cellp [.int .i64 r,.int .i64 c,.ints .arg .u64 l],.cellp [.int .i64 p,.int .i64 q,.ints .arg .u64 m]]),(6,.ptr 6 0 0),(7,.ptr 7 0 0),(13,.int .i64 a),(14,.int .i64 p14)],[(6,false,.box [.int .i64 0,.int .i64 0,.nil]),(7,false,.box [.int .i64 a,.int .i64 b,.oref 108002]),(108002,false,.ints 37 .u64 p2_1)]⟩
def Aa.of.Mul.L1 (N M0 M:Nat) (a b:Int) (r c:Int) (l:List Int) (p q:Int) (m:List Int) (p8 p14_1 p18:Int) (p2:List Int):Option DV:=Bz Aa.of.Mul.E N Tryz.f187 (An Tryz.f187) [1,1,0,1,0,0,1,1,0,0,1,1,0] [M0] M ⟨Gl 33 [(1,.int .i64 b),(2,.fn 188 [] [.cellp [.int .i64 r,.int .i64 c,.ints .arg .u64 l],.cellp [.int .i64 p,.int .i64 q,.ints .arg .u64 m]]),(6,.ptr 6 0 0),(7,.ptr 7 0 0),(8,.int .i64 p8),(13,.int .i64 a),(14,.int .i64 p14_1),(17,.int .i64 b),(18,.int .i64 p18)],[(6,false,.box [.int .i64 0,.int .i64 0,.nil]),(7,false,.box [.int .i64 a,.int .i64 b,.oref 108002]),(108002,false,.ints 37 .u64 p2)]⟩
theorem Aa.of.Mul.Au (N M:Nat) (a b:Int) (r c:Int) (l:List Int) (p q:Int) (m:List Int) (p14:Int) (p2_1:List Int):Aa.of.Mul.L0 N (M+1) a b r c l p q m p14 p2_1=bif (A4 p14 a) then Aa.of.Mul.L1 N M N a b r c l p q m p14 p14 0 p2_1 else some (.agg [.int .i64 a,.int .i64 b,.ints (.own 108002 37) .u64 p2_1]):=by kernel_rfl
theorem Aa.of.Mul.B7 (N M0 M:Nat) (a b:Int) (r c:Int) (l:List Int) (p q:Int) (m:List Int) (p8 p14_1 p18:Int) (p2:List Int):Aa.of.Mul.L1 N M0 (M+1) a b r c l p q m p8 p14_1 p18 p2=bif (A4 p18 b) then bif (Sr r c l p q m p8 p18) then bif (decide ((List.length p2)+1≤Gp)) then Aa.of.Mul.L1 N M0 M a b r c l p q m p8 p14_1 (Ab (p18+1)) (p2++[(I9 (G8 c l p8) (Kd p q m p18))]) else none else none else Aa.of.Mul.L0 N M0 a b r c l p q m (Ab (p14_1+1)) p2 :=
  Eq.trans (by kernel_rfl)
  (Ej (C2 (Cs (Sr r c l p q m p8 p18)) (C2 (Cs (decide ((List.length p2)+1≤Gp))) rfl rfl) rfl) rfl)
theorem Aa.of.Mul.ev (N:Nat) (a b:Int) (r c:Int) (l:List Int) (p q:Int) (m:List Int):Bp Aa.of.Mul.E N Tryz.f187 (An Tryz.f187) [.int .i64 a,.int .i64 b,.fn 188 [] [.cellp [.int .i64 r,.int .i64 c,.ints .arg .u64 l],.cellp [.int .i64 p,.int .i64 q,.ints .arg .u64 m]]] =
  Aa.of.Mul.L0 N N a b r c l p q m 0 []:=by kernel_rfl
abbrev _root_.Go.Proofs.S1.Aa.of.Mul.Kn:=A3 Tryz.prog 187 Aa.of.Mul.spec
theorem Aa.of.Mul.Ac (hk:Ax Tryz.prog Aa.of.Mul.A6) (h:∀ (a b:Int) (r c:Int) (l:List Int) (p q:Int) (m:List Int),Aa.of.Mul.pre [.i a,.i b,.i r,.i c,.l l,.i p,.i q,.l m]=true→A8 Aa.of.Mul.E Tryz.f187 [.int .i64 a,.int .i64 b,.fn 188 [] [.cellp [.int .i64 r,.int .i64 c,.ints .arg .u64 l],.cellp [.int .i64 p,.int .i64 q,.ints .arg .u64 m]]] (Aa.of.Mul.out [.i a,.i b,.i r,.i c,.l l,.i p,.i q,.l m])):Aa.of.Mul.Kn :=
  Ak (Az hk _ _ _) Tryz.func187 (by kernel_rfl) (by kernel_rfl) h
def Aa.Bf.A6:List (Nat × Entry):=[(187,Aa.of.Bf.spec),(204,Aa.size.spec)]
def Aa.Bf.E:Env:=A9 (A5 Aa.Bf.A6) (fun _=>false) (fun _=>none) (fun _=>none)
theorem Aa.Bf.ev (N:Nat) (a b:Int):Bp Aa.Bf.E N Tryz.f151 (An Tryz.f151) [.int .i64 a,.int .i64 b]=bif ((!(Bg a))||(!(Bg b))) then some (.tup [.agg [.int .i64 0,.int .i64 0,.nil],.int .i64 3]) else bif ((Bg a&&Bg b)) then some (.tup [.agg [.int .i64 a,.int .i64 b,.ints .fresh .u64 (B5 (Int.toNat a) (Int.toNat b) (fun _ _=>0))],.int .i64 0]) else none :=
  Eq.trans (by kernel_rfl)
  (Aw (Abr (Bg a)) (Aw (R0 (Bg a)) (Aw (R0 (Bg a)) (Aw (Abt (Bg a)) (C2 (Al9 (Bg a) (Bg b)) rfl rfl)))))
abbrev _root_.Go.Proofs.S1.Aa.Bf.Kn:=A3 Tryz.prog 151 Aa.Bf.spec
theorem Aa.Bf.Ac (hk:Ax Tryz.prog Aa.Bf.A6) (h:∀ (a b:Int),Aa.Bf.pre [.i a,.i b]=true→A8 Aa.Bf.E Tryz.f151 [.int .i64 a,.int .i64 b] (Aa.Bf.out [.i a,.i b])):Aa.Bf.Kn :=
  Ak (Az hk _ _ _) Tryz.func151 (by kernel_rfl) (by kernel_rfl) h
def Aa.Ew.A6:List (Nat × Entry):=[(187,Aa.of.Ew.spec),(204,Aa.size.spec)]
def Aa.Ew.E:Env:=A9 (A5 Aa.Ew.A6) (fun _=>false) (fun _=>none) (fun _=>none)
theorem Aa.Ew.ev (N:Nat) (n:Int):Bp Aa.Ew.E N Tryz.f218 (An Tryz.f218) [.int .i64 n]=bif (!(Bg n)) then some (.tup [.agg [.int .i64 0,.int .i64 0,.nil],.int .i64 3]) else bif ((Bg n&&Bg n)) then some (.tup [.agg [.int .i64 n,.int .i64 n,.ints .fresh .u64 (B5 (Int.toNat n) (Int.toNat n) (fun j1 j2=>Nc j1 j2))],.int .i64 0]) else none:=by kernel_rfl
abbrev _root_.Go.Proofs.S1.Aa.Ew.Kn:=A3 Tryz.prog 218 Aa.Ew.spec
theorem Aa.Ew.Ac (hk:Ax Tryz.prog Aa.Ew.A6) (h:∀ (n:Int),Aa.Ew.pre [.i n]=true→A8 Aa.Ew.E Tryz.f218 [.int .i64 n] (Aa.Ew.out [.i n])):Aa.Ew.Kn :=
  Ak (Az hk _ _ _) Tryz.func218 (by kernel_rfl) (by kernel_rfl) h
def Aa.Cn.A6:List (Nat × Entry):=[(160,Aa.Check.spec),(187,Aa.of.Cn.spec)]
def Aa.Cn.E:Env:=A9 (A5 Aa.Cn.A6) (fun _=>false) (fun _=>none) (fun _=>none)
theorem Aa.Cn.ev (N:Nat) (r c:Int) (l:List Int):Bp Aa.Cn.E N Tryz.f167 (An Tryz.f167) [.agg [.int .i64 r,.int .i64 c,.ints .arg .u64 l]]=bif ((Ks r c l) !=(0:Int)) then some (.tup [.agg [.int .i64 0,.int .i64 0,.nil],.int .i64 (Ks r c l)]) else bif ((Bg c&&Bg r)&&A0 r c l&&decide (c=c∧r=r)) then some (.tup [.agg [.int .i64 c,.int .i64 r,.ints .fresh .u64 (B5 (Int.toNat c) (Int.toNat r) (fun j1 j2=>D6 c l j2 j1))],.int .i64 0]) else none:=by kernel_rfl
abbrev _root_.Go.Proofs.S1.Aa.Cn.Kn:=A3 Tryz.prog 167 Aa.Cn.spec
theorem Aa.Cn.Ac (hk:Ax Tryz.prog Aa.Cn.A6) (h:∀ (r c:Int) (l:List Int),Aa.Cn.pre [.i r,.i c,.l l]=true→A8 Aa.Cn.E Tryz.f167 [.agg [.int .i64 r,.int .i64 c,.ints .arg .u64 l]] (Aa.Cn.out [.i r,.i c,.l l])):Aa.Cn.Kn :=
  Ak (Az hk _ _ _) Tryz.func167 (by kernel_rfl) (by kernel_rfl) h
def Aa.Part.A6:List (Nat × Entry):=[(160,Aa.Check.spec),(187,Aa.of.Part.spec)]
def Aa.Part.E:Env:=A9 (A5 Aa.Part.A6) (fun _=>false) (fun _=>none) (fun _=>none)
theorem Aa.Part.ev (N:Nat) (r c:Int) (l:List Int) (x y:Int) (a b:Int):Bp Aa.Part.E N Tryz.f124 (An Tryz.f124) [.agg [.int .i64 r,.int .i64 c,.ints .arg .u64 l],.int .i64 x,.int .i64 y,.int .i64 a,.int .i64 b]=bif ((Ks r c l) !=(0:Int)) then some (.tup [.agg [.int .i64 0,.int .i64 0,.nil],.int .i64 (Ks r c l)]) else bif ((((((((A4 x 0)||(A4 y 0))||(A4 a 0))||(A4 b 0))||(A4 r x))||(A4 c y))||(A4 (Ab (r-x)) a))||(A4 (Ab (c-y)) b)) then some (.tup [.agg [.int .i64 0,.int .i64 0,.nil],.int .i64 3]) else bif ((Bg a&&Bg b)&&A0 r c l&&Hs r c x y a b) then some (.tup [.agg [.int .i64 a,.int .i64 b,.ints .fresh .u64 (B5 (Int.toNat a) (Int.toNat b) (fun j1 j2=>D6 c l (x+j1) (y+j2)))],.int .i64 0]) else none :=
  Eq.trans (by kernel_rfl)
  (Ej rfl (Aw (R7 (A4 x 0)) (Aw (P2 (A4 x 0)) (Aw (Wt (A4 x 0)) (Aw (Adq (A4 x 0) (A4 y 0)) (Aw (Agf (A4 x 0) (A4 y 0)) (Aw (Apr (A4 x 0) (A4 y 0)) (Aw (Ajj (A4 x 0) (A4 y 0) (A4 a 0)) (Aw (Adr (A4 x 0) (A4 y 0) (A4 a 0)) (Aw (Aps (A4 x 0) (A4 y 0) (A4 a 0)) (Aw (Apt (A4 x 0) (A4 y 0) (A4 a 0) (A4 b 0)) (Aw (Apt (A4 x 0) (A4 y 0) (A4 a 0) (A4 b 0)) (Aw (Aur (A4 x 0) (A4 y 0) (A4 a 0) (A4 b 0)) (Aw (Aus (A4 x 0) (A4 y 0) (A4 a 0) (A4 b 0)) (Aw (Aut (A4 x 0) (A4 y 0) (A4 a 0) (A4 b 0)) (Aw (Auu (A4 x 0) (A4 y 0) (A4 a 0) (A4 b 0) (A4 r x)) (Aw (Auu (A4 x 0) (A4 y 0) (A4 a 0) (A4 b 0) (A4 r x)) (Aw (Awt (A4 x 0) (A4 y 0) (A4 a 0) (A4 b 0) (A4 r x)) (Aw (Awu (A4 x 0) (A4 y 0) (A4 a 0) (A4 b 0) (A4 r x)) (Aw (Awv (A4 x 0) (A4 y 0) (A4 a 0) (A4 b 0) (A4 r x)) (Aw (Asi (A4 x 0) (A4 y 0) (A4 a 0) (A4 b 0) (A4 r x) (A4 c y)) (Aw (Asi (A4 x 0) (A4 y 0) (A4 a 0) (A4 b 0) (A4 r x) (A4 c y)) (Aw (Aww (A4 x 0) (A4 y 0) (A4 a 0) (A4 b 0) (A4 r x) (A4 c y)) (Aw (Asi (A4 x 0) (A4 y 0) (A4 a 0) (A4 b 0) (A4 r x) (A4 c y)) (Aw (Auv (A4 x 0) (A4 y 0) (A4 a 0) (A4 b 0) (A4 r x) (A4 c y)) (Aw (Auv (A4 x 0) (A4 y 0) (A4 a 0) (A4 b 0) (A4 r x) (A4 c y)) (Aw (Awx (A4 x 0) (A4 y 0) (A4 a 0) (A4 b 0) (A4 r x) (A4 c y)) (Aw (Asj (A4 x 0) (A4 y 0) (A4 a 0) (A4 b 0) (A4 r x) (A4 c y) (A4 (Ab (r-x)) a)) (Aw (Asj (A4 x 0) (A4 y 0) (A4 a 0) (A4 b 0) (A4 r x) (A4 c y) (A4 (Ab (r-x)) a)) (Aw (Awy (A4 x 0) (A4 y 0) (A4 a 0) (A4 b 0) (A4 r x) (A4 c y) (A4 (Ab (r-x)) a)) (Aw (Asj (A4 x 0) (A4 y 0) (A4 a 0) (A4 b 0) (A4 r x) (A4 c y) (A4 (Ab (r-x)) a)) (Aw (Auw (A4 x 0) (A4 y 0) (A4 a 0) (A4 b 0) (A4 r x) (A4 c y) (A4 (Ab (r-x)) a)) (Aw (Auw (A4 x 0) (A4 y 0) (A4 a 0) (A4 b 0) (A4 r x) (A4 c y) (A4 (Ab (r-x)) a)) (Aw (Awz (A4 x 0) (A4 y 0) (A4 a 0) (A4 b 0) (A4 r x) (A4 c y) (A4 (Ab (r-x)) a)) (C2 (Aw0 (A4 x 0) (A4 y 0) (A4 a 0) (A4 b 0) (A4 r x) (A4 c y) (A4 (Ab (r-x)) a) (A4 (Ab (c-y)) b)) rfl rfl)))))))))))))))))))))))))))))))))))
abbrev _root_.Go.Proofs.S1.Aa.Part.Kn:=A3 Tryz.prog 124 Aa.Part.spec
theorem Aa.Part.Ac (hk:Ax Tryz.prog Aa.Part.A6) (h:∀ (r c:Int) (l:List Int) (x y:Int) (a b:Int),Aa.Part.pre [.i r,.i c,.l l,.i x,.i y,.i a,.i b]=true→A8 Aa.Part.E Tryz.f124 [.agg [.int .i64 r,.int .i64 c,.ints .arg .u64 l],.int .i64 x,.int .i64 y,.int .i64 a,.int .i64 b] (Aa.Part.out [.i r,.i c,.l l,.i x,.i y,.i a,.i b])):Aa.Part.Kn :=
  Ak (Az hk _ _ _) Tryz.func124 (by kernel_rfl) (by kernel_rfl) h
def Aa.Stack.A6:List (Nat × Entry):=[(187,Aa.of.Stack.spec),(186,Aa.two.spec)]
def Aa.Stack.E:Env:=A9 (A5 Aa.Stack.A6) (fun _=>false) (fun _=>none) (fun _=>none)
theorem Aa.Stack.ev (N:Nat) (r c:Int) (l:List Int) (p q:Int) (m:List Int):Bp Aa.Stack.E N Tryz.f126 (An Tryz.f126) [.agg [.int .i64 r,.int .i64 c,.ints .arg .u64 l],.agg [.int .i64 p,.int .i64 q,.ints .arg .u64 m]]=bif ((Xh r c l p q m) !=(0:Int)) then some (.tup [.agg [.int .i64 0,.int .i64 0,.nil],.int .i64 (Xh r c l p q m)]) else bif ((c !=q)||(A4 6 (Ab (r+p)))) then some (.tup [.agg [.int .i64 0,.int .i64 0,.nil],.int .i64 3]) else bif ((Bg (Ab (r+p))&&Bg c)&&(A0 r c l&&A0 p q m)&&decide ((Ab (r+p))=r+p∧c=c∧q=c)) then some (.tup [.agg [.int .i64 (Ab (r+p)),.int .i64 c,.ints .fresh .u64 (B5 (Int.toNat (Ab (r+p))) (Int.toNat c) (fun j1 j2=>I4 r c l q m j1 j2))],.int .i64 0]) else none :=
  Eq.trans (by kernel_rfl)
  (Ej rfl (Aw (R7 (c !=q)) (Aw (P2 (c !=q)) (Aw (R7 (c !=q)) (Aw (P2 (c !=q)) (Aw (tt8 (c !=q)) (Aw (P2 (c !=q)) (Aw (Wt (c !=q)) (C2 (tt5 (c !=q) (A4 6 (Ab (r+p)))) rfl rfl)))))))))
abbrev _root_.Go.Proofs.S1.Aa.Stack.Kn:=A3 Tryz.prog 126 Aa.Stack.spec
theorem Aa.Stack.Ac (hk:Ax Tryz.prog Aa.Stack.A6) (h:∀ (r c:Int) (l:List Int) (p q:Int) (m:List Int),Aa.Stack.pre [.i r,.i c,.l l,.i p,.i q,.l m]=true→A8 Aa.Stack.E Tryz.f126 [.agg [.int .i64 r,.int .i64 c,.ints .arg .u64 l],.agg [.int .i64 p,.int .i64 q,.ints .arg .u64 m]] (Aa.Stack.out [.i r,.i c,.l l,.i p,.i q,.l m])):Aa.Stack.Kn :=
  Ak (Az hk _ _ _) Tryz.func126 (by kernel_rfl) (by kernel_rfl) h
def Aa.Mul.A6:List (Nat × Entry):=[(187,Aa.of.Mul.spec),(186,Aa.two.spec)]
def Aa.Mul.E:Env:=A9 (A5 Aa.Mul.A6) (fun _=>false) (fun _=>none) (fun _=>none)
theorem Aa.Mul.ev (N:Nat) (r c:Int) (l:List Int) (p q:Int) (m:List Int):Bp Aa.Mul.E N Tryz.f123 (An Tryz.f123) [.agg [.int .i64 r,.int .i64 c,.ints .arg .u64 l],.agg [.int .i64 p,.int .i64 q,.ints .arg .u64 m]]=bif ((Xh r c l p q m) !=(0:Int)) then some (.tup [.agg [.int .i64 0,.int .i64 0,.nil],.int .i64 (Xh r c l p q m)]) else bif (c !=p) then some (.tup [.agg [.int .i64 0,.int .i64 0,.nil],.int .i64 3]) else bif ((Bg r&&Bg q)&&((A0 r c l&&A0 p q m)&&(Ai l&&Ai m))&&decide (r=r∧q=q∧c=p)) then some (.tup [.agg [.int .i64 r,.int .i64 q,.ints .fresh .u64 (B5 (Int.toNat r) (Int.toNat q) (fun j1 j2=>I9 (G8 c l j1) (Kd p q m j2)))],.int .i64 0]) else none:=by kernel_rfl
abbrev _root_.Go.Proofs.S1.Aa.Mul.Kn:=A3 Tryz.prog 123 Aa.Mul.spec
theorem Aa.Mul.Ac (hk:Ax Tryz.prog Aa.Mul.A6) (h:∀ (r c:Int) (l:List Int) (p q:Int) (m:List Int),Aa.Mul.pre [.i r,.i c,.l l,.i p,.i q,.l m]=true→A8 Aa.Mul.E Tryz.f123 [.agg [.int .i64 r,.int .i64 c,.ints .arg .u64 l],.agg [.int .i64 p,.int .i64 q,.ints .arg .u64 m]] (Aa.Mul.out [.i r,.i c,.l l,.i p,.i q,.l m])):Aa.Mul.Kn :=
  Ak (Az hk _ _ _) Tryz.func123 (by kernel_rfl) (by kernel_rfl) h
end EqOf
end Go.Proofs.S1
end
