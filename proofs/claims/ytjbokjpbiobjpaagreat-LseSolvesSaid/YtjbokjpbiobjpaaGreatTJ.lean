/- A verified evaluator of the program's form and its use for this seat: S1PRoot, S1PRootA, LdxL, S1EqLdx, S1PLdx, S1PLdxA, S1EqRef08, S1EqRef13, S1PRef08, S1EqOf. -/
import Derived.Test.YtjbokjpbiobjpaaGreatTI
import Derived.Test.YtjbokjpbiobjpaaGreatTE
import Derived.Test.YtjbokjpbiobjpaaGreatTF
import Derived.Test.YtjbokjpbiobjpaaGreatTG
set_option linter.unusedVariables false
set_option linter.unusedSimpArgs false
noncomputable section
namespace Go.Proofs.S1
open Go Go.Den Go.Rnd Go.Proofs
open EqRoot
theorem Rg (n s:Nat) (h:s≤64):Dp .u64 (n:Int) (s:Int)=((n / 2^s:Nat):Int):=H7 .u64 n s h
theorem sh2 {n t:Nat} (ht:t<4):Io .u64 (B5 .u64 (n:Int) (2:Int)) (t:Int)=((n%2^62*4+t:Nat):Int):=by
  rw [show (2:Int)=((2:Nat):Int) from rfl,Fx n 2 (by decide),show n*2^2%2^64=(n%2^62)*2^2 by omega]
  exact Nl ht (by omega)
theorem sh1 {n:Nat} (h:n<2^63):B5 .u64 (n:Int) (1:Int)=((2*n:Nat):Int):=by
  rw [show (1:Int)=((1:Nat):Int) from rfl,Fx n 1 (by decide)]
  congr 1; omega
theorem Ays {n:Nat} (h:n<2^63):Io .u64 (B5 .u64 (n:Int) (1:Int)) (1:Int)=((2*n+1:Nat):Int):=by
  rw [show (1:Int)=((1:Nat):Int) from rfl,Fx n 1 (by decide),show n*2^1%2^64=n*2^1 by omega,Nat.mul_comm 2 n]
  exact Nl (k:=1) (by decide) (by omega)
theorem Ani {m i:Nat} (hi:i<32):E9 .u64 (Dp .u64 (m:Int) (Ab ((62:Int)-(Ab ((2:Int)*(i:Int)))))) (3:Int)=((m / 2^(62-2*i)%2^64%4:Nat):Int)∨2^64≤m:=by
  by_cases hm:m<2^64
  · left
    rw [Am (x:=(2:Int)*(i:Int)) (by omega) (by omega),Am (x:=(62:Int)-2*(i:Int)) (by omega) (by omega),show (62:Int)-2*(i:Int)=((62-2*i:Nat):Int) by omega,Rg _ _ (by omega)]
    have hd:m / 2^(62-2*i)<2^64:=Nat.lt_of_le_of_lt (Nat.div_le_self _ _) hm
    rw [show (3:Int)=((2^2-1:Nat):Int) from rfl,Jk 2 hd (by decide)]
    congr 1
    omega
  · right; omega
def Sj (m i:Nat):Nat:=m*2^64 / 2^(128-2*i)
theorem Aoa {m i:Nat} (hi:i<32):Sj m (i+1)=4*Sj m i+m / 2^(62-2*i)%4:=by
  unfold Sj
  have e1:128-2*i=64+(64-2*i):=by omega
  have e2:128-2*(i+1)=64+(62-2*i):=by omega
  rw [e1,e2,Nat.pow_add,Nat.pow_add,Nat.mul_comm (2^64),Nat.mul_comm (2^64),Nat.mul_div_mul_right _ _ (by decide),Nat.mul_div_mul_right _ _ (by decide),show 64-2*i=(62-2*i)+2 by omega,Nat.pow_add,← Nat.div_div_eq_div_mul]
  omega
theorem Ald {m i:Nat} (hi:32≤i) (h:i<64):Sj m (i+1)=4*Sj m i:=by
  unfold Sj
  have e1:(2:Nat)^64=2^(2*i-64)*2^(128-2*i):=by rw [← Nat.pow_add]; congr 1; omega
  have e2:(2:Nat)^64=2^(2*i-64)*4*2^(128-2*(i+1)):=by
    rw [show (4:Nat)=2^2 from rfl,← Nat.pow_add,← Nat.pow_add]; congr 1; omega
  have a1:m*2^64 / 2^(128-2*i)=m*2^(2*i-64):=by rw [e1,← Nat.mul_assoc,Nat.mul_div_cancel _ (Cn _)]
  have a2:m*2^64 / 2^(128-2*(i+1))=m*(2^(2*i-64)*4):=by rw [e2,← Nat.mul_assoc,Nat.mul_div_cancel _ (Cn _)]
  rw [a1,a2,← Nat.mul_assoc,Nat.mul_comm 4]
theorem Are {A B tl th:Nat} (hA:A<2^64) (htl:tl<2^64) (hB:B<2^64) (hth:th<4) :
    (Hb (A:Int) (tl:Int) (0:Int)=0∨Hb (A:Int) (tl:Int) (0:Int)=1) ∧
    (th*2^64+tl≤B*2^64+A→(Hb (B:Int) (th:Int) (Hb (A:Int) (tl:Int) (0:Int))==(0:Int))=true ∧
      ∃ h l:Nat,Nv (B:Int) (th:Int) (Hb (A:Int) (tl:Int) (0:Int))=(h:Int)∧Nv (A:Int) (tl:Int) (0:Int)=(l:Int)∧l<2^64∧h*2^64+l=B*2^64+A-(th*2^64+tl)) ∧
    (B*2^64+A<th*2^64+tl→(Hb (B:Int) (th:Int) (Hb (A:Int) (tl:Int) (0:Int))==(0:Int))=false):=by
  have e1:Hb (A:Int) (tl:Int) (0:Int)=((if A<tl then 1 else 0:Nat):Int):=by
    unfold Hb
    rw [Ay8,Ay8]
    rfl
  by_cases h:A<tl
  · rw [if_pos h] at e1
    rw [e1]
    have e2:Hb (B:Int) (th:Int) ((1:Nat):Int)=((if B<th+1 then 1 else 0:Nat):Int):=by
      unfold Hb
      rw [Ay8,Ay8]
      rfl
    refine ⟨.inr rfl,fun hle=>?_,fun hlt=>?_⟩
    · rw [if_neg (by omega)] at e2
      rw [e2]
      refine ⟨rfl,B-th-1,A+2^64-tl,?_,?_,by omega,by omega⟩
      · unfold Nv
        rw [Ay8,Ay8,Ay8]
        congr 1; omega
      · unfold Nv
        rw [Ay8,Ay8]
        show ((_:Nat):Int)=_
        congr 1
        show (A+18446744073709551616-tl-0)%18446744073709551616=_
        omega
    · rw [if_pos (by omega)] at e2
      rw [e2]; rfl
  · rw [if_neg h] at e1
    rw [e1]
    have e2:Hb (B:Int) (th:Int) ((0:Nat):Int)=((if B<th then 1 else 0:Nat):Int):=by
      unfold Hb
      rw [Ay8,Ay8]
      rfl
    refine ⟨.inl rfl,fun hle=>?_,fun hlt=>?_⟩
    · rw [if_neg (by omega)] at e2
      rw [e2]
      refine ⟨rfl,B-th,A-tl,?_,?_,by omega,by omega⟩
      · unfold Nv
        rw [Ay8,Ay8,Ay8]
        congr 1; omega
      · unfold Nv
        rw [Ay8,Ay8]
        show ((_:Nat):Int)=_
        congr 1
        show (A+18446744073709551616-tl-0)%18446744073709551616=_
        omega
    · rw [if_pos (by omega)] at e2
      rw [e2]; rfl
theorem glue (n t:Nat):n / 2^62*2^64+(n%2^62*4+t)=4*n+t:=by omega
theorem Al0 (N:Nat) {m:Nat} (hm:m<2^63):∀ (k i F rt rest:Nat),i+k=64→k<F→Sj m i=rt*rt+rest→rest≤2*rt→rt<2^i→∀ hi lo:Nat,hi*2^64+lo=rest→lo<2^64 →
    root.G9.L0 N F (m:Int) (rt:Int) (hi:Int) (lo:Int) (i:Int)=some (.tup [.int .u64 (Uw m),.bool (Ux m)]):=by
  intro k
  induction k with
  | zero =>
    intro i F rt rest hi hF hP hr hb h l e hl
    obtain ⟨F,rfl⟩:∃ G,F=G+1:=⟨F-1,by omega⟩
    obtain rfl:i=64:=by omega
    have hP':m*2^64=rt*rt+rest:=by
      rw [← hP]; unfold Sj
      rw [show 128-2*64=0 from rfl,Nat.pow_zero,Nat.div_one]
    have hroot:=Ark hP' hr
    rw [root.G9.Au,Aq,Azb (by omega),Aza]
    have e1:Uw (m:Int)=(rt:Int):=by unfold Uw; rw [Ay8,← hroot]
    have e2:Ux (m:Int)=(bif ((h:Int)==(0:Int)) then ((l:Int)==(0:Int)) else false):=by
      unfold Ux
      rw [Ay8,← hroot,hP']
      by_cases h0:h=0
      · subst h0
        rw [show (((0:Nat):Int)==(0:Int))=true from rfl,Ay6,Azm,Azd,beq_iff_eq]
        omega
      · rw [show ((h:Int)==(0:Int))=false by rw [beq_eq_false_iff_ne]; omega,Aza,Azb]
        omega
    rw [e1,e2]
  | succ k ih =>
    intro i F rt rest hi hF hP hr hb h l e hl
    obtain ⟨F,rfl⟩:∃ G,F=G+1:=⟨F-1,by omega⟩
    have hp:2^i≤2^63:=Azl (by decide) (by omega)
    have hi63:2^(i+1)=2*2^i:=by rw [Nat.pow_succ,Nat.mul_comm]
    have f1:2*rt+1<2^(i+1):=by rw [hi63]; omega
    have f2:2*rt<2^(i+1):=by omega
    have hh:h=0:=by omega
    subst hh
    have hrest:rest=l:=by omega
    subst hrest
    obtain ⟨two,t4,hP',hcode⟩:∃ two:Nat,two<4∧Sj m (i+1)=4*Sj m i+two ∧
        root.G9.L0 N (F+1) (m:Int) (rt:Int) ((0:Nat):Int) (rest:Int) (i:Int) =
        (bif (decide ((Hb (Io .u64 (B5 .u64 (rest:Int) (2:Int)) (two:Int)) (Io .u64 (B5 .u64 (rt:Int) (2:Int)) (1:Int)) (0:Int))≤1)) then
          bif ((Hb (Io .u64 (B5 .u64 ((0:Nat):Int) (2:Int)) (Dp .u64 (rest:Int) (62:Int))) (Dp .u64 (rt:Int) (62:Int)) (Hb (Io .u64 (B5 .u64 (rest:Int) (2:Int)) (two:Int)) (Io .u64 (B5 .u64 (rt:Int) (2:Int)) (1:Int)) (0:Int)))==(0:Int)) then
            root.G9.L0 N F (m:Int) (Io .u64 (B5 .u64 (rt:Int) (1:Int)) (1:Int)) (Nv (Io .u64 (B5 .u64 ((0:Nat):Int) (2:Int)) (Dp .u64 (rest:Int) (62:Int))) (Dp .u64 (rt:Int) (62:Int)) (Hb (Io .u64 (B5 .u64 (rest:Int) (2:Int)) (two:Int)) (Io .u64 (B5 .u64 (rt:Int) (2:Int)) (1:Int)) (0:Int))) (Nv (Io .u64 (B5 .u64 (rest:Int) (2:Int)) (two:Int)) (Io .u64 (B5 .u64 (rt:Int) (2:Int)) (1:Int)) (0:Int)) (Ab ((i:Int)+(1:Int)))
          else root.G9.L0 N F (m:Int) (B5 .u64 (rt:Int) (1:Int)) (Io .u64 (B5 .u64 ((0:Nat):Int) (2:Int)) (Dp .u64 (rest:Int) (62:Int))) (Io .u64 (B5 .u64 (rest:Int) (2:Int)) (two:Int)) (Ab ((i:Int)+(1:Int)))
        else none):=by
      by_cases h32:i<32
      · refine ⟨m / 2^(62-2*i)%4,Nat.mod_lt _ (by decide),Aoa h32,?_⟩
        have ht:=(Ani (m:=m) h32).resolve_right (by omega)
        have hq:m / 2^(62-2*i)%2^64%4=m / 2^(62-2*i)%4:=by omega
        rw [hq] at ht
        rw [root.G9.Au,Aq,Ay7 (show (i:Int)<64 by omega),Ay6,Aq,Ay7 (show (i:Int)<32 by omega),Ay6,ht,Am (x:=(2:Int)*(i:Int)) (by omega) (by omega),Am (x:=(62:Int)-2*(i:Int)) (by omega) (by omega),Ay7 (show (0:Int)≤62-2*(i:Int) by omega),Ay6]
      · refine ⟨0,by decide,by rw [Ald (by omega) (by omega),Nat.add_zero],?_⟩
        rw [root.G9.Au,Aq,Ay7 (show (i:Int)<64 by omega),Ay6,Aq,Azb (show ¬ (i:Int)<32 by omega),Aza]
        rfl
    obtain ⟨s1,s2⟩:=Aij hP hr t4
    have eA:=sh2 (n:=rest) t4
    have eT:=sh2 (n:=rt) (t:=1) (by decide)
    have eB:Io .u64 (B5 .u64 ((0:Nat):Int) (2:Int)) (Dp .u64 (rest:Int) (62:Int))=((rest / 2^62:Nat):Int):=by
      rw [show (62:Int)=((62:Nat):Int) from rfl,Rg _ _ (by decide),sh2 (n:=0) (t:=rest / 2^62) (by omega)]
      congr 1; omega
    have eH:Dp .u64 (rt:Int) (62:Int)=((rt / 2^62:Nat):Int):=by rw [show (62:Int)=((62:Nat):Int) from rfl,Rg _ _ (by decide)]
    have eT':Io .u64 (B5 .u64 (rt:Int) (2:Int)) (1:Int)=((rt%2^62*4+1:Nat):Int):=eT
    obtain ⟨b1,b2,b3⟩:=Are (A:=rest%2^62*4+two) (B:=rest / 2^62) (tl:=rt%2^62*4+1) (th:=rt / 2^62) (by omega) (by omega) (by omega) (by omega)
    rw [hcode,eA,eT',eB,eH,Ay7 (by rcases b1 with b | b<;>rw [b]<;>decide),Ay6,Am (by omega) (by omega)]
    by_cases hc:4*rt+1≤4*rest+two
    · obtain ⟨c1,hh,ll,c2,c3,c4,c5⟩:=b2 (by rw [glue,glue]; exact hc)
      obtain ⟨d1,d2⟩:=s1 hc
      rw [c1,Ay6,c2,c3,Ays (by omega)]
      refine ih (i+1) F (2*rt+1) (4*rest+two-(4*rt+1)) (by omega) (by omega) (hP'.trans d1) d2 f1 hh ll ?_ c4
      rw [c5,glue,glue]
    · rw [b3 (by rw [glue,glue]; omega),Aza,sh1 (by omega)]
      obtain ⟨d1,d2⟩:=s2 (by omega)
      refine ih (i+1) F (2*rt) (4*rest+two) (by omega) (by omega) (hP'.trans d1) d2 f2 _ _ (glue _ _) ?_
      clear hcode
      omega
theorem root.G9.known:root.G9.Kn:=root.G9.Ac .nil fun m hp=>by
  have hp:=Aw.1 hp
  obtain ⟨n,rfl⟩:∃ n:Nat,m=n:=⟨m.toNat,by omega⟩
  refine ⟨65,root.G9.out [.i n],[],?_,Wk.G6 (.cons .int (.cons .bool .nil))⟩
  rw [root.G9.ev]
  have h0:Sj n 0=0*0+0:=by
    unfold Sj
    rw [Nat.div_eq_of_lt]
    show n*18446744073709551616<340282366920938463463374607431768211456
    omega
  exact Al0 65 (by omega) 64 0 65 0 0 rfl (by omega) h0 (Nat.le_refl 0) Nat.one_pos 0 0 rfl (Nat.pow_pos (by decide))
open EqRoot
theorem Y5 {b:Nat} (h:Ax b≠0):Fj (Ax b:Int)=((Ax b).log2:Int)+1:=by
  unfold Fj
  rw [if_neg (by omega),Ay8]
theorem Akv {w:Nat} {E:Int} {s:Bool} (hw:2^62≤w) (n:Nat) (h:Ti n=w) (hs:s=decide (w*w≠n)) :
    Gx false (w / 2) (E+2) (bif s then true else decide (w%2=1))=(Cm (Gy n) E,flagsOf (Gy n) E):=by
  have e1:Gy n / 2^2=w / 2:=by unfold Gy; rw [h]; split<;>omega
  have e2:(bif s then true else decide (w%2=1))=decide (Gy n%2^2≠0):=by
    rw [hs]
    unfold Gy
    rw [h]
    by_cases h0:w*w=n
    · rw [Azb (by omega),Aza,if_pos h0,decide_eq_decide]; omega
    · rw [Ay7 h0,Ay6,if_neg h0]; symm; exact Ay7 (by omega)
  rw [← e1]
  have:=Uq false (V:=Gy n) (k:=2) (E:=E) (e:=E+2) rfl e2 (by rw [e1]; omega) (by left; rw [e1]; omega)
  rw [T4] at this
  exact this
theorem root.Sqrt.num {b:Nat} (hb:b<2^64) (h4:An b≠4) (h:¬ (An b=0∨b=Ee)) (hn:Bu b=false) {z:Nat} (hz:2^60≤Ax b*2^z) (hz2:Ax b*2^z<2^62) (he:(A3 b-(z:Int))%2=0) (z60:z≤62) :
    root.Sqrt.L0 2 2 (A3 b-(z:Int)) (Uw ((Ax b*2^z:Nat):Int)) (!(Ux ((Ax b*2^z:Nat):Int)))=some (.tup [.int .u64 (F8 (b:Int)),.int .u8 (Qt (b:Int))]):=by
  have hE:=E2 b
  have hM:=Fs b
  have h3:An b≠3:=fun h3=>by
    refine h (.inr ?_)
    have hpn:Bu b=false:=hn
    unfold Bu at hpn
    have hlt:b<2^63:=by simpa using hpn
    unfold An at h3
    have hp:=Jt b
    unfold D6 at h3
    unfold Dc at h3
    unfold Ee
    split at h3
    · split at h3
      · omega
      · omega
    · split at h3
      · omega
      · split at h3<;>omega
  have hm:Ax b≠0:=fun h0=>h (.inl ((Hr h3 h4).1 h0))
  have eN:Ax b*2^z*2^64=Ax b*2^(z+64):=by rw [Nat.mul_assoc,← Nat.pow_add]
  have i1:2^62≤Ti (Ax b*2^z*2^64):=Adb (t:=62) (by omega)
  have i2:=(Q6 (Ax b*2^z*2^64)).1
  have i3:Ti (Ax b*2^z*2^64)<2^63:=by
    refine Aep (Nat.lt_of_le_of_lt i2 ?_)
    show _<9223372036854775808*9223372036854775808
    omega
  have r1:Uw ((Ax b*2^z:Nat):Int)=(Ti (Ax b*2^z*2^64):Int):=by unfold Uw; rw [Ay8]
  have r2:(!(Ux ((Ax b*2^z:Nat):Int)))=decide (Ti (Ax b*2^z*2^64)*Ti (Ax b*2^z*2^64)≠Ax b*2^z*2^64):=by
    unfold Ux; rw [Ay8,← decide_not]
  obtain ⟨k1,k2⟩:=Aey hm
  have same:=Aaz (m:=Ax b) (k:=z+64) (l:=Md b) (E:=(A3 b-(z:Int)) / 2-33) (F:=(A3 b-(Md b:Int)) / 2-1) (by rw [← eN]; omega) k1 (by omega)
  rw [← eN] at same
  have near:=Akv (E:=(A3 b-(z:Int)) / 2-33) i1 _ rfl r2
  rw [same.1,same.2] at near
  have sq:Oq b=_:=Aeo h4 h hn
  rw [r1,r2]
  rw [r2] at near
  generalize Ti (Ax b*2^z*2^64)=w at *
  have w1:Ep (4611686018427387904:Int) (w:Int)=true:=by rw [Ev]; exact Ay7 (by omega)
  have w2:Dp .u64 (w:Int) (1:Int)=((w / 2:Nat):Int):=by rw [show (1:Int)=((1:Nat):Int) from rfl,Rg _ _ (by decide)]
  have w3:((E9 .u64 (w:Int) (1:Int))==(1:Int))=decide (w%2=1):=by
    rw [show E9 .u64 (w:Int) (1:Int)=((w%2^1:Nat):Int) from Jk 1 (by omega) (by decide),Azm,beq_iff_eq,Azd]
    omega
  have w4:Ep (4611686018427387904:Int) ((w / 2:Nat):Int)=false:=by rw [Ev]; exact Azb (by omega)
  have w5:Ab (Ab (Int.tdiv (A3 b-(z:Int)+2) 2)-32)=(A3 b-(z:Int)) / 2-33+2:=by
    have:Int.tdiv (A3 b-(z:Int)+2) 2=(A3 b-(z:Int)) / 2+1:=by
      rw [Int.tdiv_eq_ediv]
      split<;>omega
    rw [this,Am (x:=(A3 b-(z:Int)) / 2+1) (by omega) (by omega),Am (by omega) (by omega)]
    omega
  have w6:Ab (A3 b-(z:Int)+2)=A3 b-(z:Int)+2:=Am (by omega) (by omega)
  generalize hs:decide (w*w≠Ax b*2^z*2^64)=s at *
  have pre:Eo ((w / 2:Nat):Int) ((A3 b-(z:Int)) / 2-33+2) (bif s then true else decide (w%2=1))=true:=Aw.2 ⟨by omega,by omega,by omega,by omega,fun _=>.inl (by omega)⟩
  rw [show (2:Nat)=1+1 from rfl,root.Sqrt.Au,w1,Ay6,w2,w3,w6,show (1:Nat)=0+1 from rfl,root.Sqrt.Au,w4,Aza,w5,pre,Ay6]
  unfold Fi Fh F8 Qt
  rw [Ay8,Ay8,near,sq]
theorem root.Sqrt.known:root.Sqrt.Kn:=root.Sqrt.Ac (.cons C1.B6.known (.cons root.G9.known (.cons soft.Kind.known (.cons soft.Dn.known (.cons soft.Gp.known (.cons soft.Sign.known .nil)))))) fun a hp=>by
  obtain ⟨b,rfl,hb⟩:=Bl (x:=a) hp
  refine ⟨2,root.Sqrt.out [.i b],[],?_,Wk.G6 (.cons .int (.cons .int .nil))⟩
  show _=some (DV.tup [.int .u64 (F8 (b:Int)),.int .u8 (Qt (b:Int))])
  have hk:Be (b:Int)=(An b:Int):=rfl
  rw [root.Sqrt.ev,Cb hb,Ay6,Ay6,Ay6,Ay6,hk]
  by_cases h4:An b=4
  · rw [h4,show (((4:Nat):Int)==(4:Int))=true from rfl,Ay6]
    unfold F8 Qt
    rw [Ay8,X1 h4]; rfl
  have k4:(((An b:Nat):Int)==(4:Int))=false:=by rw [beq_eq_false_iff_ne]; omega
  rw [k4,Aza]
  by_cases h0:An b=0
  · rw [h0,show (((0:Nat):Int)==(0:Int))=true from rfl,Ay6]
    unfold F8 Qt
    rw [Ay8,Oo h4 (.inl h0)]; rfl
  have k0:(((An b:Nat):Int)==(0:Int))=false:=by rw [beq_eq_false_iff_ne]; omega
  rw [k0,Aza]
  by_cases hi:b=Ee
  · rw [show (((b:Nat):Int)==(9218868437227405312:Int))=true by rw [hi]; rfl,Ay6]
    unfold F8 Qt
    rw [Ay8,Oo h4 (.inr hi)]; rfl
  have ki:(((b:Nat):Int)==(9218868437227405312:Int))=false:=by
    rw [beq_eq_false_iff_ne]; intro hh; refine hi (show b=9218868437227405312 from ?_); omega
  rw [ki,Aza]
  have hh:¬ (An b=0∨b=Ee):=by rintro (h | h); exact h0 h; exact hi h
  have hneg:D0 (b:Int)=Bu b:=rfl
  rw [hneg]
  cases hn:Bu b with
  | true =>
    rw [Ay6]
    unfold F8 Qt
    rw [Ay8,T3 h4 hh hn]; rfl
  | false =>
    rw [Aza]
    have hm:Ax b≠0:=fun hz=>by
      have h3:An b≠3:=fun h3=>by
        rcases Hx b with ⟨p,_,_⟩ | ⟨_,_,q⟩ | ⟨_,q,_⟩
        · unfold Ax at hz
          rw [if_neg (by omega)] at hz
          omega
        · omega
        · exact q h3
      exact hh (.inl ((Hr h3 h4).1 hz))
    have hM:=Fs b
    have hE:=E2 b
    have hl:(Ax b).log2≤52:=by have:=(Nat.log2_lt hm).2 (show Ax b<2^53 by omega); omega
    have e1:Bw (b:Int)=(Ax b:Int):=rfl
    have e2:Bh (b:Int)=A3 b:=rfl
    have l1:∀ z:Nat,(Ax b).log2+z=60∨(Ax b).log2+z=61→2^60≤Ax b*2^z∧Ax b*2^z<2^62:=by
      intro z hz
      have hlz:=Lr (Ax b) z hm
      have hne:Ax b*2^z≠0:=I5 hm
      constructor
      · rw [← Nat.le_log2 hne]; omega
      · rw [← Nat.log2_lt hne]; omega
    have ez:Ab ((64-(((Ax b).log2:Int)+1))-(2:Int))=((61-(Ax b).log2:Nat):Int):=by rw [Am (by omega) (by omega)]; omega
    have ez':Ab (((61-(Ax b).log2:Nat):Int)-(1:Int))=((60-(Ax b).log2:Nat):Int):=by rw [Am (by omega) (by omega)]; omega
    rw [e1,e2,Cb (n:=Ax b) (by omega),Ay6,Y5 hm,ez,ez',Am (x:=A3 b-((61-(Ax b).log2:Nat):Int)) (by omega) (by omega),Am (x:=A3 b-((60-(Ax b).log2:Nat):Int)) (by omega) (by omega)]
    by_cases hp2:(A3 b-((61-(Ax b).log2:Nat):Int))%2=0
    · have t0:(Int.tmod (A3 b-((61-(Ax b).log2:Nat):Int)) (2:Int) !=(0:Int))=false:=by
        rw [bne_eq_false_iff_eq]; exact Int.tmod_eq_zero_of_dvd (Int.dvd_of_emod_eq_zero hp2)
      obtain ⟨m1,m2⟩:=l1 (61-(Ax b).log2) (by omega)
      rw [t0,Aza,Ay7 (by omega),Ay6,Fx _ _ (by omega),Azj (by omega),Aw.2 (by omega),Ay6]
      exact root.Sqrt.num hb h4 hh hn m1 m2 hp2 (by omega)
    · have t0:(Int.tmod (A3 b-((61-(Ax b).log2:Nat):Int)) (2:Int) !=(0:Int))=true:=by
        rw [bne_iff_ne]; intro hz; exact hp2 (Int.emod_eq_zero_of_dvd (Int.dvd_of_tmod_eq_zero hz))
      obtain ⟨m1,m2⟩:=l1 (60-(Ax b).log2) (by omega)
      rw [t0,Ay6,Ay7 (by omega),Ay6,Fx _ _ (by omega),Azj (by omega),Aw.2 (by omega),Ay6]
      exact root.Sqrt.num hb h4 hh hn m1 m2 (by omega) (by omega)
theorem Ah.Sqrt.known:Ah.Sqrt.Kn:=Ah.Sqrt.Ac (.cons root.Sqrt.known .nil) fun a hp=>by
  have hp:Ag a=true:=hp
  refine ⟨0,Ah.Sqrt.out [.i a],[],?_,.int⟩
  rw [Ah.Sqrt.ev,hp]; rfl
theorem compare.L4.known:compare.L4.Kn:=compare.L4.Ac (.cons C1.Lx.known (.cons soft.Finite.known (.cons soft.Kind.known (.cons soft.Gp.known .nil)))) fun a hp=>by
  obtain ⟨b,rfl,hb⟩:=Bl (x:=a) hp
  refine ⟨0,compare.L4.out [.i b],[],?_,.int⟩
  show _=some (DV.int .i64 (Bs (b:Int)))
  have hk:Be (b:Int)=(An b:Int):=rfl
  have hf:Da (b:Int)=Kp b:=rfl
  have hE:=E2 b
  have hM:=Fs b
  rw [compare.L4.ev,Cb hb,Ay6,Bool.or_true,Ay6,hk,hf]
  unfold Bs
  rw [Ay8]
  unfold Amf
  cases hfin:Kp b with
  | false=>rfl
  | true =>
    by_cases h0:An b=0
    · rw [h0]; rfl
    · have k0:(((An b:Nat):Int)==(0:Int))=false:=by rw [beq_eq_false_iff_ne]; omega
      have hm:Ax b≠0:=fun hz=>by
        obtain ⟨f4,f3⟩:=Q9 hfin
        exact h0 ((Hr f3 f4).1 hz)
      have hl:(Ax b).log2≤52:=by have:=(Nat.log2_lt hm).2 (show Ax b<2^53 by omega); omega
      have e1:Bw (b:Int)=(Ax b:Int):=rfl
      have e2:Bh (b:Int)=A3 b:=rfl
      rw [k0,if_pos ⟨rfl,h0⟩,Bool.not_true,Bool.false_or,Aza,Ay6,e1,e2,Cb (n:=Ax b) (by omega),Ay6,Y5 hm,Am (x:=((Ax b).log2:Int)+1-1) (by omega) (by omega),Am (by omega) (by omega)]
      congr 2; omega
theorem Ael {x:List Int} {i:Nat} (h:i<x.length) (k s:Int):Aem k s (x.drop i)=Aem k (J8 s (D1 (By (x.getD i 0) k) (By (x.getD i 0) k))) (x.drop (i+1)):=by
  rw [Hi h,Aem]
theorem Alj (N:Nat) {x:List Int} (hx:Cz x=true) (hl:x.length≤1000):∀ (k i F:Nat) (s:Int),i+k=x.length→k<F→Ag s=true →
    Ah.Norm.L0 N F x s (i:Int)=some (.tup [.int .u64 (By (F8 (Aem (-Bs (Bf x)) s (x.drop i))) (Bs (Bf x))),.int .i64 0]):=by
  obtain ⟨_,hu⟩:=Ii hx
  have he:=Zm (Bf x)
  intro k
  induction k with
  | zero =>
    intro i F s hi hF hs
    obtain ⟨F,rfl⟩:∃ G,F=G+1:=⟨F-1,by omega⟩
    rw [Ah.Norm.Au,Aq,Azb (by omega),Aza,hs,Ay6,show Dj (F8 s) (Bs (Bf x))=true from Ad.2 ⟨Ace hs,Aw.2 (by omega)⟩,Ay6,Azk (by omega)]
    rfl
  | succ k ih =>
    intro i F s hi hF hs
    obtain ⟨F,rfl⟩:∃ G,F=G+1:=⟨F-1,by omega⟩
    rw [Ah.Norm.Au,Aq,Ay7 (show (i:Int)<(x.length:Int) by omega),Ay6,Ay7 (show (0:Int)≤(i:Int) by omega),Azc,Ay6,Ay8,Am (x:=0-Bs (Bf x)) (by omega) (by omega),show (0:Int)-Bs (Bf x)=-Bs (Bf x) by omega,
      show Dj (List.getD x i 0) (-Bs (Bf x))=true from Ad.2 ⟨hu i (by omega),Aw.2 (by omega)⟩,Ay6,H6 (hu i (by omega)),Azc,Ay6,hs,Ia,Azc,Ay6,Ael (by omega),Am (by omega) (by omega)]
    exact ih (i+1) F _ (by omega) (by omega) (Aiv hs (Ia _ _))
theorem Ah.Norm.known:Ah.Norm.Kn:=Ah.Norm.Ac (.cons compare.L4.known (.cons soft.Finite.known (.cons Ah.Add.known (.cons Ah.Bq.known (.cons Ah.Mul.known (.cons Ah.Bt.known (.cons Ah.Sqrt.known .nil))))))) fun x hp=>by
  obtain ⟨hx,hl⟩:=Ad.1 (show (Cz x&&Dh (List.length x≤64))=true from hp)
  have hl:=Aw.1 hl
  refine ⟨65,Ah.Norm.out [.l x],[],?_,Wk.G6 (.cons .int (.cons .int .nil))⟩
  show _=some (DV.tup [.int .u64 (Dq x),.int .i64 0])
  rw [Ah.Norm.ev,Aq,Azb (by omega),Aza,hx,Ay6,Oi,Bool.or_true,Ay6]
  unfold Dq
  by_cases h:Bf x=0∨Da (Bf x)=false
  · have:((Bf x==(0:Int))||(!(Da (Bf x))))=true:=by
      rcases h with h | h
      · rw [h]; rfl
      · rw [h,Bool.not_false,Bool.or_true]
    rw [this,Ay6,if_pos h]
  · have:((Bf x==(0:Int))||(!(Da (Bf x))))=false:=by
      rw [Bool.or_eq_false_iff,beq_eq_false_iff_ne,Bool.not_eq_false']
      refine ⟨fun h0=>h (.inl h0),?_⟩
      cases hf:Da (Bf x) with
      | true=>rfl
      | false=>exact absurd (.inr hf) h
    rw [this,Aza,Ay6,if_neg h]
    exact Alj 65 hx (by omega) x.length 0 65 0 (by omega) (by omega) Jd
end Go.Proofs.S1
namespace Go.Rnd
open Go.Den
theorem p52:Ax 4841369599423283200=2^52∧A3 4841369599423283200=0∧An 4841369599423283200=2∧Bu 4841369599423283200=false:=by decide +kernel
theorem p53:Ax 4368491638549381120=2^52∧A3 4368491638549381120=-105∧An 4368491638549381120=2∧Bu 4368491638549381120=false:=by decide +kernel
theorem Aev {L:Int} {q:Nat} (b1:2^52≤q) (b2:q<2^53) (he:-1074≤L) (hi:L+1074≤2045):min ((L+1074).toNat*2^52+q) 9218868437227405312=(L+1075).toNat*2^52+(q-2^52):=by
  obtain ⟨t,rfl⟩:∃ t:Nat,L=t-1074:=⟨(L+1074).toNat,by omega⟩
  have e1:((t:Int)-1074+1074).toNat=t:=by omega
  have e2:((t:Int)-1074+1075).toNat=t+1:=by omega
  rw [e1,e2]
  omega
theorem Anx {m:Nat} (h0:m≠0) (h:m.log2≤52) {e:Int} (he:-1074≤e+m.log2-52) (hi:e+m.log2-52+1074≤2045) :
    Cm m e=(e+m.log2-52+1075).toNat*2^52+(m*2^(52-m.log2)-2^52)∧2^52≤m*2^(52-m.log2)∧m*2^(52-m.log2)<2^53:=by
  have hl:=Lr m (52-m.log2) h0
  have hne:m*2^(52-m.log2)≠0:=I5 h0
  have b1:2^52≤m*2^(52-m.log2):=by rw [← Nat.le_log2 hne,hl]; omega
  have b2:m*2^(52-m.log2)<2^53:=by rw [← Nat.log2_lt hne,hl]; omega
  have hs:=(El m (52-m.log2) e).1
  have ee:e-((52-m.log2:Nat):Int)=e+m.log2-52:=by omega
  rw [ee] at hs
  exact ⟨hs.symm.trans ((Mw b1 b2 (by omega)).trans (Aev b1 b2 he hi)),b1,b2⟩
theorem Aoj {x:Nat} (hx:x<2^64) (h3:An x≠3) (h4:An x≠4) (h0:An x≠0) :
    ∃ P f d:Nat,1≤P∧P≤2046∧f<2^52∧Mk x=Bk (Bu x) (P*2^52+f)∧f+2^52=Ax x*2^d∧(P:Int)-1075=A3 x-Ji x-d:=by
  have hf:=Kl x
  have hp:=Jt x
  have hm:Ax x≠0:=fun h=>h0 ((Hr h3 h4).1 h)
  have hw:=Mv hx
  have hab:Hl x=D6 x*2^52+Dc x:=by unfold Hl D6 Dc; omega
  have hp2:D6 x≠2047:=fun h=>by
    rcases Hx x with ⟨_,_,k⟩ | ⟨_,_,k⟩ | ⟨k,_,_⟩
    · exact h3 k
    · exact h4 k
    · omega
  unfold Mk Ji
  by_cases hs:Hl x<4503599627370496
  · have hz:D6 x=0:=by omega
    have eM:Ax x=Dc x:=by unfold Ax; rw [if_pos hz]
    have eE:A3 x=-1074:=by unfold A3; rw [if_pos hz]
    have hl:(Ax x).log2≤51:=by have:=(Nat.log2_lt hm).2 (show Ax x<2^52 by omega); omega
    rw [if_pos hs,if_pos hs]
    have hmul:=mul_pow h3 h4 (by rw [p52.2.2.1]; decide) (by rw [p52.2.2.1]; decide) p52.1 p52.2.2.2
    rw [hmul,p52.2.1,eE]
    obtain ⟨r1,r2,r3⟩:=Anx (e:=-1074+0+52) hm (by omega) (by omega) (by omega)
    refine ⟨(Ax x).log2+1,Ax x*2^(52-(Ax x).log2)-2^52,52-(Ax x).log2,by omega,by omega,by omega,?_,by omega,by omega⟩
    have ht:(-1074+0+52+((Ax x).log2:Int)-52+1075).toNat=(Ax x).log2+1:=by omega
    rw [ht] at r1
    exact congrArg (Bk (Bu x)) r1
  · rw [if_neg hs,if_neg hs]
    have hz:D6 x≠0:=by
      intro h
      rw [h] at hab
      omega
    have eM:Ax x=Dc x+2^52:=by unfold Ax; rw [if_neg hz]
    have eE:A3 x=(D6 x:Int)-1075:=by unfold A3; rw [if_neg hz]
    refine ⟨D6 x,Dc x,0,by omega,by omega,hf,?_,by rw [eM,Nat.pow_zero,Nat.mul_one],by omega⟩
    rw [← hab]
    exact hw.symm
theorem Rp {s:Bool} {P f:Nat} (h1:1≤P) (h2:P≤2046) (hf:f<2^52) :
    D6 (Bk s (P*2^52+f))=P∧Dc (Bk s (P*2^52+f))=f∧Bu (Bk s (P*2^52+f))=s∧Bk s (P*2^52+f)<2^64∧An (Bk s (P*2^52+f))=2 ∧
    Ax (Bk s (P*2^52+f))=f+2^52∧A3 (Bk s (P*2^52+f))=(P:Int)-1075:=by
  have e1:D6 (Bk s (P*2^52+f))=P:=by
    unfold D6 Bk
    cases s
    · rw [if_neg (by decide)]; omega
    · rw [if_pos rfl]; omega
  have e2:Dc (Bk s (P*2^52+f))=f:=by
    unfold Dc Bk
    cases s
    · rw [if_neg (by decide)]; omega
    · rw [if_pos rfl]; omega
  have e3:Bu (Bk s (P*2^52+f))=s:=sign_neg s (by omega)
  have e4:Bk s (P*2^52+f)<2^64:=by
    unfold Bk
    cases s
    · rw [if_neg (by decide)]; omega
    · rw [if_pos rfl]; omega
  refine ⟨e1,e2,e3,e4,?_,?_,?_⟩
  · unfold An; rw [e1,if_neg (by omega),if_pos (by omega)]
  · unfold Ax; rw [e1,e2,if_neg (by omega)]
  · unfold A3; rw [e1,if_neg (by omega)]
theorem Anw {L:Int} {q f:Nat} (hf:f<2^52) (h1:-1074≤L) (h2:L+1074≤2045) (hq:(L+1075).toNat=q):Cm (f+2^52) L=q*2^52+f:=by
  have em:=Aev (L:=L) (q:=f+2^52) (by omega) (by omega) h1 h2
  rw [hq,Nat.add_sub_cancel] at em
  exact (Mw (by omega) (by omega) h1).trans em
theorem Ayv {V:Nat} {E:Int} (h0:V≠0) (h:1024≤E+V.log2):Cm V E=Ee:=by
  have hl:Cl V E=E+V.log2-52:=by unfold Cl; omega
  have hk:=Ada h0 hl
  have hle:=Le V E
  unfold Cm at hle ⊢
  rw [if_neg h0] at hle ⊢
  rw [hl,Ik] at hle ⊢
  generalize kept V E=q at *
  obtain ⟨t,ht⟩:∃ t:Nat,E+(V.log2:Int)-52=t:=⟨(E+(V.log2:Int)-52).toNat,by omega⟩
  rw [ht]
  have:((t:Int)+1074).toNat=t+1074:=by omega
  rw [this]
  omega
theorem Yg {y m:Nat} (h:D4 y=m) (hm:An m≠4):y=m:=by
  unfold D4 at h
  by_cases h4:An y=4
  · rw [if_pos h4] at h
    exact absurd (by rw [← h]; decide) hm
  · rw [if_neg h4] at h; exact h
theorem Q3 (s:Bool) (V:Nat) (E:Int):An (Bk s (Cm V E))≠4:=by
  rw [V8 s (Le V E)]
  split
  · decide
  · split
    · decide
    · split<;>decide
theorem Anv {x P f d:Nat} {k:Int} (hm:Ax x≠0) (he:f+2^52=Ax x*2^d) (hP:(P:Int)-1075=A3 x-Ji x-d) :
    Cm (Ax x) (A3 x+k)=Cm (f+2^52) ((P:Int)-1075+Ji x+k):=by
  have:=(El (Ax x) d (A3 x+k)).1
  rw [← he] at this
  rw [← this]
  congr 1
  omega
end Go.Rnd
namespace Go.Proofs.S1
open Go Go.Den Go.Rnd Go.Proofs
set_option maxRecDepth 100000
namespace EqLdx
def math.H3.A8:List (Nat × Entry):=[]
def math.H3.E:Env:=A9 (A7 math.H3.A8) (fun _=>false) (fun _=>none) (fun _=>none)
theorem math.H3.ev (N x:Nat):Bp math.H3.E N Tryz.f251 (Al Tryz.f251) [.fl x]=some (.fl (x%9223372036854775808)):=by kernel_rfl
abbrev _root_.Go.Proofs.S1.math.H3.Kn:=A5 Tryz.prog 251 math.H3.spec
theorem math.H3.Ac (hk:Ay Tryz.prog math.H3.A8) (h:∀ (x:Nat),math.H3.pre [.f x]=true→Ba math.H3.E Tryz.f251 [.fl x] (math.H3.out [.f x])):math.H3.Kn :=
  Aj (A1 hk _ _ _) Tryz.func251 (by kernel_rfl) (by kernel_rfl) h
def math.Iu.A8:List (Nat × Entry):=[]
def math.Iu.E:Env:=A9 (A7 math.Iu.A8) (fun _=>false) (fun _=>none) (fun _=>none)
theorem math.Iu.ev (N x:Nat):Bp math.Iu.E N Tryz.f241 (Al Tryz.f241) [.fl x]=some (.bool (Ieee.double.order x x !=some .eq)):=by kernel_rfl
abbrev _root_.Go.Proofs.S1.math.Iu.Kn:=A5 Tryz.prog 241 math.Iu.spec
theorem math.Iu.Ac (hk:Ay Tryz.prog math.Iu.A8) (h:∀ (x:Nat),math.Iu.pre [.f x]=true→Ba math.Iu.E Tryz.f241 [.fl x] (math.Iu.out [.f x])):math.Iu.Kn :=
  Aj (A1 hk _ _ _) Tryz.func241 (by kernel_rfl) (by kernel_rfl) h
def math.Iv.A8:List (Nat × Entry):=[(251,math.H3.spec)]
def math.Iv.E:Env:=A9 (A7 math.Iv.A8) (fun _=>false) (fun _=>none) (fun _=>none)
theorem math.Iv.ev (N x:Nat) (s:Int):Bp math.Iv.E N Tryz.f240 (Al Tryz.f240) [.fl x,.int .i64 s]=bif (s==(0:Int)) then some (.bool (Ieee.double.order (Hl x) 9218868437227405311==some .gt)) else bif (A6 s 0) then none else some (.bool (Ieee.double.order x 9218868437227405311==some .gt)):=by kernel_rfl
abbrev _root_.Go.Proofs.S1.math.Iv.Kn:=A5 Tryz.prog 240 math.Iv.spec
theorem math.Iv.Ac (hk:Ay Tryz.prog math.Iv.A8) (h:∀ (x:Nat) (s:Int),math.Iv.pre [.f x,.i s]=true→Ba math.Iv.E Tryz.f240 [.fl x,.int .i64 s] (math.Iv.out [.f x,.i s])):math.Iv.Kn :=
  Aj (A1 hk _ _ _) Tryz.func240 (by kernel_rfl) (by kernel_rfl) h
def math.normalize.A8:List (Nat × Entry):=[(251,math.H3.spec)]
def math.normalize.E:Env:=A9 (A7 math.normalize.A8) (fun _=>false) (fun _=>none) (fun _=>none)
theorem math.normalize.ev (N x:Nat):Bp math.normalize.E N Tryz.f242 (Al Tryz.f242) [.fl x]=bif (Ieee.double.order (Hl x) 4503599627370496==some .lt) then some (.tup [.fl ((Ieee.double.mul x 4841369599423283200).getD nanBits),.int .i64 (-52:Int)]) else some (.tup [.fl x,.int .i64 0]):=by kernel_rfl
abbrev _root_.Go.Proofs.S1.math.normalize.Kn:=A5 Tryz.prog 242 math.normalize.spec
theorem math.normalize.Ac (hk:Ay Tryz.prog math.normalize.A8) (h:∀ (x:Nat),math.normalize.pre [.f x]=true→Ba math.normalize.E Tryz.f242 [.fl x] (math.normalize.out [.f x])):math.normalize.Kn :=
  Aj (A1 hk _ _ _) Tryz.func242 (by kernel_rfl) (by kernel_rfl) h
def math.Ec.A8:List (Nat × Entry):=[]
def math.Ec.E:Env:=Wc (A7 math.Ec.A8) (fun _=>false) (fun _=>none) (fun _=>none) (Ags [])
theorem math.Ec.ev (N x y:Nat):Bp math.Ec.E N Tryz.f243 (Al Tryz.f243) [.fl x,.fl y]=bif (!(F2 x)) then bif (!(F2 y)) then bif (decide (0≤(Io .u64 (G4 .u64 (x:Int) 9223372036854775808) (E9 .u64 (y:Int) 9223372036854775808)))) then some (.fl (Int.toNat (Io .u64 (G4 .u64 (x:Int) 9223372036854775808) (E9 .u64 (y:Int) 9223372036854775808)))) else none else none else none:=by kernel_rfl
abbrev _root_.Go.Proofs.S1.math.Ec.Kn:=A5 Tryz.prog 243 math.Ec.spec
theorem math.Ec.Ac (hk:Ay Tryz.prog math.Ec.A8) (h:∀ (x y:Nat),math.Ec.pre [.f x,.f y]=true→Ba math.Ec.E Tryz.f243 [.fl x,.fl y] (math.Ec.out [.f x,.f y])):math.Ec.Kn :=
  Aj (Xo hk _ _ _ _) Tryz.func243 (by kernel_rfl) (by kernel_rfl) h
def math.Xs.A8:List (Nat × Entry):=[]
def math.Xs.E:Env:=A9 (A7 math.Xs.A8) (fun _=>false) (fun _=>none) (fun _=>none)
theorem math.Xs.ev (N:Nat) (s:Int):Bp math.Xs.E N Tryz.f244 (Al Tryz.f244) [.int .i64 s]=bif (Ep 0 s) then some (.fl 9218868437227405312) else some (.fl 18442240474082181120):=by kernel_rfl
abbrev _root_.Go.Proofs.S1.math.Xs.Kn:=A5 Tryz.prog 244 math.Xs.spec
theorem math.Xs.Ac (hk:Ay Tryz.prog math.Xs.A8) (h:∀ (s:Int),math.Xs.pre [.i s]=true→Ba math.Xs.E Tryz.f244 [.int .i64 s] (math.Xs.out [.i s])):math.Xs.Kn :=
  Aj (A1 hk _ _ _) Tryz.func244 (by kernel_rfl) (by kernel_rfl) h
def math.Hp.A8:List (Nat × Entry):=[(243,math.Ec.spec),(244,math.Xs.spec),(240,math.Iv.spec),(241,math.Iu.spec),(242,math.normalize.spec)]
def math.Hp.E:Env:=Wc (A7 math.Hp.A8) (fun _=>false) (fun _=>none) (fun _=>none) (Ags [])
theorem math.Hp.ev (N x:Nat) (k:Int):Bp math.Hp.E N Tryz.f216 (Al Tryz.f216) [.fl x,.int .i64 k]=bif (Ieee.double.order x 0==some .eq) then some (.fl x) else bif (Tt x&&decide ((0:Int)=0)) then bif ((decide (An x=3))||(Tt x)) then bif ((decide (An x=3))||(decide (An x=4))) then some (.fl x) else bif (Af9 x) then bif (!(F2 (Mk x))) then bif (A6 (Ab ((Ab (k+(Ji x)))+(Ab ((E9 .i64 (Ab (Dp .u64 ((Mk x):Int) 52)) 2047)-1023)))) (-1075:Int)) then bif (Af9 (Mk x)&&decide ((0:Int)=0)) then some (.fl (Bk (Bu (Mk x)) 0)) else none else bif (A6 1023 (Ab ((Ab (k+(Ji x)))+(Ab ((E9 .i64 (Ab (Dp .u64 ((Mk x):Int) 52)) 2047)-1023))))) then bif (Ieee.double.order (Mk x) 0==some .lt) then some (.fl (Bk (decide ((-1:Int)<0)) Ee)) else some (.fl (Bk (decide ((1:Int)<0)) Ee)) else bif (A6 (Ab ((Ab (k+(Ji x)))+(Ab ((E9 .i64 (Ab (Dp .u64 ((Mk x):Int) 52)) 2047)-1023)))) (-1022:Int)) then bif (decide (0≤(Io .u64 (G4 .u64 ((Mk x):Int) 9218868437227405312) (B5 .u64 (Bj (Ab ((Ab ((Ab ((Ab (k+(Ji x)))+(Ab ((E9 .i64 (Ab (Dp .u64 ((Mk x):Int) 52)) 2047)-1023))))+53))+1023))) 52)))) then some (.fl ((Ieee.double.mul 4368491638549381120 (Int.toNat (Io .u64 (G4 .u64 ((Mk x):Int) 9218868437227405312) (B5 .u64 (Bj (Ab ((Ab ((Ab ((Ab (k+(Ji x)))+(Ab ((E9 .i64 (Ab (Dp .u64 ((Mk x):Int) 52)) 2047)-1023))))+53))+1023))) 52)))).getD nanBits)) else none else bif (decide (0≤(Io .u64 (G4 .u64 ((Mk x):Int) 9218868437227405312) (B5 .u64 (Bj (Ab ((Ab ((Ab (k+(Ji x)))+(Ab ((E9 .i64 (Ab (Dp .u64 ((Mk x):Int) 52)) 2047)-1023))))+1023))) 52)))) then some (.fl ((Ieee.double.mul 4607182418800017408 (Int.toNat (Io .u64 (G4 .u64 ((Mk x):Int) 9218868437227405312) (B5 .u64 (Bj (Ab ((Ab ((Ab (k+(Ji x)))+(Ab ((E9 .i64 (Ab (Dp .u64 ((Mk x):Int) 52)) 2047)-1023))))+1023))) 52)))).getD nanBits)) else none else none else none else none else none :=
  Eq.trans (by kernel_rfl)
  (Ea rfl (Ea (Ar (Rs (decide (An x=3))) (Cq (Aq2 (decide (An x=3)) (Tt x)) (Ar (Xb (decide (An x=3))) (Cq (tt5 (decide (An x=3)) (decide (An x=4))) rfl rfl)) rfl)) rfl))
abbrev _root_.Go.Proofs.S1.math.Hp.Kn:=A5 Tryz.prog 216 math.Hp.spec
theorem math.Hp.Ac (hk:Ay Tryz.prog math.Hp.A8) (h:∀ (x:Nat) (k:Int),math.Hp.pre [.f x,.i k]=true→Ba math.Hp.E Tryz.f216 [.fl x,.int .i64 k] (math.Hp.out [.f x,.i k])):math.Hp.Kn :=
  Aj (Xo hk _ _ _ _) Tryz.func216 (by kernel_rfl) (by kernel_rfl) h
def math.Jc.A8:List (Nat × Entry):=[(216,math.Hp.spec)]
def math.Jc.E:Env:=A9 (A7 math.Jc.A8) (fun _=>false) (fun _=>none) (fun _=>none)
theorem math.Jc.ev (N x:Nat) (k:Int):Bp math.Jc.E N Tryz.f165 (Al Tryz.f165) [.fl x,.int .i64 k]=bif (Tt x&&Dh (-2300≤k∧k≤2300)) then some (.fl (I6 x k)) else none:=by kernel_rfl
abbrev _root_.Go.Proofs.S1.math.Jc.Kn:=A5 Tryz.prog 165 math.Jc.spec
theorem math.Jc.Ac (hk:Ay Tryz.prog math.Jc.A8) (h:∀ (x:Nat) (k:Int),math.Jc.pre [.f x,.i k]=true→Ba math.Jc.E Tryz.f165 [.fl x,.int .i64 k] (math.Jc.out [.f x,.i k])):math.Jc.Kn :=
  Aj (A1 hk _ _ _) Tryz.func165 (by kernel_rfl) (by kernel_rfl) h
def Ak.Bt.A8:List (Nat × Entry):=[(165,math.Jc.spec),(102,Ak.B.spec),(159,Ak.F.spec)]
def Ak.Bt.E:Env:=A9 (A7 Ak.Bt.A8) (fun _=>false) (fun _=>none) (fun _=>none)
theorem Ak.Bt.ev (N:Nat) (a k:Int):Bp Ak.Bt.E N Tryz.f96 (Al Tryz.f96) [.int .u64 a,.int .i64 k]=bif (Ag a) then bif (Tt (Int.toNat a)&&Dh (-2300≤k∧k≤2300)) then some (.int .u64 (Ga (I6 (Int.toNat a) k))) else none else none:=by kernel_rfl
abbrev _root_.Go.Proofs.S1.Ak.Bt.Kn:=A5 Tryz.prog 96 Ak.Bt.spec
theorem Ak.Bt.Ac (hk:Ay Tryz.prog Ak.Bt.A8) (h:∀ (a k:Int),Ak.Bt.pre [.i a,.i k]=true→Ba Ak.Bt.E Tryz.f96 [.int .u64 a,.int .i64 k] (Ak.Bt.out [.i a,.i k])):Ak.Bt.Kn :=
  Aj (A1 hk _ _ _) Tryz.func96 (by kernel_rfl) (by kernel_rfl) h
end EqLdx
open EqLdx
theorem Za (n:Nat):F2 n=decide (An n=4):=Yo n
theorem Adx (x:Nat):Hl x<2^64:=Nat.lt_trans (Se x) (by decide)
theorem Q4 (x:Nat):An (Hl x)=An x:=by
  have e1:D6 (Hl x)=D6 x:=by unfold D6 Hl; omega
  have e2:Dc (Hl x)=Dc x:=by unfold Dc Hl; omega
  unfold An
  rw [e1,e2]
theorem Re (x y:Int):(compare x y=.lt↔x<y)∧(compare x y=.gt↔y<x)∧(compare x y=.eq↔x=y):=by
  rcases Int.lt_trichotomy x y with h | h | h
  · rw [Ail h]; refine ⟨by simp [h],?_,?_⟩<;>simp<;>omega
  · subst h
    have:compare x x=.eq:=by simp [compare,compareOfLessAndEq]
    rw [this]; simp
  · rw [Aim h]; refine ⟨?_,by simp [h],?_⟩<;>simp<;>omega
theorem math.H3.known:math.H3.Kn:=math.H3.Ac .nil fun x _=>⟨0,math.H3.out [.f x],[],by rw [math.H3.ev]; rfl,.fl⟩
theorem math.Iu.known:math.Iu.Kn:=math.Iu.Ac .nil fun x hp=>by
  have hx:=Aw.1 (show Tt x=true from hp)
  refine ⟨0,math.Iu.out [.f x],[],?_,.bool⟩
  show _=some (DV.bool (decide (An x=4)))
  rw [math.Iu.ev]
  by_cases h:An x=4
  · rw [V1 hx hx (.inl h),Ay7 h]; rfl
  · rw [O2 hx hx h h,Azb h,(Re _ _).2.2.2 rfl]; rfl
theorem Ata {x:Nat} (hx:x<2^64) (h4:An x≠4):(Ieee.double.order (Hl x) 9218868437227405311==some .gt)=decide (An x=3):=by
  have k1:An 9218868437227405311≠4:=by decide +kernel
  have k2:Ib 9218868437227405311=9218868437227405311:=by decide +kernel
  have ka:Ib (Hl x)=((Hl x:Nat):Int):=by
    have:=O9 false (r:=Hl x) (Se x)
    exact this
  rw [O2 (Adx x) (by decide) (by rw [Q4]; exact h4) k1,k2,ka]
  have hl:=Auz h4
  rw [Azm,beq_iff_eq,Ay9,(Re _ _).2.1,Azd]
  constructor
  · intro h
    refine Decidable.byContradiction fun h3=>?_
    have:=U2 h3 h4
    rw [Ik] at this
    unfold Hl at h
    omega
  · intro h3
    have:=U1 h3
    rw [Ik] at this
    unfold Hl
    omega
theorem math.Iv.known:math.Iv.Kn:=math.Iv.Ac (.cons math.H3.known .nil) fun x s hp=>by
  obtain ⟨h1,h2⟩:=Ad.1 (show (Tt x&&decide (s=0))=true from hp)
  have hx:=Aw.1 h1
  obtain rfl:=of_decide_eq_true h2
  refine ⟨0,math.Iv.out [.f x,.i 0],[],?_,.bool⟩
  show _=some (DV.bool (decide (An x=3)))
  rw [math.Iv.ev,show ((0:Int)==(0:Int))=true from rfl,Ay6]
  by_cases h4:An x=4
  · rw [V1 (Adx x) (by decide) (.inl (by rw [Q4]; exact h4)),Azb (by omega)]; rfl
  · rw [Ata hx h4]
theorem math.normalize.known:math.normalize.Kn:=math.normalize.Ac (.cons math.H3.known .nil) fun x hp=>by
  obtain ⟨hx,h3,h4⟩:=Aw.1 (show Af9 x=true from hp)
  refine ⟨0,math.normalize.out [.f x],[],?_,Wk.G6 (.cons .fl (.cons .int .nil))⟩
  show _=some (DV.tup [.fl (Mk x),.int .i64 (Ji x)])
  have k1:An 4503599627370496≠4:=by decide +kernel
  have k2:Ib 4503599627370496=4503599627370496:=by decide +kernel
  have ka:Ib (Hl x)=((Hl x:Nat):Int):=O9 false (r:=Hl x) (Se x)
  have hc:(Ieee.double.order (Hl x) 4503599627370496==some .lt)=decide (Hl x<4503599627370496):=by
    rw [O2 (Adx x) (by decide) (by rw [Q4]; exact h4) k1,k2,ka,Azm,beq_iff_eq,Ay9,(Re _ _).1,Azd]
    omega
  rw [math.normalize.ev,hc]
  unfold Mk Ji
  by_cases h:Hl x<4503599627370496
  · rw [Ay7 h,Ay6,if_pos h,if_pos h]
    have hm:=mul_pow h3 h4 (by rw [p52.2.2.1]; decide) (by rw [p52.2.2.1]; decide) p52.1 p52.2.2.2
    have:=Yg (Us hx (b:=4841369599423283200) (by decide) G3) (by rw [hm]; exact Q3 _ _ _)
    rw [this]
  · rw [Azb h,Aza,if_neg h,if_neg h]
theorem Ar5 {n:Nat} (h:n<2^64):n &&& 9227875636482146303=n / 2^63*2^63+n%2^52:=by
  have hf:n%2^52<2^63:=by omega
  apply Nat.eq_of_testBit_eq
  intro j
  rw [Nat.testBit_and,show (9227875636482146303:Nat)=2^63*1+(2^52-1) from rfl,Nat.mul_comm (n / 2^63),Nat.testBit_two_pow_mul_add _ (by decide:2^52-1<2^63),Nat.testBit_two_pow_mul_add _ hf]
  by_cases hj:j<63
  · rw [if_pos hj,if_pos hj,Nat.testBit_mod_two_pow,Nat.testBit_two_pow_sub_one,Bool.and_comm]
  · rw [if_neg hj,if_neg hj,Nat.testBit_div_two_pow,Nat.sub_add_cancel (by omega)]
    by_cases h63:j=63
    · subst h63
      show (n.testBit 63&&true)=_
      rw [Bool.and_true]
    · have e1:Nat.testBit 1 (j-63)=false:=by rw [show (1:Nat)=2^0 from rfl,Nat.testBit_two_pow]; exact Azb (by omega)
      have e2:n.testBit j=false:=Nat.testBit_lt_two_pow (Nat.lt_of_lt_of_le h (Azl (by decide) (by omega)))
      rw [e1,e2]; rfl
theorem Agq {n:Nat} (h:n<2^64):G4 .u64 (n:Int) (9218868437227405312:Int)=((n / 2^63*2^63+n%2^52:Nat):Int):=by
  have e:(BitVec.ofInt 64 (n:Int) &&& ~~~(BitVec.ofInt 64 9218868437227405312)).toNat=n / 2^63*2^63+n%2^52:=by
    have e1 : ~~~(BitVec.ofInt 64 9218868437227405312)=BitVec.ofNat 64 9227875636482146303:=by decide
    rw [e1,BitVec.toNat_and,BitVec.toNat_ofNat,BitVec.toNat_ofInt]
    have e2:(((n:Int)%((2^64:Nat):Int)).toNat)=n:=by omega
    rw [e2]
    exact Ar5 h
  have e':(BitVec.ofInt IntKind.u64.bits (n:Int) &&& ~~~(BitVec.ofInt IntKind.u64.bits 9218868437227405312)).toNat=n / 2^63*2^63+n%2^52:=e
  unfold G4
  rw [e']
  exact Tz (by omega)
theorem or3 {A X Y Z W V f:Nat} (h1:A=f ||| X) (h2:X ||| Y=Z) (h3:f ||| Z=W) (h4:W=V):A ||| Y=V:=by rw [h1,Nat.or_assoc,h2,h3,h4]
theorem Ayu (s p f:Nat):(s*2^11+p)*2^52+f=s*2^63+p*2^52+f:=by
  rw [Nat.add_mul,Nat.mul_assoc,← Nat.pow_add]
theorem Aup {s f p:Nat} (hs:s<2) (hf:f<2^52) (hp:p<2048):(s*2^63+f) ||| (p*2^52)=s*2^63+p*2^52+f:=by
  have e1:s*2^63+f=f ||| s*2^11*2^52:=by rw [Nd hf]; omega
  have e2:s*2^11*2^52 ||| p*2^52=(s*2^11+p)*2^52:=by
    have:=Nd (a:=s) (b:=p) (k:=11) hp
    rw [← Nat.shiftLeft_eq,← Nat.shiftLeft_eq p,← Nat.shiftLeft_or_distrib,Nat.or_comm,this,Nat.shiftLeft_eq]
  exact or3 e1 e2 (Nd hf) (Ayu s p f)
theorem Ajh {s:Bool} {P f:Nat} (h2:P≤2046) (hf:f<2^52) {q:Nat} (hq:q<2048) :
    Io .u64 (G4 .u64 ((Bk s (P*2^52+f):Nat):Int) (9218868437227405312:Int)) (B5 .u64 (Bj (q:Int)) (52:Int))=((Bk s (q*2^52+f):Nat):Int):=by
  have h64:Bk s (P*2^52+f)<2^64:=by
    unfold Bk
    cases s
    · rw [if_neg (by decide)]; omega
    · rw [if_pos rfl]; omega
  have ef:Bk s (P*2^52+f)%2^52=f:=by
    unfold Bk
    cases s
    · rw [if_neg (by decide)]; omega
    · rw [if_pos rfl]; omega
  have es:Bk s (P*2^52+f) / 2^63=if s then 1 else 0:=by
    unfold Bk
    cases s
    · rw [if_neg (by decide),if_neg (by decide)]; omega
    · rw [if_pos rfl,if_pos rfl]; omega
  rw [Agq h64,ef,es,Dt (by omega) (by omega),show (52:Int)=((52:Nat):Int) from rfl,Fx q 52 (by decide),Azj (by omega),Vf (by split<;>omega) (by omega),Aup (by split<;>decide) hf hq]
  refine congrArg (fun n:Nat=>(n:Int)) ?_
  unfold Bk
  cases s
  · rw [if_neg (by decide),if_neg (by decide)]; omega
  · rw [if_pos rfl,if_pos rfl]; omega
theorem Apy {s:Bool} {P f:Nat} (h1:1≤P) (h2:P≤2046) (hf:f<2^52):E9 .i64 (Ab (Dp .u64 ((Bk s (P*2^52+f):Nat):Int) (52:Int))) (2047:Int)=(P:Int):=by
  obtain ⟨e1,_,_,h64,_⟩:=Rp (s:=s) h1 h2 hf
  rw [show (52:Int)=((52:Nat):Int) from rfl,Rg _ _ (by decide),Am (by omega) (by omega)]
  have hb:E9 .i64 ((Bk s (P*2^52+f) / 2^52:Nat):Int) (2047:Int)=Ab ((Bk s (P*2^52+f) / 2^52%2048:Nat):Int):=by
    unfold E9
    have e:(BitVec.ofInt 64 ((Bk s (P*2^52+f) / 2^52:Nat):Int) &&& BitVec.ofInt 64 2047).toNat=Bk s (P*2^52+f) / 2^52%2048:=by
      rw [BitVec.toNat_and,Jh,show (BitVec.ofInt 64 2047).toNat=2^11-1 from rfl,Nat.and_two_pow_sub_one_eq_mod]
      omega
    have e':(BitVec.ofInt IntKind.i64.bits ((Bk s (P*2^52+f) / 2^52:Nat):Int) &&& BitVec.ofInt IntKind.i64.bits 2047).toNat=Bk s (P*2^52+f) / 2^52%2048:=e
    rw [e']
    rfl
  unfold D6 at e1
  rw [hb,e1,Am (by omega) (by omega)]
theorem math.Ec.known:math.Ec.Kn:=math.Ec.Ac .nil fun x y hp=>by
  obtain ⟨h1,h2⟩:=Ad.1 (show (Af9 y&&decide (x=0))=true from hp)
  obtain ⟨hy,h3,h4⟩:=Aw.1 (show Dh _=true from h1)
  obtain rfl:=of_decide_eq_true h2
  refine ⟨0,math.Ec.out [.f 0,.f y],[],?_,.fl⟩
  show _=some (DV.fl (Bk (Bu y) 0))
  have n0:F2 0=false:=by decide +kernel
  have ny:F2 y=false:=by rw [Za]; exact Azb h4
  have e1:G4 .u64 ((0:Nat):Int) (9223372036854775808:Int)=((0:Nat):Int):=Z0 (by decide)
  have e2:E9 .u64 (y:Int) (9223372036854775808:Int)=((Bk (Bu y) 0:Nat):Int):=by
    rw [show (9223372036854775808:Int)=((9223372036854775808:Nat):Int) from rfl,Agm hy (by decide)]
    congr 1
    apply Nat.eq_of_testBit_eq
    intro j
    rw [Nat.testBit_and,show (9223372036854775808:Nat)=2^63 from rfl,Nat.testBit_two_pow]
    unfold Bk Bu
    by_cases hn:2^63≤y
    · rw [Ay7 hn,if_pos rfl,Nat.add_zero,Nat.testBit_two_pow]
      by_cases hj:63=j
      · subst hj
        have:y.testBit 63=true:=by
          rw [Nat.testBit_eq_decide_div_mod_eq,Azd]; omega
        rw [this]; rfl
      · rw [Azb hj,Bool.and_false]
    · rw [Azb hn,if_neg (by decide),Nat.zero_testBit]
      by_cases hj:63=j
      · subst hj
        rw [Nat.testBit_lt_two_pow (by omega)]; rfl
      · rw [Azb hj,Bool.and_false]
  have e3:Io .u64 ((0:Nat):Int) ((Bk (Bu y) 0:Nat):Int)=((Bk (Bu y) 0:Nat):Int):=by
    rw [Vf (by decide) (by unfold Bk; split<;>decide),Nat.zero_or]
  rw [math.Ec.ev,n0,ny,e1,e2,e3,Ay7 (by omega)]
  rfl
theorem math.Xs.known:math.Xs.Kn:=math.Xs.Ac .nil fun s _=>by
  refine ⟨0,math.Xs.out [.i s],[],?_,.fl⟩
  show _=some (DV.fl (Bk (decide (s<0)) Ee))
  rw [math.Xs.ev,Ev]
  by_cases h:s<0
  · rw [Azb (by omega),Ay7 h]; rfl
  · rw [Ay7 (by omega),Azb h]; rfl
open EqLdx
theorem Pw {x:Nat} (hx:x<2^64):(Ieee.double.order x 0==some .eq)=decide (An x=0):=by
  by_cases h4:An x=4
  · rw [V1 hx (by decide) (.inl h4),Azb (by omega)]; rfl
  · have k0:An 0≠4:=by decide +kernel
    have z:Ib 0=0:=by decide +kernel
    have hk:Ib x=0↔x%2^63=0:=by
      have:=O9 (Bu x) (r:=x%2^63) (Nat.mod_lt _ (by decide))
      rw [Mv hx] at this
      rw [this]
      unfold Ih
      cases Bu x
      · rw [if_neg (by decide)]; omega
      · rw [if_pos rfl]; omega
    have h0:An x=0↔x%2^63=0:=by
      have hp:x%2^63=D6 x*2^52+Dc x:=by unfold D6 Dc; omega
      rw [hp]
      have:=Jt x
      unfold An
      split
      · split<;>omega
      · split
        · omega
        · split<;>omega
    rw [O2 hx (by decide) h4 k0,z,Azm,beq_iff_eq,Ay9,(Re _ _).2.2,Azd,hk,h0]
theorem Alg {x:Nat} (hx:x<2^64) (h4:An x≠4) (h0:An x≠0):(Ieee.double.order x 0==some .lt)=Bu x:=by
  have k0:An 0≠4:=by decide +kernel
  have z:Ib 0=0:=by decide +kernel
  have hp:x%2^63=D6 x*2^52+Dc x:=by unfold D6 Dc; omega
  have hne:x%2^63≠0:=by
    intro h
    refine h0 ?_
    unfold An
    rw [if_neg (by omega),if_neg (by omega),if_neg (by omega)]
  have:=O9 (Bu x) (r:=x%2^63) (Nat.mod_lt _ (by decide))
  rw [Mv hx] at this
  rw [O2 hx (by decide) h4 k0,z,Azm,beq_iff_eq,Ay9,(Re _ _).1,this]
  unfold Ih
  cases Bu x
  · rw [if_neg (by decide)]
    constructor
    · intro h; omega
    · intro h; cases h
  · rw [if_pos rfl]
    constructor
    · intro _; rfl
    · intro _; omega
theorem Ali (x:Nat):Ji x=-52∨Ji x=0:=by unfold Ji; split<;>simp
theorem Asf {f:Nat} (hf:f<2^52):(f+2^52).log2=52:=Uy (a:=52) (by omega) (by omega)
theorem math.Hp.known:math.Hp.Kn:=math.Hp.Ac (.cons math.Ec.known (.cons math.Xs.known (.cons math.Iv.known (.cons math.Iu.known (.cons math.normalize.known .nil))))) fun x k hp=>by
  obtain ⟨h1,h2⟩:=Ad.1 (show (Tt x&&Dh (-2300≤k∧k≤2300))=true from hp)
  have hx:=Aw.1 (show Dh (x<2^64)=true from h1)
  have hk:=Aw.1 h2
  refine ⟨0,.fl (I6 x k),[],?_,.fl⟩
  by_cases h0:An x=0
  · have:I6 x k=x:=by unfold I6 Gz; rw [if_neg (by omega),if_neg (by omega),if_pos (.inr h0)]
    rw [math.Hp.ev,Pw hx,Ay7 h0,Ay6,this]
  by_cases h3:An x=3
  · have:I6 x k=x:=by unfold I6 Gz; rw [if_neg (by omega),if_neg (by omega),if_pos (.inl h3)]
    rw [math.Hp.ev,Pw hx,Azb h0,Aza,h1,Ay7 (rfl:(0:Int)=0),Azc,Ay6,Bool.or_true,Ay6,Ay7 h3,Bool.true_or,Ay6,this]
  by_cases h4:An x=4
  · have:I6 x k=x:=by unfold I6; rw [if_pos h4]
    rw [math.Hp.ev,Pw hx,Azb h0,Aza,h1,Ay7 (rfl:(0:Int)=0),Azc,Ay6,Bool.or_true,Ay6,Ay7 h4,Bool.or_true,Ay6,this]
  obtain ⟨P,f,d,p1,p2,hf,hw,hM,hP⟩:=Aoj hx h3 h4 h0
  obtain ⟨w1,w2,w3,w4,w5,w6,w7⟩:=Rp (s:=Bu x) p1 p2 hf
  have hm:Ax x≠0:=fun h=>h0 ((Hr h3 h4).1 h)
  have hr:=Ali x
  have hl:=Asf hf
  have hld:I6 x k=Bk (Bu x) (Cm (f+2^52) ((P:Int)-1075+Ji x+k)):=by
    have:=Anv (k:=k) hm hM hP
    unfold I6 Gz
    rw [if_neg h4,if_neg h4,if_neg (by omega),this]
  have hp:Tt x=true:=Aw.2 hx
  have hfp:Af9 x=true:=Aw.2 ⟨hx,h3,h4⟩
  have hnn:F2 (Mk x)=false:=by rw [Za,hw,w5]; rfl
  have hfw:Af9 (Mk x)=true:=by rw [hw]; exact Aw.2 ⟨w4,by omega,by omega⟩
  have ee:Ab (Ab (k+Ji x)+Ab (E9 .i64 (Ab (Dp .u64 ((Mk x:Nat):Int) (52:Int))) (2047:Int)-(1023:Int)))=k+Ji x+(P:Int)-1023:=by
    rw [hw,Apy p1 p2 hf,Am (x:=k+Ji x) (by omega) (by omega),Am (x:=(P:Int)-1023) (by omega) (by omega),Am (by omega) (by omega)]
    omega
  have hrun:=math.Hp.ev 0 x k
  rw [Pw hx,Azb h0,Aza,hp,Ay7 (rfl:(0:Int)=0),Azc,Ay6,Bool.or_true,Ay6,Azb h3,Azb h4,Bool.or_self,Aza,hfp,Ay6,hnn,Bool.not_false,Ay6,ee,hfw,Azc,Ay6] at hrun
  refine hrun.trans ?_
  rw [hld]
  rw [Aq,Aq,Aq]
  by_cases c1:k+Ji x+(P:Int)-1023 < -1075
  · rw [Ay7 c1,Ay6,hw,w3,(Go.Rnd.Akr (V:=f+2^52) (by omega) (by rw [hl]; omega)).1]
  · rw [Azb c1,Aza]
    by_cases c2:1023<k+Ji x+(P:Int)-1023
    · have hng:(Ieee.double.order (Mk x) 0==some .lt)=Bu x:=by
        rw [hw,Alg w4 (by omega) (by omega),w3]
      rw [Ay7 c2,Ay6,hng,Ayv (by omega) (by rw [hl]; omega)]
      cases Bu x<;>rfl
    · rw [Azb c2,Aza]
      by_cases c3:k+Ji x+(P:Int)-1023 < -1022
      · obtain ⟨q,hq⟩:∃ q:Nat,k+Ji x+(P:Int)-1023+53+1023=q:=⟨(k+Ji x+(P:Int)-1023+53+1023).toNat,by omega⟩
        have e1:Ab (Ab (k+Ji x+(P:Int)-1023+53)+1023)=(q:Int):=by
          rw [Am (x:=k+Ji x+(P:Int)-1023+53) (by omega) (by omega),Am (by omega) (by omega)]; exact hq
        have e2:=Ajh (s:=Bu x) (P:=P) (f:=f) p2 hf (q:=q) (by omega)
        obtain ⟨v1,v2,v3,v4,v5,v6,v7⟩:=Rp (s:=Bu x) (P:=q) (f:=f) (by omega) (by omega) hf
        have hmul:=mul_pow (a:=Bk (Bu x) (q*2^52+f)) (p:=4368491638549381120) (by omega) (by omega) (by rw [p53.2.2.1]; decide) (by rw [p53.2.2.1]; decide) p53.1 p53.2.2.2
        have hmi:=Us (a:=4368491638549381120) (b:=Bk (Bu x) (q*2^52+f)) (by decide) v4 G3
        rw [Aa8] at hmi
        have:=Yg hmi (by rw [hmul]; exact Q3 _ _ _)
        have e3:(q:Int)-1075+-105+52=(P:Int)-1075+Ji x+k:=by omega
        have e4:(Nr (Bk (Bu x) (q*2^52+f)) 4368491638549381120).1=Bk (Bu x) (Cm (f+2^52) ((P:Int)-1075+Ji x+k)):=by
          rw [hmul,v3,v6,v7,p53.2.1,e3]
        rw [e4] at this
        rw [Ay7 c3,Ay6,e1,hw,e2,Ay7 (by omega),Ay6,Ay8,this]
      · obtain ⟨q,hq⟩:∃ q:Nat,k+Ji x+(P:Int)-1023+1023=q:=⟨(k+Ji x+(P:Int)-1023+1023).toNat,by omega⟩
        have e1:Ab (k+Ji x+(P:Int)-1023+1023)=(q:Int):=by rw [Am (by omega) (by omega)]; exact hq
        have e2:=Ajh (s:=Bu x) (P:=P) (f:=f) p2 hf (q:=q) (by omega)
        obtain ⟨v1,v2,v3,v4,v5,v6,v7⟩:=Rp (s:=Bu x) (P:=q) (f:=f) (by omega) (by omega) hf
        have hone:Nr 4607182418800017408 (Bk (Bu x) (q*2^52+f))=(Bk (Bu x) (q*2^52+f),0):=by
          rw [Aa8]; exact mul_one v4 (by omega) (by omega)
        have hmi:=Us (a:=4607182418800017408) (b:=Bk (Bu x) (q*2^52+f)) (by decide) v4 G3
        have:=Yg hmi (by rw [hone]; show An (Bk (Bu x) (q*2^52+f))≠4; omega)
        have er:=Anw (L:=(P:Int)-1075+Ji x+k) (q:=q) hf (by omega) (by omega) (by omega)
        rw [Azb c3,Aza,e1,hw,e2,Ay7 (by omega),Ay6,Ay8,this,hone,er]
theorem math.Jc.known:math.Jc.Kn:=math.Jc.Ac (.cons math.Hp.known .nil) fun x k hp=>by
  have hp:(Tt x&&Dh (-2300≤k∧k≤2300))=true:=hp
  exact ⟨0,.fl (I6 x k),[],by rw [math.Jc.ev,hp,Ay6],.fl⟩
theorem Agj {x:Nat} (k:Int):D4 (I6 x k)=(Gz x k).1:=by
  unfold I6
  by_cases h4:An x=4
  · rw [if_pos h4]
    unfold D4 Gz
    rw [if_pos h4,if_pos h4]
  · rw [if_neg h4]
    unfold D4
    rw [if_neg]
    unfold Gz
    rw [if_neg h4]
    by_cases h3:An x=3∨An x=0
    · rw [if_pos h3]; exact h4
    · rw [if_neg h3]; exact Q3 _ _ _
theorem Ak.Bt.known:Ak.Bt.Kn:=Ak.Bt.Ac (.cons math.Jc.known (.cons Ak.B.known (.cons Ak.F.known .nil))) fun a k hp=>by
  obtain ⟨h1,h2⟩:=Ad.1 (show Dj a k=true from hp)
  obtain ⟨x,rfl,hx⟩:=Bl h1
  refine ⟨0,.int .u64 (By (x:Int) k),[],?_,.int⟩
  have hp:Tt x=true:=Aw.2 hx
  have:Ga (I6 x k)=By (x:Int) k:=by
    unfold Ga By
    rw [Ay8,Agj]
  rw [Ak.Bt.ev,h1,Ay6,Ay8,hp,h2,Azc,Ay6,this]
namespace EqRef08
def Br.ends.A8:List (Nat × Entry):=[(131,A4.Finite.spec),(142,A4.Neg.spec)]
def Br.ends.E:Env:=A9 (A7 Br.ends.A8) (fun _=>false) (fun _=>none) (fun _=>none)
theorem Br.ends.ev (N:Nat) (b:Int):Bp Br.ends.E N Tryz.f164 (Al Tryz.f164) [.int .u64 b]=bif (Ag b) then bif (Da b) then some (.int .i64 0) else bif (Ag b) then bif (D0 b) then some (.int .i64 (-1:Int)) else some (.int .i64 1) else none else none:=by kernel_rfl
abbrev _root_.Go.Proofs.S1.Br.ends.Kn:=A5 Tryz.prog 164 Br.ends.spec
theorem Br.ends.Ac (hk:Ay Tryz.prog Br.ends.A8) (h:∀ (b:Int),Br.ends.pre [.i b]=true→Ba Br.ends.E Tryz.f164 [.int .u64 b] (Br.ends.out [.i b])):Br.ends.Kn :=
  Aj (A1 hk _ _ _) Tryz.func164 (by kernel_rfl) (by kernel_rfl) h
def Br.Order.A8:List (Nat × Entry):=[(116,Az.Compare.spec),(62,A4.Kind.spec),(63,A4.Value.spec),(164,Br.ends.spec)]
def Br.Order.E:Env:=A9 (A7 Br.Order.A8) (fun _=>false) (fun _=>none) (fun _=>none)
theorem Br.Order.ev (N:Nat) (a b:Int):Bp Br.Order.E N Tryz.f95 (Al Tryz.f95) [.int .u64 a,.int .u64 b]=bif (K4 a) then bif (((Be a)==(4:Int))||(K4 b)) then bif (((Be a)==(4:Int))||((Be b)==(4:Int))) then some (.tup [.int .i64 0,.bool false]) else bif (Ag a) then bif (Ag b) then bif (((Rb a) !=(0:Int))||((Rb b) !=(0:Int))) then some (.tup [.int .i64 (max (-1:Int) (min 1 (Ab ((Rb a)-(Rb b))))),.bool true]) else bif (Ag a) then bif (Ag b) then bif (((Xi (Bi (mD (Fq a))) (Ap (mD (Fq a)))&&Xi (Bi (mD (Fq b))) (Ap (mD (Fq b))))&&W7 (eD (Fq a) (Bh a)))&&W7 (eD (Fq b) (Bh b))) then some (.tup [.int .i64 (W9 (wv (Bi (mD (Fq a))) (Ap (mD (Fq a)))) (eD (Fq a) (Bh a)) (wv (Bi (mD (Fq b))) (Ap (mD (Fq b)))) (eD (Fq b) (Bh b))),.bool true]) else none else none else none else none else none else none else none :=
  Eq.trans (by kernel_rfl)
  (Ea (Ar (Rs ((Be a)==(4:Int))) (Cq (Aq2 ((Be a)==(4:Int)) (K4 b)) (Ar (Pg ((Be a)==(4:Int))) (Ar (Xb ((Be a)==(4:Int))) (Cq (tt5 ((Be a)==(4:Int)) ((Be b)==(4:Int))) rfl (Ea (Ea (Ar (Rs ((Rb a) !=(0:Int))) (Ar (Pg ((Rb a) !=(0:Int))) (Ar (Xb ((Rb a) !=(0:Int))) (Cq (tt5 ((Rb a) !=(0:Int)) ((Rb b) !=(0:Int))) rfl rfl)))) rfl) rfl)))) rfl)) rfl)
abbrev _root_.Go.Proofs.S1.Br.Order.Kn:=A5 Tryz.prog 95 Br.Order.spec
theorem Br.Order.Ac (hk:Ay Tryz.prog Br.Order.A8) (h:∀ (a b:Int),Br.Order.pre [.i a,.i b]=true→Ba Br.Order.E Tryz.f95 [.int .u64 a,.int .u64 b] (Br.Order.out [.i a,.i b])):Br.Order.Kn :=
  Aj (A1 hk _ _ _) Tryz.func95 (by kernel_rfl) (by kernel_rfl) h
def Br.H3.A8:List (Nat × Entry):=[(163,A4.Dv.spec),(142,A4.Neg.spec)]
def Br.H3.E:Env:=A9 (A7 Br.H3.A8) (fun _=>false) (fun _=>none) (fun _=>none)
theorem Br.H3.ev (N:Nat) (a:Int):Bp Br.H3.E N Tryz.f94 (Al Tryz.f94) [.int .u64 a]=bif (Ag a) then bif (D0 a) then bif (Ag a) then some (.int .u64 (Dd a)) else none else some (.int .u64 a) else none:=by kernel_rfl
abbrev _root_.Go.Proofs.S1.Br.H3.Kn:=A5 Tryz.prog 94 Br.H3.spec
theorem Br.H3.Ac (hk:Ay Tryz.prog Br.H3.A8) (h:∀ (a:Int),Br.H3.pre [.i a]=true→Ba Br.H3.E Tryz.f94 [.int .u64 a] (Br.H3.out [.i a])):Br.H3.Kn :=
  Aj (A1 hk _ _ _) Tryz.func94 (by kernel_rfl) (by kernel_rfl) h
def Br.Max.A8:List (Nat × Entry):=[(95,Br.Order.spec)]
def Br.Max.E:Env:=A9 (A7 Br.Max.A8) (fun _=>false) (fun _=>none) (fun _=>none)
theorem Br.Max.ev (N:Nat) (a b:Int):Bp Br.Max.E N Tryz.f93 (Al Tryz.f93) [.int .u64 a,.int .u64 b]=bif (Ag a&&Ag b) then bif (!(Aa6 a b)) then some (.int .u64 9221120237041090560) else bif (A6 (Ta a b) 0) then some (.int .u64 b) else some (.int .u64 a) else none:=by kernel_rfl
abbrev _root_.Go.Proofs.S1.Br.Max.Kn:=A5 Tryz.prog 93 Br.Max.spec
theorem Br.Max.Ac (hk:Ay Tryz.prog Br.Max.A8) (h:∀ (a b:Int),Br.Max.pre [.i a,.i b]=true→Ba Br.Max.E Tryz.f93 [.int .u64 a,.int .u64 b] (Br.Max.out [.i a,.i b])):Br.Max.Kn :=
  Aj (A1 hk _ _ _) Tryz.func93 (by kernel_rfl) (by kernel_rfl) h
end EqRef08
namespace EqRef13
def Br.L4.A8:List (Nat × Entry):=[(180,Az.W5.spec),(131,A4.Finite.spec),(62,A4.Kind.spec),(63,A4.Value.spec)]
def Br.L4.E:Env:=A9 (A7 Br.L4.A8) (fun _=>false) (fun _=>none) (fun _=>none)
theorem Br.L4.ev (N:Nat) (a:Int):Bp Br.L4.E N Tryz.f132 (Al Tryz.f132) [.int .u64 a]=bif (Ag a) then bif ((!(Da a))||(K4 a)) then bif ((!(Da a))||((Be a)==(0:Int))) then some (.int .i64 0) else bif (Ag a) then bif (Jy (Bi (mD (Fq a))) (Ap (mD (Fq a)))&&W7 (eD (Fq a) (Bh a))) then some (.int .i64 (Ab ((Iz (wv (Bi (mD (Fq a))) (Ap (mD (Fq a)))) (eD (Fq a) (Bh a)))-1))) else none else none else none else none :=
  Eq.trans (by kernel_rfl)
  (Ea (Ar (Z6 (Da a)) (Cq (Anm (Da a) (K4 a)) (Ar (Qq (Da a)) (Ar (Ab7 (Da a)) (Cq (Aub (Da a) ((Be a)==(0:Int))) rfl rfl))) rfl)) rfl)
abbrev _root_.Go.Proofs.S1.Br.L4.Kn:=A5 Tryz.prog 132 Br.L4.spec
theorem Br.L4.Ac (hk:Ay Tryz.prog Br.L4.A8) (h:∀ (a:Int),Br.L4.pre [.i a]=true→Ba Br.L4.E Tryz.f132 [.int .u64 a] (Br.L4.out [.i a])):Br.L4.Kn :=
  Aj (A1 hk _ _ _) Tryz.func132 (by kernel_rfl) (by kernel_rfl) h
def Ak.Bq.hint:Nat→Option Bb
  | 0=>some { keep:=[0,3,4],objs:=[],boxes:=[] }
  | _=>none
def Ak.Bq.A8:List (Nat × Entry):=[(94,Br.H3.spec),(93,Br.Max.spec)]
def Ak.Bq.E:Env:=A9 (A7 Ak.Bq.A8) (fun _=>false) Ak.Bq.hint (fun _=>none)
def Ak.Bq.L0 (N M:Nat) (x:List Int) (p3 p4:Int):Option DV:=Bv Ak.Bq.E N Tryz.f228 (Al Tryz.f228) [1,1,0,1,0] [] M ⟨Ft 19 [(0,.ints .arg .u64 x),(3,.int .u64 p3),(4,.int .i64 p4)],[]⟩
theorem Ak.Bq.Au (N M:Nat) (x:List Int) (p3 p4:Int):Ak.Bq.L0 N (M+1) x p3 p4=bif (A6 p4 (List.length x:Int)) then bif ((decide (0≤p4))&&(decide (p4<(List.length x:Int)))) then bif (Ag (List.getD x (Int.toNat p4) 0)) then bif (Ag p3&&Ag (Jq (List.getD x (Int.toNat p4) 0))) then Ak.Bq.L0 N M x (O6 p3 (Jq (List.getD x (Int.toNat p4) 0))) (Ab (p4+1)) else none else none else none else some (.int .u64 p3):=by kernel_rfl
theorem Ak.Bq.ev (N:Nat) (x:List Int):Bp Ak.Bq.E N Tryz.f228 (Al Tryz.f228) [.ints .arg .u64 x] =
  Ak.Bq.L0 N N x 0 0:=by kernel_rfl
abbrev _root_.Go.Proofs.S1.Ak.Bq.Kn:=A5 Tryz.prog 228 Ak.Bq.spec
theorem Ak.Bq.Ac (hk:Ay Tryz.prog Ak.Bq.A8) (h:∀ (x:List Int),Ak.Bq.pre [.l x]=true→Ba Ak.Bq.E Tryz.f228 [.ints .arg .u64 x] (Ak.Bq.out [.l x])):Ak.Bq.Kn :=
  Aj (A1 hk _ _ _) Tryz.func228 (by kernel_rfl) (by kernel_rfl) h
def math.Sqrt.A8:List (Nat × Entry):=[]
def math.Sqrt.E:Env:=A9 (A7 math.Sqrt.A8) (fun _=>false) (fun _=>none) (fun _=>none)
theorem math.Sqrt.ev (N x:Nat):Bp math.Sqrt.E N Tryz.f260 (Al Tryz.f260) [.fl x]=some (.fl ((Ieee.double.sqrt x).getD nanBits)):=by kernel_rfl
abbrev _root_.Go.Proofs.S1.math.Sqrt.Kn:=A5 Tryz.prog 260 math.Sqrt.spec
theorem math.Sqrt.Ac (hk:Ay Tryz.prog math.Sqrt.A8) (h:∀ (x:Nat),math.Sqrt.pre [.f x]=true→Ba math.Sqrt.E Tryz.f260 [.fl x] (math.Sqrt.out [.f x])):math.Sqrt.Kn :=
  Aj (A1 hk _ _ _) Tryz.func260 (by kernel_rfl) (by kernel_rfl) h
def Ak.Sqrt.A8:List (Nat × Entry):=[(260,math.Sqrt.spec),(102,Ak.B.spec),(159,Ak.F.spec)]
def Ak.Sqrt.E:Env:=A9 (A7 Ak.Sqrt.A8) (fun _=>false) (fun _=>none) (fun _=>none)
theorem Ak.Sqrt.ev (N:Nat) (a:Int):Bp Ak.Sqrt.E N Tryz.f247 (Al Tryz.f247) [.int .u64 a]=bif (Ag a) then some (.int .u64 (Ga (((Ieee.double.sqrt (Int.toNat a)).getD nanBits)))) else none:=by kernel_rfl
abbrev _root_.Go.Proofs.S1.Ak.Sqrt.Kn:=A5 Tryz.prog 247 Ak.Sqrt.spec
theorem Ak.Sqrt.Ac (hk:Ay Tryz.prog Ak.Sqrt.A8) (h:∀ (a:Int),Ak.Sqrt.pre [.i a]=true→Ba Ak.Sqrt.E Tryz.f247 [.int .u64 a] (Ak.Sqrt.out [.i a])):Ak.Sqrt.Kn :=
  Aj (A1 hk _ _ _) Tryz.func247 (by kernel_rfl) (by kernel_rfl) h
def Ak.Norm.hint:Nat→Option Bb
  | 0=>some { keep:=[0,4,5,6],objs:=[],boxes:=[] }
  | _=>none
def Ak.Norm.A8:List (Nat × Entry):=[(131,A4.Finite.spec),(132,Br.L4.spec),(181,Ak.Add.spec),(228,Ak.Bq.spec),(82,Ak.Mul.spec),(96,Ak.Bt.spec),(247,Ak.Sqrt.spec)]
def Ak.Norm.E:Env:=A9 (A7 Ak.Norm.A8) (fun _=>false) Ak.Norm.hint (fun _=>none)
def Ak.Norm.L0 (N M:Nat) (x:List Int) (p5 p6:Int):Option DV:=Bv Ak.Norm.E N Tryz.f229 (Al Tryz.f229) [1,1,1,1,1,0,1,0] [] M ⟨Ft 42 [(0,.ints .arg .u64 x),(4,.int .i64 (Bs (Bf x))),(5,.int .u64 p5),(6,.int .i64 p6)],[]⟩
theorem Ak.Norm.Au (N M:Nat) (x:List Int) (p5 p6:Int):Ak.Norm.L0 N (M+1) x p5 p6=bif (A6 p6 (List.length x:Int)) then bif ((decide (0≤p6))&&(decide (p6<(List.length x:Int)))) then bif (Dj (List.getD x (Int.toNat p6) 0) (Ab ((0:Int)-(Bs (Bf x))))) then bif (Ag (By (List.getD x (Int.toNat p6) 0) (Ab ((0:Int)-(Bs (Bf x)))))&&Ag (By (List.getD x (Int.toNat p6) 0) (Ab ((0:Int)-(Bs (Bf x)))))) then bif (Ag p5&&Ag (D1 (By (List.getD x (Int.toNat p6) 0) (Ab ((0:Int)-(Bs (Bf x))))) (By (List.getD x (Int.toNat p6) 0) (Ab ((0:Int)-(Bs (Bf x))))))) then Ak.Norm.L0 N M x (J8 p5 (D1 (By (List.getD x (Int.toNat p6) 0) (Ab ((0:Int)-(Bs (Bf x))))) (By (List.getD x (Int.toNat p6) 0) (Ab ((0:Int)-(Bs (Bf x))))))) (Ab (p6+1)) else none else none else none else none else bif (Ag p5) then bif (Dj (F8 p5) (Bs (Bf x))) then some (.int .u64 (By (F8 p5) (Bs (Bf x)))) else none else none:=by kernel_rfl
theorem Ak.Norm.ev (N:Nat) (x:List Int):Bp Ak.Norm.E N Tryz.f229 (Al Tryz.f229) [.ints .arg .u64 x]=bif (Cz x) then bif (((Bf x)==(0:Int))||(Ag (Bf x))) then bif (((Bf x)==(0:Int))||(!(Da (Bf x)))) then some (.int .u64 (Bf x)) else bif (Ag (Bf x)) then Ak.Norm.L0 N N x 0 (0:Int) else none else none else none :=
  Eq.trans (by kernel_rfl)
  (Ea (Ar (Rs ((Bf x)==(0:Int))) (Cq (Aq2 ((Bf x)==(0:Int)) (Ag (Bf x))) (Ar (Pg ((Bf x)==(0:Int))) (Ar (Xb ((Bf x)==(0:Int))) (Cq (Av6 ((Bf x)==(0:Int)) (Da (Bf x))) rfl rfl))) rfl)) rfl)
abbrev _root_.Go.Proofs.S1.Ak.Norm.Kn:=A5 Tryz.prog 229 Ak.Norm.spec
theorem Ak.Norm.Ac (hk:Ay Tryz.prog Ak.Norm.A8) (h:∀ (x:List Int),Ak.Norm.pre [.l x]=true→Ba Ak.Norm.E Tryz.f229 [.ints .arg .u64 x] (Ak.Norm.out [.l x])):Ak.Norm.Kn :=
  Aj (A1 hk _ _ _) Tryz.func229 (by kernel_rfl) (by kernel_rfl) h
def Bc.Bz.hint:Nat→Option Bb
  | 0=>some { keep:=[0,3],objs:=[],boxes:=[] }
  | _=>none
def Bc.Bz.A8:List (Nat × Entry):=[(62,A4.Kind.spec)]
def Bc.Bz.E:Env:=A9 (A7 Bc.Bz.A8) (fun _=>false) Bc.Bz.hint (fun _=>none)
def Bc.Bz.L0 (N M:Nat) (x:List Int) (p3:Int):Option DV:=Bv Bc.Bz.E N Tryz.f227 (Al Tryz.f227) [1,0,1,0] [] M ⟨Ft 16 [(0,.ints .arg .u64 x),(3,.int .i64 p3)],[]⟩
theorem Bc.Bz.Au (N M:Nat) (x:List Int) (p3:Int):Bc.Bz.L0 N (M+1) x p3=bif (A6 p3 (List.length x:Int)) then bif ((decide (0≤p3))&&(decide (p3<(List.length x:Int)))) then bif (K4 (List.getD x (Int.toNat p3) 0)) then bif ((Be (List.getD x (Int.toNat p3) 0)) !=(0:Int)) then some (.bool false) else Bc.Bz.L0 N M x (Ab (p3+1)) else none else none else some (.bool true):=by kernel_rfl
theorem Bc.Bz.ev (N:Nat) (x:List Int):Bp Bc.Bz.E N Tryz.f227 (Al Tryz.f227) [.ints .arg .u64 x] =
  Bc.Bz.L0 N N x 1:=by kernel_rfl
abbrev _root_.Go.Proofs.S1.Bc.Bz.Kn:=A5 Tryz.prog 227 Bc.Bz.spec
theorem Bc.Bz.Ac (hk:Ay Tryz.prog Bc.Bz.A8) (h:∀ (x:List Int),Bc.Bz.pre [.l x]=true→Ba Bc.Bz.E Tryz.f227 [.ints .arg .u64 x] (Bc.Bz.out [.l x])):Bc.Bz.Kn :=
  Aj (A1 hk _ _ _) Tryz.func227 (by kernel_rfl) (by kernel_rfl) h
def Bc.lead.hint:Nat→Option Bb
  | 0=>some { keep:=[0,3],objs:=[],boxes:=[] }
  | _=>none
def Bc.lead.A8:List (Nat × Entry):=[(62,A4.Kind.spec)]
def Bc.lead.E:Env:=A9 (A7 Bc.lead.A8) (fun _=>false) Bc.lead.hint (fun _=>none)
def Bc.lead.L0 (N M:Nat) (x:List Int) (p3:Int):Option DV:=Bv Bc.lead.E N Tryz.f230 (Al Tryz.f230) [1,0,1,0] [] M ⟨Ft 17 [(0,.ints .arg .u64 x),(3,.int .i64 p3)],[]⟩
theorem Bc.lead.Au (N M:Nat) (x:List Int) (p3:Int):Bc.lead.L0 N (M+1) x p3=bif (A6 p3 (List.length x:Int)) then bif ((decide (0≤p3))&&(decide (p3<(List.length x:Int)))) then bif (K4 (List.getD x (Int.toNat p3) 0)) then bif ((Be (List.getD x (Int.toNat p3) 0)) !=(0:Int)) then some (.int .i64 p3) else Bc.lead.L0 N M x (Ab (p3+1)) else none else none else some (.int .i64 0):=by kernel_rfl
theorem Bc.lead.ev (N:Nat) (x:List Int):Bp Bc.lead.E N Tryz.f230 (Al Tryz.f230) [.ints .arg .u64 x] =
  Bc.lead.L0 N N x 0:=by kernel_rfl
abbrev _root_.Go.Proofs.S1.Bc.lead.Kn:=A5 Tryz.prog 230 Bc.lead.spec
theorem Bc.lead.Ac (hk:Ay Tryz.prog Bc.lead.A8) (h:∀ (x:List Int),Bc.lead.pre [.l x]=true→Ba Bc.lead.E Tryz.f230 [.ints .arg .u64 x] (Bc.lead.out [.l x])):Bc.lead.Kn :=
  Aj (A1 hk _ _ _) Tryz.func230 (by kernel_rfl) (by kernel_rfl) h
def Bc.Dy.hint:Nat→Option Bb
  | 0=>some { keep:=[0,2,4,5],objs:=[(0,4,100004,.ints 37 .u64 [])],boxes:=[2] }
  | 2=>some { keep:=[0,2,4,6,7,8],objs:=[(0,4,100004,.ints 37 .u64 []),(0,7,100007,.ints 37 .u64 [])],boxes:=[2] }
  | 4=>some { keep:=[2,4,7,9,10,11,12],objs:=[(0,4,100004,.ints 37 .u64 []),(0,7,100007,.ints 37 .u64 [])],boxes:=[2] }
  | _=>none
def Bc.Dy.A8:List (Nat × Entry):=[(131,A4.Finite.spec),(163,A4.Dv.spec),(142,A4.Neg.spec),(132,Br.L4.spec),(228,Ak.Bq.spec),(84,Ak.Div.spec),(229,Ak.Norm.spec),(96,Ak.Bt.spec),(81,Ak.Sub.spec),(230,Bc.lead.spec),(227,Bc.Bz.spec)]
def Bc.Dy.E:Env:=A9 (A7 Bc.Dy.A8) (fun _=>false) Bc.Dy.hint (fun _=>none)
def Bc.Dy.L0 (N M:Nat) (x:List Int) (p5:Int) (p4:List Int):Option DV:=Bv Bc.Dy.E N Tryz.f196 (Al Tryz.f196) [1,1,0,1,0,0,1,0] [] M ⟨Ft 98 [(0,.ints .arg .u64 x),(2,.ptr 2 0 0),(4,.oref 100004),(5,.int .i64 p5)],[(2,false,.box [.nil,.int .u64 0,.int .u64 0]),(100004,false,.ints 37 .u64 p4)]⟩
def Bc.Dy.L1 (N M:Nat) (x:List Int) (p8:Int) (p7:List Int):Option DV:=Bv Bc.Dy.E N Tryz.f196 (Al Tryz.f196) [1,1,1,1,1,0,1,0] [] M ⟨Ft 98 [(0,.ints .arg .u64 x),(2,.ptr 2 0 0),(4,.oref 100004),(6,.int .i64 (Bs (Bf x))),(7,.oref 100007),(8,.int .i64 p8)],[(2,false,.box [.nil,.int .u64 0,.int .u64 0]),(100004,false,.ints 37 .u64 [(4607182418800017408:Int)]),(100007,false,.ints 37 .u64 p7)]⟩
def Bc.Dy.L2 (N M:Nat) (p7:List Int) (p9 p10:Int) (p11 p12:Int) (p4_1:List Int):Option DV:=Bv Bc.Dy.E N Tryz.f196 (Al Tryz.f196) [1,1,1,1,1,1,1,1,1,1,1,0,1,0] [] M ⟨Ft 98 [(2,.ptr 2 0 0),(4,.oref 100004),(7,.oref 100007),(9,.int .u64 p9),(10,.int .u64 p10),(11,.int .u64 p11),(12,.int .i64 p12)],[(2,false,.box [.nil,.int .u64 0,.int .u64 0]),(100004,false,.ints 37 .u64 p4_1),(100007,false,.ints 37 .u64 p7)]⟩
theorem Bc.Dy.Au (N M:Nat) (x:List Int) (p5:Int) (p4:List Int):Bc.Dy.L0 N (M+1) x p5 p4=bif (A6 p5 (List.length x:Int)) then bif (decide ((List.length p4)+1≤Gu)) then Bc.Dy.L0 N M x (Ab (p5+1)) (p4++[(0:Int)]) else none else bif (decide ((0:Int)<(List.length x:Int))) then some (.tup [.agg [.ints (.own 100004 37) .u64 p4,.int .u64 0,.int .u64 (List.getD x 0 0)],.bool true]) else none:=by kernel_rfl
theorem Bc.Dy.B2 (N M:Nat) (x:List Int) (p8:Int) (p7:List Int):Bc.Dy.L1 N (M+1) x p8 p7=bif (A6 p8 (List.length x:Int)) then bif ((decide (0≤p8))&&(decide (p8<(List.length x:Int)))) then bif (Dj (List.getD x (Int.toNat p8) 0) (Ab ((0:Int)-(Bs (Bf x))))) then bif (decide ((List.length p7)+1≤Gu)) then Bc.Dy.L1 N M x (Ab (p8+1)) (p7++[(By (List.getD x (Int.toNat p8) 0) (Ab ((0:Int)-(Bs (Bf x)))))]) else none else none else none else bif (Cz p7) then bif (Cz x) then bif ((decide (0≤(Qi x 0)))&&(decide ((Qi x 0)<(List.length x:Int)))) then bif (Ag (List.getD x (Int.toNat (Qi x 0)) 0)) then bif (!(D0 (List.getD x (Int.toNat (Qi x 0)) 0))) then bif (Ag (Dq p7)) then bif (Dj (Dd (Dq p7)) (Bs (Bf x))) then bif (Ag (By (Dd (Dq p7)) (Bs (Bf x)))) then bif (!(Da (By (Dd (Dq p7)) (Bs (Bf x))))) then some (.tup [.agg [.nil,.int .u64 0,.int .u64 0],.bool false]) else bif (decide ((0:Int)<(List.length p7:Int))) then bif (decide (0<(List.length p7))) then bif (Ag (List.getD p7 0 0)&&Ag (Dd (Dq p7))) then Bc.Dy.L2 N N p7 (Dd (Dq p7)) (By (Dd (Dq p7)) (Bs (Bf x))) (Db (List.getD p7 0 0) (Dd (Dq p7))) 1 [(4607182418800017408:Int)] else none else none else none else none else none else none else bif (Dj (Dq p7) (Bs (Bf x))) then bif (Ag (By (Dq p7) (Bs (Bf x)))) then bif (!(Da (By (Dq p7) (Bs (Bf x))))) then some (.tup [.agg [.nil,.int .u64 0,.int .u64 0],.bool false]) else bif (decide ((0:Int)<(List.length p7:Int))) then bif (decide (0<(List.length p7))) then bif (Ag (List.getD p7 0 0)&&Ag (Dq p7)) then Bc.Dy.L2 N N p7 (Dq p7) (By (Dq p7) (Bs (Bf x))) (Db (List.getD p7 0 0) (Dq p7)) 1 [(4607182418800017408:Int)] else none else none else none else none else none else none else none else none else none:=by kernel_rfl
theorem Bc.Dy.Fp (N M:Nat) (p7:List Int) (p9 p10:Int) (p11 p12:Int) (p4_1:List Int):Bc.Dy.L2 N (M+1) p7 p9 p10 p11 p12 p4_1=bif (A6 p12 (List.length p7:Int)) then bif ((decide (0≤p12))&&(decide (p12<(List.length p7:Int)))) then bif (decide ((Int.toNat p12)<(List.length p7))) then bif (Ag (List.getD p7 (Int.toNat p12) 0)&&Ag p11) then bif (decide ((List.length p4_1)+1≤Gu)) then Bc.Dy.L2 N M p7 p9 p10 p11 (Ab (p12+1)) (p4_1++[(Ew (List.getD p7 (Int.toNat p12) 0) p11)]) else none else none else none else none else bif (decide ((0:Int)<(List.length p7:Int))) then bif (decide (0<(List.length p7))) then bif (Ag p9&&Ag (List.getD p7 0 0)) then bif (Ag (Db p9 (List.getD p7 0 0))&&Ag p9) then some (.tup [.agg [.ints (.own 100004 37) .u64 p4_1,.int .u64 (Ew (Db p9 (List.getD p7 0 0)) p9),.int .u64 p10],.bool true]) else none else none else none else none:=by kernel_rfl
theorem Bc.Dy.ev (N:Nat) (x:List Int):Bp Bc.Dy.E N Tryz.f196 (Al Tryz.f196) [.ints .arg .u64 x]=bif (Cz x) then bif (Eh (List.drop 1 x)) then Bc.Dy.L0 N N x 1 [(4607182418800017408:Int)] else bif (Cz x) then bif (Ag (Bf x)) then Bc.Dy.L1 N N x 0 [] else none else none else none:=by kernel_rfl
abbrev _root_.Go.Proofs.S1.Bc.Dy.Kn:=A5 Tryz.prog 196 Bc.Dy.spec
theorem Bc.Dy.Ac (hk:Ay Tryz.prog Bc.Dy.A8) (h:∀ (x:List Int),Bc.Dy.pre [.l x]=true→Ba Bc.Dy.E Tryz.f196 [.ints .arg .u64 x] (Bc.Dy.out [.l x])):Bc.Dy.Kn :=
  Aj (A1 hk _ _ _) Tryz.func196 (by kernel_rfl) (by kernel_rfl) h
def Bc.Apply.hint:Nat→Option Bb
  | 0=>some { keep:=[1,3,4,5,10,11,12],objs:=[],boxes:=[5,10,11] }
  | 2=>some { keep:=[1,3,4,5,10,11,12,13,14,15],objs:=[],boxes:=[5,10,11] }
  | _=>none
def Bc.Apply.A8:List (Nat × Entry):=[(118,Ak.Ig.spec),(82,Ak.Mul.spec),(81,Ak.Sub.spec),(108,Af.Qk.spec),(83,Af.F5.arg.spec)]
def Bc.Apply.E:Env:=A9 (A7 Bc.Apply.A8) (fun _=>false) Bc.Apply.hint (fun _=>none)
def Bc.Apply.L0 (N M:Nat) (r c:Int) (l:List Int) (i:Int) (v:List Int) (t p12:Int) (p11_1:List Int):Option DV:=Bv Bc.Apply.E N Tryz.f198 (Al Tryz.f198) [1,1,0,1,0] [] M ⟨Ft 60 [(1,.int .i64 i),(3,.ints .arg .u64 v),(4,.int .u64 t),(5,.ptr 5 0 0),(10,.ptr 10 0 0),(11,.ptr 11 0 0),(12,.int .i64 p12)],[(5,false,.box [.int .i64 r,.int .i64 c,.ints .arg .u64 l]),(10,false,.box [.int .i64 0,.int .i64 0,.nil]),(11,false,.box [.int .i64 r,.int .i64 c,.ints .arg .u64 p11_1])]⟩
def Bc.Apply.L1 (N M0 M:Nat) (r c:Int) (l:List Int) (i:Int) (v:List Int) (t p15:Int) (p11:List Int) (p12_1:Int) (p13:List Int) (p14:Int):Option DV:=Bv Bc.Apply.E N Tryz.f198 (Al Tryz.f198) [1,1,0,1,0,0,1,0,0,1,1,1,0] [M0] M ⟨Ft 60 [(1,.int .i64 i),(3,.ints .arg .u64 v),(4,.int .u64 t),(5,.ptr 5 0 0),(10,.ptr 10 0 0),(11,.ptr 11 0 0),(12,.int .i64 p12_1),(13,.ints .fresh .u64 p13),(14,.int .u64 p14),(15,.int .i64 p15)],[(5,false,.box [.int .i64 r,.int .i64 c,.ints .arg .u64 l]),(10,false,.box [.int .i64 0,.int .i64 0,.nil]),(11,false,.box [.int .i64 r,.int .i64 c,.ints .arg .u64 p11])]⟩
theorem Bc.Apply.Au (N M:Nat) (r c:Int) (l:List Int) (i:Int) (v:List Int) (t p12:Int) (p11_1:List Int):Bc.Apply.L0 N (M+1) r c l i v t p12 p11_1=bif (A6 p12 c) then bif (Hj r c l p12&&Dh (0≤i∧i≤r)) then bif ((decide ((0:Int)≤(List.length v:Int)))&&(decide ((List.length v:Int)≤(List.length (Cu c l p12 i (Int.toNat (r-i))):Int)))) then bif ((Pc v (List.take (Int.toNat (List.length v:Int)) (Cu c l p12 i (Int.toNat (r-i))))&&Ae v)&&Ae (List.take (Int.toNat (List.length v:Int)) (Cu c l p12 i (Int.toNat (r-i))))) then bif (Ag t&&Ag (G1 v (List.take (Int.toNat (List.length v:Int)) (Cu c l p12 i (Int.toNat (r-i)))))) then Bc.Apply.L1 N M N r c l i v t 0 p11_1 p12 (Cu c l p12 i (Int.toNat (r-i))) (D1 t (G1 v (List.take (Int.toNat (List.length v:Int)) (Cu c l p12 i (Int.toNat (r-i)))))) else none else none else none else none else some (.agg [.int .i64 r,.int .i64 c,.ints .arg .u64 p11_1]) :=
  Eq.trans (by kernel_rfl)
  (Ea (Ea (Cq (Jw (decide ((0:Int)≤(List.length v:Int))) (decide ((List.length v:Int)≤(List.length (Cu c l p12 i (Int.toNat (r-i))):Int)))) rfl rfl) rfl) rfl)
theorem Bc.Apply.B2 (N M0 M:Nat) (r c:Int) (l:List Int) (i:Int) (v:List Int) (t p15:Int) (p11:List Int) (p12_1:Int) (p13:List Int) (p14:Int):Bc.Apply.L1 N M0 (M+1) r c l i v t p15 p11 p12_1 p13 p14=bif (A6 p15 (List.length v:Int)) then bif ((decide (0≤p15))&&(decide (p15<(List.length p13:Int)))) then bif ((decide (0≤p15))&&(decide (p15<(List.length v:Int)))) then bif (Ag p14&&Ag (List.getD v (Int.toNat p15) 0)) then bif (Ag (List.getD p13 (Int.toNat p15) 0)&&Ag (D1 p14 (List.getD v (Int.toNat p15) 0))) then bif (Cd r c p11 (Ab (i+p15)) p12_1) then Bc.Apply.L1 N M0 M r c l i v t (Ab (p15+1)) (List.set p11 (Int.toNat ((Ab (i+p15))*c+p12_1)) (Db (List.getD p13 (Int.toNat p15) 0) (D1 p14 (List.getD v (Int.toNat p15) 0)))) p12_1 p13 p14 else none else none else none else none else none else Bc.Apply.L0 N M0 r c l i v t (Ab (p12_1+1)) p11 :=
  Eq.trans (by kernel_rfl)
  (Ea (Cq (Jw (decide (0≤p15)) (decide (p15<(List.length p13:Int)))) (Cq (Jw (decide (0≤p15)) (decide (p15<(List.length v:Int)))) (Cq (Ci (Ag p14&&Ag (List.getD v (Int.toNat p15) 0))) (Cq (Ci (Ag (List.getD p13 (Int.toNat p15) 0)&&Ag (D1 p14 (List.getD v (Int.toNat p15) 0)))) (Cq (Ci (Cd r c p11 (Ab (i+p15)) p12_1)) rfl rfl) rfl) rfl) rfl) rfl) rfl)
theorem Bc.Apply.ev (N:Nat) (r c:Int) (l:List Int) (i k:Int) (v:List Int) (t:Int):Bp Bc.Apply.E N Tryz.f198 (Al Tryz.f198) [.agg [.int .i64 r,.int .i64 c,.ints .arg .u64 l],.int .i64 i,.int .i64 k,.ints .arg .u64 v,.int .u64 t] =
  Bc.Apply.L0 N N r c l i v t k l:=by kernel_rfl
abbrev _root_.Go.Proofs.S1.Bc.Apply.Kn:=A5 Tryz.prog 198 Bc.Apply.spec
theorem Bc.Apply.Ac (hk:Ay Tryz.prog Bc.Apply.A8) (h:∀ (r c:Int) (l:List Int) (i k:Int) (v:List Int) (t:Int),Bc.Apply.pre [.i r,.i c,.l l,.i i,.i k,.l v,.i t]=true→Ba Bc.Apply.E Tryz.f198 [.agg [.int .i64 r,.int .i64 c,.ints .arg .u64 l],.int .i64 i,.int .i64 k,.ints .arg .u64 v,.int .u64 t] (Bc.Apply.out [.i r,.i c,.l l,.i i,.i k,.l v,.i t])):Bc.Apply.Kn :=
  Aj (A1 hk _ _ _) Tryz.func198 (by kernel_rfl) (by kernel_rfl) h
def B4.Ds.hint:Nat→Option Bb
  | 0=>some { keep:=[1,3,6,7],objs:=[],boxes:=[3,6] }
  | _=>none
def B4.Ds.A8:List (Nat × Entry):=[(83,Af.F5.arg.spec)]
def B4.Ds.E:Env:=A9 (A7 B4.Ds.A8) (fun _=>false) B4.Ds.hint (fun _=>none)
def B4.Ds.L0 (N M:Nat) (r c:Int) (j p7:Int) (p3:List Int):Option DV:=Bv B4.Ds.E N Tryz.f197 (Al Tryz.f197) [1,1,0,1,0] [] M ⟨Ft 26 [(1,.int .i64 j),(3,.ptr 3 0 0),(6,.ptr 6 0 0),(7,.int .i64 p7)],[(3,false,.box [.int .i64 r,.int .i64 c,.ints .arg .u64 p3]),(6,false,.box [.int .i64 0,.int .i64 0,.nil])]⟩
theorem B4.Ds.Au (N M:Nat) (r c:Int) (j p7:Int) (p3:List Int):B4.Ds.L0 N (M+1) r c j p7 p3=bif (A6 p7 r) then bif (Cd r c p3 p7 j) then B4.Ds.L0 N M r c j (Ab (p7+1)) (List.set p3 (Int.toNat (p7*c+j)) 0) else none else some (.agg [.int .i64 r,.int .i64 c,.ints .arg .u64 p3]):=by kernel_rfl
theorem B4.Ds.ev (N:Nat) (r c:Int) (l:List Int) (j b:Int):Bp B4.Ds.E N Tryz.f197 (Al Tryz.f197) [.agg [.int .i64 r,.int .i64 c,.ints .arg .u64 l],.int .i64 j,.int .u64 b]=bif (Cd r c l j j) then B4.Ds.L0 N N r c j (Ab (j+1)) (List.set l (Int.toNat (j*c+j)) b) else none:=by kernel_rfl
abbrev _root_.Go.Proofs.S1.B4.Ds.Kn:=A5 Tryz.prog 197 B4.Ds.spec
theorem B4.Ds.Ac (hk:Ay Tryz.prog B4.Ds.A8) (h:∀ (r c:Int) (l:List Int) (j b:Int),B4.Ds.pre [.i r,.i c,.l l,.i j,.i b]=true→Ba B4.Ds.E Tryz.f197 [.agg [.int .i64 r,.int .i64 c,.ints .arg .u64 l],.int .i64 j,.int .u64 b] (B4.Ds.out [.i r,.i c,.l l,.i j,.i b])):B4.Ds.Kn :=
  Aj (A1 hk _ _ _) Tryz.func197 (by kernel_rfl) (by kernel_rfl) h
end EqRef13
open EqRef08 EqRef13
theorem Br.ends.known:Br.ends.Kn:=Br.ends.Ac (.cons A4.Finite.known (.cons A4.Neg.known .nil)) fun b hp=>by
  have hp:Ag b=true:=hp
  refine ⟨0,.int .i64 (Rb b),[],?_,.int⟩
  rw [Br.ends.ev,hp,Ay6,Ay6]
  unfold Rb
  cases Da b with
  | true=>rfl
  | false =>
    rw [Aza,if_neg (by decide)]
    cases D0 b<;>rfl
theorem Br.H3.known:Br.H3.Kn:=Br.H3.Ac (.cons A4.Dv.known (.cons A4.Neg.known .nil)) fun a hp=>by
  obtain ⟨n,rfl,hn⟩:=Bl (x:=a) hp
  refine ⟨0,.int .u64 (Jq (n:Int)),[],?_,.int⟩
  rw [Br.H3.ev,Cb hn,Ay6,Ay6]
  unfold Jq D0 Dd Hl Hs Bu
  rw [Ay8]
  by_cases h:2^63≤n
  · rw [Ay7 h,Ay6,if_pos h,show n%2^63=n-2^63 by omega]
  · rw [Azb h,Aza,show n%2^63=n by omega]
theorem Acx (b:Nat):Xi (Bi (mD (Fq (b:Int)))) (Ap (mD (Fq (b:Int))))=true∧Jy (Bi (mD (Fq (b:Int)))) (Ap (mD (Fq (b:Int))))=true∧W7 (eD (Fq (b:Int)) (A3 b))=true:=by
  obtain ⟨v1,v2,v3⟩:=Aty b
  have hl:Dz (mD (Fq (b:Int))).natAbs<3:=Nat.lt_of_le_of_lt (M3 (Abb _)) v1
  exact ⟨Aog (by omega),Jx (by omega),Aw.2 ⟨v2,v3⟩⟩
theorem As3 {a b:Nat} (ha:An a≠4) (hb:An b≠4):W9 (mD (Fq (a:Int))) (eD (Fq (a:Int)) (A3 a)) (mD (Fq (b:Int))) (eD (Fq (b:Int)) (A3 b))=if Ib a<Ib b then -1 else if Ib b<Ib a then 1 else 0:=by
  have pa:=E2 a
  have pb:=E2 b
  have ga:mD (Fq (a:Int))≠0→(-1074:Int)≤eD (Fq (a:Int)) (A3 a):=fun h=>Atv pa.1 (fun h0=>h (P0.2 h0))
  have gb:mD (Fq (b:Int))≠0→(-1074:Int)≤eD (Fq (b:Int)) (A3 b):=fun h=>Atv pb.1 (fun h0=>h (P0.2 h0))
  rw [As4 ga gb,Ai2 pa.1,Ai2 pb.1,← Am5,← Am5]
  have h1:=Ab1 (f:=-1074) ha hb pa.1 pb.1
  have h2:=Ab1 (f:=-1074) hb ha pb.1 pa.1
  unfold W8
  by_cases c1:Kc a (-1074)<Kc b (-1074)
  · rw [if_pos c1,if_pos (h1.1 c1)]
  · rw [if_neg c1,if_neg (fun h=>c1 (h1.2 h))]
    by_cases c2:Kc b (-1074)<Kc a (-1074)
    · rw [if_pos c2,if_pos (h2.1 c2)]
    · rw [if_neg c2,if_neg (fun h=>c2 (h2.2 h))]
theorem Apd {b:Nat} (hb:b<2^64):Ib b=Ih (Bu b) (b%2^63):=by
  have:=O9 (Bu b) (r:=b%2^63) (Nat.mod_lt _ (by decide))
  rw [Mv hb] at this
  exact this
theorem Aj4 {b:Nat} (hb:b<2^64) (h4:An b≠4):(Kp b=true→Rb (b:Int)=0∧-(Ee:Int)<Ib b∧Ib b<Ee)∧(Kp b=false→An b=3∧((Rb (b:Int)=1∧Ib b=Ee)∨(Rb (b:Int)=-1∧Ib b=-(Ee:Int)))):=by
  have hk:=Apd hb
  constructor
  · intro hf
    obtain ⟨_,f3⟩:=Q9 hf
    have hl:=U2 f3 h4
    refine ⟨by unfold Rb Da; rw [Ay8,hf,if_pos rfl],?_⟩
    rw [hk]
    unfold Ih
    cases Bu b
    · rw [if_neg (by decide)]; omega
    · rw [if_pos rfl]; omega
  · intro hf
    have h3:An b=3:=by
      unfold Kp at hf
      have:=of_decide_eq_false hf
      rcases Hx b with ⟨_,_,k⟩ | ⟨_,_,k⟩ | ⟨k,_,_⟩
      · exact k
      · exact absurd k h4
      · omega
    have hi:=U1 h3
    refine ⟨h3,?_⟩
    rw [hk,hi]
    unfold Rb Da D0 Ih
    rw [Ay8,hf,if_neg (by decide)]
    cases Bu b
    · left; exact ⟨rfl,rfl⟩
    · right; exact ⟨rfl,rfl⟩
theorem Br.Order.known:Br.Order.Kn:=Br.Order.Ac (.cons Az.Compare.known (.cons A4.Kind.known (.cons A4.Value.known (.cons Br.ends.known .nil)))) fun a b hp=>by
  obtain ⟨ha,hb⟩:=Ad.1 (show (Ag a&&Ag b)=true from hp)
  obtain ⟨a,rfl,hn⟩:=Bl ha
  obtain ⟨b,rfl,hm⟩:=Bl hb
  refine ⟨0,.tup [.int .i64 (Ta (a:Int) (b:Int)),.bool (Aa6 (a:Int) (b:Int))],[],?_,Wk.G6 (.cons .int (.cons .bool .nil))⟩
  have kk:∀ n:Nat,Be (n:Int)=(An n:Int):=fun _=>rfl
  have pe:∀ n:Nat,Bh (n:Int)=A3 n:=fun _=>rfl
  rw [Br.Order.ev,I4,I4,ha,hb,Ay6,Bool.or_true,Ay6,Ay6,Ay6,Ay6,Ay6,kk,kk,pe,pe,H5,H5]
  unfold Ta Aa6 Afa Aae
  rw [Ay8,Ay8]
  by_cases n4:An a=4∨An b=4
  · have:(((An a:Nat):Int)==4||((An b:Nat):Int)==4)=true:=by
      rw [Bool.or_eq_true,beq_iff_eq,beq_iff_eq]; omega
    rw [this,Ay6,if_pos n4,Ay7 n4]; rfl
  · have:(((An a:Nat):Int)==4||((An b:Nat):Int)==4)=false:=by
      rw [Bool.or_eq_false_iff,beq_eq_false_iff_ne,beq_eq_false_iff_ne]; omega
    rw [this,Aza,if_neg n4,Azb n4,Bool.not_false]
    have a4:An a≠4:=fun h=>n4 (.inl h)
    have b4:An b≠4:=fun h=>n4 (.inr h)
    obtain ⟨a1,a2⟩:=Aj4 hn a4
    obtain ⟨b1,b2⟩:=Aj4 hm b4
    have hinf:(0:Int)<(Ee:Int):=by decide
    cases hfa:Kp a with
    | true =>
      obtain ⟨ea,ka1,ka2⟩:=a1 hfa
      cases hfb:Kp b with
      | true =>
        obtain ⟨eb,kb1,kb2⟩:=b1 hfb
        obtain ⟨o1,_,o3⟩:=Acx a
        obtain ⟨p1,_,p3⟩:=Acx b
        have hc:=As3 a4 b4
        rw [ea,eb,show (((0:Int) !=(0:Int))||((0:Int) !=(0:Int)))=false from rfl,Aza,o1,o3,p1,p3,hc]
        rfl
      | false =>
        obtain ⟨_,hb2⟩:=b2 hfb
        rcases hb2 with ⟨eb,kb⟩ | ⟨eb,kb⟩
        · rw [ea,eb,kb,if_pos ka2]; rfl
        · rw [ea,eb,kb,if_neg (by omega),if_pos ka1]; rfl
    | false =>
      obtain ⟨_,ha2⟩:=a2 hfa
      cases hfb:Kp b with
      | true =>
        obtain ⟨eb,kb1,kb2⟩:=b1 hfb
        rcases ha2 with ⟨ea,ka⟩ | ⟨ea,ka⟩
        · rw [ea,eb,ka,if_neg (by omega),if_pos kb2]; rfl
        · rw [ea,eb,ka,if_pos kb1]; rfl
      | false =>
        obtain ⟨_,hb2⟩:=b2 hfb
        rcases ha2 with ⟨ea,ka⟩ | ⟨ea,ka⟩<;>rcases hb2 with ⟨eb,kb⟩ | ⟨eb,kb⟩
        · rw [ea,eb,ka,kb,if_neg (by omega),if_neg (by omega)]; rfl
        · rw [ea,eb,ka,kb,if_neg (by omega),if_pos (by omega)]; rfl
        · rw [ea,eb,ka,kb,if_pos (by omega)]; rfl
        · rw [ea,eb,ka,kb,if_neg (by omega),if_neg (by omega)]; rfl
theorem Br.Max.known:Br.Max.Kn:=Br.Max.Ac (.cons Br.Order.known .nil) fun a b hp=>by
  have hp:(Ag a&&Ag b)=true:=hp
  refine ⟨0,.int .u64 (O6 a b),[],?_,.int⟩
  rw [Br.Max.ev,hp,Ay6,Aq]
  unfold O6 Ah3 Aa6 Ta
  cases Aae a.toNat b.toNat with
  | false=>rfl
  | true =>
    rw [Bool.not_true,Aza,if_pos rfl]
    obtain ⟨h1,h2⟩:=Ad.1 hp
    obtain ⟨x,rfl,_⟩:=Bl h1
    obtain ⟨y,rfl,_⟩:=Bl h2
    rw [Ay8,Ay8]
    by_cases h:Afa x y<0
    · rw [Ay7 h,Ay6,if_pos h]
    · rw [Azb h,Aza,if_neg h]
theorem Br.L4.known:Br.L4.Kn:=Br.L4.Ac (.cons Az.W5.known (.cons A4.Finite.known (.cons A4.Kind.known (.cons A4.Value.known .nil)))) fun a hp=>by
  obtain ⟨b,rfl,hb⟩:=Bl (x:=a) hp
  refine ⟨0,.int .i64 (Bs (b:Int)),[],?_,.int⟩
  have kk:Be (b:Int)=(An b:Int):=rfl
  have hf:Da (b:Int)=Kp b:=rfl
  have pe:Bh (b:Int)=A3 b:=rfl
  obtain ⟨_,o2,o3⟩:=Acx b
  have hE:=E2 b
  have hM:=Fs b
  rw [Br.L4.ev,Cb hb,Ay6,I4,Bool.or_true,Ay6,kk,hf,pe,o2,o3,H5,Azc,Ay6,Ay6]
  unfold Bs
  rw [Ay8]
  unfold Amf
  cases hfin:Kp b with
  | false=>rfl
  | true =>
    by_cases h0:An b=0
    · rw [h0]; rfl
    · have k0:(((An b:Nat):Int)==(0:Int))=false:=by rw [beq_eq_false_iff_ne]; omega
      obtain ⟨f4,f3⟩:=Q9 hfin
      have hm:Ax b≠0:=fun hz=>h0 ((Hr f3 f4).1 hz)
      have hv:Fq (b:Int)≠0:=by
        intro h
        have:=Ab2 b
        rw [h] at this
        exact hm this.symm
      have hl:(Ax b).log2≤52:=by have:=(Nat.log2_lt hm).2 (show Ax b<2^53 by omega); omega
      have ht:Iz (mD (Fq (b:Int))) (eD (Fq (b:Int)) (A3 b))=((Ax b).log2:Int)+1+A3 b:=by
        unfold Iz Y4
        rw [if_neg (fun h=>hv (P0.1 h)),if_neg (fun h=>hv (P0.1 h))]
        unfold eD
        rw [if_neg hv]
        have hs:=Xl (Fq (b:Int))
        have ha:Ax b=(mD (Fq (b:Int))).natAbs*2^Si (Fq (b:Int)).natAbs:=by
          have e:=congrArg Int.natAbs hs
          rw [Int.natAbs_mul,Int.natAbs_natCast] at e
          rw [← Ab2 b]
          exact e
        have hmd:(mD (Fq (b:Int))).natAbs≠0:=fun h=>hv (P0.1 (Int.natAbs_eq_zero.1 h))
        have hlog:=Lr (mD (Fq (b:Int))).natAbs (Si (Fq (b:Int)).natAbs) hmd
        rw [← ha] at hlog
        rw [hlog]
        omega
      rw [k0,if_pos ⟨rfl,h0⟩,ht,Am (by omega) (by omega)]
      show some (DV.int .i64 _)=_
      congr 2; omega
theorem Ajz {b:Nat} (h:b<2^63):Ib b=(b:Int):=O9 false h
theorem Ar6 {m x:Nat} (hm:m<2^63) (m4:An m≠4) (hx:x<2^63) (x4:An x≠4):Ah3 m x=max m x:=by
  have o:Aae m x=true:=by unfold Aae; rw [Azb (by omega)]; rfl
  have ho:Afa m x=if (m:Int)<(x:Int) then -1 else if (x:Int)<(m:Int) then 1 else 0:=by
    unfold Afa
    rw [if_neg (by omega),Ajz hm,Ajz hx]
  unfold Ah3
  rw [o,if_pos rfl,ho]
  by_cases h:m<x
  · rw [if_pos (show (m:Int)<(x:Int) by omega),if_pos (by decide),Nat.max_eq_right (by omega)]
  · rw [if_neg (show ¬ (m:Int)<(x:Int) by omega)]
    by_cases h2:x<m
    · rw [if_pos (show (x:Int)<(m:Int) by omega),if_neg (by decide),Nat.max_eq_left (by omega)]
    · rw [if_neg (show ¬ (x:Int)<(m:Int) by omega),if_neg (by decide),Nat.max_eq_left (by omega)]
theorem Ajp {m x:Nat} (h:An m=4∨An x=4):Ah3 m x=Ql:=by
  have o:Aae m x=false:=by unfold Aae; rw [Ay7 h]; rfl
  unfold Ah3
  rw [o,if_neg (by decide)]
theorem Als:An Ql=4:=by decide
theorem Af4:∀ l:List Int,l.foldl (fun m x=>O6 m (Jq x)) ((Ql:Nat):Int)=((Ql:Nat):Int)
  | []=>rfl
  | x::l=>by
    rw [List.foldl_cons]
    have:O6 ((Ql:Nat):Int) (Jq x)=((Ql:Nat):Int):=by unfold O6; rw [Ay8,Ajp (.inl Als)]
    rw [this]
    exact Af4 l
theorem Zf:∀ (l:List Int) (m:Nat),m<2^63→An m≠4→l.foldl (fun m x=>O6 m (Jq x)) (m:Int)=((Zy l m:Nat):Int)
  | [],m,_,_=>rfl
  | x::l,m,hm,m4=>by
    rw [List.foldl_cons]
    unfold Zy
    have e1:(Jq x).toNat=Hl x.toNat:=by unfold Jq; rw [Ay8]
    by_cases h:An x.toNat=4
    · rw [if_pos h]
      have:O6 (m:Int) (Jq x)=((Ql:Nat):Int):=by
        unfold O6
        rw [e1,Ajp (.inr (by rw [Q4]; exact h))]
      rw [this]
      exact Af4 l
    · rw [if_neg h]
      have hx:=Se x.toNat
      have x4:An (Hl x.toNat)≠4:=by rw [Q4]; exact h
      have:O6 (m:Int) (Jq x)=((max m (Hl x.toNat):Nat):Int):=by
        unfold O6
        rw [Ay8,e1,Ar6 hm m4 hx x4]
      rw [this]
      refine Zf l _ (by omega) ?_
      rcases Nat.le_total m (Hl x.toNat) with h2 | h2
      · rw [Nat.max_eq_right h2]; exact x4
      · rw [Nat.max_eq_left h2]; exact m4
theorem Aou {a b:Int} (ha:Ag a=true) (hb:Ag b=true):Ag (O6 a b)=true:=by
  obtain ⟨x,rfl,hx⟩:=Bl ha
  obtain ⟨y,rfl,hy⟩:=Bl hb
  unfold O6 Ah3
  rw [Ay8,Ay8]
  split
  · split
    · exact hb
    · exact ha
  · exact Cb (by decide)
theorem Acu (N:Nat) {x:List Int} (hx:Cz x=true):∀ (k i F:Nat) (m:Int),i+k=x.length→k<F→Ag m=true→Ak.Bq.L0 N F x m (i:Int)=some (.int .u64 ((x.drop i).foldl (fun m x=>O6 m (Jq x)) m)):=by
  obtain ⟨hl,hu⟩:=Ii hx
  intro k
  induction k with
  | zero =>
    intro i F m hi hF hm
    obtain ⟨F,rfl⟩:∃ G,F=G+1:=⟨F-1,by omega⟩
    rw [Ak.Bq.Au,Aq,Azb (by omega),Aza,Azk (by omega)]; rfl
  | succ k ih =>
    intro i F m hi hF hm
    obtain ⟨F,rfl⟩:∃ G,F=G+1:=⟨F-1,by omega⟩
    rw [Ak.Bq.Au,Aq,Ay7 (show (i:Int)<(x.length:Int) by omega),Ay6,Ay7 (show (0:Int)≤(i:Int) by omega),Azc,Ay6,Ay8,hu i (by omega),Ay6,hm,Th,Azc,Ay6,Hi (by omega),List.foldl_cons,Am (by omega) (by omega)]
    exact ih (i+1) F _ (by omega) (by omega) (Aou hm (Th _))
theorem Ak.Bq.known:Ak.Bq.Kn:=Ak.Bq.Ac (.cons Br.H3.known (.cons Br.Max.known .nil)) fun x hp=>by
  refine ⟨x.length+1,.int .u64 (Bf x),[],?_,.int⟩
  rw [Ak.Bq.ev]
  have h:=Acu (x.length+1) hp x.length 0 (x.length+1) 0 (by omega) (by omega) Jd
  rw [List.drop_zero] at h
  have h2:=Zf x 0 (by decide) (by decide +kernel)
  exact h.trans (congrArg (fun n:Int=>some (DV.int .u64 n)) h2)
theorem math.Sqrt.known:math.Sqrt.Kn:=math.Sqrt.Ac .nil fun x _=>⟨0,.fl ((Ieee.double.sqrt x).getD nanBits),[],by rw [math.Sqrt.ev],.fl⟩
theorem Ak.Sqrt.known:Ak.Sqrt.Kn:=Ak.Sqrt.Ac (.cons math.Sqrt.known (.cons Ak.B.known (.cons Ak.F.known .nil))) fun a hp=>by
  obtain ⟨x,rfl,hx⟩:=Bl (x:=a) hp
  refine ⟨0,.int .u64 (F8 (x:Int)),[],?_,.int⟩
  have:Ga ((Ieee.double.sqrt (Int.toNat (x:Int))).getD nanBits)=F8 (x:Int):=by
    unfold Ga F8
    rw [Ay8,Ak7 hx G3]
  rw [Ak.Sqrt.ev,Cb hx,Ay6,this]
theorem Aaa (N:Nat) {x:List Int} (hx:Cz x=true):∀ (k i F:Nat) (s:Int),i+k=x.length→k<F→Ag s=true →
    Ak.Norm.L0 N F x s (i:Int)=some (.int .u64 (By (F8 (Aem (-Bs (Bf x)) s (x.drop i))) (Bs (Bf x)))):=by
  obtain ⟨hl,hu⟩:=Ii hx
  have he:=Zm (Bf x)
  intro k
  induction k with
  | zero =>
    intro i F s hi hF hs
    obtain ⟨F,rfl⟩:∃ G,F=G+1:=⟨F-1,by omega⟩
    rw [Ak.Norm.Au,Aq,Azb (by omega),Aza,hs,Ay6,show Dj (F8 s) (Bs (Bf x))=true from Ad.2 ⟨Ace hs,Aw.2 (by omega)⟩,Ay6,Azk (by omega)]
    rfl
  | succ k ih =>
    intro i F s hi hF hs
    obtain ⟨F,rfl⟩:∃ G,F=G+1:=⟨F-1,by omega⟩
    rw [Ak.Norm.Au,Aq,Ay7 (show (i:Int)<(x.length:Int) by omega),Ay6,Ay7 (show (0:Int)≤(i:Int) by omega),Azc,Ay6,Ay8,Am (x:=(0:Int)-Bs (Bf x)) (by omega) (by omega),show (0:Int)-Bs (Bf x)=-Bs (Bf x) by omega,
      show Dj (List.getD x i 0) (-Bs (Bf x))=true from Ad.2 ⟨hu i (by omega),Aw.2 (by omega)⟩,Ay6,H6 (hu i (by omega)),Azc,Ay6,hs,Ia,Azc,Ay6,Ael (by omega),Am (by omega) (by omega)]
    exact ih (i+1) F _ (by omega) (by omega) (Aiv hs (Ia _ _))
theorem Ak.Norm.known:Ak.Norm.Kn:=Ak.Norm.Ac (.cons A4.Finite.known (.cons Br.L4.known (.cons Ak.Add.known (.cons Ak.Bq.known (.cons Ak.Mul.known (.cons Ak.Bt.known (.cons Ak.Sqrt.known .nil))))))) fun x hp=>by
  have hx:Cz x=true:=hp
  refine ⟨x.length+1,.int .u64 (Dq x),[],?_,.int⟩
  rw [Ak.Norm.ev,hx,Ay6,Oi,Bool.or_true,Ay6]
  unfold Dq
  by_cases h:Bf x=0∨Da (Bf x)=false
  · have:((Bf x==(0:Int))||(!(Da (Bf x))))=true:=by
      rcases h with h | h
      · rw [h]; rfl
      · rw [h,Bool.not_false,Bool.or_true]
    rw [this,Ay6,if_pos h]
  · have:((Bf x==(0:Int))||(!(Da (Bf x))))=false:=by
      rw [Bool.or_eq_false_iff,beq_eq_false_iff_ne,Bool.not_eq_false']
      refine ⟨fun h0=>h (.inl h0),?_⟩
      cases hf:Da (Bf x) with
      | true=>rfl
      | false=>exact absurd (.inr hf) h
    rw [this,Aza,Ay6,if_neg h]
    exact Aaa (x.length+1) hx x.length 0 (x.length+1) 0 (by omega) (by omega) Jd
namespace EqOf
def Aa.of.Bm.hint:Nat→Option Bb
  | 0=>some { keep:=[1,2,6,7,13,14],objs:=[(8,2,108002,.ints 37 .u64 [])],boxes:=[6,7] }
  | 2=>some { keep:=[1,2,6,7,8,13,14,17,18],objs:=[(8,2,108002,.ints 37 .u64 [])],boxes:=[6,7] }
  | _=>none
def Aa.of.Bm.A8:List (Nat × Entry):=[(205,Aa.E0.spec)]
def Aa.of.Bm.E:Env:=A9 (A7 Aa.of.Bm.A8) (fun _=>false) Aa.of.Bm.hint (fun _=>none)
def Aa.of.Bm.L0 (N M:Nat) (a b p14:Int) (p2_1:List Int):Option DV:=Bv Aa.of.Bm.E N Tryz.f187 (Al Tryz.f187) [1,1,0,1,0] [] M ⟨Ft 33 [(1,.int .i64 b),(2,.fn 205 [] []),(6,.ptr 6 0 0),(7,.ptr 7 0 0),(13,.int .i64 a),(14,.int .i64 p14)],[(6,false,.box [.int .i64 0,.int .i64 0,.nil]),(7,false,.box [.int .i64 a,.int .i64 b,.oref 108002]),(108002,false,.ints 37 .u64 p2_1)]⟩
def Aa.of.Bm.L1 (N M0 M:Nat) (a b:Int) (p8 p14_1 p18:Int) (p2:List Int):Option DV:=Bv Aa.of.Bm.E N Tryz.f187 (Al Tryz.f187) [1,1,0,1,0,0,1,1,0,0,1,1,0] [M0] M ⟨Ft 33 [(1,.int .i64 b),(2,.fn 205 [] []),(6,.ptr 6 0 0),(7,.ptr 7 0 0),(8,.int .i64 p8),(13,.int .i64 a),(14,.int .i64 p14_1),(17,.int .i64 b),(18,.int .i64 p18)],[(6,false,.box [.int .i64 0,.int .i64 0,.nil]),(7,false,.box [.int .i64 a,.int .i64 b,.oref 108002]),(108002,false,.ints 37 .u64 p2)]⟩
theorem Aa.of.Bm.Au (N M:Nat) (a b p14:Int) (p2_1:List Int):Aa.of.Bm.L0 N (M+1) a b p14 p2_1=bif (A6 p14 a) then Aa.of.Bm.L1 N M N a b p14 p14 0 p2_1 else some (.agg [.int .i64 a,.int .i64 b,.ints (.own 108002 37) .u64 p2_1]):=by kernel_rfl
theorem Aa.of.Bm.B2 (N M0 M:Nat) (a b:Int) (p8 p14_1 p18:Int) (p2:List Int):Aa.of.Bm.L1 N M0 (M+1) a b p8 p14_1 p18 p2=bif (A6 p18 b) then bif (decide ((List.length p2)+1≤Gu)) then Aa.of.Bm.L1 N M0 M a b p8 p14_1 (Ab (p18+1)) (p2++[(0:Int)]) else none else Aa.of.Bm.L0 N M0 a b (Ab (p14_1+1)) p2 :=
  Eq.trans (by kernel_rfl)
  (Ea (Cq (Ci (decide ((List.length p2)+1≤Gu))) rfl rfl) rfl)
theorem Aa.of.Bm.ev (N:Nat) (a b:Int):Bp Aa.of.Bm.E N Tryz.f187 (Al Tryz.f187) [.int .i64 a,.int .i64 b,.fn 205 [] []] =
  Aa.of.Bm.L0 N N a b 0 []:=by kernel_rfl
def Aa.of.Fc.hint:Nat→Option Bb
  | 0=>some { keep:=[1,2,6,7,13,14],objs:=[(8,2,108002,.ints 37 .u64 [])],boxes:=[6,7] }
  | 2=>some { keep:=[1,2,6,7,8,13,14,17,18],objs:=[(8,2,108002,.ints 37 .u64 [])],boxes:=[6,7] }
  | _=>none
def Aa.of.Fc.A8:List (Nat × Entry):=[(246,Aa.Iw.spec)]
def Aa.of.Fc.E:Env:=A9 (A7 Aa.of.Fc.A8) (fun _=>false) Aa.of.Fc.hint (fun _=>none)
def Aa.of.Fc.L0 (N M:Nat) (a b p14:Int) (p2_1:List Int):Option DV:=Bv Aa.of.Fc.E N Tryz.f187 (Al Tryz.f187) [1,1,0,1,0] [] M ⟨Ft 33 [(1,.int .i64 b),(2,.fn 246 [] []),(6,.ptr 6 0 0),(7,.ptr 7 0 0),(13,.int .i64 a),(14,.int .i64 p14)],[(6,false,.box [.int .i64 0,.int .i64 0,.nil]),(7,false,.box [.int .i64 a,.int .i64 b,.oref 108002]),(108002,false,.ints 37 .u64 p2_1)]⟩
def Aa.of.Fc.L1 (N M0 M:Nat) (a b:Int) (p8 p14_1 p18:Int) (p2:List Int):Option DV:=Bv Aa.of.Fc.E N Tryz.f187 (Al Tryz.f187) [1,1,0,1,0,0,1,1,0,0,1,1,0] [M0] M ⟨Ft 33 [(1,.int .i64 b),(2,.fn 246 [] []),(6,.ptr 6 0 0),(7,.ptr 7 0 0),(8,.int .i64 p8),(13,.int .i64 a),(14,.int .i64 p14_1),(17,.int .i64 b),(18,.int .i64 p18)],[(6,false,.box [.int .i64 0,.int .i64 0,.nil]),(7,false,.box [.int .i64 a,.int .i64 b,.oref 108002]),(108002,false,.ints 37 .u64 p2)]⟩
theorem Aa.of.Fc.Au (N M:Nat) (a b p14:Int) (p2_1:List Int):Aa.of.Fc.L0 N (M+1) a b p14 p2_1=bif (A6 p14 a) then Aa.of.Fc.L1 N M N a b p14 p14 0 p2_1 else some (.agg [.int .i64 a,.int .i64 b,.ints (.own 108002 37) .u64 p2_1]):=by kernel_rfl
theorem Aa.of.Fc.B2 (N M0 M:Nat) (a b:Int) (p8 p14_1 p18:Int) (p2:List Int):Aa.of.Fc.L1 N M0 (M+1) a b p8 p14_1 p18 p2=bif (A6 p18 b) then bif (decide ((List.length p2)+1≤Gu)) then Aa.of.Fc.L1 N M0 M a b p8 p14_1 (Ab (p18+1)) (p2++[(Ns p8 p18)]) else none else Aa.of.Fc.L0 N M0 a b (Ab (p14_1+1)) p2 :=
  Eq.trans (by kernel_rfl)
  (Ea (Cq (Ci (decide ((List.length p2)+1≤Gu))) rfl rfl) rfl)
theorem Aa.of.Fc.ev (N:Nat) (a b:Int):Bp Aa.of.Fc.E N Tryz.f187 (Al Tryz.f187) [.int .i64 a,.int .i64 b,.fn 246 [] []] =
  Aa.of.Fc.L0 N N a b 0 []:=by kernel_rfl
abbrev _root_.Go.Proofs.S1.Aa.of.Fc.Kn:=A5 Tryz.prog 187 Aa.of.Fc.spec
theorem Aa.of.Fc.Ac (hk:Ay Tryz.prog Aa.of.Fc.A8) (h:∀ (a b:Int),Aa.of.Fc.pre [.i a,.i b]=true→Ba Aa.of.Fc.E Tryz.f187 [.int .i64 a,.int .i64 b,.fn 246 [] []] (Aa.of.Fc.out [.i a,.i b])):Aa.of.Fc.Kn :=
  Aj (A1 hk _ _ _) Tryz.func187 (by kernel_rfl) (by kernel_rfl) h
def Aa.of.Co.hint:Nat→Option Bb
  | 0=>some { keep:=[1,2,6,7,13,14],objs:=[(8,2,108002,.ints 37 .u64 [])],boxes:=[6,7] }
  | 2=>some { keep:=[1,2,6,7,8,13,14,17,18],objs:=[(8,2,108002,.ints 37 .u64 [])],boxes:=[6,7] }
  | _=>none
def Aa.of.Co.A8:List (Nat × Entry):=[(220,Aa.Gc.spec)]
def Aa.of.Co.E:Env:=A9 (A7 Aa.of.Co.A8) (fun _=>false) Aa.of.Co.hint (fun _=>none)
def Aa.of.Co.L0 (N M:Nat) (a b:Int) (r c:Int) (l:List Int) (p14:Int) (p2_1:List Int):Option DV:=Bv Aa.of.Co.E N Tryz.f187 (Al Tryz.f187) [1,1,0,1,0] [] M ⟨Ft 33 [(1,.int .i64 b),(2,.fn 220 [] [.cellp [.int .i64 r,.int .i64 c,.ints .arg .u64 l]]),(6,.ptr 6 0 0),(7,.ptr 7 0 0),(13,.int .i64 a),(14,.int .i64 p14)],[(6,false,.box [.int .i64 0,.int .i64 0,.nil]),(7,false,.box [.int .i64 a,.int .i64 b,.oref 108002]),(108002,false,.ints 37 .u64 p2_1)]⟩
def Aa.of.Co.L1 (N M0 M:Nat) (a b:Int) (r c:Int) (l:List Int) (p8 p14_1 p18:Int) (p2:List Int):Option DV:=Bv Aa.of.Co.E N Tryz.f187 (Al Tryz.f187) [1,1,0,1,0,0,1,1,0,0,1,1,0] [M0] M ⟨Ft 33 [(1,.int .i64 b),(2,.fn 220 [] [.cellp [.int .i64 r,.int .i64 c,.ints .arg .u64 l]]),(6,.ptr 6 0 0),(7,.ptr 7 0 0),(8,.int .i64 p8),(13,.int .i64 a),(14,.int .i64 p14_1),(17,.int .i64 b),(18,.int .i64 p18)],[(6,false,.box [.int .i64 0,.int .i64 0,.nil]),(7,false,.box [.int .i64 a,.int .i64 b,.oref 108002]),(108002,false,.ints 37 .u64 p2)]⟩
theorem Aa.of.Co.Au (N M:Nat) (a b:Int) (r c:Int) (l:List Int) (p14:Int) (p2_1:List Int):Aa.of.Co.L0 N (M+1) a b r c l p14 p2_1=bif (A6 p14 a) then Aa.of.Co.L1 N M N a b r c l p14 p14 0 p2_1 else some (.agg [.int .i64 a,.int .i64 b,.ints (.own 108002 37) .u64 p2_1]):=by kernel_rfl
theorem Aa.of.Co.B2 (N M0 M:Nat) (a b:Int) (r c:Int) (l:List Int) (p8 p14_1 p18:Int) (p2:List Int):Aa.of.Co.L1 N M0 (M+1) a b r c l p8 p14_1 p18 p2=bif (A6 p18 b) then bif (Cd r c l p18 p8) then bif (decide ((List.length p2)+1≤Gu)) then Aa.of.Co.L1 N M0 M a b r c l p8 p14_1 (Ab (p18+1)) (p2++[(Cj c l p18 p8)]) else none else none else Aa.of.Co.L0 N M0 a b r c l (Ab (p14_1+1)) p2 :=
  Eq.trans (by kernel_rfl)
  (Ea (Cq (Ci (Cd r c l p18 p8)) (Cq (Ci (decide ((List.length p2)+1≤Gu))) rfl rfl) rfl) rfl)
theorem Aa.of.Co.ev (N:Nat) (a b:Int) (r c:Int) (l:List Int):Bp Aa.of.Co.E N Tryz.f187 (Al Tryz.f187) [.int .i64 a,.int .i64 b,.fn 220 [] [.cellp [.int .i64 r,.int .i64 c,.ints .arg .u64 l]]] =
  Aa.of.Co.L0 N N a b r c l 0 []:=by kernel_rfl
abbrev _root_.Go.Proofs.S1.Aa.of.Co.Kn:=A5 Tryz.prog 187 Aa.of.Co.spec
theorem Aa.of.Co.Ac (hk:Ay Tryz.prog Aa.of.Co.A8) (h:∀ (a b:Int) (r c:Int) (l:List Int),Aa.of.Co.pre [.i a,.i b,.i r,.i c,.l l]=true→Ba Aa.of.Co.E Tryz.f187 [.int .i64 a,.int .i64 b,.fn 220 [] [.cellp [.int .i64 r,.int .i64 c,.ints .arg .u64 l]]] (Aa.of.Co.out [.i a,.i b,.i r,.i c,.l l])):Aa.of.Co.Kn :=
  Aj (A1 hk _ _ _) Tryz.func187 (by kernel_rfl) (by kernel_rfl) h
def Aa.of.Part.hint:Nat→Option Bb
  | 0=>some { keep:=[1,2,6,7,13,14],objs:=[(8,2,108002,.ints 37 .u64 [])],boxes:=[6,7] }
  | 2=>some { keep:=[1,2,6,7,8,13,14,17,18],objs:=[(8,2,108002,.ints 37 .u64 [])],boxes:=[6,7] }
  | _=>none
def Aa.of.Part.A8:List (Nat × Entry):=[(192,Aa.Ge.spec)]
def Aa.of.Part.E:Env:=A9 (A7 Aa.of.Part.A8) (fun _=>false) Aa.of.Part.hint (fun _=>none)
def Aa.of.Part.L0 (N M:Nat) (a b:Int) (r c:Int) (l:List Int) (x y p14:Int) (p2_1:List Int):Option DV:=Bv Aa.of.Part.E N Tryz.f187 (Al Tryz.f187) [1,1,0,1,0] [] M ⟨Ft 33 [(1,.int .i64 b),(2,.fn 192 [] [.cellp [.int .i64 r,.int .i64 c,.ints .arg .u64 l],.cellp [.int .i64 x],.cellp [.int .i64 y]]),(6,.ptr 6 0 0),(7,.ptr 7 0 0),(13,.int .i64 a),(14,.int .i64 p14)],[(6,false,.box [.int .i64 0,.int .i64 0,.nil]),(7,false,.box [.int .i64 a,.int .i64 b,.oref 108002]),(108002,false,.ints 37 .u64 p2_1)]⟩
def Aa.of.Part.L1 (N M0 M:Nat) (a b:Int) (r c:Int) (l:List Int) (x y:Int) (p8 p14_1 p18:Int) (p2:List Int):Option DV:=Bv Aa.of.Part.E N Tryz.f187 (Al Tryz.f187) [1,1,0,1,0,0,1,1,0,0,1,1,0] [M0] M ⟨Ft 33 [(1,.int .i64 b),(2,.fn 192 [] [.cellp [.int .i64 r,.int .i64 c,.ints .arg .u64 l],.cellp [.int .i64 x],.cellp [.int .i64 y]]),(6,.ptr 6 0 0),(7,.ptr 7 0 0),(8,.int .i64 p8),(13,.int .i64 a),(14,.int .i64 p14_1),(17,.int .i64 b),(18,.int .i64 p18)],[(6,false,.box [.int .i64 0,.int .i64 0,.nil]),(7,false,.box [.int .i64 a,.int .i64 b,.oref 108002]),(108002,false,.ints 37 .u64 p2)]⟩
theorem Aa.of.Part.Au (N M:Nat) (a b:Int) (r c:Int) (l:List Int) (x y p14:Int) (p2_1:List Int):Aa.of.Part.L0 N (M+1) a b r c l x y p14 p2_1=bif (A6 p14 a) then Aa.of.Part.L1 N M N a b r c l x y p14 p14 0 p2_1 else some (.agg [.int .i64 a,.int .i64 b,.ints (.own 108002 37) .u64 p2_1]):=by kernel_rfl
theorem Aa.of.Part.B2 (N M0 M:Nat) (a b:Int) (r c:Int) (l:List Int) (x y:Int) (p8 p14_1 p18:Int) (p2:List Int):Aa.of.Part.L1 N M0 (M+1) a b r c l x y p8 p14_1 p18 p2=bif (A6 p18 b) then bif (Cd r c l (x+p8) (y+p18)&&Vs x y p8 p18) then bif (decide ((List.length p2)+1≤Gu)) then Aa.of.Part.L1 N M0 M a b r c l x y p8 p14_1 (Ab (p18+1)) (p2++[(Cj c l (x+p8) (y+p18))]) else none else none else Aa.of.Part.L0 N M0 a b r c l x y (Ab (p14_1+1)) p2 :=
  Eq.trans (by kernel_rfl)
  (Ea (Cq (Ci (Cd r c l (x+p8) (y+p18)&&Vs x y p8 p18)) (Cq (Ci (decide ((List.length p2)+1≤Gu))) rfl rfl) rfl) rfl)
theorem Aa.of.Part.ev (N:Nat) (a b:Int) (r c:Int) (l:List Int) (x y:Int):Bp Aa.of.Part.E N Tryz.f187 (Al Tryz.f187) [.int .i64 a,.int .i64 b,.fn 192 [] [.cellp [.int .i64 r,.int .i64 c,.ints .arg .u64 l],.cellp [.int .i64 x],.cellp [.int .i64 y]]] =
  Aa.of.Part.L0 N N a b r c l x y 0 []:=by kernel_rfl
abbrev _root_.Go.Proofs.S1.Aa.of.Part.Kn:=A5 Tryz.prog 187 Aa.of.Part.spec
theorem Aa.of.Part.Ac (hk:Ay Tryz.prog Aa.of.Part.A8) (h:∀ (a b:Int) (r c:Int) (l:List Int) (x y:Int),Aa.of.Part.pre [.i a,.i b,.i r,.i c,.l l,.i x,.i y]=true→Ba Aa.of.Part.E Tryz.f187 [.int .i64 a,.int .i64 b,.fn 192 [] [.cellp [.int .i64 r,.int .i64 c,.ints .arg .u64 l],.cellp [.int .i64 x],.cellp [.int .i64 y]]] (Aa.of.Part.out [.i a,.i b,.i r,.i c,.l l,.i x,.i y])):Aa.of.Part.Kn :=
  Aj (A1 hk _ _ _) Tryz.func187 (by kernel_rfl) (by kernel_rfl) h
def Aa.of.Sub.hint:Nat→Option Bb
  | 0=>some { keep:=[1,2,6,7,13,14],objs:=[(8,2,108002,.ints 37 .u64 [])],boxes:=[6,7] }
  | 2=>some { keep:=[1,2,6,7,8,13,14,17,18],objs:=[(8,2,108002,.ints 37 .u64 [])],boxes:=[6,7] }
  | _=>none
def Aa.of.Sub.A8:List (Nat × Entry):=[(194,Aa.Iq.spec)]
def Aa.of.Sub.E:Env:=A9 (A7 Aa.of.Sub.A8) (fun _=>false) Aa.of.Sub.hint (fun _=>none)
def Aa.of.Sub.L0 (N M:Nat) (a b:Int) (r c:Int) (l:List Int) (p q:Int) (m:List Int) (p14:Int) (p2_1:List Int):Option DV:=Bv Aa.of.Sub.E N Tryz.f187 (Al Tryz.f187) [1,1,0,1,0] [] M ⟨Ft 33 [(1,.int .i64 b),(2,.fn 194 [] [.cellp [.int .i64 r,.int .i64 c,.ints .arg .u64 l],.cellp [.int .i64 p,.int .i64 q,.ints .arg .u64 m]]),(6,.ptr 6 0 0),(7,.ptr 7 0 0),(13,.int .i64 a),(14,.int .i64 p14)],[(6,false,.box [.int .i64 0,.int .i64 0,.nil]),(7,false,.box [.int .i64 a,.int .i64 b,.oref 108002]),(108002,false,.ints 37 .u64 p2_1)]⟩
def Aa.of.Sub.L1 (N M0 M:Nat) (a b:Int) (r c:Int) (l:List Int) (p q:Int) (m:List Int) (p8 p14_1 p18:Int) (p2:List Int):Option DV:=Bv Aa.of.Sub.E N Tryz.f187 (Al Tryz.f187) [1,1,0,1,0,0,1,1,0,0,1,1,0] [M0] M ⟨Ft 33 [(1,.int .i64 b),(2,.fn 194 [] [.cellp [.int .i64 r,.int .i64 c,.ints .arg .u64 l],.cellp [.int .i64 p,.int .i64 q,.ints .arg .u64 m]]),(6,.ptr 6 0 0),(7,.ptr 7 0 0),(8,.int .i64 p8),(13,.int .i64 a),(14,.int .i64 p14_1),(17,.int .i64 b),(18,.int .i64 p18)],[(6,false,.box [.int .i64 0,.int .i64 0,.nil]),(7,false,.box [.int .i64 a,.int .i64 b,.oref 108002]),(108002,false,.ints 37 .u64 p2)]⟩
theorem Aa.of.Sub.Au (N M:Nat) (a b:Int) (r c:Int) (l:List Int) (p q:Int) (m:List Int) (p14:Int) (p2_1:List Int):Aa.of.Sub.L0 N (M+1) a b r c l p q m p14 p2_1=bif (A6 p14 a) then Aa.of.Sub.L1 N M N a b r c l p q m p14 p14 0 p2_1 else some (.agg [.int .i64 a,.int .i64 b,.ints (.own 108002 37) .u64 p2_1]):=by kernel_rfl
theorem Aa.of.Sub.B2 (N M0 M:Nat) (a b:Int) (r c:Int) (l:List Int) (p q:Int) (m:List Int) (p8 p14_1 p18:Int) (p2:List Int):Aa.of.Sub.L1 N M0 (M+1) a b r c l p q m p8 p14_1 p18 p2=bif (A6 p18 b) then bif (((Cd r c l p8 p18&&Cd p q m p8 p18)&&Ae l)&&Ae m) then bif (decide ((List.length p2)+1≤Gu)) then Aa.of.Sub.L1 N M0 M a b r c l p q m p8 p14_1 (Ab (p18+1)) (p2++[(Db (Cj c l p8 p18) (Cj q m p8 p18))]) else none else none else Aa.of.Sub.L0 N M0 a b r c l p q m (Ab (p14_1+1)) p2 :=
  Eq.trans (by kernel_rfl)
  (Ea (Cq (Ci (((Cd r c l p8 p18&&Cd p q m p8 p18)&&Ae l)&&Ae m)) (Cq (Ci (decide ((List.length p2)+1≤Gu))) rfl rfl) rfl) rfl)
theorem Aa.of.Sub.ev (N:Nat) (a b:Int) (r c:Int) (l:List Int) (p q:Int) (m:List Int):Bp Aa.of.Sub.E N Tryz.f187 (Al Tryz.f187) [.int .i64 a,.int .i64 b,.fn 194 [] [.cellp [.int .i64 r,.int .i64 c,.ints .arg .u64 l],.cellp [.int .i64 p,.int .i64 q,.ints .arg .u64 m]]] =
  Aa.of.Sub.L0 N N a b r c l p q m 0 []:=by kernel_rfl
abbrev _root_.Go.Proofs.S1.Aa.of.Sub.Kn:=A5 Tryz.prog 187 Aa.of.Sub.spec
theorem Aa.of.Sub.Ac (hk:Ay Tryz.prog Aa.of.Sub.A8) (h:∀ (a b:Int) (r c:Int) (l:List Int) (p q:Int) (m:List Int),Aa.of.Sub.pre [.i a,.i b,.i r,.i c,.l l,.i p,.i q,.l m]=true→Ba Aa.of.Sub.E Tryz.f187 [.int .i64 a,.int .i64 b,.fn 194 [] [.cellp [.int .i64 r,.int .i64 c,.ints .arg .u64 l],.cellp [.int .i64 p,.int .i64 q,.ints .arg .u64 m]]] (Aa.of.Sub.out [.i a,.i b,.i r,.i c,.l l,.i p,.i q,.l m])):Aa.of.Sub.Kn :=
  Aj (A1 hk _ _ _) Tryz.func187 (by kernel_rfl) (by kernel_rfl) h
def Aa.of.Stack.hint:Nat→Option Bb
  | 0=>some { keep:=[1,2,6,7,13,14],objs:=[(8,2,108002,.ints 37 .u64 [])],boxes:=[6,7] }
  | 2=>some { keep:=[1,2,6,7,8,13,14,17,18],objs:=[(8,2,108002,.ints 37 .u64 [])],boxes:=[6,7] }
  | _=>none
def Aa.of.Stack.A8:List (Nat × Entry):=[(195,Aa.E7.spec)]
def Aa.of.Stack.E:Env:=A9 (A7 Aa.of.Stack.A8) (fun _=>false) Aa.of.Stack.hint (fun _=>none)
def Aa.of.Stack.L0 (N M:Nat) (a b:Int) (r c:Int) (l:List Int) (p q:Int) (m:List Int) (p14:Int) (p2_1:List Int):Option DV:=Bv Aa.of.Stack.E N Tryz.f187 (Al Tryz.f187) [1,1,0,1,0] [] M ⟨Ft 33 [(1,.int .i64 b),(2,.fn 195 [] [.cellp [.int .i64 r,.int .i64 c,.ints .arg .u64 l],.cellp [.int .i64 p,.int .i64 q,.ints .arg .u64 m]]),(6,.ptr 6 0 0),(7,.ptr 7 0 0),(13,.int .i64 a),(14,.int .i64 p14)],[(6,false,.box [.int .i64 0,.int .i64 0,.nil]),(7,false,.box [.int .i64 a,.int .i64 b,.oref 108002]),(108002,false,.ints 37 .u64 p2_1)]⟩
def Aa.of.Stack.L1 (N M0 M:Nat) (a b:Int) (r c:Int) (l:List Int) (p q:Int) (m:List Int) (p8 p14_1 p18:Int) (p2:List Int):Option DV:=Bv Aa.of.Stack.E N Tryz.f187 (Al Tryz.f187) [1,1,0,1,0,0,1,1,0,0,1,1,0] [M0] M ⟨Ft 33 [(1,.int .i64 b),(2,.fn 195 [] [.cellp [.int .i64 r,.int .i64 c,.ints .arg .u64 l],.cellp [.int .i64 p,.int .i64 q,.ints .arg .u64 m]]),(6,.ptr 6 0 0),(7,.ptr 7 0 0),(8,.int .i64 p8),(13,.int .i64 a),(14,.int .i64 p14_1),(17,.int .i64 b),(18,.int .i64 p18)],[(6,false,.box [.int .i64 0,.int .i64 0,.nil]),(7,false,.box [.int .i64 a,.int .i64 b,.oref 108002]),(108002,false,.ints 37 .u64 p2)]⟩
theorem Aa.of.Stack.Au (N M:Nat) (a b:Int) (r c:Int) (l:List Int) (p q:Int) (m:List Int) (p14:Int) (p2_1:List Int):Aa.of.Stack.L0 N (M+1) a b r c l p q m p14 p2_1=bif (A6 p14 a) then Aa.of.Stack.L1 N M N a b r c l p q m p14 p14 0 p2_1 else some (.agg [.int .i64 a,.int .i64 b,.ints (.own 108002 37) .u64 p2_1]):=by kernel_rfl
theorem Aa.of.Stack.B2 (N M0 M:Nat) (a b:Int) (r c:Int) (l:List Int) (p q:Int) (m:List Int) (p8 p14_1 p18:Int) (p2:List Int):Aa.of.Stack.L1 N M0 (M+1) a b r c l p q m p8 p14_1 p18 p2=bif (A6 p18 b) then bif (M9 r c l p q m p8 p18) then bif (decide ((List.length p2)+1≤Gu)) then Aa.of.Stack.L1 N M0 M a b r c l p q m p8 p14_1 (Ab (p18+1)) (p2++[(Jm r c l q m p8 p18)]) else none else none else Aa.of.Stack.L0 N M0 a b r c l p q m (Ab (p14_1+1)) p2 :=
  Eq.trans (by kernel_rfl)
  (Ea (Cq (Ci (M9 r c l p q m p8 p18)) (Cq (Ci (decide ((List.length p2)+1≤Gu))) rfl rfl) rfl) rfl)
theorem Aa.of.Stack.ev (N:Nat) (a b:Int) (r c:Int) (l:List Int) (p q:Int) (m:List Int):Bp Aa.of.Stack.E N Tryz.f187 (Al Tryz.f187) [.int .i64 a,.int .i64 b,.fn 195 [] [.cellp [.int .i64 r,.int .i64 c,.ints .arg .u64 l],.cellp [.int .i64 p,.int .i64 q,.ints .arg .u64 m]]] =
  Aa.of.Stack.L0 N N a b r c l p q m 0 []:=by kernel_rfl
abbrev _root_.Go.Proofs.S1.Aa.of.Stack.Kn:=A5 Tryz.prog 187 Aa.of.Stack.spec
theorem Aa.of.Stack.Ac (hk:Ay Tryz.prog Aa.of.Stack.A8) (h:∀ (a b:Int) (r c:Int) (l:List Int) (p q:Int) (m:List Int),Aa.of.Stack.pre [.i a,.i b,.i r,.i c,.l l,.i p,.i q,.l m]=true→Ba Aa.of.Stack.E Tryz.f187 [.int .i64 a,.int .i64 b,.fn 195 [] [.cellp [.int .i64 r,.int .i64 c,.ints .arg .u64 l],.cellp [.int .i64 p,.int .i64 q,.ints .arg .u64 m]]] (Aa.of.Stack.out [.i a,.i b,.i r,.i c,.l l,.i p,.i q,.l m])):Aa.of.Stack.Kn :=
  Aj (A1 hk _ _ _) Tryz.func187 (by kernel_rfl) (by kernel_rfl) h
def Aa.of.Mul.hint:Nat→Option Bb
  | 0=>some { keep:=[1,2,6,7,13,14],objs:=[(8,2,108002,.ints 37 .u64 [])],boxes:=[6,7] }
  | 2=>some { keep:=[1,2,6,7,8,13,14,17,18],objs:=[(8,2,108002,.ints 37 .u64 [])],boxes:=[6,7] }
  | _=>none
def Aa.of.Mul.A8:List (Nat × Entry):=[(188,Aa.Is.spec)]
def Aa.of.Mul.E:Env:=A9 (A7 Aa.of.Mul.A8) (fun _=>false) Aa.of.Mul.hint (fun _=>none)
def Aa.of.Mul.L0 (N M:Nat) (a b:Int) (r c:Int) (l:List Int) (p q:Int) (m:List Int) (p14:Int) (p2_1:List Int):Option DV:=Bv Aa.of.Mul.E N Tryz.f187 (Al Tryz.f187) [1,1,0,1,0] [] M ⟨Ft 33 [(1,.int .i64 b),(2,.fn 188 [] [.cellp [.int .i64 r,.int .i64 c,.ints .arg .u64 l],.cellp [.int .i64 p,.int .i64 q,.ints .arg .u64 m]]),(6,.ptr 6 0 0),(7,.ptr 7 0 0),(13,.int .i64 a),(14,.int .i64 p14)],[(6,false,.box [.int .i64 0,.int .i64 0,.nil]),(7,false,.box [.int .i64 a,.int .i64 b,.oref 108002]),(108002,false,.ints 37 .u64 p2_1)]⟩
def Aa.of.Mul.L1 (N M0 M:Nat) (a b:Int) (r c:Int) (l:List Int) (p q:Int) (m:List Int) (p8 p14_1 p18:Int) (p2:List Int):Option DV:=Bv Aa.of.Mul.E N Tryz.f187 (Al Tryz.f187) [1,1,0,1,0,0,1,1,0,0,1,1,0] [M0] M ⟨Ft 33 [(1,.int .i64 b),(2,.fn 188 [] [.cellp [.int .i64 r,.int .i64 c,.ints .arg .u64 l],.cellp [.int .i64 p,.int .i64 q,.ints .arg .u64 m]]),(6,.ptr 6 0 0),(7,.ptr 7 0 0),(8,.int .i64 p8),(13,.int .i64 a),(14,.int .i64 p14_1),(17,.int .i64 b),(18,.int .i64 p18)],[(6,false,.box [.int .i64 0,.int .i64 0,.nil]),(7,false,.box [.int .i64 a,.int .i64 b,.oref 108002]),(108002,false,.ints 37 .u64 p2)]⟩
theorem Aa.of.Mul.Au (N M:Nat) (a b:Int) (r c:Int) (l:List Int) (p q:Int) (m:List Int) (p14:Int) (p2_1:List Int):Aa.of.Mul.L0 N (M+1) a b r c l p q m p14 p2_1=bif (A6 p14 a) then Aa.of.Mul.L1 N M N a b r c l p q m p14 p14 0 p2_1 else some (.agg [.int .i64 a,.int .i64 b,.ints (.own 108002 37) .u64 p2_1]):=by kernel_rfl
theorem Aa.of.Mul.B2 (N M0 M:Nat) (a b:Int) (r c:Int) (l:List Int) (p q:Int) (m:List Int) (p8 p14_1 p18:Int) (p2:List Int):Aa.of.Mul.L1 N M0 (M+1) a b r c l p q m p8 p14_1 p18 p2=bif (A6 p18 b) then bif (Tc r c l p q m p8 p18) then bif (decide ((List.length p2)+1≤Gu)) then Aa.of.Mul.L1 N M0 M a b r c l p q m p8 p14_1 (Ab (p18+1)) (p2++[(G1 (Fw c l p8) (Hk p q m p18))]) else none else none else Aa.of.Mul.L0 N M0 a b r c l p q m (Ab (p14_1+1)) p2 :=
  Eq.trans (by kernel_rfl)
  (Ea (Cq (Ci (Tc r c l p q m p8 p18)) (Cq (Ci (decide ((List.length p2)+1≤Gu))) rfl rfl) rfl) rfl)
theorem Aa.of.Mul.ev (N:Nat) (a b:Int) (r c:Int) (l:List Int) (p q:Int) (m:List Int):Bp Aa.of.Mul.E N Tryz.f187 (Al Tryz.f187) [.int .i64 a,.int .i64 b,.fn 188 [] [.cellp [.int .i64 r,.int .i64 c,.ints .arg .u64 l],.cellp [.int .i64 p,.int .i64 q,.ints .arg .u64 m]]] =
  Aa.of.Mul.L0 N N a b r c l p q m 0 []:=by kernel_rfl
abbrev _root_.Go.Proofs.S1.Aa.of.Mul.Kn:=A5 Tryz.prog 187 Aa.of.Mul.spec
theorem Aa.of.Mul.Ac (hk:Ay Tryz.prog Aa.of.Mul.A8) (h:∀ (a b:Int) (r c:Int) (l:List Int) (p q:Int) (m:List Int),Aa.of.Mul.pre [.i a,.i b,.i r,.i c,.l l,.i p,.i q,.l m]=true→Ba Aa.of.Mul.E Tryz.f187 [.int .i64 a,.int .i64 b,.fn 188 [] [.cellp [.int .i64 r,.int .i64 c,.ints .arg .u64 l],.cellp [.int .i64 p,.int .i64 q,.ints .arg .u64 m]]] (Aa.of.Mul.out [.i a,.i b,.i r,.i c,.l l,.i p,.i q,.l m])):Aa.of.Mul.Kn :=
  Aj (A1 hk _ _ _) Tryz.func187 (by kernel_rfl) (by kernel_rfl) h
def Aa.Fc.A8:List (Nat × Entry):=[(187,Aa.of.Fc.spec),(204,Aa.size.spec)]
def Aa.Fc.E:Env:=A9 (A7 Aa.Fc.A8) (fun _=>false) (fun _=>none) (fun _=>none)
theorem Aa.Fc.ev (N:Nat) (n:Int):Bp Aa.Fc.E N Tryz.f218 (Al Tryz.f218) [.int .i64 n]=bif (!(Bn n)) then some (.tup [.agg [.int .i64 0,.int .i64 0,.nil],.int .i64 3]) else bif ((Bn n&&Bn n)) then some (.tup [.agg [.int .i64 n,.int .i64 n,.ints .fresh .u64 (Bg (Int.toNat n) (Int.toNat n) (fun j1 j2=>Ns j1 j2))],.int .i64 0]) else none:=by kernel_rfl
abbrev _root_.Go.Proofs.S1.Aa.Fc.Kn:=A5 Tryz.prog 218 Aa.Fc.spec
theorem Aa.Fc.Ac (hk:Ay Tryz.prog Aa.Fc.A8) (h:∀ (n:Int),Aa.Fc.pre [.i n]=true→Ba Aa.Fc.E Tryz.f218 [.int .i64 n] (Aa.Fc.out [.i n])):Aa.Fc.Kn :=
  Aj (A1 hk _ _ _) Tryz.func218 (by kernel_rfl) (by kernel_rfl) h
def Aa.Co.A8:List (Nat × Entry):=[(160,Aa.Check.spec),(187,Aa.of.Co.spec)]
def Aa.Co.E:Env:=A9 (A7 Aa.Co.A8) (fun _=>false) (fun _=>none) (fun _=>none)
theorem Aa.Co.ev (N:Nat) (r c:Int) (l:List Int):Bp Aa.Co.E N Tryz.f167 (Al Tryz.f167) [.agg [.int .i64 r,.int .i64 c,.ints .arg .u64 l]]=bif ((La r c l) !=(0:Int)) then some (.tup [.agg [.int .i64 0,.int .i64 0,.nil],.int .i64 (La r c l)]) else bif ((Bn c&&Bn r)&&Av r c l&&decide (c=c∧r=r)) then some (.tup [.agg [.int .i64 c,.int .i64 r,.ints .fresh .u64 (Bg (Int.toNat c) (Int.toNat r) (fun j1 j2=>Cj c l j2 j1))],.int .i64 0]) else none:=by kernel_rfl
abbrev _root_.Go.Proofs.S1.Aa.Co.Kn:=A5 Tryz.prog 167 Aa.Co.spec
theorem Aa.Co.Ac (hk:Ay Tryz.prog Aa.Co.A8) (h:∀ (r c:Int) (l:List Int),Aa.Co.pre [.i r,.i c,.l l]=true→Ba Aa.Co.E Tryz.f167 [.agg [.int .i64 r,.int .i64 c,.ints .arg .u64 l]] (Aa.Co.out [.i r,.i c,.l l])):Aa.Co.Kn :=
  Aj (A1 hk _ _ _) Tryz.func167 (by kernel_rfl) (by kernel_rfl) h
def Aa.Part.A8:List (Nat × Entry):=[(160,Aa.Check.spec),(187,Aa.of.Part.spec)]
def Aa.Part.E:Env:=A9 (A7 Aa.Part.A8) (fun _=>false) (fun _=>none) (fun _=>none)
theorem Aa.Part.ev (N:Nat) (r c:Int) (l:List Int) (x y:Int) (a b:Int):Bp Aa.Part.E N Tryz.f124 (Al Tryz.f124) [.agg [.int .i64 r,.int .i64 c,.ints .arg .u64 l],.int .i64 x,.int .i64 y,.int .i64 a,.int .i64 b]=bif ((La r c l) !=(0:Int)) then some (.tup [.agg [.int .i64 0,.int .i64 0,.nil],.int .i64 (La r c l)]) else bif ((((((((A6 x 0)||(A6 y 0))||(A6 a 0))||(A6 b 0))||(A6 r x))||(A6 c y))||(A6 (Ab (r-x)) a))||(A6 (Ab (c-y)) b)) then some (.tup [.agg [.int .i64 0,.int .i64 0,.nil],.int .i64 3]) else bif ((Bn a&&Bn b)&&Av r c l&&Gk r c x y a b) then some (.tup [.agg [.int .i64 a,.int .i64 b,.ints .fresh .u64 (Bg (Int.toNat a) (Int.toNat b) (fun j1 j2=>Cj c l (x+j1) (y+j2)))],.int .i64 0]) else none :=
  Eq.trans (by kernel_rfl)
  (Ea rfl (Ar (Rs (A6 x 0)) (Ar (Pg (A6 x 0)) (Ar (Xb (A6 x 0)) (Ar (Aeb (A6 x 0) (A6 y 0)) (Ar (Ab4 (A6 x 0) (A6 y 0)) (Ar (Aq5 (A6 x 0) (A6 y 0)) (Ar (Aq6 (A6 x 0) (A6 y 0) (A6 a 0)) (Ar (Aec (A6 x 0) (A6 y 0) (A6 a 0)) (Ar (Aq7 (A6 x 0) (A6 y 0) (A6 a 0)) (Ar (Ako (A6 x 0) (A6 y 0) (A6 a 0) (A6 b 0)) (Ar (Ako (A6 x 0) (A6 y 0) (A6 a 0) (A6 b 0)) (Ar (Aed (A6 x 0) (A6 y 0) (A6 a 0) (A6 b 0)) (Ar (Awb (A6 x 0) (A6 y 0) (A6 a 0) (A6 b 0)) (Ar (Aq8 (A6 x 0) (A6 y 0) (A6 a 0) (A6 b 0)) (Ar (Akp (A6 x 0) (A6 y 0) (A6 a 0) (A6 b 0) (A6 r x)) (Ar (Akp (A6 x 0) (A6 y 0) (A6 a 0) (A6 b 0) (A6 r x)) (Ar (Ank (A6 x 0) (A6 y 0) (A6 a 0) (A6 b 0) (A6 r x)) (Ar (At7 (A6 x 0) (A6 y 0) (A6 a 0) (A6 b 0) (A6 r x)) (Ar (At8 (A6 x 0) (A6 y 0) (A6 a 0) (A6 b 0) (A6 r x)) (Ar (Ab6 (A6 x 0) (A6 y 0) (A6 a 0) (A6 b 0) (A6 r x) (A6 c y)) (Ar (Ab6 (A6 x 0) (A6 y 0) (A6 a 0) (A6 b 0) (A6 r x) (A6 c y)) (Ar (Ab5 (A6 x 0) (A6 y 0) (A6 a 0) (A6 b 0) (A6 r x) (A6 c y)) (Ar (Ab6 (A6 x 0) (A6 y 0) (A6 a 0) (A6 b 0) (A6 r x) (A6 c y)) (Ar (Akq (A6 x 0) (A6 y 0) (A6 a 0) (A6 b 0) (A6 r x) (A6 c y)) (Ar (Akq (A6 x 0) (A6 y 0) (A6 a 0) (A6 b 0) (A6 r x) (A6 c y)) (Ar (At9 (A6 x 0) (A6 y 0) (A6 a 0) (A6 b 0) (A6 r x) (A6 c y)) (Ar (Aua (A6 x 0) (A6 y 0) (A6 a 0) (A6 b 0) (A6 r x) (A6 c y) (A6 (Ab (r-x)) a)) (Ar (Aua (A6 x 0) (A6 y 0) (A6 a 0) (A6 b 0) (A6 r x) (A6 c y) (A6 (Ab (r-x)) a)) (Ar (Ayc (A6 x 0) (A6 y 0) (A6 a 0) (A6 b 0) (A6 r x) (A6 c y) (A6 (Ab (r-x)) a)) (Ar (Aua (A6 x 0) (A6 y 0) (A6 a 0) (A6 b 0) (A6 r x) (A6 c y) (A6 (Ab (r-x)) a)) (Ar (Awc (A6 x 0) (A6 y 0) (A6 a 0) (A6 b 0) (A6 r x) (A6 c y) (A6 (Ab (r-x)) a)) (Ar (Awc (A6 x 0) (A6 y 0) (A6 a 0) (A6 b 0) (A6 r x) (A6 c y) (A6 (Ab (r-x)) a)) (Ar (Ayd (A6 x 0) (A6 y 0) (A6 a 0) (A6 b 0) (A6 r x) (A6 c y) (A6 (Ab (r-x)) a)) (Cq (Aye (A6 x 0) (A6 y 0) (A6 a 0) (A6 b 0) (A6 r x) (A6 c y) (A6 (Ab (r-x)) a) (A6 (Ab (c-y)) b)) rfl rfl)))))))))))))))))))))))))))))))))))
abbrev _root_.Go.Proofs.S1.Aa.Part.Kn:=A5 Tryz.prog 124 Aa.Part.spec
theorem Aa.Part.Ac (hk:Ay Tryz.prog Aa.Part.A8) (h:∀ (r c:Int) (l:List Int) (x y:Int) (a b:Int),Aa.Part.pre [.i r,.i c,.l l,.i x,.i y,.i a,.i b]=true→Ba Aa.Part.E Tryz.f124 [.agg [.int .i64 r,.int .i64 c,.ints .arg .u64 l],.int .i64 x,.int .i64 y,.int .i64 a,.int .i64 b] (Aa.Part.out [.i r,.i c,.l l,.i x,.i y,.i a,.i b])):Aa.Part.Kn :=
  Aj (A1 hk _ _ _) Tryz.func124 (by kernel_rfl) (by kernel_rfl) h
def Aa.Sub.A8:List (Nat × Entry):=[(187,Aa.of.Sub.spec),(186,Aa.two.spec)]
def Aa.Sub.E:Env:=A9 (A7 Aa.Sub.A8) (fun _=>false) (fun _=>none) (fun _=>none)
theorem Aa.Sub.ev (N:Nat) (r c:Int) (l:List Int) (p q:Int) (m:List Int):Bp Aa.Sub.E N Tryz.f125 (Al Tryz.f125) [.agg [.int .i64 r,.int .i64 c,.ints .arg .u64 l],.agg [.int .i64 p,.int .i64 q,.ints .arg .u64 m]]=bif ((Vl r c l p q m) !=(0:Int)) then some (.tup [.agg [.int .i64 0,.int .i64 0,.nil],.int .i64 (Vl r c l p q m)]) else bif (!((r==p)&&(c==q))) then some (.tup [.agg [.int .i64 0,.int .i64 0,.nil],.int .i64 3]) else bif ((Bn r&&Bn c)&&((Av r c l&&Av p q m)&&(Ae l&&Ae m))&&decide (r=r∧c=c∧p=r∧q=c)) then some (.tup [.agg [.int .i64 r,.int .i64 c,.ints .fresh .u64 (Bg (Int.toNat r) (Int.toNat c) (fun j1 j2=>Db (Cj c l j1 j2) (Cj q m j1 j2)))],.int .i64 0]) else none :=
  Eq.trans (by kernel_rfl)
  (Ea rfl (Cq (Ayb (r==p) (c==q)) rfl rfl))
abbrev _root_.Go.Proofs.S1.Aa.Sub.Kn:=A5 Tryz.prog 125 Aa.Sub.spec
theorem Aa.Sub.Ac (hk:Ay Tryz.prog Aa.Sub.A8) (h:∀ (r c:Int) (l:List Int) (p q:Int) (m:List Int),Aa.Sub.pre [.i r,.i c,.l l,.i p,.i q,.l m]=true→Ba Aa.Sub.E Tryz.f125 [.agg [.int .i64 r,.int .i64 c,.ints .arg .u64 l],.agg [.int .i64 p,.int .i64 q,.ints .arg .u64 m]] (Aa.Sub.out [.i r,.i c,.l l,.i p,.i q,.l m])):Aa.Sub.Kn :=
  Aj (A1 hk _ _ _) Tryz.func125 (by kernel_rfl) (by kernel_rfl) h
def Aa.Stack.A8:List (Nat × Entry):=[(187,Aa.of.Stack.spec),(186,Aa.two.spec)]
def Aa.Stack.E:Env:=A9 (A7 Aa.Stack.A8) (fun _=>false) (fun _=>none) (fun _=>none)
theorem Aa.Stack.ev (N:Nat) (r c:Int) (l:List Int) (p q:Int) (m:List Int):Bp Aa.Stack.E N Tryz.f126 (Al Tryz.f126) [.agg [.int .i64 r,.int .i64 c,.ints .arg .u64 l],.agg [.int .i64 p,.int .i64 q,.ints .arg .u64 m]]=bif ((Vl r c l p q m) !=(0:Int)) then some (.tup [.agg [.int .i64 0,.int .i64 0,.nil],.int .i64 (Vl r c l p q m)]) else bif ((c !=q)||(A6 6 (Ab (r+p)))) then some (.tup [.agg [.int .i64 0,.int .i64 0,.nil],.int .i64 3]) else bif ((Bn (Ab (r+p))&&Bn c)&&(Av r c l&&Av p q m)&&decide ((Ab (r+p))=r+p∧c=c∧q=c)) then some (.tup [.agg [.int .i64 (Ab (r+p)),.int .i64 c,.ints .fresh .u64 (Bg (Int.toNat (Ab (r+p))) (Int.toNat c) (fun j1 j2=>Jm r c l q m j1 j2))],.int .i64 0]) else none :=
  Eq.trans (by kernel_rfl)
  (Ea rfl (Ar (Rs (c !=q)) (Ar (Pg (c !=q)) (Ar (Rs (c !=q)) (Ar (Pg (c !=q)) (Ar (tt8 (c !=q)) (Ar (Pg (c !=q)) (Ar (Xb (c !=q)) (Cq (tt5 (c !=q) (A6 6 (Ab (r+p)))) rfl rfl)))))))))
abbrev _root_.Go.Proofs.S1.Aa.Stack.Kn:=A5 Tryz.prog 126 Aa.Stack.spec
theorem Aa.Stack.Ac (hk:Ay Tryz.prog Aa.Stack.A8) (h:∀ (r c:Int) (l:List Int) (p q:Int) (m:List Int),Aa.Stack.pre [.i r,.i c,.l l,.i p,.i q,.l m]=true→Ba Aa.Stack.E Tryz.f126 [.agg [.int .i64 r,.int .i64 c,.ints .arg .u64 l],.agg [.int .i64 p,.int .i64 q,.ints .arg .u64 m]] (Aa.Stack.out [.i r,.i c,.l l,.i p,.i q,.l m])):Aa.Stack.Kn :=
  Aj (A1 hk _ _ _) Tryz.func126 (by kernel_rfl) (by kernel_rfl) h
def Aa.Mul.A8:List (Nat × Entry):=[(187,Aa.of.Mul.spec),(186,Aa.two.spec)]
def Aa.Mul.E:Env:=A9 (A7 Aa.Mul.A8) (fun _=>false) (fun _=>none) (fun _=>none)
theorem Aa.Mul.ev (N:Nat) (r c:Int) (l:List Int) (p q:Int) (m:List Int):Bp Aa.Mul.E N Tryz.f123 (Al Tryz.f123) [.agg [.int .i64 r,.int .i64 c,.ints .arg .u64 l],.agg [.int .i64 p,.int .i64 q,.ints .arg .u64 m]]=bif ((Vl r c l p q m) !=(0:Int)) then some (.tup [.agg [.int .i64 0,.int .i64 0,.nil],.int .i64 (Vl r c l p q m)]) else bif (c !=p) then some (.tup [.agg [.int .i64 0,.int .i64 0,.nil],.int .i64 3]) else bif ((Bn r&&Bn q)&&((Av r c l&&Av p q m)&&(Ae l&&Ae m))&&decide (r=r∧q=q∧c=p)) then some (.tup [.agg [.int .i64 r,.int .i64 q,.ints .fresh .u64 (Bg (Int.toNat r) (Int.toNat q) (fun j1 j2=>G1 (Fw c l j1) (Hk p q m j2)))],.int .i64 0]) else none:=by kernel_rfl
abbrev _root_.Go.Proofs.S1.Aa.Mul.Kn:=A5 Tryz.prog 123 Aa.Mul.spec
theorem Aa.Mul.Ac (hk:Ay Tryz.prog Aa.Mul.A8) (h:∀ (r c:Int) (l:List Int) (p q:Int) (m:List Int),Aa.Mul.pre [.i r,.i c,.l l,.i p,.i q,.l m]=true→Ba Aa.Mul.E Tryz.f123 [.agg [.int .i64 r,.int .i64 c,.ints .arg .u64 l],.agg [.int .i64 p,.int .i64 q,.ints .arg .u64 m]] (Aa.Mul.out [.i r,.i c,.l l,.i p,.i q,.l m])):Aa.Mul.Kn :=
  Aj (A1 hk _ _ _) Tryz.func123 (by kernel_rfl) (by kernel_rfl) h
end EqOf
end Go.Proofs.S1
end
