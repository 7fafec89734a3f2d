/- A verified evaluator of the program's form and its use for this seat: S1PSum. -/
import Derived.Test.YtjbokjpbiobjpaaGreatTG
import Derived.Test.YtjbokjpbiobjpaaGreatTE
set_option linter.unusedVariables false
set_option linter.unusedSimpArgs false
open Int (toNat)
open List (length getD)
namespace Go.Proofs.S1
open Go Go.Den Go.Cv Go.Proofs
open EqSum
theorem A1t (q:Nat):q ||| 1=2*(q / 2)+1:=by
 have e:q%2 ||| (q / 2*2^1)=q / 2*2^1+q%2:=Wx (Nat.mod_lt _ (by decide))
 have e1:1 ||| (q / 2*2^1)=q / 2*2^1+1:=Wx (k:=1) (by decide)
 have hq:q / 2*2^1+q%2=q:=by omega
 rw [hq] at e
 rcases Nat.mod_two_eq_zero_or_one q with h | h
 ·rw [h,Nat.zero_or] at e
  rw [e,Nat.or_comm] at e1
  omega
 ·rw [h] at e
  have:q ||| 1=q:=by
   conv=>lhs; rw [← e]
   rw [Nat.or_comm 1,Nat.or_assoc,Nat.or_self,Nat.or_comm,e]
  omega
theorem Aby {n s:Nat} (hn:n<2^64) (hs:s≤63) :
 (bif ((B7 .u64 (Eb .u64 (n:Int) (s:Int)) (s:Int)) !=(n:Int)) then
  some (DV.int .u64 (J8 .u64 (Eb .u64 (n:Int) (s:Int)) (1:Int)))
 else some (.int .u64 (Eb .u64 (n:Int) (s:Int))))=some (.int .u64 ((Gy n s:Nat):Int)):=by
 have hq:n / 2^s≤n:=Nat.div_le_self _ _
 have hm:n / 2^s*2^s≤n:=Nat.div_mul_le_self _ _
 have hd:=Nat.div_add_mod n (2^s)
 rw [A8v] at hd
 rw [Ir .u64 n s (by show s≤64; omega),Gv _ s (by omega),A8k (by omega)]
 have h1:J8 .u64 ((n / 2^s:Nat):Int) (1:Int)=((n / 2^s ||| 1:Nat):Int):=Ahu (by omega) (by decide)
 rw [h1,A1t]
 unfold Gy
 by_cases h:n%2^s=0
 ·have:((((n / 2^s*2^s:Nat):Int)) !=(n:Int))=false:=by
   simp only [bne_eq_false_iff_eq]; omega
  rw [this,A8u h,A8b]
 ·have:((((n / 2^s*2^s:Nat):Int)) !=(n:Int))=true:=by
   simp only [bne_iff_ne,ne_eq]; omega
  rw [this,A8t h,A77]
theorem sum.right.known:sum.right.Kn:=sum.right.Ae .nil fun m d hp=>by
 obtain ⟨h1,h2⟩:=Af.1 hp
 obtain ⟨n,rfl,hn⟩:=Ca h1
 have h2:=Ao.1 h2
 obtain ⟨d,rfl⟩:∃ k:Nat,d=k:=⟨d.toNat,by omega⟩
 refine ⟨0,sum.right.out [.i n,.i d],[],?_,.int⟩
 rw [sum.right.ev,Aw]
 show _=some (DV.int .u64 (Fz n d))
 unfold Fz
 rw [A79,A79]
 by_cases h:63<d
 ·have:decide ((63:Int)<(d:Int))=true:=by simp; omega
  rw [this,A77,Nat.min_eq_right (by omega)]
  exact Aby hn (A81 63)
 ·have:decide ((63:Int)<(d:Int))=false:=by simp; omega
  have h0:decide ((0:Int)≤(d:Int))=true:=by simp
  rw [this,A8b,h0,A77,A77,Nat.min_eq_left (by omega)]
  exact Aby hn (by omega)
theorem Am9:((Sq:Nat):Int)=9221120237041090560:=rfl
theorem sum.Ep.known:sum.Ep.Kn:=sum.Ep.Ae (.cons soft.Finite.known (.cons soft.Kind.known .nil)) fun a b hp=>by
 obtain ⟨h1,h2⟩:=Af.1 hp
 obtain ⟨ha,hb⟩:=Af.1 h1
 obtain ⟨a,rfl,hn⟩:=Ca ha
 obtain ⟨b,rfl,hm⟩:=Ca hb
 refine ⟨0,sum.Ep.out [.i a,.i b],[],?_,Wk.Jp (.cons .int (.cons .int .nil))⟩
 rw [sum.Ep.ev,ha,hb]
 show _=some (DV.tup [.int .u64 (Md a b),.int .u8 (Zy a b)])
 unfold Md Zy Gf A7 Dk
 simp only [A79,A77]
 unfold Dk at h2
 simp only [A79] at h2
 by_cases a4:Aj a=4
 ·simp [a4,Am9]
 ·have e4:((Aj a:Int)==4)=false:=by simp; omega
  rw [e4,A8b]
  by_cases b4:Aj b=4
  ·simp [b4,Am9]
  ·have f4:((Aj b:Int)==4)=false:=by simp; omega
   rw [f4,A8b]
   have ka:=Acu a
   have kb:=Acu b
   by_cases a3:Aj a=3
   ·have fa:Ii a=false:=by rw [ka]; simp [a3]
    rw [fa,A8b]
    by_cases b3:Aj b=3
    ·have fb:Ii b=false:=by rw [kb]; simp [b3]
     rw [fb]
     by_cases hab:a=b
     ·subst hab; simp [a3]
     ·have hab':((a:Int)==(b:Int))=false:=by simp; omega
      rw [hab']
      simp [a3,b3,hab,Am9]
    ·have fb:Ii b=true:=by rw [kb]; simp [b3,b4]
     rw [fb]
     simp [a3,b3,b4]
   ·have fa:Ii a=true:=by rw [ka]; simp [a3,a4]
    have b3:Aj b=3:=by
     rw [fa,kb] at h2
     simp [b4] at h2
     exact h2
    rw [fa,A77]
    simp [a3,b3,a4]
def Ani (na nb:Bool) (X r:Nat) (e:Int):Nat × Nat :=
 if na=nb then He na (X+r) e false else if r<X then He na (X-r) e false else if X<r then He nb (r-X) e false else (0,0)
theorem Yl {na:Bool} {m:Int} {n:Nat} {e e':Int} (h:m=n) (he:e'=e) (hn:n<2^64) (h1:-1100≤e) (h2:e≤1000) :
 (bif E0 m e' false then some (DV.tup [.int .u64 (Fj na m e' false),.int .u8 (Fi na m e' false)]) else none)
  = some (.tup [.int .u64 (((He na n e false).1:Nat):Int),.int .u8 (((He na n e false).2:Nat):Int)]):=by
 subst h; subst he
 have hp:E0 (n:Int) e' false=true:=Ao.2 ⟨by omega,by omega,by omega,.inl (by omega),fun h=>by cases h⟩
 rw [hp,A77]
 unfold Fj Fi
 rw [A79]
theorem Akk (na nb:Bool) {X r:Nat} {e e':Int} (hX:X<2^62) (hr:r≤2^62) (h:e'=e) (h1:-1100≤e) (h2:e≤1000) :
 (bif (na==nb) then
  bif E0 (Bj ((X:Int)+(r:Int))) e' false then some (DV.tup [.int .u64 (Fj na (Bj ((X:Int)+(r:Int))) e' false),.int .u8 (Fi na (Bj ((X:Int)+(r:Int))) e' false)]) else none
 else bif Bc (r:Int) (X:Int) then
  bif E0 (Bj ((X:Int)-(r:Int))) e' false then some (DV.tup [.int .u64 (Fj na (Bj ((X:Int)-(r:Int))) e' false),.int .u8 (Fi na (Bj ((X:Int)-(r:Int))) e' false)]) else none
 else bif Bc (X:Int) (r:Int) then
  bif E0 (Bj ((r:Int)-(X:Int))) e' false then some (DV.tup [.int .u64 (Fj nb (Bj ((r:Int)-(X:Int))) e' false),.int .u8 (Fi nb (Bj ((r:Int)-(X:Int))) e' false)]) else none
 else some (.tup [.int .u64 (0:Int),.int .u8 (0:Int)])) =
  some (.tup [.int .u64 (((Ani na nb X r e).1:Nat):Int),.int .u8 (((Ani na nb X r e).2:Nat):Int)]):=by
 unfold Ani
 rw [Aw,Aw]
 by_cases hs:na=nb
 ·have:(na==nb)=true:=by simp [hs]
  rw [this,A77,A8u hs]
  exact Yl (by rw [Dd (by omega) (by omega)]; omega) h (by omega) h1 h2
 ·have:(na==nb)=false:=by simp [hs]
  rw [this,A8b,A8t hs]
  by_cases hl:r<X
  ·have:decide ((r:Int)<(X:Int))=true:=by simp; omega
   rw [this,A77,A8u hl]
   exact Yl (by rw [Dd (by omega) (by omega)]; omega) h (by omega) h1 h2
  ·have:decide ((r:Int)<(X:Int))=false:=by simp; omega
   rw [this,A8b,A8t hl]
   by_cases hg:X<r
   ·have:decide ((X:Int)<(r:Int))=true:=by simp; omega
    rw [this,A77,A8u hg]
    exact Yl (by rw [Dd (by omega) (by omega)]; omega) h (by omega) h1 h2
   ·have:decide ((X:Int)<(r:Int))=false:=by simp; omega
    rw [this,A8b,A8t hg]
    rfl
theorem Ao3 {a b:Nat} (ha:Ii a=true) (hb:Ii b=true) (hle:Av b≤Av a) :
 ∃ X r:Nat,X<2^62∧r≤2^62∧B7 .u64 (Bu a) (9:Int)=(X:Int)∧Fz (B7 .u64 (Bu b) (9:Int)) (Ad (Bi a-Bi b))=(r:Int)
  ∧ Ad (Bi a-9)=Av a-9
  ∧ (Al (B7 .u64 (Bu b) (9:Int))&&Cr (0≤(Ad ((Bi a)-(Bi b)))∧(Ad ((Bi a)-(Bi b)))<1000000))=true
  ∧ Ani (Em a) (Em b) X r (Av a-9)=Gf a b:=by
 obtain ⟨d,hd⟩:∃ d:Nat,Av a=Av b+d:=⟨(Av a-Av b).toNat,by omega⟩
 have hx:=Fx a
 have hy:=Fx b
 have ea:=Cu a
 have eb:=Cu b
 have C:=Akj (Mx:=An a) (My:=An b) hd hx hy (fun h=>Aey (by omega))
 have sh:∀ m:Nat,m<2^53→B7 .u64 (m:Int) (9:Int)=((m*2^9:Nat):Int):=fun m hm=>by
  have:=Gv m 9 (by decide)
  rw [A8k (by omega)] at this
  exact this
 have h2:Ad (Bi a-Bi b)=(d:Int):=by
  unfold Bi
  rw [A79,A79,Ar (by omega) (by omega)]; omega
 have s1:B7 .u64 (Bu a) (9:Int)=((An a*2^9:Nat):Int):=by
  unfold Bu; rw [A79]; exact sh _ hx
 have s2:B7 .u64 (Bu b) (9:Int)=((An b*2^9:Nat):Int):=by
  unfold Bu; rw [A79]; exact sh _ hy
 refine ⟨An a*2^9,Gy (An b*2^9) (min d 63),by omega,C.small,s1,?_,?_,?_,?_⟩
 ·rw [s2,h2]; unfold Fz; rw [A79,A79]
 ·unfold Bi; rw [A79,Ar (by omega) (by omega)]
 ·rw [s2,h2,Co (by omega),A9k]
  exact Ao.2 ⟨by omega,by omega⟩
 ·unfold Em
  rw [A79,A79,Aki ha hb hd]
  rfl
theorem sum.Add.known:sum.Add.Kn:=sum.Add.Ae (.cons soft.Finite.known (.cons soft.Dn.known (.cons soft.Gh.known (.cons soft.Sign.known (.cons sum.right.known (.cons sum.Ep.known .nil)))))) fun a b hp=>by
 obtain ⟨ha,hb⟩:=Af.1 hp
 obtain ⟨a,rfl,hn⟩:=Ca ha
 obtain ⟨b,rfl,hm⟩:=Ca hb
 refine ⟨0,sum.Add.out [.i a,.i b],[],?_,Wk.Jp (.cons .int (.cons .int .nil))⟩
 rw [sum.Add.ev,ha,hb]
 show _=some (DV.tup [.int .u64 (Md a b),.int .u8 (Zy a b)])
 rw [A9j,A77,A77]
 by_cases hf:(!(Dk a)||!(Dk b))=true
 ·rw [hf]; rfl
 ·have hf:(!(Dk a)||!(Dk b))=false:=by simpa using hf
  rw [hf,A8b,A77,A77,A77,A77]
  have fa:Ii a=true:=by
   have:=(Bool.or_eq_false_iff.1 hf).1
   unfold Dk at this
   simpa using this
  have fb:Ii b=true:=by
   have:=(Bool.or_eq_false_iff.1 hf).2
   unfold Dk at this
   simpa using this
  have xa:=Cu a
  have xb:=Cu b
  rw [Aw]
  by_cases hl:Av a<Av b
  ·obtain ⟨X,r,hX,hr,e1,e2,e3,e4,e5⟩:=Ao3 fb fa (by omega)
   have:decide (Bi a<Bi b)=true:=by unfold Bi; simpa using hl
   rw [this,A77,e4,A77,e1,e2,Akk _ _ hX hr e3 (by omega) (by omega),e5,Ar0]
   rfl
  ·obtain ⟨X,r,hX,hr,e1,e2,e3,e4,e5⟩:=Ao3 fa fb (by omega)
   have:decide (Bi a<Bi b)=false:=by unfold Bi; simpa using hl
   rw [this,A8b,e4,A77,e1,e2,Akk _ _ hX hr e3 (by omega) (by omega),e5]
   rfl
theorem sum.Sub.known:sum.Sub.Kn:=sum.Sub.Ae (.cons soft.Gw.known (.cons sum.Add.known .nil)) fun a b hp=>by
 obtain ⟨ha,hb⟩:=Af.1 hp
 obtain ⟨b,rfl,hm⟩:=Ca hb
 refine ⟨0,sum.Sub.out [.i a,.i b],[],?_,Wk.Jp (.cons .int (.cons .int .nil))⟩
 have:Al (Eh (b:Int))=true:=by unfold Eh; rw [A79]; exact Co (Yo hm)
 rw [sum.Sub.ev,ha,hb,this]
 unfold Md Zy Eh
 rw [A79]
 rfl
end Go.Proofs.S1
